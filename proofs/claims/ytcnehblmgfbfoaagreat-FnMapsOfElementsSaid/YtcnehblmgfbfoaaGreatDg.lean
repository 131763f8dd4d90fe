/- A calculus of walks: regions that draw their order and make memory. No condition. -/
import Derived.Test.YtcnehblmgfbfoaaGreatDe
import Derived.Laws.Slices
namespace Go.Dk
open Go Go.Li
section
variable {w:World}
def qp {α:Type} (e:TI) (E:ah α) (j:Nat):ah (List α) where
 size:=1
 rep h cs xs f:=∃ b cap cur f1 f2 p c0 q,cs=[.slice (some ⟨b,0,none⟩) xs.length cap]∧h[b]? = some (.cells cur e (0,0))∧f=b :: (f1++f2)∧(xs.length≤cap∧cap≤maxLen∧cur.size=cap∧E.size=1)∧cur.toList.take xs.length=p++[c0]++q∧(p.length=j∧j < xs.length)∧
  (∀ i∈f1++f2,i < h.size)∧∀ h':Array Obj,(∀ i∈f1++f2,h'[i]? = h[i]?)→∀ u z k,E.rep h' [u] z k→dm E h' (p++[u]++q) (xs.set j z) (f1++k++f2)
 len:=by rintro h cs x f ⟨b,cap,cur,f1,f2,p,c0,q,rfl,_⟩; rfl
 one:=by rintro h cs x f ⟨b,cap,cur,f1,f2,p,c0,q,rfl,_⟩ v hv; simp at hv; subst hv; rfl
 congr:=by
  rintro h h' cs x f ⟨b,cap,cur,f1,f2,p,c0,q,rfl,h1,rfl,h2,h3,h4,h5,h6⟩ hb
  refine ⟨b,cap,cur,f1,f2,p,c0,q,rfl,(hb b (by simp)).trans h1,rfl,h2,h3,h4,fun i hi=>?_,fun h'' cg=>h6 h'' fun i hi=>(cg i hi).trans (hb i (List.mem_cons_of_mem _ hi))⟩
  have:=hb i (List.mem_cons_of_mem _ hi)
  rw [Array.getElem?_eq_getElem (h5 i hi)] at this
  exact (Array.getElem?_eq_some_iff.1 this).1
 lt:=by
  rintro h cs x f ⟨b,cap,cur,f1,f2,p,c0,q,rfl,h1,rfl,h2,h3,h4,h5,h6⟩ i hi
  rcases List.mem_cons.1 hi with rfl | hi
  ·exact (Array.getElem?_eq_some_iff.1 h1).1
  ·exact h5 i hi
theorem Aw {α:Type} {e:TI} {E:ah α} {v u:Value} {xs:List α} {f:LN} {j:Int} {z:α} (h1:E.size=1) (hO:(aJ e E).rep w.heap [v] xs f) (hz:xs[j.toNat]? = some z) (hu:w.cell? (cn v 1 j)=some u) :
  ∃ k g,E.rep w.heap [u] z k∧(k++g).Perm f∧(qp e E j.toNat).rep w.heap [v] xs g:=by
 obtain ⟨base,cap,hv,hr⟩:=hO
 obtain rfl:v = .slice base xs.length cap:=by simpa using hv
 have bb:j.toNat < xs.length:=(List.getElem?_eq_some_iff.1 hz).1
 rcases hr with ⟨_,_,rfl,_⟩ | ⟨b,cur,f0,rfl,hg,rfl,BQ,BD,vy,c9⟩
 ·simp at bb
 ·rw [h1,Nat.mul_one] at vy c9
  have uf:cn (.slice (some ⟨b,0,none⟩) xs.length cap) 1 j = ⟨b,j.toNat,none⟩:=by
   simp only [cn,gw,Nat.zero_add,Nat.mul_one]
  rw [uf,cell_of_row w b _ cur e _ hg] at hu
  have PV:∀ i∈f0,i < w.heap.size:=mr c9
  obtain ⟨c,g0,g1,g2,p,q,Er,hc,hp,BE,pr⟩:=Am j.toNat z c9 hz
  subst Er
  rw [h1,Nat.mul_one] at hp
  have Es:c.length=1:=by rw [E.len BE,h1]
  obtain ⟨c0,rfl⟩ : ∃ c0,c=[c0]:=by match c,Es with | [c0],_=>exact ⟨c0,rfl⟩
  have UY:c0=u:=by
   have h2:(cur.toList.take xs.length)[j.toNat]? = some c0:=by
    rw [hc,List.append_assoc,List.getElem?_append_right (by omega),hp,Nat.sub_self]; rfl
   rw [List.getElem?_take,if_pos bb,Array.getElem?_toList,hu] at h2
   exact (Option.some.inj h2).symm
  subst UY
  refine ⟨g1,b :: (g0++g2),BE,?_,b,cap,cur,g0,g2,p,c0,q,rfl,hg,rfl,⟨BQ,BD,vy,h1⟩,hc,⟨hp,bb⟩,fun i hi=>PV i (by rcases List.mem_append.1 hi with hi | hi <;> simp [hi]),fun h' cg u z' k' hr=>pr h' [u] z' k' (fun i hi=>cg i (by simp [hi])) (fun i hi=>cg i (by simp [hi])) hr⟩
  refine (List.perm_append_comm (l₁:=g1) (l₂:=b :: (g0++g2))).trans ?_
  rw [List.cons_append]
  refine List.Perm.cons b ?_
  rw [List.append_assoc,List.append_assoc]
  exact List.Perm.append_left g0 List.perm_append_comm
end
structure ez where
 j:Nat
 d:Nat
 src:List Nat
 V:Type
 rt:Value→V→Value
 ps:Value→V→List aq
abbrev MM:=List ez
def ks:List ez→Type
 | []=>Unit
 | a :: l=>a.V×ks l
def zE (f:NV):List Nat→Value
 | []=>undef
 | [t]=>f t
 | ts=>.tuple (ts.map f).toArray
def yT (f:Fr) (t:Nat):Value:=match look f t with
 | some v=>v
 | none=>undef
def u5 (a:ez) (r:NV):Value:=zE r a.src
def BX (a:ez) (f:Fr):Value:=zE (yT f) a.src
theorem CQ {f g:NV}:∀ {ts:LN},(∀ t∈ts,f t=g t)→zE f ts=zE g ts:=by
 intro ts h
 match ts,h with
 | [],_=>rfl
 | [t],h=>exact h t (by simp)
 | t :: s :: ts,h=>
  show Value.tuple (List.map f (t :: s :: ts)).toArray=Value.tuple (List.map g (t :: s :: ts)).toArray
  rw [List.map_congr_left h]
def mF:(ms:MM)→ks ms→Fr
 | [],_=>[]
 | a :: l,x=>(a.d,a.rt (BX a (mF l x.2)) x.1) :: mF l x.2
def DU:(ms:MM)→ks ms→List aq
 | [],_=>[]
 | a :: l,x=>a.ps (BX a (mF l x.2)) x.1++DU l x.2
def jg (A:LN):(ms:MM)→ks ms→Fr
 | [],_=>[]
 | a :: l,x=>bif cw a.j A then (a.d,a.rt (BX a (mF l x.2)) x.1) :: jg A l x.2 else jg A l x.2
def px (A:LN):(ms:MM)→ks ms→List aq
 | [],_=>[]
 | a :: l,x=>bif cw a.j A then a.ps (BX a (mF l x.2)) x.1++px A l x.2 else px A l x.2
def ou (t:Nat):List ez→Option Nat
 | []=>none
 | a :: l=>bif Nat.beq t a.d then some a.j else ou t l
def Ax (ms:MM):List (Nat×Operand)→List Nat
 | []=>[]
 | (_,.tmp s) :: l=>match ou s ms with
  | some _=>s :: Ax ms l
  | none=>Ax ms l
 | _ :: l=>Ax ms l
def ixL (s:Nat):List Nat→Option Nat
 | []=>none
 | t :: l=>bif Nat.beq s t then some 0 else (ixL s l).map (·+1)
def ab9 (v:Value) (k:Nat):Value:=match v with
 | .tuple vs=>vs.toList.getD k undef
 | _=>undef
def aca (f:Fr) (ts:LN) (u:Value):Operand→Value
 | .tmp s=>match ixL s ts with
  | some k=>(match ts with
   | [_]=>u
   | _=>ab9 u k)
  | none=>yT f s
 | x=>match ay f x with
  | some v=>v
  | none=>undef
def ZL (k:Nat) (v:Value):List Value:=bif Nat.beq k 1 then [v] else match v with
 | .agg cs=>cs.toList
 | _=>[]
def SS (pl:List (Nat×Nat)):List (Nat×Value)→List Value→List Value
 | [],cs=>cs
 | (i,v) :: l,cs=>match HU pl i with
  | some (off,k)=>SS pl l (cs.take off++ZL k v++cs.drop (off+k))
  | none=>cs
def Vu (pl:List (Nat×Nat)) (f:Fr) (ts:LN) (ps:List (Nat×Operand)) (zc:LV) (u:Value):List Value:=SS pl (ps.map fun p=>(p.1,aca f ts u p.2)) zc
def tsB (A:LN) (ms:MM) (ts:LN):Bool:=ts.all fun t=>match ou t ms with
 | some j=>cw j A
 | none=>false
def j7 (A:LN):List ez→Bool
 | []=>true
 | a :: l=>(bif cw a.j A then a.src.all (fun t=>match ou t l with
   | some j=>cw j A
   | none=>false) else true) && j7 A l
def BY:List ez→Bool
 | []=>true
 | a :: l=>a.src.all (fun t=>(ou t l).isSome) && BY l
theorem Ie {A:LN} {r:NV} {t:Nat}:∀ {ms:MM} {x:ks ms} {j:Nat},ou t ms=some j→cw j A=true→(∀ p∈jg A ms x,r p.1=p.2)→look (mF ms x) t=some (r t):=by
 intro ms
 induction ms with
 | nil=>intro x j h; cases h
 | cons a l ih=>
  intro x j h hj hp
  unfold ou at h
  unfold mF look
  cases hb:Nat.beq t a.d with
  | true=>
   rw [hb] at h
   cases h
   have:=hp (a.d,a.rt (BX a (mF l x.2)) x.1) (by unfold jg; rw [hj]; simp)
   simp only [cond_true]
   rw [Nat.eq_of_beq_eq_true hb,this]
  | false=>
   rw [hb] at h
   refine ih h hj fun p hm=>hp p ?_
   unfold jg
   cases cw a.j A with
   | true=>exact List.mem_cons_of_mem _ hm
   | false=>exact hm
theorem Qj {r:NV} {t:Nat}:∀ {ms:MM} {x:ks ms},(ou t ms).isSome=true→(∀ p∈mF ms x,r p.1=p.2)→look (mF ms x) t=some (r t):=by
 intro ms
 induction ms with
 | nil=>intro x h; cases h
 | cons a l ih=>
  intro x h hp
  unfold ou at h
  unfold mF at hp ⊢
  unfold look
  cases hb:Nat.beq t a.d with
  | true=>
   simp only [cond_true]
   rw [Nat.eq_of_beq_eq_true hb,hp (a.d,a.rt (BX a (mF l x.2)) x.1) (by simp)]
  | false=>
   rw [hb] at h
   exact ih h fun p hm=>hp p (List.mem_cons_of_mem _ hm)
def HN (N:Nat→Prop) (w:World) (Δ:QE) (f:LN):Prop:=HL (fun _=>False) w Δ f∨∃ Fo Fr,f=Fo++Fr∧(qu Δ=false∧∀ b∈Fr,b < w.heap.size)∧HL (fun b=>N b∨b∈Fr) w Δ Fo
def NR (N:Nat→Prop) (a:ez):List Nat→World→(Nat→Value)→Value→Prop:=fun f w r _=>∃ v:a.V,r a.d=a.rt (u5 a r) v∧HN N w (a.ps (u5 a r) v) f∧f.Nodup
def MV (N:Nat→Prop) (a:ez):List Nat→World→(Nat→Value)→Value→Prop:=fun f w r x=>∃ v:a.V,x=a.rt (u5 a r) v∧HN N w (a.ps (u5 a r) v) f∧f.Nodup
def SU (N:Nat→Prop) (a:LN) (l:LO) (s:ig):Prop:=∀ f F (w w':World) (r r':NV) v,ak F w w'→(∀ b∈f,b ∉ F)→(∀ b∈F,¬ N b)→(∀ j∈a,∀ t,bj l j=some t→r' t=r t)→s.V f w r v→s.V f w' r' v
theorem Ig.n {N:Nat→Prop} {a:LN} {l:LO} {s:ig} (h:Ig a l s):SU N a l s:=fun f F w w' r r' v hC hn _=>h f F w w' r r' v hC hn
section
variable {P:Program} {w w':World} {Z:Nat→Prop}
theorem HL.ZM {F H:LN} {Δ:QE} (h:HL (fun _=>False) w Δ F) (hC:ak H w w') (hd:∀ b∈F,b ∉ H):HL (fun _=>False) w' Δ F:=by
 induction h with
 | nil=>exact .nil
 | @own e f F Δ h _ ih=>exact .own (h.dp hC (fun _ _ h=>h) fun b hb hm=>hd b (List.mem_append_left _ hm) hb) (ih fun b hb=>hd b (List.mem_append_right _ hb))
 | @fact e F Δ h _ ih=>
  refine .fact ?_ (ih hd)
  cases e with
  | rd o T v x=>
   obtain ⟨g,h1,h2⟩:=h
   have hg:g=[]:=by
    cases g with
    | nil=>rfl
    | cons b g=>exact absurd (h2 b (by simp)) (by cases o <;> simp [uX])
   subst hg
   exact ⟨[],T.dp h1 hC (fun _ h=>absurd h List.not_mem_nil),fun _ h=>absurd h List.not_mem_nil⟩
  | ad o1 o2 v j T x=>obtain ⟨_,_,u,g,_,_,h3,_⟩:=h; exact absurd h3 (by cases o1 <;> simp [uX])
  | au p cs=>
   have hc:cs=[]:=by
    cases cs with
    | nil=>rfl
    | cons c cs=>exact (h.2 (by simp)).elim
   subst hc
   exact ⟨fun j u hj=>by simp at hj,fun hn=>absurd rfl hn⟩
  | hd v j u=>exact absurd h.2.2.2 List.not_mem_nil
  | _=>exact h.elim
theorem HL.ZN {F H:LN} {Δ:QE} (h:HL Z w Δ F) (hC:ak H w w') (hz:∀ b∈H,¬ Z b) (hd:∀ b∈F,b ∉ H):HL Z w' Δ F:=by
 induction h with
 | nil=>exact .nil
 | @own e f F Δ h _ ih=>exact .own (h.dp hC hz fun b hb hm=>hd b (List.mem_append_left _ hm) hb) (ih fun b hb=>hd b (List.mem_append_right _ hb))
 | @fact e F Δ h _ ih=>exact .fact (h.dp hC hz fun _ _ h=>nomatch h) (ih hd)
theorem HN.dp {N:Nat→Prop} {f H:LN} {Δ:QE} (h:HN N w Δ f) (hC:ak H w w') (hd:∀ b∈f,b ∉ H) (hz:∀ b∈H,¬ N b):HN N w' Δ f:=by
 rcases h with h | ⟨Fo,Fr,rfl,h1,h2⟩
 ·exact .inl (h.ZM hC hd)
 ·exact .inr ⟨Fo,Fr,rfl,⟨h1.1,fun b hb=>Nat.lt_of_lt_of_le (h1.2 b hb) hC.size⟩,h2.ZN hC (fun b hb h=>h.elim (hz b hb) fun h=>hd b (List.mem_append_right _ h) hb) fun b hb=>hd b (List.mem_append_left _ hb)⟩
theorem HN.own {N:Nat→Prop} {f:LN} {Δ:QE} (h:HN N w Δ f) (ho:qu Δ=true):HL (fun _=>False) w Δ f:=by
 rcases h with h | ⟨_,_,_,h1,_⟩
 ·exact h
 ·rw [ho] at h1; cases h1.1
theorem HN.all {N:Nat→Prop} {f:LN} {Δ:QE} (h:HN N w Δ f):∃ Fo Fr,f=Fo++Fr∧(∀ b∈Fr,b < w.heap.size)∧HL (fun b=>N b∨b∈Fr) w Δ Fo:=by
 rcases h with h | ⟨Fo,Fr,rfl,h1,h2⟩
 ·exact ⟨f,[],by simp,fun b (h:b∈[])=>absurd h List.not_mem_nil,h.mono fun _ h=>h.elim⟩
 ·exact ⟨Fo,Fr,rfl,h1.2,h2⟩
theorem HL.up {F:LN} {Δ:QE} (h:HL (fun _=>False) w Δ F):HL Z w Δ F:=by
 induction h with
 | nil=>exact .nil
 | own h _ ih=>exact .own (h.mono fun _ h=>h.elim) ih
 | fact h _ ih=>exact .fact (h.mono (fun _ h=>h.elim) fun _ h=>h) ih
theorem HL.app {Δ Δ':QE} {F F':LN} (h:HL Z w Δ F) (k:HL Z w Δ' F'):HL Z w (Δ++Δ') (F++F'):=by
 induction h with
 | nil=>exact k
 | own h _ ih=>rw [List.append_assoc]; exact .own h ih
 | fact h _ ih=>exact .fact h ih
theorem KG {a:ez} {r r':NV} (h:∀ t∈a.src,r' t=r t):u5 a r'=u5 a r:=CQ h
theorem NS {l:LO} {a:LN} {b:Bool} {m:ez} (hs:∀ t∈m.src,∃ j∈a,bj l j=some t):SU Z a l ⟨b,MV Z m⟩:=by
 intro f F w w' r r' x hC hn hz hr ⟨v,h1,h2,h3⟩
 have e:=KG (a:=m) (r:=r) (r':=r') fun t ht=>by
  obtain ⟨j,hj,hd⟩:=hs t ht
  exact hr j hj t hd
 refine ⟨v,by rw [e]; exact h1,by rw [e]; exact h2.dp hC hn hz,h3⟩
theorem LH {l:LO} {a:LN} {b:Bool} {m:ez} (hd:∃ j∈a,bj l j=some m.d) (hs:∀ t∈m.src,∃ j∈a,bj l j=some t):SU Z a l ⟨b,NR Z m⟩:=by
 intro f F w w' r r' x hC hn hz hr ⟨v,h1,h2,h3⟩
 have e:=KG (a:=m) (r:=r) (r':=r') fun t ht=>by
  obtain ⟨j,hj,hd⟩:=hs t ht
  exact hr j hj t hd
 obtain ⟨j,hj,hjd⟩:=hd
 refine ⟨v,by rw [e,hr j hj _ hjd]; exact h1,by rw [e]; exact h2.dp hC hn hz,h3⟩
theorem iw.more {l:LO} {m i:Nat} {U:LL} {S S':List ig} {r0:NV} {w0:World} {H:LN} (h:iw P l m S U r0 w0 H i) (hi:i < S.length):iw P l m (S++S') U r0 w0 H i:=by
 intro o s ho hs g r w hC hV hO hn gu hd hf
 rw [List.getElem?_append_left hi] at hs
 refine h o s ho hs g r w hC hV (fun j hj d fx s' b9=>hO j hj d fx s' (by rw [List.getElem?_append_left (List.getElem?_eq_some_iff.1 b9).1]; exact b9)) (fun j hj=>?_) gu hd hf
 have:=hn j hj
 refine ⟨fun d fx=>?_,fun fx s' b9 cg=>?_⟩
 ·have h2:=this.1 d fx
  by_cases hl:j < S.length
  ·rw [List.getElem?_append_left hl] at h2; exact h2
  ·rw [List.getElem?_eq_none (by omega)]; trivial
 ·exact this.2 fx s' (by rw [List.getElem?_append_left (List.getElem?_eq_some_iff.1 b9).1]; exact b9) cg
end
inductive dM (A:LN):Option (Bool×Nat×Value)→List (Nat×Nat×Value)→Fr→Fr→Prop
 | nil {base:Fr}:dM A none [] base base
 | cons {j d:Nat} {u:Value} {l:LQ} {base fr:Fr} (h:dM A (some (cw j A,d,u)) l base fr):dM A none ((j,d,u) :: l) base fr
 | dp {d:Nat} {u:Value} {l:LQ} {base fr:Fr} (h:dM A none l base fr):dM A (some (true,d,u)) l base ((d,u) :: fr)
 | drop {d:Nat} {u:Value} {l:LQ} {base fr:Fr} (h:dM A none l base fr):dM A (some (false,d,u)) l base fr
theorem uY.BS {Γ Γ':QE} {v:Addr} {o:Bool} {α:Type} {E:ah α} {x:α} {e:aq} (h:uY Γ v o E x e Γ') {Z:Nat→Prop} {w:World}:∀ {cur F:LN},SA Z w Γ cur F→(v.block∈cur∨v.block∈F)∨Z v.block:=by
 induction h with
 | @ad o1 o2 α E v j x e Γ=>
  intro cur F hS
  obtain ⟨⟨j0,j1,u,g,h1,h2,h3,h4⟩,h5⟩:=hS
  cases o1 with
  | false=>exact .inr h3
  | true=>exact .inl (.inl h3)
 | @there o2 α E v x e a Γ Γ' h ih=>
  intro cur F hS
  cases a with
  | own T v x=>obtain ⟨f,F',rfl,h2,h3⟩:=hS; exact (ih h3).imp (fun h=>.inr (List.mem_append.2 h)) id
  | om e E v xs=>obtain ⟨f,F',rfl,h2,h3⟩:=hS; exact (ih h3).imp (fun h=>.inr (List.mem_append.2 h)) id
  | row b cs e=>obtain ⟨f,F',rfl,h2,h3⟩:=hS; exact (ih h3).imp (fun h=>h.imp id (List.mem_append_right _)) id
  | fv e E v xs j u=>obtain ⟨f,F',rfl,h2,h3⟩:=hS; exact (ih h3).imp (fun h=>.inr (List.mem_append.2 h)) id
  | _=>exact ih hS.2
inductive VQ (P:Program) (Γ:QE) (fr:Fr):Op→Value→Prop
 | mv {x:OO} {v:Value} (hx:ay fr x=some v):VQ P Γ fr (.move x) v
 | as {x:OO} {v:Value} (hx:ay fr x=some v):VQ P Γ fr (.assign x) v
 | pick {c x y:OO} {b:Bool} {v:Value} (hc:ay fr c=some (.bool b)) (hx:(bif b then ay fr x else ay fr y)=some v):VQ P Γ fr (.pick c x y) v
 | add {x y:OO} {t t':TI} {a b:Int} (hx:ay fr x=some (.int .i64 a)) (hy:ay fr y=some (.int .i64 b)):VQ P Γ fr (.binOp .add t x y t') (.int .i64 (ai (a+b)))
 | sub {x y:OO} {t t':TI} {a b:Int} (hx:ay fr x=some (.int .i64 a)) (hy:ay fr y=some (.int .i64 b)):VQ P Γ fr (.binOp .sub t x y t') (.int .i64 (ai (a - b)))
 | lss {x y:OO} {t t':TI} {k:IntKind} {a b:Int} (hx:ay fr x=some (.int k a)) (hy:ay fr y=some (.int k b)):VQ P Γ fr (.binOp .lss t x y t') (.bool (decide (a < b)))
 | eql {x y:OO} {t t':TI} {k:IntKind} {a b:Int} (hx:ay fr x=some (.int k a)) (hy:ay fr y=some (.int k b)):VQ P Γ fr (.binOp .eql t x y t') (.bool (a == b))
 | neq {x y:OO} {t t':TI} {k:IntKind} {a b:Int} (hx:ay fr x=some (.int k a)) (hy:ay fr y=some (.int k b)):VQ P Γ fr (.binOp .neq t x y t') (.bool (a != b))
 | not {x:OO} {t:TI} {b:Bool} (hx:ay fr x=some (.bool b)):VQ P Γ fr (.unOp .not t x) (.bool (!b))
 | P3 {x:OO} {a:Addr} (hx:ay fr x=some (.pointer (some a))):VQ P Γ fr (.nilCheck x) (.pointer (some a))
 | ext {x:OO} {k:Nat} {vs:LV} {v:Value} (hx:ay fr x=some (.tuple vs.toArray)) (hv:vs[k]? = some v):VQ P Γ fr (.extract x k) v
 | U9 {s k off:Nat} {x:OO} {a a':Addr} [hf:my P s k off] (hx:ay fr x=some (.pointer (some a))) (ha:DQ a off a'):VQ P Γ fr (.fieldAddr s x k) (.pointer (some a'))
 | len {x:OO} {v:Value} {t:TI} {n:Nat} [ht:tT P t] (hx:ay fr x=some v) (hr:u3 Γ v n):VQ P Γ fr (.call ⟨.builtin .len,#[x],#[t]⟩) (.int .i64 (n:Int))
 | SN {t:TI} {ps:List (Nat×Operand)} {zc cs:LV} {pl:List (Nat×Nat)} [hb:yQ P t zc pl] (hf:xe Γ fr pl ps zc cs):VQ P Γ fr (.build t ps.toArray) (.agg cs.toArray)
 | P5 {x y:OO} {k k':IntKind} {a b:Int} {au:Array TypeId} (hx:ay fr x=some (.int k a)) (hy:ay fr y=some (.int k' b)):VQ P Γ fr (.call ⟨.builtin .max,#[x,y],au⟩) (.int k (if b > a then b else a))
 | P6 {x y:OO} {k k':IntKind} {a b:Int} {au:Array TypeId} (hx:ay fr x=some (.int k a)) (hy:ay fr y=some (.int k' b)):VQ P Γ fr (.call ⟨.builtin .min,#[x,y],au⟩) (.int k (if b < a then b else a))
 | Vj {x:OO} {k k2:IntKind} {n:Int} {s t:TI} [ht:H0 P s t k2] (hx:ay fr x=some (.int k n)):VQ P Γ fr (.convert s t x) (.int k2 (k2.wrap n))
 | mul {x y:OO} {t t':TI} {a b:Int} (hx:ay fr x=some (.int .i64 a)) (hy:ay fr y=some (.int .i64 b)):VQ P Γ fr (.binOp .mul t x y t') (.int .i64 (ai (a * b)))
 | gtr {x y:OO} {t t':TI} {k:IntKind} {a b:Int} (hx:ay fr x=some (.int k a)) (hy:ay fr y=some (.int k b)):VQ P Γ fr (.binOp .gtr t x y t') (.bool (decide (a > b)))
 | geq {x y:OO} {t t':TI} {k:IntKind} {a b:Int} (hx:ay fr x=some (.int k a)) (hy:ay fr y=some (.int k b)):VQ P Γ fr (.binOp .geq t x y t') (.bool (decide (a ≥ b)))
 | leq {x y:OO} {t t':TI} {k:IntKind} {a b:Int} (hx:ay fr x=some (.int k a)) (hy:ay fr y=some (.int k b)):VQ P Γ fr (.binOp .leq t x y t') (.bool (decide (a≤b)))
 | Vg {s k off:Nat} {x:OO} {cs:LV} {v:Value} [hf:U5 P s k off] (hx:ay fr x=some (.agg cs.toArray)) (hc:cs[off]? = some v):VQ P Γ fr (.field s x k) v
 | P4 {x:OO} {v:Value} {t:TI} {n k:Nat} [ht:HX P t k] (hx:ay fr x=some v) (hr:u3 Γ v n):VQ P Γ fr (.call ⟨.builtin .len,#[x],#[t]⟩) (.int .i64 (n:Int))
 | acb {α:Type} {S:ah α} {x:OO} {v:Value} {t:TI} {us:List (List Value)} {xs:List α} {k n e:Nat} {Γ1:QE} [ht:HX P t k] (hx:ay fr x=some v) (hr:bz Γ (.own (aJ e (kq n)) v us) Γ1) (hg:In (.rd false (vz S) (.bool true) (us,xs)) Γ):VQ P Γ fr (.call ⟨.builtin .len,#[x],#[t]⟩) (.int .i64 (xs.length:Int))
 | SP {κ υ:Type} {x y:OO} {v:Value} {t:TI} {bq:BEq κ} {ek:κ→Value} {eu:υ→Value} {xs:List (κ×υ)} {a:κ} {z0:υ} [ht:HZ P t κ υ bq ek eu] [hz:SI P t υ eu z0] (hx:ay fr x=some v) (hy:ay fr y=some (ek a)) (hr:Dp ek eu Γ v xs):VQ P Γ fr (.lookup t x y false) (eu ((qf xs a).getD z0))
theorem VQ.sound {P:Program} {Γ:QE} {fr:Fr} {op:Op} {u:Value} (h:VQ P Γ fr op u) {Z:Nat→Prop} {w:World} {cur F:LN} (hS:SA Z w Γ cur F) {r:NV} (ha:cq r fr) (d:Option Nat) (ty:TI) (pos:String) (ab:Array Edge) (g:Option (Nat×Bool)) :
  Rd P w r ⟨d,op,ty,pos,ab,g⟩ u:=by
 cases h with
 | mv hx=>exact Mv _ (aQ ha hx)
 | as hx=>exact Av _ (aQ ha hx)
 | @pick c x y b v hc hx=>
  intro w' _
  rw [KE (aQ ha hc)]
  cases b
  ·rw [← aQ ha hx]; rfl
  ·rw [← aQ ha hx]; rfl
 | add hx hy=>exact Ba (aQ ha hx) (aQ ha hy)
 | sub hx hy=>exact Go.Li.Bs (aQ ha hx) (aQ ha hy)
 | lss hx hy=>exact Bl (aQ ha hx) (aQ ha hy)
 | eql hx hy=>exact Be (aQ ha hx) (aQ ha hy)
 | neq hx hy=>exact Bn (aQ ha hx) (aQ ha hy)
 | not hx=>exact Nt (aQ ha hx)
 | P3 hx=>exact Nk (aQ ha hx)
 | ext hx hv=>exact Ex _ (aQ ha hx) (by simpa using hv)
 | @U9 s k off x a a' hf hx hq=>rw [hq.eq]; exact Fp hf.h (aQ ha hx)
 | P5 hx hy=>exact fun _ _=>NI (aQ ha hx) (aQ ha hy)
 | P6 hx hy=>exact fun _ _=>NJ (aQ ha hx) (aQ ha hy)
 | @Vj x k k2 n s t ht hx=>exact fun _ _=>KF ht.h.1 ht.h.2 (aQ ha hx)
 | mul hx hy=>exact Bm (aQ ha hx) (aQ ha hy)
 | gtr hx hy=>exact Bg (aQ ha hx) (aQ ha hy)
 | geq hx hy=>exact Bh (aQ ha hx) (aQ ha hy)
 | leq hx hy=>exact Go.Li.Bk (aQ ha hx) (aQ ha hy)
 | @Vg s k off x cs v hf hx hc=>
  obtain ⟨fs,f,ds,h1,h2,h3,h4,h5⟩:=hf.h
  exact fun _ _=>DR h1 h2 h3 h4 h5 (aQ ha hx) (by simpa using hc)
 | @len x v t n ht hx hr=>
  obtain ⟨b,c,rfl⟩:=hr.sound hS
  obtain ⟨e,i,h1,_,_⟩:=ht.h
  exact fun _ _=>wo h1 (aQ ha hx)
 | @P4 x v t n k ht hx hr=>
  obtain ⟨b,c,rfl⟩:=hr.sound hS
  obtain ⟨e,i,h1,_,_⟩:=ht.h
  exact fun _ _=>wo h1 (aQ ha hx)
 | @SP κ υ x y v t bq ek eu xs a z0 ht hz hx hy hr=>
  obtain ⟨f,hm⟩:=hr.sound hS
  obtain ⟨kt,vt,kd,h1,h2,h3⟩:=ht.h
  obtain ⟨kt',vt',i,g1,g2,g3⟩:=hz.h
  rw [h1] at g1
  cases g1
  exact fun w' hC=>LJ (ek:=ek) (sq:=eu) h3 h1 h2 g2 g3 (by rw [aQ ha hx]; exact ah.dp _ hm hC fun _ _=>List.not_mem_nil) (aQ ha hy)
 | @acb α S x v t us xs k n e' Γ1 ht hx hr hg=>
  obtain ⟨f,F1,_,hO,_⟩:=hr.sound hS
  obtain ⟨e,i,h1,_,_⟩:=ht.h
  obtain ⟨g0,hk,_⟩:=hg.rd hS []
  obtain ⟨base,cap,hv,_⟩:=hO
  obtain rfl:v = .slice base us.length cap:=by simpa using hv
  rw [← zM hk.2.1]
  exact fun _ _=>wo h1 (aQ ha hx)
 | @SN t ps zc cs pl hb hf=>
  obtain ⟨fs,i,z,h1,h2,h3,h4,h5⟩:=hb.h
  refine Bu ?_
  have:=hf.fill ha hS
  unfold Program.built
  rw [h3,h1]
  simp only [h4,h2]
  rw [show z.cells=zc.toArray by rw [← h5]]
  exact this
theorem dM.sound {A:LN} {q:Option (Bool×Nat×Value)} {sl:LQ} {base fr:Fr} {r:NV} (h:dM A q sl base fr) (hb:cq r base) :
  (∀ p∈sl,cw p.1 A=true→r p.2.1=p.2.2)→(∀ b d u,q=some (b,d,u)→b=true→r d=u)→cq r fr:=by
 induction h with
 | nil=>intro _ _; exact hb
 | @cons j d u l base fr _ ih=>
  intro h1 _
  refine ih hb (fun p hp=>h1 p (by simp [hp])) ?_
  rintro b d' u' he hbt
  cases he
  exact h1 (j,d,u) (by simp) hbt
 | @dp d u l base fr _ ih=>
  intro h1 h2
  intro s v hl
  unfold look at hl
  cases Ih:Nat.beq s d with
  | true=>rw [Ih] at hl; cases hl; rw [Nat.eq_of_beq_eq_true Ih]; exact h2 true d _ rfl rfl
  | false=>rw [Ih] at hl; exact ih hb h1 (fun _ _ _ h=>nomatch h) s v hl
 | drop _ ih=>intro h1 _; exact ih hb h1 (fun _ _ _ h=>nomatch h)
def Ay:List (Nat×Nat×Value)→Fr→Fr
 | [],f=>f
 | (_,d,u) :: l,f=>(d,u) :: Ay l f
inductive LM (P:Program) (f:FuncId) (xs:List Operand) (fr:Fr) (Γ:QE) {β V:Type} (mo:Option β) (rt:β→V→List Value) (ps:β→V→List aq):Prop
 | mk {vs:LV} {Δ:QE} (hx:tM fr xs=some vs) (hc:Ct P f true mo vs Δ rt ps) (hd:FO Δ) (hr:ER true Γ Δ):LM P f xs fr Γ mo rt ps
inductive FnJ (P:Program) (f:FuncId):Prop
 | mk [h:bg P f]:FnJ P f
inductive ImJ (P:Program) (t:TI) (nm:String) (f:FuncId):Prop
 | mk [h:U6 P t nm f]:ImJ P t nm f
inductive ED (P:Program) (f:FuncId) (as bs:LV) (xs:List Operand) (fr:Fr) (Γ:QE) {β V:Type} (mo:Option β) (rt:β→V→List Value) (ps:β→V→List aq):Prop
 | mk {vs us ws:LV} {Δ:QE} (hx:tM fr xs=some vs) (h1:lg vs bs us) (h2:lg as us ws) (hc:Ct P f true mo ws Δ rt ps) (hd:FO Δ) (hr:ER true Γ Δ):ED P f as bs xs fr Γ mo rt ps
inductive LP {β V:Type} (P:Program) (f:FuncId) (xs:List Operand) (fr:Fr) (Γ:QE) (mo:Option β) (rt:β→V→List Value) (ps:β→V→List aq):Prop
 | mk {vs:LV} {Δ:QE} (hx:tM fr xs=some vs) (hc:Ct P f false mo vs Δ rt ps) (hd:FO Δ) (hr:ER false Γ Δ):LP P f xs fr Γ mo rt ps
inductive BZ {β V:Type} (P:Program) (f:FuncId) (xs:List Operand) (fr:Fr) (hd Γ:QE) (mo:Option β) (rt:β→V→List Value) (ps:β→V→List aq):Prop
 | mk {vs:LV} {Δ Γ':QE} (hx:tM fr xs=some vs) (hc:Ct P f false mo vs Δ rt ps) (ho:EO hd Δ Γ') (hr:ER false (Γ'++Γ) Δ):BZ P f xs fr hd Γ mo rt ps
inductive EE (P:Program) (f:FuncId) (xs:List Operand) (fr:Fr) (hd:QE) (Γ:QE) {β V:Type} (mo:Option β) (rt:β→V→List Value) (ps:β→V→List aq):Prop
 | mk {vs:LV} {Δ Γ':QE} (hx:tM fr xs=some vs) (hc:Ct P f true mo vs Δ rt ps) (ho:EO hd Δ Γ') (hr:ER true Γ Δ):EE P f xs fr hd Γ mo rt ps
inductive jj:List ez→Prop
 | nil:jj []
 | cons {a:ez} {l:MM} (h:Ew a.V) (k:jj l):jj (a :: l)
theorem jj.ne {ms:MM} (h:jj ms):Nonempty (ks ms):=by
 induction h with
 | nil=>exact ⟨()⟩
 | cons h _ ih=>obtain ⟨a⟩:=h.ne; obtain ⟨b⟩:=ih; exact ⟨(a,b)⟩
inductive Ds:List ez→Nat→Bool→Prop
 | here {a:ez} {l:MM}:Ds (a :: l) a.d true
 | there {a:ez} {l:MM} {t:Nat} {b:Bool} (h:Ds l t b):Ds (a :: l) t b
 | nil {t:Nat}:Ds [] t false
inductive Vv (fr:Fr) (t off:Nat):Prop
 | mk {cs:LV} {v:Value} (h:look fr t=some (.agg cs.toArray)) (hc:cs[off]? = some v):Vv fr t off
inductive Vw (fr:Fr) (t k:Nat):Prop
 | mk {cs:LV} {v:Value} (h:look fr t=some (.tuple cs.toArray)) (hc:cs[k]? = some v):Vw fr t k
inductive Qk (fr:Fr) (Γ:QE) (t:Nat):Prop
 | mk {v:Value} (h:look fr t=some v) (hc:One Γ v):Qk fr Γ t
inductive Ql (fr:Fr) (t n:Nat):Prop
 | mk {cs:LV} (h:look fr t=some (.agg cs.toArray)) (hl:cs.length=n):Ql fr t n
inductive Vx (fr:Fr) (Γ:QE) (t n:Nat):Prop
 | mk {v:Value} (h:look fr t=some v) (hc:u3 Γ v n):Vx fr Γ t n
inductive JA (R S:Type):Type 1
 | a (as:LL) (ops:LO) (i:Nat) (sl:LQ) (ms:MM) (Γ:QE) (m:Option (Out S R))
 | o (A:LN) (op:Op) (d:Nat) (ty:TI) (as:LL) (ops:LO) (i:Nat) (sl:LQ) (ms:MM) (Γ:QE) (m:Option (Out S R))
 | ow (b:Bool) (A:LN) (op:Op) (d:Nat) (ty:TI) (as:LL) (ops:LO) (i:Nat) (sl:LQ) (ms:MM) (Γ:QE) (m:Option (Out S R))
 | ix (b:Bool) (v:Value) (fr:Fr) (x y:OO) (t:TI) (A:LN) (d:Nat) (ty:TI) (as:LL) (ops:LO) (i:Nat) (sl:LQ) (ms:MM) (Γ:QE) (m:Option (Out S R))
 | lb (b:Bool) (v:Value) (j:Int) (fr:Fr) (t:TI) (x:OO) (A:LN) (d:Nat) (ty:TI) (as:LL) (ops:LO) (i:Nat) (sl:LQ) (ms:MM) (Γ:QE) (m:Option (Out S R))
 | ap (us:LN) (t1 t2:Nat) (t:TI) (A:LN) (d:Nat) (ty:TI) (as:LL) (ops:LO) (i:Nat) (sl:LQ) (ms:MM) (Γ:QE) (m:Option (Out S R))
 | la (fr:Fr) (ad:Addr) (lk:Option Nat) (t:TI) (x:OO) (A:LN) (d:Nat) (ty:TI) (as:LL) (ops:LO) (i:Nat) (sl:LQ) (ms:MM) (Γ:QE) (m:Option (Out S R))
 | ld {α:Type} (E:ah α) (z:α) (fr:Fr) (ad:Addr) (t:TI) (x:OO) (A:LN) (d:Nat) (ty:TI) (as:LL) (ops:LO) (i:Nat) (sl:LQ) (ms:MM) (Γ:QE) (m:Option (Out S R))
 | oc (us:LN) (f:FuncId) (xs:List Operand) (au:Array TypeId) (A:LN) (d:Nat) (ty:TI) (as:LL) (ops:LO) (i:Nat) (sl:LQ) (ms:MM) (Γ:QE) (m:Option (Out S R))
 | os (A:LN) (op:Op) (ty:TI) (as:LL) (ops:LO) (i:Nat) (sl:LQ) (ms:MM) (Γ:QE) (m:Option (Out S R))
 | cr {V:Type} (u:V→Value) (ps:V→List aq) (d:Nat) (as:LL) (ops:LO) (i:Nat) (sl:LQ) (ms:MM) (Γ:QE) (m:Option (Out S R))
 | p (Δ:QE) (as:LL) (ops:LO) (i:Nat) (sl:LQ) (ms:MM) (Γ:QE) (m:Option (Out S R))
inductive KH:List aq→Value→Bool→Prop
 | here {α:Type} {T:ah α} {v:Value} {x:α} {Γ:QE}:KH (.own T v x :: Γ) v true
 | there {e:aq} {v:Value} {b:Bool} {Γ:QE} (h:KH Γ v b):KH (e :: Γ) v b
 | nil {v:Value}:KH [] v false
inductive jr:List ez→Nat→ez→List ez→Prop
 | here {a:ez} {l:MM}:jr (a :: l) a.d a l
 | there {a b:ez} {l l':MM} {t:Nat} (h:jr l t a l'):jr (b :: l) t a (b :: l')
inductive Az:List ez→Nat→ez→List ez→Prop
 | here {a:ez} {l:MM}:Az (a :: l) a.j a l
 | there {a b:ez} {l l':MM} {t:Nat} (h:Az l t a l'):Az (b :: l) t a (b :: l')
def LR (j i:Nat) (sl:LQ):List (Nat×Nat×Value):=sl.map fun p=>bif Nat.beq p.1 j then (i,p.2) else p
def Ii (sl:LQ) (j d:Nat) (b:Bool):Bool:=sl.any fun q=>Nat.beq q.1 j && (Nat.beq q.2.1 d && (match q.2.2 with | .bool c=>(bif b then c else !c) | _=>false))
theorem NT {sl:LQ} {j d:Nat} {b:Bool} (h:Ii sl j d b=true):(j,d,.bool b)∈sl:=by
 unfold Ii at h
 rw [List.any_eq_true] at h
 obtain ⟨⟨j',d',v⟩,hq,h⟩:=h
 rw [Bool.and_eq_true,Bool.and_eq_true] at h
 obtain ⟨h1,h2,h3⟩:=h
 obtain rfl:j'=j:=Nat.eq_of_beq_eq_true h1
 obtain rfl:d'=d:=Nat.eq_of_beq_eq_true h2
 cases v with
 | bool c=>cases b <;> cases c <;> first | exact hq | (cases h3; done)
 | _=>cases h3
def ZO (sl:LQ):List Nat→Bool
 | [j,d,b]=>Ii sl (j - 1000000) (d - 1000000) (Nat.beq b 1000001)
 | _=>true
def gdB (U:LL) (sl:LQ):Bool:=bif Nat.ble 1000000 ((U.getLastD []).headD 0) then ZO sl (U.getLastD []) else true
def DV (U:LL) (sl:LQ) (ms:MM):Bool:=(U.all fun us=>us.all fun j=>ms.all fun a=>!Nat.beq a.j j) && gdB U sl
inductive AD {R S:Type} (tq:Bool) (P:Program) (cx:Cx R) (K:ch R S) (l tail:LO) (base:Fr) (U:LL):List aq→JA R S→Prop
 | nil {hd:QE} {i:Nat} {sl:LQ} {ms:MM} {Γ:QE} {m:Option (Out S R)} (tN:BY ms=true) (he:DV U sl ms=true) (h:∀ x:ks ms,D P cx (.p (Ay sl (mF ms x)) (DU ms x) base Γ fun fr Γ=>.tg tq (BT tail) l tail K Γ fr m)):AD tq P cx K l tail base U hd (.a [] [] i sl ms Γ m)
 | abs {hd:QE} {as:LL} {ops:LO} {i:Nat} {sl:LQ} {ms:MM} {Γ:QE}:AD tq P cx K l tail base U hd (.a as ops i sl ms Γ none)
 | gbt {hd:QE} {j d:Nat} {b:Bool} {q:Nat×Nat×Value} {as:LL} {ops:LO} {i:Nat} {sl:LQ} {ms:MM} {Γ:QE} {m:Option (Out S R)} (h:AD tq P cx K l tail base U hd (.a as ops i (q :: (j,d,.bool true) :: sl) ms Γ m)):AD tq P cx K l tail base U hd (.a as ops i ((j,d,.bool b) :: q :: sl) ms Γ (bif b then m else none))
 | gbf {hd:QE} {j d:Nat} {b:Bool} {q:Nat×Nat×Value} {as:LL} {ops:LO} {i:Nat} {sl:LQ} {ms:MM} {Γ:QE} {m:Option (Out S R)} (h:AD tq P cx K l tail base U hd (.a as ops i (q :: (j,d,.bool false) :: sl) ms Γ m)):AD tq P cx K l tail base U hd (.a as ops i ((j,d,.bool b) :: q :: sl) ms Γ (bif b then none else m))
 | skp {hd:QE} {A:LN} {dst:Option Nat} {op:Op} {ty:TI} {pos:String} {ab:Array Edge} {j d:Nat} {p:Bool} {as:LL} {ops:LO} {i:Nat} {sl:LQ} {ms:MM} {Γ:QE} {m:Option (Out S R)} (fx:bj l j=some d) (hb:Ii sl j d (!p)=true) (hA:cw j A=true) (h:AD tq P cx K l tail base U hd (.a as ops (i+1) sl ms Γ m)):AD tq P cx K l tail base U hd (.a (A :: as) (⟨dst,op,ty,pos,ab,some (j,p)⟩ :: ops) i sl ms Γ m)
 | cons {hd:QE} {A:LN} {as:LL} {op:Op} {d:Nat} {ty:TI} {pos:String} {ab:Array Edge} {ops:LO} {i:Nat} {sl:LQ} {ms:MM} {Γ:QE} {m:Option (Out S R)} (h:AD tq P cx K l tail base U hd (.o A op d ty as ops i sl ms Γ m)) :
   AD tq P cx K l tail base U hd (.a (A :: as) (⟨some d,op,ty,pos,ab,none⟩ :: ops) i sl ms Γ m)
 | LS {hd:QE} {A:LN} {as:LL} {op:Op} {ty:TI} {pos:String} {ab:Array Edge} {ops:LO} {i:Nat} {sl:LQ} {ms:MM} {Γ:QE} {m:Option (Out S R)} (h:AD tq P cx K l tail base U hd (.os A op ty as ops i sl ms Γ m)) :
   AD tq P cx K l tail base U hd (.a (A :: as) (⟨none,op,ty,pos,ab,none⟩ :: ops) i sl ms Γ m)
 | Vi {hd:QE} {t e:TI} {t1 j1 n:Nat} {y:OO} {u:Value} {us cs ds:LV} {fq:MM} {fr:Fr} {A:LN} {as:LL} {ty:TI} {ops:LO} {i:Nat} {sl:LQ} {ms:MM} {Γ:QE} {m:Option (Out S R)} [ht:sI P t n]
   (h1:jr ms t1 ⟨j1,t1,[],Nat,fun _ b=>.pointer (some ⟨b,0,none⟩),fun _ b=>[.row b cs e]⟩ fq) (hv:dM A none sl base fr) (hy:ay fr y=some u) (hc:rU Γ u us) (hn:us.length=n) (hs:sJ us 0 cs ds) (ho:uZ Γ us) (h4:cw j1 A=true) (h6:U.getD i []=[j1])
   (h:AD tq P cx K l tail base U hd (.a as ops (i+1) sl (⟨i,t1,[],Nat,fun _ b=>.pointer (some ⟨b,0,none⟩),fun _ b=>[.row b ds e]⟩ :: fq) Γ m)):AD tq P cx K l tail base U hd (.os A (.store t (.tmp t1) y) ty as ops i sl ms Γ m)
 | H5 {hd:QE} {α:Type} {A:LN} {as:LL} {d:Nat} {t e ty:TI} {E:ah α} {z0:α} {bt:Nat} {ops:LO} {i:Nat} {sl:LQ} {ms:MM} {Γ:QE} {m:Option (Out S R)} [hz:mz P t α e E z0 bt]
   (h:AD tq P cx K l tail base U hd (.a as ops (i+1) sl (⟨i,d,[],Value,fun _ v=>v,fun _ v=>[.own (aJ e E) v []]⟩ :: ms) Γ m)):AD tq P cx K l tail base U hd (.o A (.buildSlice t 0 #[]) d ty as ops i sl ms Γ m)
 | sw4 {hd:QE} {t st e:Nat} {α:Type} {E:ah α} {z0:α} {bt:Nat} {b:Bool} {A:LN} {as:LL} {d:Nat} {ty:TI} {ops:LO} {i:Nat} {sl:LQ} {ms:MM} {Γ:QE} {m:Option (Out S R)} [hz:mz P st α e E z0 bt] (hw:Ds ms t b) (h:AD tq P cx K l tail base U hd (.ow b A (.buildSlice st 1 #[(0,.tmp t)]) d ty as ops i sl ms Γ m)):AD tq P cx K l tail base U hd (.o A (.buildSlice st 1 #[(0,.tmp t)]) d ty as ops i sl ms Γ m)
 | ltn {hd:QE} {t e:TI} {n:Nat} {ps:List (Nat×Operand)} {us:LV} {fr:Fr} {A:LN} {as:LL} {d:Nat} {ty:TI} {ops:LO} {i:Nat} {sl:LQ} {ms:MM} {Γ:QE} {m:Option (Out S R)} [hz:HW P t e] (hv:dM A none sl base fr) (hl:vK Γ fr 0 ps us) (hn:us.length=n) (hb:(Nat.ble 1 n && Nat.ble n 16777216)=true)
   (h:AD tq P cx K l tail base U hd (.a as ops (i+1) sl (⟨i,d,[],Nat,fun _ b=>.slice (some ⟨b,0,none⟩) n n,fun _ b=>[.row b us e]⟩ :: ms) Γ m)):AD tq P cx K l tail base U hd (.o A (.buildSlice t n ps.toArray) d ty as ops i sl ms Γ m)
 | ltu {hd:QE} {t e:TI} {n:Nat} {ps:List (Nat×Operand)} {us:LV} {fr:Fr} {A:LN} {as:LL} {d:Nat} {ty:TI} {ops:LO} {i:Nat} {sl:LQ} {ms:MM} {Γ:QE} {m:Option (Out S R)} [hz:GN P t e] (hv:dM A none sl base fr) (hl:vK Γ fr 0 ps us) (hn:us.length=n) (hb:(Nat.ble 1 n && Nat.ble n 16777216)=true)
   (h:AD tq P cx K l tail base U hd (.a as ops (i+1) sl (⟨i,d,[],Nat,fun _ b=>.slice (some ⟨b,0,none⟩) n n,fun _ b=>[.row b us e]⟩ :: ms) Γ m)):AD tq P cx K l tail base U hd (.o A (.buildSlice t n ps.toArray) d ty as ops i sl ms Γ m)
 | sw1 {hd:QE} {t:Nat} {b:Bool} {A:LN} {as:LL} {d:Nat} {ty:TI} {ops:LO} {i:Nat} {sl:LQ} {ms:MM} {Γ:QE} {m:Option (Out S R)} (hw:Ds ms t b) (h:AD tq P cx K l tail base U hd (.ow b A (.move (.tmp t)) d ty as ops i sl ms Γ m)):AD tq P cx K l tail base U hd (.o A (.move (.tmp t)) d ty as ops i sl ms Γ m)
 | sw2 {hd:QE} {t k:Nat} {b:Bool} {A:LN} {as:LL} {d:Nat} {ty:TI} {ops:LO} {i:Nat} {sl:LQ} {ms:MM} {Γ:QE} {m:Option (Out S R)} (hw:Ds ms t b) (h:AD tq P cx K l tail base U hd (.ow b A (.extract (.tmp t) k) d ty as ops i sl ms Γ m)):AD tq P cx K l tail base U hd (.o A (.extract (.tmp t) k) d ty as ops i sl ms Γ m)
 | sw3 {hd:QE} {s t k:Nat} {b:Bool} {A:LN} {as:LL} {d:Nat} {ty:TI} {ops:LO} {i:Nat} {sl:LQ} {ms:MM} {Γ:QE} {m:Option (Out S R)} (hw:Ds ms t b) (h:AD tq P cx K l tail base U hd (.ow b A (.field s (.tmp t) k) d ty as ops i sl ms Γ m)):AD tq P cx K l tail base U hd (.o A (.field s (.tmp t) k) d ty as ops i sl ms Γ m)
 | sw6 {hd:QE} {t:Nat} {it:TI} {b:Bool} {A:LN} {as:LL} {d:Nat} {ty:TI} {ops:LO} {i:Nat} {sl:LQ} {ms:MM} {Γ:QE} {m:Option (Out S R)} (hw:Ds ms t b) (h:AD tq P cx K l tail base U hd (.ow b A (.makeInterface it (.tmp t)) d ty as ops i sl ms Γ m)):AD tq P cx K l tail base U hd (.o A (.makeInterface it (.tmp t)) d ty as ops i sl ms Γ m)
 | wlt {hd:QE} {t e:TI} {α:Type} {E:ah α} {z0:α} {bt:Nat} {u:Value} {x:OO} {fr:Fr} {A:LN} {as:LL} {d:Nat} {ty:TI} {ops:LO} {i:Nat} {sl:LQ} {ms:MM} {Γ:QE} {m:Option (Out S R)} [hz:mz P t α e E z0 bt] (hv:dM A none sl base fr) (hx:ay fr x=some u) (h1:One Γ u)
   (h:AD tq P cx K l tail base U hd (.a as ops (i+1) sl (⟨i,d,[],Nat,fun _ b=>.slice (some ⟨b,0,none⟩) 1 1,fun _ b=>[.row b [u] e]⟩ :: ms) Γ m)):AD tq P cx K l tail base U hd (.ow false A (.buildSlice t 1 #[(0,x)]) d ty as ops i sl ms Γ m)
 | sw5 {hd:QE} {t st:Nat} {b:Bool} {A:LN} {as:LL} {d:Nat} {ty:TI} {ops:LO} {i:Nat} {sl:LQ} {ms:MM} {Γ:QE} {m:Option (Out S R)} (hw:Ds ms t b) (h:AD tq P cx K l tail base U hd (.ow b A (.call ⟨.builtin .len,#[.tmp t],#[st]⟩) d ty as ops i sl ms Γ m)):AD tq P cx K l tail base U hd (.o A (.call ⟨.builtin .len,#[.tmp t],#[st]⟩) d ty as ops i sl ms Γ m)
 | mln {hd:QE} {t n:Nat} {st:TI} {A:LN} {as:LL} {d:Nat} {ty:TI} {ops:LO} {i:Nat} {sl:LQ} {ms:MM} {Γ:QE} {m:Option (Out S R)} [ht:tT P st] (hi:jj ms) (tN:j7 A ms=true) (hx:∀ x:ks ms,Vx (jg A ms x) (px A ms x) t n) (h:AD tq P cx K l tail base U hd (.a as ops (i+1) ((i,d,.int .i64 (n:Int)) :: sl) ms Γ m)):AD tq P cx K l tail base U hd (.ow true A (.call ⟨.builtin .len,#[.tmp t],#[st]⟩) d ty as ops i sl ms Γ m)
 | Vy {hd:QE} {t:TI} {cs:LV} {A:LN} {as:LL} {d:Nat} {ty:TI} {ops:LO} {i:Nat} {sl:LQ} {ms:MM} {Γ:QE} {m:Option (Out S R)} [hz:zO P t cs] (h:AD tq P cx K l tail base U hd (.a as ops (i+1) sl (⟨i,d,[],Nat,fun _ b=>.pointer (some ⟨b,0,none⟩),fun _ b=>[.row b cs t]⟩ :: ms) Γ m)):AD tq P cx K l tail base U hd (.o A (.alloc t) d ty as ops i sl ms Γ m)
 | wl0 {hd:QE} {st:TI} {c:Value} {A:LN} {as:LL} {d:Nat} {ty:TI} {ops:LO} {i:Nat} {sl:LQ} {ms:MM} {Γ:QE} {m:Option (Out S R)} (h:AD tq P cx K l tail base U hd (.ow false A (.buildSlice st 1 #[(0,.const c)]) d ty as ops i sl ms Γ m)):AD tq P cx K l tail base U hd (.o A (.buildSlice st 1 #[(0,.const c)]) d ty as ops i sl ms Γ m)
 | Vh {hd:QE} {us:LN} {t1 t2:Nat} {t:TI} {A:LN} {as:LL} {d:Nat} {ty:TI} {ops:LO} {i:Nat} {sl:LQ} {ms:MM} {Γ:QE} {m:Option (Out S R)} (hU:U.getD i []=us) (h:AD tq P cx K l tail base U hd (.ap us t1 t2 t A d ty as ops i sl ms Γ m)):AD tq P cx K l tail base U hd (.o A (.call ⟨.builtin .append,#[.tmp t1,.tmp t2],#[t,t]⟩) d ty as ops i sl ms Γ m)
 | apH {hd fx:QE} {α:Type} {t e e' et:TI} {E E':ah α} {z0:α} {bt t1 t2 j2:Nat} {v u yv:Value} {j:Int} {y:α} {z:List α} {xs:List (List α)} {o1 o2:Bool} {Γx:QE} {oj:MM} {fr:Fr} {f:Unit→Option (Out S R)} {A:LN} {as:LL} {d:Nat} {ty:TI} {ops:LO} {i:Nat} {sl:LQ} {ms:MM} {Γ:QE} [hT:mz P t α e E z0 bt]
   (hV:((U.set i []).all fun us=>!(us.contains l.length))=true) (hv:dM A none sl base fr) (hs:look fr t1=some u) (h2:jr ms t2 ⟨j2,t2,[],Nat,fun _ b=>.slice (some ⟨b,0,none⟩) 1 1,fun _ b=>[.row b [yv] et]⟩ oj) (h5:cw j2 A=true) (hl:Loc hd u (.row v j)) (hz:lr hd u o1 o2 E' z o6 Γx) (h1:bz hd (.own (aJ e' (aJ e E)) v xs) fx) (hr:RT (aJ e E) (aV E')) (hy:BG [] E yv y [])
   (h:AD tq P cx K l tail base U fx (.a as ops (i+1) sl (⟨i,d,[],Value,fun _ v'=>v',fun _ v'=>[.own (aJ e E) v' (z++[y]),.own (qp e' (aJ e E) j.toNat) v xs]⟩ :: ms) Γ (f ()))):AD tq P cx K l tail base U hd (.ap [l.length] t1 t2 t A d ty as ops i sl ms Γ (fits bt (z.length+1)>>=f))
 | apL {hd fx:QE} {t e e' e3 et:TI} {kk:IntKind} {E':ah (List Int)} {z0:List Int} {bt t1 t2 t3 j2 j3 n:Nat} {v u:Value} {us:LV} {j:Int} {ys:List Int} {z:List (List Int)} {xs:List (List (List Int))} {o1 o2:Bool} {Γx:QE} {oj wq:MM} {fr:Fr} {f:Unit→Option (Out S R)} {A:LN} {as:LL} {d:Nat} {ty:TI} {ops:LO} {i:Nat} {sl:LQ} {ms:MM} {Γ:QE} [hT:mz P t (List Int) e (aJ e3 (aN kk)) z0 bt]
   (hV:((U.set i []).all fun us=>!(us.contains l.length))=true) (hv:dM A none sl base fr) (hs:look fr t1=some u) (h2:jr ms t2 ⟨j2,t2,[t3],Nat,fun _ b=>.slice (some ⟨b,0,none⟩) 1 1,fun u b=>[.row b [u] et]⟩ oj) (h3:jr oj t3 ⟨j3,t3,[],Nat,fun _ b=>.slice (some ⟨b,0,none⟩) n n,fun _ b=>[.row b us e3]⟩ wq) (h5:cw j2 A=true) (h6:cw j3 A=true) (hl:Loc hd u (.row v j)) (hz:lr hd u o1 o2 E' z o6 Γx) (h1:bz hd (.own (aJ e' (aJ e (aJ e3 (aN kk)))) v xs) fx) (hr:RT (aJ e (aJ e3 (aN kk))) (aV E')) (hi:w5 kk us ys) (hn:us.length=n) (hb:Nat.ble n 16777216=true)
   (h:AD tq P cx K l tail base U fx (.a as ops (i+1) sl (⟨i,d,[],Value,fun _ v'=>v',fun _ v'=>[.own (aJ e (aJ e3 (aN kk))) v' (z++[ys]),.own (qp e' (aJ e (aJ e3 (aN kk))) j.toNat) v xs]⟩ :: wq) Γ (f ()))):AD tq P cx K l tail base U hd (.ap [l.length,j3] t1 t2 t A d ty as ops i sl ms Γ (fits bt (z.length+1)>>=f))
 | apM {hd:QE} {t e e3 et:TI} {kk:IntKind} {z0:List Int} {bt t1 t2 t3 j1 j2 j3 n:Nat} {us:LV} {ys:List Int} {z:List (List Int)} {a1:ez} {fq oj wq:MM} {f:Unit→Option (Out S R)} {A:LN} {as:LL} {d:Nat} {ty:TI} {ops:LO} {i:Nat} {sl:LQ} {ms:MM} {Γ:QE} [hT:mz P t (List Int) e (aJ e3 (aN kk)) z0 bt]
   (h1:jr ms t1 a1 fq) (h2:jr fq t2 ⟨j2,t2,[t3],Nat,fun _ b=>.slice (some ⟨b,0,none⟩) 1 1,fun u b=>[.row b [u] et]⟩ oj) (h3:jr oj t3 ⟨j3,t3,[],Nat,fun _ b=>.slice (some ⟨b,0,none⟩) n n,fun _ b=>[.row b us e3]⟩ wq) (hp:∀ u v,a1.ps u v=[.own (aJ e (aJ e3 (aN kk))) (a1.rt u v) z]) (hj:a1.j=j1) (mc:Nat.beq j1 j3=false) (h4:cw j1 A=true) (h5:cw j2 A=true) (h6:cw j3 A=true) (hi:w5 kk us ys) (hn:us.length=n) (hb:Nat.ble n 16777216=true)
   (h:AD tq P cx K l tail base U hd (.a as ops (i+1) sl (⟨i,d,[],Value,fun _ v'=>v',fun _ v'=>[.own (aJ e (aJ e3 (aN kk))) v' (z++[ys])]⟩ :: wq) Γ (f ()))):AD tq P cx K l tail base U hd (.ap [j1,j3] t1 t2 t A d ty as ops i sl ms Γ (fits bt (z.length+1)>>=f))
 | ap1 {hd:QE} {us:LN} {t e et:TI} {E:ah Int} {z0:Int} {bt t1 t2 j2 d2:Nat} {k:IntKind} {y:Int} {xs:List Int} {a1:ez} {fq oj:MM} {f:Unit→Option (Out S R)} {A:LN} {as:LL} {d:Nat} {ty:TI} {ops:LO} {i:Nat} {sl:LQ} {ms:MM} {Γ:QE} [hz:mz P t Int e E z0 bt] (h1:jr ms t1 a1 fq) (h2:jr fq t2 ⟨j2,d2,[],Nat,fun _ b=>.slice (some ⟨b,0,none⟩) 1 1,fun _ b=>[.row b [.int k y] et]⟩ oj) (h3:∀ u v,a1.ps u v=[.own (aJ e (aN k)) (a1.rt u v) xs]) (hu:us=[a1.j]) (h4:cw a1.j A=true) (h5:cw j2 A=true)
   (h:AD tq P cx K l tail base U hd (.a as ops (i+1) sl (⟨i,d,[],Value,fun _ v=>v,fun _ v=>[.own (aJ e (aN k)) v (xs++[y])]⟩ :: fq) Γ (f ()))):AD tq P cx K l tail base U hd (.ap us t1 t2 t A d ty as ops i sl ms Γ (fits bt (xs.length+1)>>=f))
 | wv {hd:QE} {op:Op} {u:Value} {fr:Fr} {A:LN} {as:LL} {d:Nat} {ty:TI} {ops:LO} {i:Nat} {sl:LQ} {ms:MM} {Γ:QE} {m:Option (Out S R)} (hv:dM A none sl base fr) (hq:VQ P Γ fr op u) (h:AD tq P cx K l tail base U hd (.a as ops (i+1) ((i,d,u) :: sl) ms Γ m)):AD tq P cx K l tail base U hd (.ow false A op d ty as ops i sl ms Γ m)
 | mmv {hd:QE} {t:Nat} {A:LN} {as:LL} {d:Nat} {ty:TI} {ops:LO} {i:Nat} {sl:LQ} {ms:MM} {Γ:QE} {m:Option (Out S R)} (hi:jj ms) (tN:j7 A ms=true) (hj:∃ j,ou t ms=some j∧cw j A=true) (h:AD tq P cx K l tail base U hd (.a as ops (i+1) sl (⟨i,d,[t],Unit,fun u _=>u,fun _ _=>[]⟩ :: ms) Γ m)):AD tq P cx K l tail base U hd (.ow true A (.move (.tmp t)) d ty as ops i sl ms Γ m)
 | mbl {hd:QE} {t:TI} {ps:List (Nat×Operand)} {zc:LV} {pl:List (Nat×Nat)} {fr:Fr} {A:LN} {as:LL} {d:Nat} {ty:TI} {ops:LO} {i:Nat} {sl:LQ} {ms:MM} {Γ:QE} {m:Option (Out S R)} [hb:yQ P t zc pl] (hi:jj ms) (tN:j7 A ms=true) (mc:(Ax ms ps).isEmpty=false) (hj:tsB A ms (Ax ms ps)=true) (hv:dM A none sl base fr)
   (hx:∀ x:ks ms,xe (px A ms x++Γ) (jg A ms x++fr) pl ps zc (Vu pl fr (Ax ms ps) ps zc (zE (yT (mF ms x)) (Ax ms ps))))
   (h:AD tq P cx K l tail base U hd (.a as ops (i+1) sl (⟨i,d,Ax ms ps,Unit,fun u _=>.agg (Vu pl fr (Ax ms ps) ps zc u).toArray,fun _ _=>[]⟩ :: ms) Γ m)):AD tq P cx K l tail base U hd (.o A (.build t ps.toArray) d ty as ops i sl ms Γ m)
 | mex {hd:QE} {t k:Nat} {A:LN} {as:LL} {d:Nat} {ty:TI} {ops:LO} {i:Nat} {sl:LQ} {ms:MM} {Γ:QE} {m:Option (Out S R)} (hi:jj ms) (tN:j7 A ms=true) (hj:∃ j,ou t ms=some j∧cw j A=true) (hx:∀ x:ks ms,Vw (jg A ms x) t k) (h:AD tq P cx K l tail base U hd (.a as ops (i+1) sl (⟨i,d,[t],Unit,fun u _=>LU u k,fun _ _=>[]⟩ :: ms) Γ m)):AD tq P cx K l tail base U hd (.ow true A (.extract (.tmp t) k) d ty as ops i sl ms Γ m)
 | mfd {hd:QE} {s t k off:Nat} {A:LN} {as:LL} {d:Nat} {ty:TI} {ops:LO} {i:Nat} {sl:LQ} {ms:MM} {Γ:QE} {m:Option (Out S R)} [hf:U5 P s k off] (hi:jj ms) (tN:j7 A ms=true) (hj:∃ j,ou t ms=some j∧cw j A=true) (hx:∀ x:ks ms,Vv (jg A ms x) t off) (h:AD tq P cx K l tail base U hd (.a as ops (i+1) sl (⟨i,d,[t],Unit,fun u _=>LW u off,fun _ _=>[]⟩ :: ms) Γ m)):AD tq P cx K l tail base U hd (.ow true A (.field s (.tmp t) k) d ty as ops i sl ms Γ m)
 | mif {hd:QE} {t:Nat} {it:TI} {A:LN} {as:LL} {d:Nat} {ty:TI} {ops:LO} {i:Nat} {sl:LQ} {ms:MM} {Γ:QE} {m:Option (Out S R)} [hf:IFc P it] (hi:jj ms) (tN:j7 A ms=true) (hj:∃ j,ou t ms=some j∧cw j A=true) (h:AD tq P cx K l tail base U hd (.a as ops (i+1) sl (⟨i,d,[t],Unit,fun u _=>.iface it u,fun _ _=>[]⟩ :: ms) Γ m)):AD tq P cx K l tail base U hd (.ow true A (.makeInterface it (.tmp t)) d ty as ops i sl ms Γ m)
 | mlt {hd:QE} {t:Nat} {NU e:TI} {α:Type} {E:ah α} {z0:α} {bt:Nat} {A:LN} {as:LL} {d:Nat} {ty:TI} {ops:LO} {i:Nat} {sl:LQ} {ms:MM} {Γ:QE} {m:Option (Out S R)} [hz:mz P NU α e E z0 bt] (hi:jj ms) (tN:j7 A ms=true) (hj:∃ j,ou t ms=some j∧cw j A=true) (hx:∀ x:ks ms,Qk (jg A ms x) (px A ms x) t)
   (h:AD tq P cx K l tail base U hd (.a as ops (i+1) sl (⟨i,d,[t],Nat,fun _ b=>.slice (some ⟨b,0,none⟩) 1 1,fun u b=>[.row b [u] e]⟩ :: ms) Γ m)):AD tq P cx K l tail base U hd (.ow true A (.buildSlice NU 1 #[(0,.tmp t)]) d ty as ops i sl ms Γ m)
 | mls {hd:QE} {t n:Nat} {NU e:TI} {A:LN} {as:LL} {d:Nat} {ty:TI} {ops:LO} {i:Nat} {sl:LQ} {ms:MM} {Γ:QE} {m:Option (Out S R)} [hz:Nx P NU e n] (hb:(Nat.ble 1 1 && Nat.ble (1 * n) 16777216)=true) (hi:jj ms) (tN:j7 A ms=true) (hj:∃ j,ou t ms=some j∧cw j A=true) (hx:∀ x:ks ms,Ql (jg A ms x) t n)
   (h:AD tq P cx K l tail base U hd (.a as ops (i+1) sl (⟨i,d,[t],Nat,fun _ b=>.slice (some ⟨b,0,none⟩) 1 1,fun u b=>[.row b u.cells.toList e]⟩ :: ms) Γ m)):AD tq P cx K l tail base U hd (.o A (.buildSlice NU 1 #[(0,.tmp t)]) d ty as ops i sl ms Γ m)
 | mk {hd:QE} {t e:TI} {α:Type} {E:ah α} {z0:α} {bt:Nat} {x:OO} {z:Int} {fr:Fr} {f:Nat→Option (Out S R)} {A:LN} {as:LL} {d:Nat} {ty:TI} {ops:LO} {i:Nat} {sl:LQ} {ms:MM} {Γ:QE} [hz:mz P t α e E z0 bt] (hv:dM A none sl base fr) (hx:ay fr x=some (.int .i64 z))
   (h:∀ n,AD tq P cx K l tail base U hd (.a as ops (i+1) sl (⟨i,d,[],Value,fun _ v=>v,fun _ v=>[.own (aJ e E) v (List.replicate n z0)]⟩ :: ms) Γ (f n))):AD tq P cx K l tail base U hd (.o A (.makeSlice t x x) d ty as ops i sl ms Γ (mk bt z>>=f))
 | ixs {hd:QE} {b:Bool} {v:Value} {x y:OO} {t:TI} {fr:Fr} {A:LN} {as:LL} {d:Nat} {ty:TI} {ops:LO} {i:Nat} {sl:LQ} {ms:MM} {Γ:QE} {m:Option (Out S R)} (hv:dM A none sl base fr) (hx:ay fr x=some v) (hw:KH hd v b) (h:AD tq P cx K l tail base U hd (.ix b v fr x y t A d ty as ops i sl ms Γ m)):AD tq P cx K l tail base U hd (.o A (.indexAddr t x y) d ty as ops i sl ms Γ m)
 | idx {hd:QE} {α:Type} {A:LN} {as:LL} {d:Nat} {x y:OO} {v:Value} {k:IntKind} {j:Int} {t ty:TI} {o1 o2:Bool} {E:ah α} {xs:List α} {ops:LO} {i:Nat} {sl:LQ} {ms:MM} {fr:Fr} {Γ:QE} {Γ':α→List aq} {f:α→Option (Out S R)} [ht:tT P t]
   (hy:ay fr y=some (.int k j)) (hr:∀ z,lr Γ v o1 o2 E xs (.ad o1 o2 v j E z) (Γ' z)) (hE:E.size=1)
   (h:∀ z,AD tq P cx K l tail base U hd (.a as ops (i+1) ((i,d,.pointer (some (cn v 1 j))) :: sl) ms (Γ' z) (f z))):AD tq P cx K l tail base U hd (.ix false v fr x y t A d ty as ops i sl ms Γ (idx xs j>>=f))
 | acd {hd:QE} {α:Type} {A:LN} {as:LL} {d:Nat} {x y:OO} {v:Value} {k:IntKind} {j:Int} {t ty:TI} {o1 o2:Bool} {E:ah α} {xs:List α} {ops:LO} {i:Nat} {sl:LQ} {ms:MM} {fr:Fr} {Γ:QE} {fx:α→List aq} {f:α→Option (Out S R)} [ht:tT P t]
   (hy:ay fr y=some (.int k j)) (hr:∀ z,lr hd v o1 o2 E xs (.ad o1 o2 v j E z) (fx z)) (hE:E.size=1)
   (h:∀ z,AD tq P cx K l tail base U (fx z) (.a as ops (i+1) ((i,d,.pointer (some (cn v 1 j))) :: sl) ms Γ (f z))):AD tq P cx K l tail base U hd (.ix true v fr x y t A d ty as ops i sl ms Γ (idx xs j>>=f))
 | load {hd:QE} {A:LN} {as:LL} {d:Nat} {x:OO} {a:Addr} {t ty:TI} {lk:Option Nat} {ops:LO} {i:Nat} {sl:LQ} {ms:MM} {fr:Fr} {Γ:QE} {m:Option (Out S R)} [ht:LK P t lk] (hv:dM A none sl base fr) (hx:ay fr x=some (.pointer (some a)))
   (h:AD tq P cx K l tail base U hd (.la fr a lk t x A d ty as ops i sl ms Γ m)):AD tq P cx K l tail base U hd (.o A (.load t x) d ty as ops i sl ms Γ m)
 | lsw {hd:QE} {b:Bool} {v:Value} {j:Int} {x:OO} {t:TI} {fr:Fr} {A:LN} {as:LL} {d:Nat} {ty:TI} {ops:LO} {i:Nat} {sl:LQ} {ms:MM} {Γ:QE} {m:Option (Out S R)} (hw:KH hd v b) (h:AD tq P cx K l tail base U hd (.lb b v j fr t x A d ty as ops i sl ms Γ m)):AD tq P cx K l tail base U hd (.la fr (cn v 1 j) none t x A d ty as ops i sl ms Γ m)
 | Va {hd:QE} {α:Type} {A:LN} {as:LL} {d:Nat} {x:OO} {v:Value} {j:Int} {o:Bool} {E:ah α} {z:α} {t ty:TI} {ops:LO} {i:Nat} {sl:LQ} {ms:MM} {fr:Fr} {Γ Γx:QE} {m:Option (Out S R)} (h:uY Γ (cn v 1 j) o E z o6 Γx)
   (k:AD tq P cx K l tail base U hd (.ld E z fr (cn v 1 j) t x A d ty as ops i sl ms Γ m)):AD tq P cx K l tail base U hd (.lb false v j fr t x A d ty as ops i sl ms Γ m)
 | ace {hd:QE} {α:Type} {A:LN} {as:LL} {d:Nat} {x:OO} {v:Value} {j:Int} {E:ah α} {z:List α} {o:Bool} {t ty:TI} {ops:LO} {i:Nat} {sl:LQ} {ms:MM} {fr:Fr} {Γ:QE} {Vz fx:Value→List aq} {m:Option (Out S R)} (hV:((U.zipIdx.all fun p=>!(p.1.contains l.length) || ((cf l).getD p.2 []).contains i))=true) (h:∀ u,uY hd (cn v 1 j) o (aV E) z (.rd o (aV E) u z) (Vz u)) (h2:∀ u,zC (Vz u) v j u (fx u))
   (k:∀ u,AD tq P cx K l tail base U (fx u) (.a as ops (i+1) ((i,d,u) :: sl) ms Γ m)):AD tq P cx K l tail base U hd (.lb true v j fr t x A d ty as ops i sl ms Γ m)
 | Vb {hd:QE} {A:LN} {as:LL} {d:Nat} {x:OO} {a:Addr} {u:Value} {t ty:TI} {ops:LO} {i:Nat} {sl:LQ} {ms:MM} {fr:Fr} {Γ:QE} {m:Option (Out S R)} (h:o5 Γ a u)
   (k:AD tq P cx K l tail base U hd (.a as ops (i+1) ((i,d,u) :: sl) ms Γ m)):AD tq P cx K l tail base U hd (.la fr a none t x A d ty as ops i sl ms Γ m)
 | NB {hd:QE} {A:LN} {as:LL} {d n:Nat} {x:OO} {a:Addr} {ds:LV} {t ty:TI} {ops:LO} {i:Nat} {sl:LQ} {ms:MM} {fr:Fr} {Γ:QE} {m:Option (Out S R)} (h:ug Γ a n ds)
   (k:AD tq P cx K l tail base U hd (.a as ops (i+1) ((i,d,.agg ds.toArray) :: sl) ms Γ m)):AD tq P cx K l tail base U hd (.la fr a (some n) t x A d ty as ops i sl ms Γ m)
 | Vc {hd:QE} {A:LN} {as:LL} {d:Nat} {x:OO} {a:Addr} {k:IntKind} {z:Int} {t ty:TI} {ops:LO} {i:Nat} {sl:LQ} {ms:MM} {fr:Fr} {Γ:QE} {m:Option (Out S R)}
   (h:AD tq P cx K l tail base U hd (.a as ops (i+1) ((i,d,.int k z) :: sl) ms Γ m)):AD tq P cx K l tail base U hd (.ld (aN k) z fr a t x A d ty as ops i sl ms Γ m)
 | Vd {hd:QE} {A:LN} {as:LL} {d:Nat} {x:OO} {a:Addr} {z:Bool} {t ty:TI} {ops:LO} {i:Nat} {sl:LQ} {ms:MM} {fr:Fr} {Γ:QE} {m:Option (Out S R)}
   (h:AD tq P cx K l tail base U hd (.a as ops (i+1) ((i,d,.bool z) :: sl) ms Γ m)):AD tq P cx K l tail base U hd (.ld jc z fr a t x A d ty as ops i sl ms Γ m)
 | Ve {hd:QE} {α:Type} {A:LN} {as:LL} {d:Nat} {x:OO} {v:Value} {j:Int} {E:ah α} {z:List α} {o:Bool} {t ty:TI} {ops:LO} {i:Nat} {sl:LQ} {ms:MM} {fr:Fr} {Γ:QE} {Γ1 Γ':Value→List aq} {m:Option (Out S R)} (h:∀ u,uY Γ (cn v 1 j) o (aV E) z (.rd o (aV E) u z) (Γ1 u)) (h2:∀ u,zC (Γ1 u) v j u (Γ' u))
   (k:∀ u,AD tq P cx K l tail base U hd (.a as ops (i+1) ((i,d,u) :: sl) ms (Γ' u) m)):AD tq P cx K l tail base U hd (.ld (aV E) z fr (cn v 1 j) t x A d ty as ops i sl ms Γ m)
 | Nz {hd:QE} {us:LN} {A:LN} {as:LL} {d:Nat} {f:FuncId} {xs:List Operand} {au:Array TypeId} {ty:TI} {ops:LO} {i:Nat} {sl:LQ} {ms:MM} {Γ:QE} {m:Option (Out S R)} (hU:U.getD i []=us) (h:AD tq P cx K l tail base U hd (.oc us f xs au A d ty as ops i sl ms Γ m)):AD tq P cx K l tail base U hd (.o A (.call ⟨.value (.func f),xs.toArray,au⟩) d ty as ops i sl ms Γ m)
 | acf {hd:QE} {β V:Type} {A:LN} {as:LL} {d:Nat} {f:FuncId} {fs bs:LV} {xo:OO} {xs:List Operand} {au:Array TypeId} {ty:TI} {mo:Option β} {rt:β→V→List Value} {ps:β→V→List aq} {ops:LO} {i:Nat} {sl:LQ} {ms:MM} {fr:Fr} {Γ:QE} {g:β→Option (Out S R)}
   (hv:dM A none sl base fr) (hx:ay fr xo=some (.func (.func f) fs.toArray bs.toArray)) (hf:FnJ P f) (hc:∀ x:ks ms,ED P f fs bs xs (jg A ms x++fr) (px A ms x++Γ) mo rt ps) (hi:jj ms) (tN:j7 A ms=true) (ho:∀ y v,qu (ps y v)=true)
   (h:∀ y,AD tq P cx K l tail base U hd (.cr (fun v=>l7 (rt y v)) (ps y) d as ops i sl ms Γ (g y))):AD tq P cx K l tail base U hd (.o A (.call ⟨.value xo,xs.toArray,au⟩) d ty as ops i sl ms Γ (mo>>=g))
 | acg {hd:QE} {β V:Type} {A:LN} {as:LL} {d:Nat} {f:FuncId} {it:TI} {name nm:String} {u:Value} {xo:OO} {xs:List Operand} {au:Array TypeId} {ty:TI} {mo:Option β} {rt:β→V→List Value} {ps:β→V→List aq} {ops:LO} {i:Nat} {sl:LQ} {ms:MM} {fr:Fr} {Γ:QE} {g:β→Option (Out S R)}
   (hv:dM A none sl base fr) (hx:ay fr xo=some (.iface it u)) (hf:ImJ P it nm f) (hn:Bx (name=nm)) (hc:∀ x:ks ms,ED P f [u] [] xs (jg A ms x++fr) (px A ms x++Γ) mo rt ps) (hi:jj ms) (tN:j7 A ms=true) (ho:∀ y v,qu (ps y v)=true)
   (h:∀ y,AD tq P cx K l tail base U hd (.cr (fun v=>l7 (rt y v)) (ps y) d as ops i sl ms Γ (g y))):AD tq P cx K l tail base U hd (.o A (.call ⟨.invoke xo name,xs.toArray,au⟩) d ty as ops i sl ms Γ (mo>>=g))
 | call {hd:QE} {β V:Type} {A:LN} {as:LL} {d:Nat} {f:FuncId} {xs:List Operand} {au:Array TypeId} {ty:TI} {mo:Option β} {rt:β→V→List Value} {ps:β→V→List aq} {ops:LO} {i:Nat} {sl:LQ} {ms:MM} {fr:Fr} {Γ:QE} {g:β→Option (Out S R)} [hf:bg P f]
   (hv:dM A none sl base fr) (hc:∀ x:ks ms,LM P f xs (jg A ms x++fr) (px A ms x++Γ) mo rt ps) (hi:jj ms) (tN:j7 A ms=true) (ho:∀ y v,qu (ps y v)=true)
   (h:∀ y,AD tq P cx K l tail base U hd (.cr (fun v=>l7 (rt y v)) (ps y) d as ops i sl ms Γ (g y))):AD tq P cx K l tail base U hd (.oc [] f xs au A d ty as ops i sl ms Γ (mo>>=g))
 | ZP {hd:QE} {β V:Type} {A:LN} {as:LL} {d:Nat} {f:FuncId} {xs:List Operand} {au:Array TypeId} {ty:TI} {mo:Option β} {rt:β→V→List Value} {ps:β→V→List aq} {ops:LO} {i:Nat} {sl:LQ} {ms:MM} {fr:Fr} {Γ:QE} {g:β→Option (Out S R)} [hf:bg P f]
   (hV:((U.set i []).all fun us=>!(us.contains l.length))=true) (hv:dM A none sl base fr) (hc:∀ x:ks ms,EE P f xs (jg A ms x++fr) hd (px A ms x++Γ) mo rt ps) (hi:jj ms) (tN:j7 A ms=true) (ho:∀ y v,qu (ps y v)=true)
   (h:∀ y,AD tq P cx K l tail base U hd (.cr (fun v=>l7 (rt y v)) (ps y) d as ops i sl ms Γ (g y))):AD tq P cx K l tail base U hd (.oc [l.length] f xs au A d ty as ops i sl ms Γ (mo>>=g))
 | ZQ {hd:QE} {β V:Type} {j1:Nat} {a1:ez} {fq:MM} {A:LN} {as:LL} {d:Nat} {f:FuncId} {xs:List Operand} {au:Array TypeId} {ty:TI} {mo:Option β} {rt:β→V→List Value} {ps:β→V→List aq} {ops:LO} {i:Nat} {sl:LQ} {ms:MM} {fr:Fr} {Γ:QE} {g:β→Option (Out S R)} [hf:bg P f]
   (h1:Az ms j1 a1 fq) (EG:a1.src=[]) (h4:cw j1 A=true) (hv:dM A none sl base fr) (hc:∀ (q:a1.V) (x:ks fq),EE P f xs (jg A fq x++fr) (a1.ps undef q) (px A fq x++Γ) mo rt ps) (hi:jj fq) (tN:j7 A fq=true) (ho:∀ y v,qu (ps y v)=true)
   (h:∀ y,AD tq P cx K l tail base U hd (.cr (fun v=>l7 (rt y v)) (ps y) d as ops i (LR j1 i sl) fq Γ (g y))):AD tq P cx K l tail base U hd (.oc [j1] f xs au A d ty as ops i sl ms Γ (mo>>=g))
 | crv {hd:QE} {u:Unit→Value} {d:Nat} {as:LL} {ops:LO} {i:Nat} {sl:LQ} {ms:MM} {Γ:QE} {m:Option (Out S R)} (h:AD tq P cx K l tail base U hd (.a as ops (i+1) ((i,d,u ()) :: sl) ms Γ m)):AD tq P cx K l tail base U hd (.cr u (fun _=>[]) d as ops i sl ms Γ m)
 | crb {hd:QE} {u:Unit→Value} {ps:Unit→List aq} {d:Nat} {as:LL} {ops:LO} {i:Nat} {sl:LQ} {ms:MM} {Γ:QE} {m:Option (Out S R)} (h:AD tq P cx K l tail base U hd (.a as ops (i+1) ((i,d,u ()) :: sl) (⟨i,d,[],Unit,fun _=>u,fun _=>ps⟩ :: ms) Γ m)):AD tq P cx K l tail base U hd (.cr u ps d as ops i sl ms Γ m)
 | crm {hd:QE} {V:Type} {u:V→Value} {ps:V→List aq} {d:Nat} {as:LL} {ops:LO} {i:Nat} {sl:LQ} {ms:MM} {Γ:QE} {m:Option (Out S R)} (h:AD tq P cx K l tail base U hd (.a as ops (i+1) sl (⟨i,d,[],V,fun _=>u,fun _=>ps⟩ :: ms) Γ m)):AD tq P cx K l tail base U hd (.cr u ps d as ops i sl ms Γ m)
 | val {hd:QE} {A:LN} {as:LL} {op:Op} {d:Nat} {ty:TI} {u:Value} {ops:LO} {i:Nat} {sl:LQ} {ms:MM} {fr:Fr} {Γ:QE} {m:Option (Out S R)} (hv:dM A none sl base fr) (hq:VQ P Γ fr op u)
   (h:AD tq P cx K l tail base U hd (.a as ops (i+1) ((i,d,u) :: sl) ms Γ m)):AD tq P cx K l tail base U hd (.o A op d ty as ops i sl ms Γ m)
 | rV {hd:QE} {A:LN} {as:LL} {op:BinOp} {x y:OO} {k k':IntKind} {a b:Int} {t t':TI} {d:Nat} {ty:TI} {ops:LO} {i:Nat} {sl:LQ} {ms:MM} {fr:Fr} {Γ:QE} {f:Int→Option (Out S R)} (hv:dM A none sl base fr) (hx:ay fr x=some (.int k a)) (hy:ay fr y=some (.int k' b)) (hk:SK op k k')
   (h:∀ z,AD tq P cx K l tail base U hd (.a as ops (i+1) ((i,d,.int k z) :: sl) ms Γ (f z))):AD tq P cx K l tail base U hd (.o A (.binOp op t x y t') d ty as ops i sl ms Γ (qz op k a b>>=f))
 | SV {hd:QE} {α β:Type} {A:LN} {as:LL} {d:Nat} {x y:OO} {v:Value} {k:IntKind} {j:Int} {t ty:TI} {o1 o2 p1 p2:Bool} {E:ah α} {E2:ah β} {z:β} {xs:List α} {ops:LO} {i:Nat} {sl:LQ} {ms:MM} {fr:Fr} {Γ Γx:QE} {m:Option (Out S R)} [ht:tT P t]
   (hy:ay fr y=some (.int k j)) (hr:lr Γ v o1 o2 E xs o6 Γx) (hi:In (.ad p1 p2 v j E2 z) Γ) (hE:E.size=1)
   (h:AD tq P cx K l tail base U hd (.a as ops (i+1) ((i,d,.pointer (some (cn v 1 j))) :: sl) ms Γ m)):AD tq P cx K l tail base U hd (.ix false v fr x y t A d ty as ops i sl ms Γ m)
 | pz {hd:QE} {as:LL} {ops:LO} {i:Nat} {sl:LQ} {ms:MM} {Γ:QE} {m:Option (Out S R)} (h:AD tq P cx K l tail base U hd (.a as ops i sl ms Γ m)):AD tq P cx K l tail base U hd (.p [] as ops i sl ms Γ m)
 | pe {hd:QE} {e:aq} {Δ:QE} {as:LL} {ops:LO} {i:Nat} {sl:LQ} {ms:MM} {Γ:QE} {m:Option (Out S R)} (h:AD tq P cx K l tail base U hd (.p Δ as ops i sl ms (e :: Γ) m)):AD tq P cx K l tail base U hd (.p (e :: Δ) as ops i sl ms Γ m)
 | qe {hd:QE} {α V:Type} {Sc:ah α} {cl:α→V→List Value} {en:α→V→List aq} {A:LN} {as:LL} {d n:Nat} {x y:OO} {v:Value} {xs:List α} {k:IntKind} {j:Int} {t ty:TI} {ops:LO} {i:Nat} {sl:LQ} {ms:MM} {fr:Fr} {Γ Γx:QE} {f:α→Option (Out S R)} [ht:HX P t n]
   (hy:ay fr y=some (.int k j)) (hr:lr Γ v false false (sg Sc) xs o6 Γx) (hs:GO Sc V cl en) (hn:Sc.size=n)
   (h:∀ z u,AD tq P cx K l tail base U hd (.p (.au (cn v n j) (cl z u) :: en z u) as ops (i+1) ((i,d,.pointer (some (cn v n j))) :: sl) ms Γ (f z))):AD tq P cx K l tail base U hd (.ix false v fr x y t A d ty as ops i sl ms Γ (idx xs j>>=f))
 | VA {hd:QE} {α V:Type} {Sc:ah α} {cl:α→V→List Value} {en:α→V→List aq} {A:LN} {as:LL} {d n e bt:Nat} {x y:OO} {v:Value} {us:List (List Value)} {xs:List α} {k:IntKind} {j:Int} {t ty:TI} {ops:LO} {i:Nat} {sl:LQ} {ms:MM} {fr:Fr} {Γ Γ1:QE} {f:α→Option (Out S R)} [ht:HY P t e n bt]
   (hy:ay fr y=some (.int k j)) (h1:bz Γ (.own (aJ e (kq n)) v us) Γ1) (hg:In (.rd false (vz Sc) (.bool true) (us,xs)) Γ) (hs:GO Sc V cl en)
   (h:∀ z u,AD tq P cx K l tail base U hd (.p (.rd false (Dn us j) (.bool true) (cl z u) :: en z u) as ops (i+1) ((i,d,.pointer (some (cn v n j))) :: sl) ms Γ (f z))):AD tq P cx K l tail base U hd (.ix false v fr x y t A d ty as ops i sl ms Γ (idx xs j>>=f))
 | laG {hd:QE} {A:LN} {as:LL} {d n e off:Nat} {x:OO} {v u:Value} {us:List (List Value)} {j:Int} {cs:LV} {t ty:TI} {ops:LO} {i:Nat} {sl:LQ} {ms:MM} {fr:Fr} {Γ Γ1:QE} {m:Option (Out S R)} (h1:bz Γ (.own (aJ e (kq n)) v us) Γ1) (hp:In (.rd false (Dn us j) (.bool true) cs) Γ) (hc:cs[off]? = some u)
   (k:AD tq P cx K l tail base U hd (.a as ops (i+1) ((i,d,u) :: sl) ms Γ m)):AD tq P cx K l tail base U hd (.la fr ((cn v n j).add off) none t x A d ty as ops i sl ms Γ m)
 | VB {hd:QE} {A:LN} {as:LL} {d n e:Nat} {x:OO} {v u:Value} {us:List (List Value)} {j:Int} {cs:LV} {t ty:TI} {ops:LO} {i:Nat} {sl:LQ} {ms:MM} {fr:Fr} {Γ Γ1:QE} {m:Option (Out S R)} (h1:bz Γ (.own (aJ e (kq n)) v us) Γ1) (hp:In (.rd false (Dn us j) (.bool true) cs) Γ) (hc:cs[0]? = some u)
   (k:AD tq P cx K l tail base U hd (.a as ops (i+1) ((i,d,u) :: sl) ms Γ m)):AD tq P cx K l tail base U hd (.la fr (cn v n j) none t x A d ty as ops i sl ms Γ m)
 | LX {hd:QE} {β V:Type} {A:LN} {as:LL} {d:Nat} {f:FuncId} {xs:List Operand} {au:Array TypeId} {ty:TI} {mo:Option β} {rt:β→V→List Value} {ps:β→V→List aq} {ops:LO} {i:Nat} {sl:LQ} {ms:MM} {fr:Fr} {Γ:QE} {g:β→Option (Out S R)} [hf:bg P f]
   (hv:dM A none sl base fr) (hc:∀ x:ks ms,LP P f xs (jg A ms x++fr) Γ mo rt ps) (hi:jj ms) (tN:j7 A ms=true)
   (h:∀ y,AD tq P cx K l tail base U hd (.cr (fun v=>l7 (rt y v)) (ps y) d as ops i sl ms Γ (g y))):AD tq P cx K l tail base U hd (.oc [] f xs au A d ty as ops i sl ms Γ (mo>>=g))
 | Ij {hd:QE} {β V:Type} {A:LN} {as:LL} {d:Nat} {f:FuncId} {xs:List Operand} {au:Array TypeId} {ty:TI} {mo:Option β} {rt:β→V→List Value} {ps:β→V→List aq} {ops:LO} {i:Nat} {sl:LQ} {ms:MM} {fr:Fr} {Γ:QE} {g:β→Option (Out S R)} [hf:bg P f]
   (hV:((U.set i []).all fun us=>!(us.contains l.length))=true) (hv:dM A none sl base fr) (hc:∀ x:ks ms,BZ P f xs (jg A ms x++fr) hd Γ mo rt ps) (hi:jj ms) (tN:j7 A ms=true)
   (h:∀ y,AD tq P cx K l tail base U hd (.cr (fun v=>l7 (rt y v)) (ps y) d as ops i sl ms Γ (g y))):AD tq P cx K l tail base U hd (.oc [l.length] f xs au A d ty as ops i sl ms Γ (mo>>=g))
 | Ik {hd:QE} {β V:Type} {j1:Nat} {a1:ez} {fq:MM} {A:LN} {as:LL} {d:Nat} {f:FuncId} {xs:List Operand} {au:Array TypeId} {ty:TI} {mo:Option β} {rt:β→V→List Value} {ps:β→V→List aq} {ops:LO} {i:Nat} {sl:LQ} {ms:MM} {fr:Fr} {Γ:QE} {g:β→Option (Out S R)} [hf:bg P f]
   (h1:Az ms j1 a1 fq) (EG:a1.src=[]) (h4:cw j1 A=true) (hv:dM A none sl base fr) (hc:∀ (q:a1.V) (x:ks fq),BZ P f xs ((a1.d,a1.rt undef q) :: (jg A fq x++fr)) (a1.ps undef q) Γ mo rt ps) (hi:jj fq) (tN:j7 A fq=true)
   (h:∀ y,AD tq P cx K l tail base U hd (.cr (fun v=>l7 (rt y v)) (ps y) d as ops i (LR j1 i sl) fq Γ (g y))):AD tq P cx K l tail base U hd (.oc [j1] f xs au A d ty as ops i sl ms Γ (mo>>=g))
 | slH {hd:QE} {α:Type} {o:Bool} {A:LN} {as:LL} {d:Nat} {x lo hi:OO} {v:Value} {k1 k2:IntKind} {a b:Int} {E T:ah α} {xs:List α} {t e ty:TI} {ops:LO} {i:Nat} {sl:LQ} {ms:MM} {fr:Fr} {Γ Γ1:QE} {Γ':Value→List α→List aq} {f:List α→Option (Out S R)} [ht:tT P t]
   (hv:dM A none sl base fr) (hx:ay fr x=some v) (hlo:ay fr lo=some (.int k1 a)) (hhi:ay fr hi=some (.int k2 b)) (hc:bz Γ (.own (aJ e T) v xs) Γ1) (hr:∀ v' ys,lr Γ v o o E xs (.rd o (aV E) v' ys) (Γ' v' ys)) (hE:E.size=1)
   (h:∀ v' ys,AD tq P cx K l tail base U hd (.a as ops (i+1) ((i,d,v') :: sl) ms (Γ' v' ys) (f ys))):AD tq P cx K l tail base U hd (.o A (.slice t x (some lo) (some hi) none) d ty as ops i sl ms Γ (Qm xs a b>>=f))
 | KJ {o1 o2:Bool} {yv:Value} {fr:Fr} {Γx:QE} {hd:QE} {us:LN} {t e:TI} {E:ah Int} {z0:Int} {bt t1 t2:Nat} {k:IntKind} {xs ys:List Int} {a1:ez} {fq:MM} {f:Unit→Option (Out S R)} {A:LN} {as:LL} {d:Nat} {ty:TI} {ops:LO} {i:Nat} {sl:LQ} {ms:MM} {Γ:QE} [hz:mz P t Int e E z0 bt] (h1:jr ms t1 a1 fq) (h3:∀ u v,a1.ps u v=[.own (aJ e (aN k)) (a1.rt u v) xs]) (hu:us=[a1.j]) (h4:cw a1.j A=true) (hv:dM A none sl base fr) (hx:look fr t2=some yv) (hr:lr Γ yv o1 o2 (aN k) ys o6 Γx)
   (h:AD tq P cx K l tail base U hd (.a as ops (i+1) sl (⟨i,d,[],Value,fun _ v=>v,fun _ v=>[.own (aJ e (aN k)) v (xs++ys)]⟩ :: fq) Γ (f ()))):AD tq P cx K l tail base U hd (.ap us t1 t2 t A d ty as ops i sl ms Γ (fits bt (xs.length+ys.length)>>=f))
 | apO {e2:TI} {a2:ez} {oj:MM} {hd:QE} {us:LN} {t e:TI} {E:ah Int} {z0:Int} {bt t1 t2:Nat} {k:IntKind} {xs ys:List Int} {a1:ez} {fq:MM} {f:Unit→Option (Out S R)} {A:LN} {as:LL} {d:Nat} {ty:TI} {ops:LO} {i:Nat} {sl:LQ} {ms:MM} {Γ:QE} [hz:mz P t Int e E z0 bt] (h1:jr ms t1 a1 fq) (h3:∀ u v,a1.ps u v=[.own (aJ e (aN k)) (a1.rt u v) xs]) (hu:us=[a1.j]) (h4:cw a1.j A=true) (h2:jr fq t2 a2 oj) (h7:∀ u v,a2.ps u v=[.own (aJ e2 (aN k)) (a2.rt u v) ys]) (h5:cw a2.j A=true)
   (h:AD tq P cx K l tail base U hd (.a as ops (i+1) sl (⟨i,d,[],Value,fun _ v=>v,fun _ v=>[.own (aJ e (aN k)) v (xs++ys)]⟩ :: fq) Γ (f ()))):AD tq P cx K l tail base U hd (.ap us t1 t2 t A d ty as ops i sl ms Γ (fits bt (xs.length+ys.length)>>=f))
 | VC {hd fx:QE} {α:Type} {t e et:TI} {E:ah α} {z0:α} {bt t1 t2 j2:Nat} {v yv:Value} {y:α} {z:List α} {fr:Fr} {oj:MM} {f:Unit→Option (Out S R)} {A:LN} {as:LL} {d:Nat} {ty:TI} {ops:LO} {i:Nat} {sl:LQ} {ms:MM} {Γ:QE} [hT:mz P t α e E z0 bt]
   (hV:((U.set i []).all fun us=>!(us.contains l.length))=true) (hv:dM A none sl base fr) (hs:look fr t1=some v) (h2:jr ms t2 ⟨j2,t2,[],Nat,fun _ b=>.slice (some ⟨b,0,none⟩) 1 1,fun _ b=>[.row b [yv] et]⟩ oj) (h5:cw j2 A=true) (h1:bz hd (.own (aJ e E) v z) fx) (hy:BG [] E yv y [])
   (h:AD tq P cx K l tail base U fx (.a as ops (i+1) sl (⟨i,d,[],Value,fun _ v'=>v',fun _ v'=>[.own (aJ e E) v' (z++[y])]⟩ :: ms) Γ (f ()))):AD tq P cx K l tail base U hd (.ap [l.length] t1 t2 t A d ty as ops i sl ms Γ (fits bt (z.length+1)>>=f))
 | VD {hd fx:QE} {t e e3 et:TI} {kk:IntKind} {z0:List Int} {bt t1 t2 t3 j2 j3 n:Nat} {v:Value} {us:LV} {ys:List Int} {z:List (List Int)} {fr:Fr} {oj wq:MM} {f:Unit→Option (Out S R)} {A:LN} {as:LL} {d:Nat} {ty:TI} {ops:LO} {i:Nat} {sl:LQ} {ms:MM} {Γ:QE} [hT:mz P t (List Int) e (aJ e3 (aN kk)) z0 bt]
   (hV:((U.set i []).all fun us=>!(us.contains l.length))=true) (hv:dM A none sl base fr) (hs:look fr t1=some v) (h2:jr ms t2 ⟨j2,t2,[t3],Nat,fun _ b=>.slice (some ⟨b,0,none⟩) 1 1,fun u b=>[.row b [u] et]⟩ oj) (h3:jr oj t3 ⟨j3,t3,[],Nat,fun _ b=>.slice (some ⟨b,0,none⟩) n n,fun _ b=>[.row b us e3]⟩ wq) (h5:cw j2 A=true) (h6:cw j3 A=true) (h1:bz hd (.own (aJ e (aJ e3 (aN kk))) v z) fx) (hi:w5 kk us ys) (hn:us.length=n) (hb:Nat.ble n 16777216=true)
   (h:AD tq P cx K l tail base U fx (.a as ops (i+1) sl (⟨i,d,[],Value,fun _ v'=>v',fun _ v'=>[.own (aJ e (aJ e3 (aN kk))) v' (z++[ys])]⟩ :: wq) Γ (f ()))):AD tq P cx K l tail base U hd (.ap [l.length,j3] t1 t2 t A d ty as ops i sl ms Γ (fits bt (z.length+1)>>=f))
end Go.Dk
namespace Go.Dk
open Go Go.Li
theorem gn {t:Nat} {l:LN}:cw t l=true↔t∈l:=by
 induction l with
 | nil=>simp [cw]
 | cons a l ih=>
  unfold cw
  cases hb:Nat.beq t a with
  | true=>simp [Nat.eq_of_beq_eq_true hb]
  | false=>simp only [cond_false,ih,List.mem_cons]; exact ⟨.inr,fun h=>h.resolve_left fun e=>by rw [e,Nat.beq_refl] at hb; cases hb⟩
def nj (l:LO) (U:LL) (mt:Nat):List (List Nat):=(List.range mt).map fun i=>(List.range l.length).filter (ud l U mt i)
theorem iy {l:LO} {U:LL} {mt i j:Nat} (h:j∈(nj l U mt).getD i []):j∈(cf l).getD i []∧ud l U mt i j=true:=by
 unfold nj at h
 rw [List.getD_eq_getElem?_getD,List.getElem?_map] at h
 by_cases hi:i < mt
 ·rw [List.getElem?_range hi] at h
  have h1:=(List.mem_filter.1 h).2
  refine ⟨?_,h1⟩
  unfold ud at h1
  rw [Bool.and_eq_true] at h1
  simpa using h1.1
 ·rw [List.getElem?_eq_none (by simpa using hi)] at h
  exact absurd h List.not_mem_nil
variable {Z:Nat→Prop}
structure iH (Z:Nat→Prop) (l:LO) (S:List ig) (sl:LQ) (ms:MM):Prop where
 v:∀ p∈sl,∃ j,(j=p.1∨j∈(cf l).getD p.1 [])∧bj l j=some p.2.1∧∃ s,S[j]? = some s∧s.b=true∧∀ f w r x,s.V f w r x→x=p.2.2
 m:∀ a∈ms,(S[a.j]? = some ⟨true,MV Z a⟩∧bj l a.j=some a.d)∨(S[a.j]? = some ⟨true,NR Z a⟩∧bj l a.j=none∧∃ k∈(cf l).getD a.j [],bj l k=some a.d)
 s:∀ i s,S[i]? = some s→SU Z ((cf l).getD i []) l s
 d:(ms.map (·.j)).Nodup
 t:∀ i j k,j∈(cf l).getD k []→k∈(cf l).getD i []→j∈(cf l).getD i []
theorem iH.lt {l:LO} {S:List ig} {sl:LQ} {ms:MM} (h:iH Z l S sl ms) {a:ez} (ha:a∈ms):a.j < S.length:=by
 rcases h.m a ha with h | h <;> exact (List.getElem?_eq_some_iff.1 h.1).1
theorem iH.vB {l:LO} {S S2:List ig} {sl:LQ} {ms:MM} (h:iH Z l S sl ms) {a:ez} (ha:a∈ms) {g:Nat→List Nat} {r:NV} {w:World} (hd:xI l (S++S2) a.j g r w):MV Z a (g a.j) w r (r a.d):=by
 rcases h.m a ha with h1 | h1
 ·have h2:=hd.1 a.d h1.2
  rw [List.getElem?_append_left (List.getElem?_eq_some_iff.1 h1.1).1,h1.1] at h2
  exact h2
 ·obtain ⟨x,hx⟩:=hd.2 h1.2.1 _ (by rw [List.getElem?_append_left (List.getElem?_eq_some_iff.1 h1.1).1]; exact h1.1) rfl
  exact hx
theorem iH.slot {l:LO} {S:List ig} {sl:LQ} {ms:MM} (h:iH Z l S sl ms) {a:ez} (ha:a∈ms) {i:Nat} (hi:a.j∈(cf l).getD i []):∃ k∈(cf l).getD i [],bj l k=some a.d:=by
 rcases h.m a ha with h1 | ⟨_,_,k,hk,hd⟩
 ·exact ⟨a.j,hi,h1.2⟩
 ·exact ⟨k,h.t i k a.j hk hi,hd⟩
theorem iH.tI {l:LO} {S S2:List ig} {sl:LQ} {ms:MM} (h:iH Z l S sl ms) {a:ez} (ha:a∈ms):((S++S2)[a.j]? = some ⟨true,MV Z a⟩∧bj l a.j=some a.d)∨((S++S2)[a.j]? = some ⟨true,NR Z a⟩∧bj l a.j=none∧∃ k∈(cf l).getD a.j [],bj l k=some a.d):=by
 rw [List.getElem?_append_left (h.lt ha)]
 exact h.m a ha
theorem iH.LY {l:LO} {S S2:List ig} {sl:LQ} {ms:MM} (h:iH Z l S sl ms) {p:Nat×Nat×Value} (hp:p∈sl):∃ j,(j=p.1∨j∈(cf l).getD p.1 [])∧bj l j=some p.2.1∧∃ s,(S++S2)[j]? = some s∧s.b=true∧∀ f w r x,s.V f w r x→x=p.2.2:=by
 obtain ⟨j,hj,h1,s,h2,h3⟩:=h.v p hp
 exact ⟨j,hj,h1,s,by rw [List.getElem?_append_left (List.getElem?_eq_some_iff.1 h2).1]; exact h2,h3⟩
theorem iH.vC {l:LO} {S S2:List ig} {sl:LQ} {ms:MM} (h:iH Z l S sl ms) {p:Nat×Nat×Value} (hp:p∈sl) {r:NV} (ho:∀ j,(j=p.1∨j∈(cf l).getD p.1 [])→j < S.length→Old l (S++S2) j r):r p.2.1=p.2.2:=by
 obtain ⟨j,hj,h1,s,h2,h3,h4⟩:=h.v p hp
 have hl:=(List.getElem?_eq_some_iff.1 h2).1
 have:=ho j hj hl _ h1 s (by rw [List.getElem?_append_left hl]; exact h2)
 rw [if_pos h3] at this
 obtain ⟨f,w,hV⟩:=this
 exact h4 f w r _ hV
theorem iH.val {l:LO} {S:List ig} {sl:LQ} {ms:MM} (h:iH Z l S sl ms) {d:Nat} {u:Value} (hd:bj l S.length=some d):iH Z l (S++[sV u]) ((S.length,d,u) :: sl) ms:=by
 refine ⟨?_,fun a ha=>h.tI ha,?_,h.d,h.t⟩
 ·intro p hp
  rcases List.mem_cons.1 hp with rfl | hp
  ·exact ⟨S.length,.inl rfl,hd,sV u,by simp,rfl,fun _ _ _ _ h=>h⟩
  ·exact h.LY hp
 ·intro i s hs
  by_cases hi:i < S.length
  ·rw [List.getElem?_append_left hi] at hs; exact h.s i s hs
  ·rw [List.getElem?_append_right (by omega)] at hs
   have wu:i - S.length=0:=by
    have:=(List.getElem?_eq_some_iff.1 hs).1
    simp at this; omega
   rw [wu] at hs
   cases hs
   exact Ig.n LZ
theorem iH.mem {l:LO} {S:List ig} {sl:LQ} {ms:MM} (h:iH Z l S sl ms) {b:ez} (hj:b.j=S.length) (hd:bj l S.length=some b.d) (dx:∀ t∈b.src,∃ j∈(cf l).getD S.length [],bj l j=some t):iH Z l (S++[⟨true,MV Z b⟩]) sl (b :: ms):=by
 have bb:∀ a∈ms,a.j < S.length:=fun a ha=>h.lt ha
 refine ⟨fun p hp=>?_,?_,?_,?_,h.t⟩
 ·exact h.LY hp
 ·intro a ha
  rcases List.mem_cons.1 ha with rfl | ha
  ·exact .inl ⟨by rw [hj]; simp,by rw [hj]; exact hd⟩
  ·exact h.tI ha
 ·intro i s hs
  by_cases hi:i < S.length
  ·rw [List.getElem?_append_left hi] at hs; exact h.s i s hs
  ·rw [List.getElem?_append_right (by omega)] at hs
   have wu:i - S.length=0:=by
    have:=(List.getElem?_eq_some_iff.1 hs).1
    simp at this; omega
   have EH:i=S.length:=by omega
   rw [wu] at hs
   cases hs
   rw [EH]
   exact NS dx
 ·rw [List.map_cons,List.nodup_cons]
  refine ⟨fun hm=>?_,h.d⟩
  obtain ⟨a,ha,he⟩:=List.mem_map.1 hm
  have:=bb a ha
  omega
theorem iH.ach {l:LO} {S:List ig} {sl:LQ} {ms:MM} (h:iH Z l S sl ms) {j d:Nat} {u:Value} (hd:bj l j=some d) {s:ig} (hs:S[j]? = some s) (hb:s.b=true) (hV:∀ f w r x,s.V f w r x→x=u):iH Z l S ((j,d,u) :: sl) ms:=
 ⟨fun p hp=>by
  rcases List.mem_cons.1 hp with rfl | hp
  ·exact ⟨j,.inl rfl,hd,s,hs,hb,hV⟩
  ·exact h.v p hp,h.m,h.s,h.d,h.t⟩
theorem iH.re {l:LO} {S:List ig} {sl:LQ} {ms:MM} (h:iH Z l S sl ms) {j i:Nat} (hj:j∈(cf l).getD i []):iH Z l S (LR j i sl) ms:=by
 refine ⟨fun p hp=>?_,h.m,h.s,h.d,h.t⟩
 obtain ⟨q,hq,rfl⟩:=List.mem_map.1 hp
 obtain ⟨k,hk,h1⟩:=h.v q hq
 cases hb:Nat.beq q.1 j with
 | false=>exact ⟨k,hk,h1⟩
 | true=>
  refine ⟨k,.inr ?_,h1⟩
  have NW:=Nat.eq_of_beq_eq_true hb
  show k∈(cf l).getD i []
  rcases hk with rfl | hk
  ·rw [NW]; exact hj
  ·rw [NW] at hk; exact h.t i k j hk hj
theorem iH.aci {l:LO} {S:List ig} {sl:LQ} {ms:MM} (h:iH Z l S sl ms) {b:ez} (hj:b.j=S.length) (hd:bj l S.length=none) (hk:∃ k∈(cf l).getD S.length [],bj l k=some b.d) (dx:b.src=[]):iH Z l (S++[⟨true,NR Z b⟩]) sl (b :: ms):=by
 have bb:∀ a∈ms,a.j < S.length:=fun a ha=>h.lt ha
 refine ⟨fun p hp=>?_,?_,?_,?_,h.t⟩
 ·exact h.LY hp
 ·intro a ha
  rcases List.mem_cons.1 ha with rfl | ha
  ·exact .inr ⟨by rw [hj]; simp,by rw [hj]; exact hd,by rw [hj]; exact hk⟩
  ·exact h.tI ha
 ·intro i s hs
  by_cases hi:i < S.length
  ·rw [List.getElem?_append_left hi] at hs; exact h.s i s hs
  ·rw [List.getElem?_append_right (by omega)] at hs
   have wu:i - S.length=0:=by
    have:=(List.getElem?_eq_some_iff.1 hs).1
    simp at this; omega
   have EH:i=S.length:=by omega
   rw [wu] at hs
   cases hs
   rw [EH]
   exact LH hk fun t ht=>by rw [dx] at ht; cases ht
 ·rw [List.map_cons,List.nodup_cons]
  refine ⟨fun hm=>?_,h.d⟩
  obtain ⟨a,ha,he⟩:=List.mem_map.1 hm
  have:=bb a ha
  omega
theorem gx {l:LO} {m:Nat} {base:Fr} {r r0:NV} (hh:jz l m base=true) (ha:cq r0 base) (ho:∀ t,(∀ j,j < m→bj l j≠some t)→r t=r0 t):cq r base:=by
 intro t v hl
 have hm:∃ u,(t,u)∈base:=by
  clear hh ha
  induction base with
  | nil=>cases hl
  | cons p base ih=>
   obtain ⟨a,u⟩:=p
   unfold look at hl
   cases hb:Nat.beq t a with
   | true=>exact ⟨u,by rw [Nat.eq_of_beq_eq_true hb]; simp⟩
   | false=>rw [hb] at hl; obtain ⟨u',h⟩:=ih hl; exact ⟨u',by simp [h]⟩
 obtain ⟨u,hu⟩:=hm
 rw [ho t fun j hj=>NX hh (t,u) hu j hj]
 exact ha t v hl
section
variable {P:Program} {l:LO} {mt:Nat} {S:List ig} {sl:LQ} {ms:MM} {base fr:Fr} {r r0:NV} {w w0:World} {g:Nat→List Nat} {i:Nat} {A:LN} {U:LL}
theorem jm (hR:iH Z l S sl ms) (hA:A=(nj l U mt).getD i []) (hv:dM A none sl base fr) (hb:cq r base) {S':List ig} (hO:∀ j∈(cf l).getD i [],Old l (S++S') j r):cq r fr:=by
 refine hv.sound hb ?_ (fun _ _ _ h=>nomatch h)
 intro p hp hm
 have hi:=(iy (by rw [← hA]; exact gn.1 hm)).1
 exact hR.vC hp fun j hj _=>hO j (hj.elim (fun e=>e ▸ hi) fun hj=>hR.t i j p.1 hj hi)
theorem Qn {H:LN} {o:Oper} {u:Value} (hh:jz l mt base=true) (ha:cq r0 base) (hR:iH Z l S sl ms) (ho:l[S.length]? = some o) (hg:o.guard=none) (hA:A=(nj l U mt).getD S.length []) (hv:dM A none sl base fr)
  (h:∀ r,cq r fr→∀ w,ak H w0 w→(execOp (ev r) o).run P w = .ok (.value u) w):iw P l mt (S++[sV u]) U r0 w0 H S.length:=
 iw.val ho (by simp) hg fun g r w hC hO hn gu=>h r (jm hR hA hv (gx hh ha gu) hO) w hC
end
end Go.Dk
namespace Go.Dk
open Go Go.Li
section
variable {R S:Type} {P:Program} {cx:Cx R} {K:ch R S} {l tail:LO} {base fr:Fr} {w:World} {Z:Nat→Prop} {U:LL}
def fl (P:Program) (Z:Nat→Prop) (l:LO) (mt:Nat) (U:LL) (r0:NV) (w0:World) (H:LN) (i:Nat) (sl:LQ) (ms:MM):Prop:=
 ∃ S:List ig,S.length=i∧iH Z l S sl ms∧∀ j,j < i→iw P l mt S U r0 w0 H j
def mi (B:Bs) (Z:Nat→Prop) (hd Γ:QE) (H:LN) (w:World):Prop:=∃ F Hd,(SA Z w hd [] Hd∧(∀ b∈Hd,b∈H∧b < w.heap.size)∧(∀ b∈H,b < w.heap.size)∧Hd.Nodup)∧SA Z w Γ [] F∧Gd B Z (H++F) w
theorem mi.stay {B:Bs} {Γ:QE} {F H:LN} {w w':World} (hS:SA Z w Γ [] F) (hG:Gd B Z (H++F) w) (hC:ak H w w'):SA Z w' Γ [] F:=
 hS.dp hC (fun b hb=>hG.apart b (List.mem_append_left _ hb)) (fun _ _=>List.not_mem_nil) (fun b hb hf=>(List.nodup_append.1 hG.nd).2.2 b hb b hf rfl)
def Fin (P:Program) (cx:Cx R) (K:ch R S) (l l0:LO) (mt:Nat) (U:LL) (hd:QE) (_id:Nat) (base:Fr) (i:Nat) (sl:LQ) (ms:MM) (Γ:QE) (m:Option (Out S R)):Prop:=
 ∀ B o,m=some o→∀ r0 w0 H Z,cq r0 base→mi B Z hd Γ H w0→fl P Z l mt U r0 w0 H i sl ms→py P cx.n l0 (ku P cx B K o) r0 w0
theorem fl.re {mt:Nat} {r0:NV} {w0:World} {H:LN} {i k j:Nat} {sl:LQ} {ms:MM} (h:fl P Z l mt U r0 w0 H k sl ms) (hj:j∈(cf l).getD i []):fl P Z l mt U r0 w0 H k (LR j i sl) ms:=by
 obtain ⟨S,h1,h2,h3⟩:=h
 exact ⟨S,h1,h2.re hj,h3⟩
structure wV (l:LO) (mt:Nat) (U:LL) (as:LL) (ops:LO) (i:Nat):Prop where
 a:as=(nj l U mt).drop i
 o:ops=(l.take mt).drop i
 le:i≤mt
structure VE (l:LO) (mt:Nat) (U:LL) (A:LN) (op:Op) (ty:TI) (as:LL) (ops:LO) (i:Nat):Prop where
 A:A=(nj l U mt).getD i []
 o:∃ pos ab,l[i]? = some ⟨none,op,ty,pos,ab,none⟩
 n:wV l mt U as ops (i+1)
theorem wV.LS {mt:Nat} {A:LN} {as:LL} {op:Op} {ty:TI} {pos:String} {ab:Array Edge} {ops:LO} {i:Nat} (h:wV l mt U (A :: as) (⟨none,op,ty,pos,ab,none⟩ :: ops) i):VE l mt U A op ty as ops i:=by
 obtain ⟨h1,h2,h3⟩:=h
 have e1:(nj l U mt)[i]? = some A:=by
  have:=congrArg (fun x=>x[0]?) h1
  simpa using this.symm
 have e2:(l.take mt)[i]? = some ⟨none,op,ty,pos,ab,none⟩:=by
  have:=congrArg (fun x=>x[0]?) h2
  simpa using this.symm
 have t1:as=(nj l U mt).drop (i+1):=by
  have:=congrArg List.tail h1
  simpa [List.tail_drop] using this
 have t2:ops=(l.take mt).drop (i+1):=by
  have:=congrArg List.tail h2
  simpa [List.tail_drop] using this
 have hi:i < mt:=by
  have:=(List.getElem?_eq_some_iff.1 e1).1
  simpa [nj] using this
 rw [List.getElem?_take,if_pos hi] at e2
 exact ⟨by rw [List.getD_eq_getElem?_getD,e1]; rfl,⟨pos,ab,e2⟩,t1,t2,hi⟩
structure mf (l:LO) (mt:Nat) (U:LL) (A:LN) (op:Op) (d:Nat) (ty:TI) (as:LL) (ops:LO) (i:Nat):Prop where
 A:A=(nj l U mt).getD i []
 o:∃ pos ab,l[i]? = some ⟨some d,op,ty,pos,ab,none⟩
 n:wV l mt U as ops (i+1)
theorem wV.cons {mt:Nat} {A:LN} {as:LL} {op:Op} {d:Nat} {ty:TI} {pos:String} {ab:Array Edge} {ops:LO} {i:Nat} (h:wV l mt U (A :: as) (⟨some d,op,ty,pos,ab,none⟩ :: ops) i):mf l mt U A op d ty as ops i:=by
 obtain ⟨h1,h2,h3⟩:=h
 have e1:(nj l U mt)[i]? = some A:=by
  have:=congrArg (fun x=>x[0]?) h1
  simpa using this.symm
 have e2:(l.take mt)[i]? = some ⟨some d,op,ty,pos,ab,none⟩:=by
  have:=congrArg (fun x=>x[0]?) h2
  simpa using this.symm
 have t1:as=(nj l U mt).drop (i+1):=by
  have:=congrArg List.tail h1
  simpa [List.tail_drop] using this
 have t2:ops=(l.take mt).drop (i+1):=by
  have:=congrArg List.tail h2
  simpa [List.tail_drop] using this
 have hi:i < mt:=by
  have:=(List.getElem?_eq_some_iff.1 e1).1
  simpa [nj] using this
 rw [List.getElem?_take,if_pos hi] at e2
 exact ⟨by rw [List.getD_eq_getElem?_getD,e1]; rfl,⟨pos,ab,e2⟩,t1,t2,hi⟩
theorem wV.next {mt:Nat} {A:LN} {as:LL} {o:Oper} {ops:LO} {i:Nat} (h:wV l mt U (A :: as) (o :: ops) i):A=(nj l U mt).getD i []∧l[i]? = some o∧wV l mt U as ops (i+1):=by
 obtain ⟨h1,h2,h3⟩:=h
 have e1:(nj l U mt)[i]? = some A:=by
  have:=congrArg (fun x=>x[0]?) h1
  simpa using this.symm
 have e2:(l.take mt)[i]? = some o:=by
  have:=congrArg (fun x=>x[0]?) h2
  simpa using this.symm
 have t1:as=(nj l U mt).drop (i+1):=by
  have:=congrArg List.tail h1
  simpa [List.tail_drop] using this
 have t2:ops=(l.take mt).drop (i+1):=by
  have:=congrArg List.tail h2
  simpa [List.tail_drop] using this
 have hi:i < mt:=by
  have:=(List.getElem?_eq_some_iff.1 e1).1
  simpa [nj] using this
 rw [List.getElem?_take,if_pos hi] at e2
 exact ⟨by rw [List.getD_eq_getElem?_getD,e1]; rfl,e2,t1,t2,hi⟩
theorem fl.swap {mt:Nat} {i:Nat} {p q:Nat×Nat×Value} {sl:LQ} {ms:MM} {r0:NV} {w0:World} {H:LN} (h:fl P Z l mt U r0 w0 H i (p :: q :: sl) ms):fl P Z l mt U r0 w0 H i (q :: p :: sl) ms:=by
 obtain ⟨S,h1,h2,h3⟩:=h
 refine ⟨S,h1,⟨fun a ha=>h2.v a ?_,h2.m,h2.s,h2.d,h2.t⟩,h3⟩
 rcases List.mem_cons.1 ha with rfl | ha
 ·simp
 ·rcases List.mem_cons.1 ha with rfl | ha
  ·simp
  ·exact List.mem_cons_of_mem _ (List.mem_cons_of_mem _ ha)
theorem fl.skip {mt:Nat} {A:LN} {j d:Nat} {p:Bool} {dst:Option Nat} {op:Op} {ty:TI} {pos:String} {ab:Array Edge} {i:Nat} {sl:LQ} {ms:MM} {r0:NV} {w0:World} {H:LN} (h:fl P Z l mt U r0 w0 H i sl ms) (hA:A=(nj l U mt).getD i []) (ho:l[i]? = some ⟨dst,op,ty,pos,ab,some (j,p)⟩)
  (hd:bj l j=some d) (hb:Ii sl j d (!p)=true) (hj:cw j A=true):fl P Z l mt U r0 w0 H (i+1) sl ms:=by
 obtain ⟨S',hl,hR,hO⟩:=h
 subst hl
 have hin:j∈(cf l).getD S'.length []:=(iy (by rw [← hA]; exact gn.1 hj)).1
 have hm:=NT hb
 have hR2:iH Z l (S'++[⟨false,fun _ _ _ _=>True⟩]) sl ms:=by
  refine ⟨fun q hq=>hR.LY hq,fun a ha=>hR.tI ha,fun i s hs=>?_,hR.d,hR.t⟩
  by_cases hi:i < S'.length
  ·rw [List.getElem?_append_left hi] at hs; exact hR.s i s hs
  ·rw [List.getElem?_append_right (by omega)] at hs
   have wu:i - S'.length=0:=by
    have:=(List.getElem?_eq_some_iff.1 hs).1
    simp at this; omega
   rw [wu] at hs
   cases hs
   exact fun _ _ _ _ _ _ _ _ _ _ _ _=>trivial
 refine ⟨S'++[⟨false,fun _ _ _ _=>True⟩],by simp,hR2,fun k hk=>?_⟩
 by_cases h2:k < S'.length
 ·exact iw.more (hO k h2) h2
 ·obtain rfl:k=S'.length:=by omega
  intro o s bm hs g r w hC hV gh hn gu sM hf
  rw [ho] at bm
  obtain rfl:=Option.some.inj bm
  rw [List.getElem?_append_right (Nat.le_refl _),Nat.sub_self] at hs
  obtain rfl:_=s:=Option.some.inj hs
  rw [if_neg (by simp)]
  have hr:r d = .bool (!p):=hR.vC (S2:=[⟨false,fun _ _ _ _=>True⟩]) hm fun q hq _=>gh q (hq.elim (fun e=>e ▸ hin) fun e=>hR.t _ _ _ e hin)
  unfold Region.wanted
  dsimp only
  rw [LB hd,hr]
  cases p <;> rfl
theorem fl.val {mt:Nat} {A:LN} {op:Op} {d:Nat} {ty:TI} {as:LL} {ops:LO} {i:Nat} {sl:LQ} {ms:MM} {r0:NV} {w0:World} {H:LN} {u:Value} (h:fl P Z l mt U r0 w0 H i sl ms) (hh:jz l mt base=true) (ha:cq r0 base) (h1:mf l mt U A op d ty as ops i)
  (hv:dM A none sl base fr) (hq:∀ r,cq r fr→∀ pos ab g w,ak H w0 w→(execOp (ev r) ⟨some d,op,ty,pos,ab,g⟩).run P w = .ok (.value u) w):fl P Z l mt U r0 w0 H (i+1) ((i,d,u) :: sl) ms:=by
 obtain ⟨S',hl,hR,hO⟩:=h
 subst hl
 obtain ⟨hA,⟨pos,ab,ho⟩,_⟩:=h1
 refine ⟨S'++[sV u],by simp,hR.val (by unfold bj; rw [ho]; rfl),fun j hj=>?_⟩
 by_cases h2:j < S'.length
 ·exact iw.more (hO j h2) h2
 ·obtain rfl:j=S'.length:=by omega
  exact Qn hh ha hR ho rfl hA hv fun r hr=>hq r hr _ _ _
def AA (P:Program) (Z:Nat→Prop) (l:LO) (mt:Nat) (U:LL) (r0:NV) (w0:World) (H:LN) (i:Nat) (sl:LQ) (ms:MM) (a:ez):Prop:=
 ∃ S:List ig,S.length=i∧iH Z l S sl ms∧(∀ j,j < i→iw P l mt S U r0 w0 H j)∧
  ∀ V:List Nat→World→(Nat→Value)→Value→Prop,(∀ f w r x,MV Z a f w r x→∃ f',(∀ b∈f',b∈f)∧V f' w r x)→iw P l mt (S++[⟨true,V⟩]) U r0 w0 H i
theorem HL.front {Δ Γ:QE} {Fd F:LN} (h:HL Z w Δ Fd) (hs:SA Z w Γ [] F):SA Z w (Δ++Γ) [] (Fd++F):=by
 induction h with
 | nil=>exact hs
 | own h _ ih=>rw [List.append_assoc]; exact SA.cons ih h
 | fact h _ ih=>exact SA.fact ih h
def B3 (A:LN) (g:Nat→List Nat):List ez→List Nat
 | []=>[]
 | a :: l=>bif cw a.j A then g a.j++B3 A g l else B3 A g l
def HV (Z:Nat→Prop) (w:World) (Δ:QE) (B:LN):Prop:=∃ Vo Vr,(∀ b∈Vo++Vr,b∈B)∧(∀ b∈Vr,b < w.heap.size)∧HL (fun b=>Z b∨b∈Vr) w Δ Vo
theorem HV.front {Δ Γ:QE} {B F:LN} (h:HV Z w Δ B) (hs:SA Z w Γ [] F):∃ G:List Nat,(∀ b∈G,b∈B++F∧b < w.heap.size)∧∃ F':List Nat,(∀ b∈F',b∈G)∧SA (fun b=>Z b∨b∈G) w (Δ++Γ) [] F':=by
 obtain ⟨Vo,Vr,h1,h2,h3⟩:=h
 have hS:=h3.front (hs.mono (Z':=fun b=>Z b∨b∈Vr) (fun _ h=>.inl h) fun _ h=>h)
 refine ⟨Vr++(Vo++F),fun b hb=>?_,Vo++F,fun b hb=>List.mem_append_right _ hb,hS.mono (fun b h=>h.imp id fun h=>List.mem_append_left _ h) fun _ h=>h⟩
 rcases List.mem_append.1 hb with hb | hb
 ·exact ⟨List.mem_append_left _ (h1 b (List.mem_append_right _ hb)),h2 b hb⟩
 ·refine ⟨?_,hS.lt b hb⟩
  rcases List.mem_append.1 hb with hb | hb
  ·exact List.mem_append_left _ (h1 b (List.mem_append_left _ hb))
  ·exact List.mem_append_right _ hb
theorem HV.app {Δ Δ':QE} {f B:LN} (h:HN Z w Δ f) (k:HV Z w Δ' B):HV Z w (Δ++Δ') (f++B):=by
 obtain ⟨Fo,Fr,rfl,h1,h2⟩:=h.all
 obtain ⟨Vo,Vr,k1,k2,k3⟩:=k
 refine ⟨Fo++Vo,Fr++Vr,fun b hb=>?_,fun b hb=>(List.mem_append.1 hb).elim (h1 b) (k2 b),(h2.mono fun b h=>h.imp id fun h=>List.mem_append_left _ h).app (k3.mono fun b h=>h.imp id fun h=>List.mem_append_right _ h)⟩
 have:=fun h=>k1 b h
 simp only [List.mem_append] at hb this ⊢
 rcases hb with (h | h) | h | h
 ·exact .inl (.inl h)
 ·exact .inr (this (.inl h))
 ·exact .inl (.inr h)
 ·exact .inr (this (.inr h))
theorem ZR {A:LN} {g:Nat→List Nat} {r:NV}:∀ {ms:MM},jj ms→j7 A ms=true→(∀ a∈ms,cw a.j A=true→MV Z a (g a.j) w r (r a.d))→
  ∃ x:ks ms,(∀ p∈jg A ms x,r p.1=p.2)∧HV Z w (px A ms x) (B3 A g ms):=by
 intro ms
 induction ms with
 | nil=>intro _ _ _; exact ⟨(),fun p hp=>absurd hp List.not_mem_nil,[],[],fun b (h:b∈[])=>absurd h List.not_mem_nil,fun b (h:b∈[])=>absurd h List.not_mem_nil,.nil⟩
 | cons a ms ih=>
  intro hi dx h
  unfold j7 at dx
  rw [Bool.and_eq_true] at dx
  cases hi with
  | cons h1 h2=>
   obtain ⟨x,hx,hl⟩:=ih h2 dx.2 fun b hb=>h b (List.mem_cons_of_mem _ hb)
   cases hb:cw a.j A with
   | false=>
    obtain ⟨v⟩:=h1.ne
    refine ⟨(v,x),?_,?_⟩
    ·simp only [jg,hb,cond_false]; exact hx
    ·simp only [px,B3,hb,cond_false]; exact hl
   | true=>
    obtain ⟨v,e1,e2,_⟩:=h a (by simp) hb
    have es:u5 a r=BX a (mF ms x):=by
     have h3:=dx.1
     rw [hb,cond_true,List.all_eq_true] at h3
     refine CQ fun t ht=>?_
     have h4:=h3 t ht
     cases hj:ou t ms with
     | none=>rw [hj] at h4; cases h4
     | some j=>rw [hj] at h4; unfold yT; rw [Ie hj h4 hx]
    rw [es] at e1 e2
    refine ⟨(v,x),?_,?_⟩
    ·simp only [jg,hb,cond_true]
     intro p hp
     rcases List.mem_cons.1 hp with rfl | hp
     ·exact e1
     ·exact hx p hp
    ·simp only [px,B3,hb,cond_true]; exact HV.app e2 hl
theorem Qo {t j:Nat}:∀ {ms:MM},ou t ms=some j→∃ a∈ms,a.j=j∧a.d=t:=by
 intro ms
 induction ms with
 | nil=>intro h; cases h
 | cons a l ih=>
  intro h
  unfold ou at h
  cases hb:Nat.beq t a.d with
  | true=>rw [hb] at h; cases h; exact ⟨a,by simp,rfl,(Nat.eq_of_beq_eq_true hb).symm⟩
  | false=>rw [hb] at h; obtain ⟨b,h1,h2⟩:=ih h; exact ⟨b,List.mem_cons_of_mem _ h1,h2⟩
theorem CR {mt i:Nat} {A:LN} (hA:A=(nj l U mt).getD i []) {S':List ig} {sl:LQ} {ms:MM} {t:Nat} (hR:iH Z l S' sl ms) (hj:∃ j,ou t ms=some j∧cw j A=true):∃ j∈(cf l).getD i [],bj l j=some t:=by
 obtain ⟨j,h1,h2⟩:=hj
 obtain ⟨a,ha,rfl,rfl⟩:=Qo h1
 exact hR.slot ha (iy (by rw [← hA]; exact gn.1 h2)).1
theorem vC {mt:Nat} {A:LN} {S' S2:List ig} {sl:LQ} {ms:MM} {g:Nat→List Nat} {r:NV} (hR:iH Z l S' sl ms) (hA:A=(nj l U mt).getD S'.length []) (hi:jj ms) (dx:j7 A ms=true) (hn:∀ j,ud l U mt S'.length j=true→xI l (S'++S2) j g r w) :
  ∃ x:ks ms,(∀ p∈jg A ms x,r p.1=p.2)∧HV Z w (px A ms x) (B3 A g ms):=
 ZR hi dx fun a hm hb=>by
  exact hR.vB hm (hn a.j (iy (by rw [← hA]; exact gn.1 hb)).2)
theorem fl.mem {mt:Nat} {A:LN} {op:Op} {d:Nat} {ty:TI} {as:LL} {ops:LO} {i:Nat} {sl:LQ} {ms:MM} {r0:NV} {w0:World} {H:LN} {a:ez} (h:fl P Z l mt U r0 w0 H i sl ms) (h1:mf l mt U A op d ty as ops i) (haj:a.j=i) (had:a.d=d)
  (dx:∀ S',iH Z l S' sl ms→∀ t∈a.src,∃ j∈(cf l).getD i [],bj l j=some t)
  (hq:∀ S' S2,S'.length=i→iH Z l S' sl ms→∀ (g:Nat→List Nat) (r:NV) (w:World),ak H w0 w→(∀ j∈(cf l).getD S'.length [],Old l (S'++S2) j r)→(∀ j,ud l U mt S'.length j=true→xI l (S'++S2) j g r w)→(∀ t,(∀ j,j < mt→bj l j≠some t)→r t=r0 t)→∀ pos ab,
   fh P ⟨some d,op,ty,pos,ab,none⟩ r w fun v w'=>ak [] w w'∧∃ f,(∀ b∈f,w.heap.size≤b∧b < w'.heap.size)∧MV Z a f w' r v):fl P Z l mt U r0 w0 H (i+1) sl (a :: ms):=by
 obtain ⟨S',hl,hR,hO⟩:=h
 subst hl
 subst had
 obtain ⟨hA,⟨pos,ab,ho⟩,_⟩:=h1
 refine ⟨S'++[⟨true,MV Z a⟩],by simp,hR.mem haj (by unfold bj; rw [ho]; rfl) (dx S' hR),fun j hj=>?_⟩
 by_cases h2:j < S'.length
 ·exact iw.more (hO j h2) h2
 ·obtain rfl:j=S'.length:=by omega
  exact iw.Il (V:=MV Z a) ho (by simp) rfl fun g r w hC hO hn gu=>hq S' _ rfl hR g r w hC hO hn gu pos ab
theorem jr.sub {ms BI:MM} {a:ez} {t:Nat} (h:jr ms t a BI):a∈ms∧a.d=t∧(∀ b∈BI,b∈ms)∧(BI.map (·.j)).Sublist (ms.map (·.j)):=by
 induction h with
 | here=>exact ⟨by simp,rfl,fun b hb=>List.mem_cons_of_mem _ hb,by simp⟩
 | there _ ih=>
  obtain ⟨h1,h2,h3,h4⟩:=ih
  refine ⟨List.mem_cons_of_mem _ h1,h2,fun b hb=>?_,by simpa using h4⟩
  rcases List.mem_cons.1 hb with rfl | hb
  ·simp
  ·exact List.mem_cons_of_mem _ (h3 b hb)
theorem iH.sub {S':List ig} {sl:LQ} {ms BI:MM} (h:iH Z l S' sl ms) (hm:∀ b∈BI,b∈ms) (hn:(BI.map (·.j)).Sublist (ms.map (·.j))):iH Z l S' sl BI:=⟨h.v,fun a ha=>h.m a (hm a ha),h.s,h.d.sublist hn,h.t⟩
theorem TY {mt:Nat} {t e et:TI} {E:ah Int} {z0:Int} {bt t1 t2 j2 d2 i d:Nat} {k:IntKind} {y:Int} {xs:List Int} {a1:ez} {ms fq oj:MM} {sl:LQ} {A:LN} {ty:TI} {as:LL} {ops:LO} {r0:NV} {w0:World} {H:LN} (hz:mz P t Int e E z0 bt) (h1:jr ms t1 a1 fq) (h2:jr fq t2 ⟨j2,d2,[],Nat,fun _ b=>.slice (some ⟨b,0,none⟩) 1 1,fun _ b=>[.row b [.int k y] et]⟩ oj) (h3:∀ u v,a1.ps u v=[.own (aJ e (aN k)) (a1.rt u v) xs]) (h4:cw a1.j A=true) (h5:cw j2 A=true) (h6:U.getD i []=[a1.j])
  (hf:fits bt (xs.length+1)=some ()) (nw:mf l mt U A (.call ⟨.builtin .append,#[.tmp t1,.tmp t2],#[t,t]⟩) d ty as ops i) (h:fl P Z l mt U r0 w0 H i sl ms) :
  fl P Z l mt U r0 w0 H (i+1) sl (⟨i,d,[],Value,fun _ v=>v,fun _ v=>[.own (aJ e (aN k)) v (xs++[y])]⟩ :: fq):=by
 obtain ⟨S',hl,hR,hO⟩:=h
 subst hl
 obtain ⟨hA,⟨pos,ab,ho⟩,_⟩:=nw
 obtain ⟨b1,b2⟩:=ie hf
 obtain ⟨q1,hE,i',z,q3,q4,q5,q6,q7,q8⟩:=hz.h
 obtain ⟨m1,m2,m3,m4⟩:=h1.sub
 obtain ⟨n1,n2,_,_⟩:=h2.sub
 refine ⟨S'++[⟨true,MV Z ⟨S'.length,d,[],Value,fun _ v=>v,fun _ v=>[.own (aJ e (aN k)) v (xs++[y])]⟩⟩],by simp,(hR.sub m3 m4).mem rfl (by unfold bj; rw [ho]; rfl) (by intro t h; cases h),fun j hj=>?_⟩
 by_cases bb:j < S'.length
 ·exact iw.more (hO j bb) bb
 ·obtain rfl:j=S'.length:=by omega
  intro o' s' bm b9 g r w hC uI gh hn gu rn ir
  rw [ho] at bm
  cases bm
  rw [List.getElem?_append_right (Nat.le_refl _),Nat.sub_self] at b9
  cases b9
  rw [if_pos rfl]
  refine ⟨rfl,?_⟩
  have get:∀ a∈ms,cw a.j A=true→MV Z a (g a.j) w r (r a.d):=fun a hm hb=>by
   exact hR.vB hm (hn a.j (iy (by rw [← hA]; exact gn.1 hb)).2)
  obtain ⟨v1,c1,c2,c3⟩:=get a1 m1 h4
  obtain ⟨v2,f1,f2,f3⟩:=get _ (m3 _ n1) h5
  rw [h3,← c1,m2] at c2
  rw [m2] at c1
  simp only at f1 f2
  subst n2
  replace c2:=c2.own rfl
  replace f2:=f2.own rfl
  generalize vA:g a1.j=G1 at c2 c3
  generalize gq:g j2=G2 at f2 f3
  cases c2 with
  | fact h _=>exact h.elim
  | @own _ ff F0 _ xJ p4=>
   cases p4
   rw [List.append_nil] at c3
   cases f2 with
   | fact h _=>exact h.elim
   | @own _ gg F0 _ av p4=>
    cases p4
    obtain ⟨rfl,av⟩:=av
    have hb:jk g (U.getD S'.length [])=ff:=by rw [h6]; simp [jk,vA]
    refine nx (fh.tw (E:=aN k) (F:=ff) q1 q3 q4 q5 rfl q6 (s:=.tmp t1) (x:=.tmp d2) rfl ⟨xJ,c3⟩ (fun b hb=>hb) f1 av ⟨rfl,rfl⟩ (by rw [q7]; exact b1) b2) ?_
    rintro v w' ⟨r4,f',qw,hV⟩
    rw [hb]
    refine ⟨r4,f',qw,v,rfl,?_,hV.2⟩
    have:=HL.own (Z:=fun _=>False) (e:=.own (aJ e (aN k)) v (xs++[y])) (f:=f') hV.1 .nil
    exact .inl (by simpa using this)
theorem fh.uF {α:Type} {E:ah α} {F f k:LN} {t e:TI} {s x:OO} {i:TypeInfo} {z:Value} {sv yv:Value} {xs ys:List α} {r:NV} {w:World} {d:Option Nat} {ty:TI} {pos:String} {ab:Array Edge} (VF:∀ {h cs x f},E.rep h cs x f→f=[])
  (ht:P.underlying t=some (.slice e)) (hi:P.info? e=some i) (hz:i.zero=some z) (hs:i.size=1) (hE:E.size=1) (zS:z.oneCell'=true)
  (uJ:ev r s=sv) (hO:Gi (aJ e E) xs f w sv) (hF:∀ b∈f,b∈F) (hx:ev r x=yv) (hy:(aV E).rep w.heap [yv] ys k)
  (hb:(xs.length+ys.length) * i.bytes≤140737488355328) (yU:xs.length+ys.length≤maxLen) :
  fh P ⟨d,.call ⟨.builtin .append,#[s,x],#[t,t]⟩,ty,pos,ab,none⟩ r w fun v w'=>ak F w w'∧∃ f',(∀ b∈f',(b∈F∨w.heap.size≤b)∧b < w'.heap.size)∧Gi (aJ e E) (xs++ys) f' w' v:=by
 have rW:=GU hy
 rcases Nat.eq_zero_or_pos ys.length with Du | Du
 ·obtain rfl:ys=[]:=List.eq_nil_of_length_eq_zero Du
  obtain ⟨b0,c0,B4⟩:=tu hy
  obtain ⟨base,cap,hv,hr⟩:=hO.1
  obtain rfl:sv = .slice base xs.length cap:=by simpa using hv
  have DW:xs.length≤cap:=by
   rcases hr with ⟨_,rfl,rfl,_⟩ | ⟨_,_,_,_,_,_,h,_⟩
   ·simp
   ·exact h
  have jl:=zT (P:=P) (w:=w) (ty:=ty) ht hi (b:=base) (a:=b0) (c:=c0) DW
  subst B4
  have ZS:(execOp (ev r) ⟨d,.call ⟨.builtin .append,#[s,x],#[t,t]⟩,ty,pos,ab,none⟩).run P w = .ok (.value (.slice base xs.length cap)) w:=by
   simp only [execOp,resolve,invoke,builtin,Sem.run_bind,Sem.run_pure,Result.andThen_ok,List.map_toArray,List.map_cons,List.map_nil,uJ,hx,List.length_nil,jl]
  unfold fh
  rw [ZS]
  exact ⟨ak.refl _ _,f,fun b hb=>⟨.inl (hF b hb),ah.lt _ hO.1 b hb⟩,by rw [List.append_nil]; exact hO⟩
 ·rcases rW with rfl | ⟨a,c,news,g1,B4,AB,c9,_⟩
  ·simp at Du
  ·obtain ⟨rfl,_⟩:=B5 (h':=w.heap) VF c9
   obtain ⟨v,w',f',h,hC,Hu,bp,cp⟩:=kv (d:=d) (ty:=ty) (pos:=pos) (ab:=ab) (g:=none) ht hi hz (by rw [hs,hE]) (by rw [cells_one zS,hE]; rfl) uJ hO.1 hO.2 (hx.trans B4) AB c9 (fun _ h=>nomatch h) Du hb yU
   unfold fh
   rw [h]
   refine ⟨hC.mono hF,f',fun b hb=>⟨?_,ah.lt _ Hu b hb⟩,Hu,cp List.nodup_nil⟩
   rcases bp b hb with h | h | h
   ·exact .inl (hF b h)
   ·cases h
   ·exact .inr h
theorem Qp {mt:Nat} {t e:TI} {E:ah Int} {z0:Int} {bt t1 t2 i d:Nat} {k:IntKind} {xs ys:List Int} {a1:ez} {ms fq:MM} {sl:LQ} {A:LN} {ty:TI} {as:LL} {ops:LO} {r0:NV} {w0:World} {H:LN} {o1 o2:Bool} {yv:Value} {Γ Γx:QE} {F:LN} (hz:mz P t Int e E z0 bt) (h1:jr ms t1 a1 fq) (h3:∀ u v,a1.ps u v=[.own (aJ e (aN k)) (a1.rt u v) xs]) (h4:cw a1.j A=true) (h6:U.getD i []=[a1.j]) (hh:jz l mt base=true) (ha:cq r0 base) (hv:dM A none sl base fr) (hx:look fr t2=some yv) (hr:lr Γ yv o1 o2 (aN k) ys o6 Γx) (hS:∀ w,ak H w0 w→SA Z w Γ [] F)
  (hf:fits bt (xs.length+ys.length)=some ()) (nw:mf l mt U A (.call ⟨.builtin .append,#[.tmp t1,.tmp t2],#[t,t]⟩) d ty as ops i) (h:fl P Z l mt U r0 w0 H i sl ms) :
  fl P Z l mt U r0 w0 H (i+1) sl (⟨i,d,[],Value,fun _ v=>v,fun _ v=>[.own (aJ e (aN k)) v (xs++ys)]⟩ :: fq):=by
 obtain ⟨S',hl,hR,hO⟩:=h
 subst hl
 obtain ⟨hA,⟨pos,ab,ho⟩,_⟩:=nw
 obtain ⟨b1,b2⟩:=ie hf
 obtain ⟨q1,hE,i',z,q3,q4,q5,q6,q7,q8⟩:=hz.h
 obtain ⟨m1,m2,m3,m4⟩:=h1.sub
 refine ⟨S'++[⟨true,MV Z ⟨S'.length,d,[],Value,fun _ v=>v,fun _ v=>[.own (aJ e (aN k)) v (xs++ys)]⟩⟩],by simp,(hR.sub m3 m4).mem rfl (by unfold bj; rw [ho]; rfl) (by intro t h; cases h),fun j hj=>?_⟩
 by_cases bb:j < S'.length
 ·exact iw.more (hO j bb) bb
 ·obtain rfl:j=S'.length:=by omega
  intro o' s' bm b9 g r w hC uI gh hn gu rn ir
  rw [ho] at bm
  cases bm
  rw [List.getElem?_append_right (Nat.le_refl _),Nat.sub_self] at b9
  cases b9
  rw [if_pos rfl]
  refine ⟨rfl,?_⟩
  have get:∀ a∈ms,cw a.j A=true→MV Z a (g a.j) w r (r a.d):=fun a hm hb=>by
   exact hR.vB hm (hn a.j (iy (by rw [← hA]; exact gn.1 hb)).2)
  obtain ⟨v1,c1,c2,c3⟩:=get a1 m1 h4
  rw [h3,← c1,m2] at c2
  rw [m2] at c1
  replace c2:=c2.own rfl
  have B4:ev r (.tmp t2)=yv:=jm hR hA hv (gx hh ha gu) gh t2 yv hx
  obtain ⟨_,_,⟨⟨kk,L5,_⟩,_⟩,_⟩:=hr.sound (hS w hC)
  generalize vA:g a1.j=G1 at c2 c3
  cases c2 with
  | fact h _=>exact h.elim
  | @own _ ff F0 _ xJ p4=>
   cases p4
   rw [List.append_nil] at c3
   have hb:jk g (U.getD S'.length [])=ff:=by rw [h6]; simp [jk,vA]
   refine nx (fh.uF (E:=aN k) (F:=ff) uG q1 q3 q4 q5 rfl q6 (s:=.tmp t1) (x:=.tmp t2) rfl ⟨xJ,c3⟩ (fun b hb=>hb) B4 L5 (by rw [q7]; exact b1) b2) ?_
   rintro v w' ⟨r4,f',qw,hV⟩
   rw [hb]
   refine ⟨r4,f',qw,v,rfl,?_,hV.2⟩
   have:=HL.own (Z:=fun _=>False) (e:=.own (aJ e (aN k)) v (xs++ys)) (f:=f') hV.1 .nil
   exact .inl (by simpa using this)
theorem Qq {mt:Nat} {t e:TI} {E:ah Int} {z0:Int} {bt t1 t2 i d:Nat} {k:IntKind} {xs ys:List Int} {a1:ez} {ms fq:MM} {sl:LQ} {A:LN} {ty:TI} {as:LL} {ops:LO} {r0:NV} {w0:World} {H:LN} {e2:TI} {a2:ez} {oj:MM} (hz:mz P t Int e E z0 bt) (h1:jr ms t1 a1 fq) (h3:∀ u v,a1.ps u v=[.own (aJ e (aN k)) (a1.rt u v) xs]) (h4:cw a1.j A=true) (h6:U.getD i []=[a1.j]) (h2:jr fq t2 a2 oj) (h7:∀ u v,a2.ps u v=[.own (aJ e2 (aN k)) (a2.rt u v) ys]) (h5:cw a2.j A=true)
  (hf:fits bt (xs.length+ys.length)=some ()) (nw:mf l mt U A (.call ⟨.builtin .append,#[.tmp t1,.tmp t2],#[t,t]⟩) d ty as ops i) (h:fl P Z l mt U r0 w0 H i sl ms) :
  fl P Z l mt U r0 w0 H (i+1) sl (⟨i,d,[],Value,fun _ v=>v,fun _ v=>[.own (aJ e (aN k)) v (xs++ys)]⟩ :: fq):=by
 obtain ⟨S',hl,hR,hO⟩:=h
 subst hl
 obtain ⟨hA,⟨pos,ab,ho⟩,_⟩:=nw
 obtain ⟨b1,b2⟩:=ie hf
 obtain ⟨q1,hE,i',z,q3,q4,q5,q6,q7,q8⟩:=hz.h
 obtain ⟨m1,m2,m3,m4⟩:=h1.sub
 obtain ⟨n1,n2,_,_⟩:=h2.sub
 refine ⟨S'++[⟨true,MV Z ⟨S'.length,d,[],Value,fun _ v=>v,fun _ v=>[.own (aJ e (aN k)) v (xs++ys)]⟩⟩],by simp,(hR.sub m3 m4).mem rfl (by unfold bj; rw [ho]; rfl) (by intro t h; cases h),fun j hj=>?_⟩
 by_cases bb:j < S'.length
 ·exact iw.more (hO j bb) bb
 ·obtain rfl:j=S'.length:=by omega
  intro o' s' bm b9 g r w hC uI gh hn gu rn ir
  rw [ho] at bm
  cases bm
  rw [List.getElem?_append_right (Nat.le_refl _),Nat.sub_self] at b9
  cases b9
  rw [if_pos rfl]
  refine ⟨rfl,?_⟩
  have get:∀ a∈ms,cw a.j A=true→MV Z a (g a.j) w r (r a.d):=fun a hm hb=>by
   exact hR.vB hm (hn a.j (iy (by rw [← hA]; exact gn.1 hb)).2)
  obtain ⟨v1,c1,c2,c3⟩:=get a1 m1 h4
  rw [h3,← c1,m2] at c2
  rw [m2] at c1
  replace c2:=c2.own rfl
  obtain ⟨v2,f1,f2,f3⟩:=get a2 (m3 _ n1) h5
  rw [h7,← f1,n2] at f2
  replace f2:=f2.own rfl
  have B4:ev r (.tmp t2)=r t2:=rfl
  obtain ⟨kk,L5⟩ : ∃ kk,(aV (aN k)).rep w.heap [r t2] ys kk:=by
   generalize g a2.j=G2 at f2
   cases f2 with
   | fact h _=>exact h.elim
   | @own _ gg F0 _ xJ p4=>exact ⟨_,(Le.own (Le.refl (aN k)) e2).le xJ⟩
  generalize vA:g a1.j=G1 at c2 c3
  cases c2 with
  | fact h _=>exact h.elim
  | @own _ ff F0 _ xJ p4=>
   cases p4
   rw [List.append_nil] at c3
   have hb:jk g (U.getD S'.length [])=ff:=by rw [h6]; simp [jk,vA]
   refine nx (fh.uF (E:=aN k) (F:=ff) uG q1 q3 q4 q5 rfl q6 (s:=.tmp t1) (x:=.tmp t2) rfl ⟨xJ,c3⟩ (fun b hb=>hb) B4 L5 (by rw [q7]; exact b1) b2) ?_
   rintro v w' ⟨r4,f',qw,hV⟩
   rw [hb]
   refine ⟨r4,f',qw,v,rfl,?_,hV.2⟩
   have:=HL.own (Z:=fun _=>False) (e:=.own (aJ e (aN k)) v (xs++ys)) (f:=f') hV.1 .nil
   exact .inl (by simpa using this)
theorem tU {t:TI} {x y:OO} {i:TypeInfo} {b off:Nat} {cs us:LV} {e:TI} {r:NV} {d:Option Nat} {ty:TI} {pos:String} {ab:Array Edge} {gg:Option (Nat×Bool)}
  (hi:P.info? t=some i) (hs:us.length=i.size) (av:Row w b cs e) (hl:off+us.length≤cs.length) (hx:ev r x = .pointer (some ⟨b,off,none⟩)) (hy:(ev r y).cells.toList=us) (hu:∀ u∈us,u.oneCell'=true) :
  (execOp (ev r) ⟨d,.store t x y,ty,pos,ab,gg⟩).run P w = .ok .skip (w.setRow b (cs.take off++us++cs.drop (off+us.length)).toArray):=by
 have h:=run_storeCells_at P b off e us 0 cs.toArray w av (by simpa using hl) hu
 simp only [Nat.add_zero] at h
 have NY:(ev r y).cells=us.toArray:=by rw [← hy]
 simp only [execOp,Instr.storeAt,Instr.sureAddr,hx,storeVar]
 simp [NY,sizeOf,typeInfo,hi,hs,h]
theorem TZ {mt:Nat} {t e:TI} {t1 j1 n i:Nat} {y:OO} {u:Value} {us cs ds:LV} {ms fq:MM} {sl:LQ} {A:LN} {ty:TI} {as:LL} {ops:LO} {r0:NV} {w0:World} {H:LN} {Γ:QE} {F:LN} (hh:jz l mt base=true) (ha:cq r0 base) (ht:sI P t n)
  (h1:jr ms t1 ⟨j1,t1,[],Nat,fun _ b=>.pointer (some ⟨b,0,none⟩),fun _ b=>[.row b cs e]⟩ fq) (hv:dM A none sl base fr) (hy:ay fr y=some u) (hc:rU Γ u us) (mh:us.length=n) (hs:sJ us 0 cs ds) (ho:uZ Γ us) (h4:cw j1 A=true) (h6:U.getD i []=[j1])
  (hS:∀ w,ak H w0 w→SA Z w Γ [] F) (nw:VE l mt U A (.store t (.tmp t1) y) ty as ops i) (h:fl P Z l mt U r0 w0 H i sl ms) :
  fl P Z l mt U r0 w0 H (i+1) sl (⟨i,t1,[],Nat,fun _ b=>.pointer (some ⟨b,0,none⟩),fun _ b=>[.row b ds e]⟩ :: fq):=by
 obtain ⟨S',hl,hR,hO⟩:=h
 subst hl
 obtain ⟨hA,⟨pos,ab,Im⟩,_⟩:=nw
 obtain ⟨ti,q1,q2⟩:=ht.h
 obtain ⟨m1,_,m3,m4⟩:=h1.sub
 have AE:=iy (by rw [← hA]; exact gn.1 h4)
 refine ⟨S'++[⟨true,NR Z ⟨S'.length,t1,[],Nat,fun _ b=>.pointer (some ⟨b,0,none⟩),fun _ b=>[.row b ds e]⟩⟩],by simp,(hR.sub m3 m4).aci (b:=⟨S'.length,t1,[],Nat,fun _ b=>.pointer (some ⟨b,0,none⟩),fun _ b=>[.row b ds e]⟩) rfl (by unfold bj; rw [Im]; rfl) (hR.slot m1 AE.1) rfl,fun j hj=>?_⟩
 by_cases bb:j < S'.length
 ·exact iw.more (hO j bb) bb
 ·obtain rfl:j=S'.length:=by omega
  intro o' s' bm b9 g r w hC uI gh hn gu rn ir
  rw [Im] at bm
  cases bm
  rw [List.getElem?_append_right (Nat.le_refl _),Nat.sub_self] at b9
  cases b9
  rw [if_pos rfl]
  refine ⟨rfl,?_⟩
  obtain ⟨b,c1,c2,c3⟩:=hR.vB m1 (hn j1 AE.2)
  simp only at c1 c2
  replace c2:=c2.own rfl
  generalize vA:g j1=G1 at c2 c3
  cases c2 with
  | fact h _=>exact h.elim
  | @own _ ff F0 _ xJ p4=>
   cases p4
   obtain ⟨rfl,av⟩:=xJ
   have hb:jk g (U.getD S'.length [])=[b]:=by rw [h6]; simp [jk,vA]
   have hr:=jm hR hA hv (gx hh ha gu) gh
   obtain ⟨e1,e2⟩:=hs.eq
   have Ic:=hS w hC
   have jl:=tU (P:=P) (d:=none) (ty:=ty) (pos:=pos) (ab:=ab) (gg:=none) q1 (by rw [mh,q2]) av e1 (x:=.tmp t1) c1 (y:=y) (by rw [aQ hr hy]; exact hc.eq Ic) (ho.one Ic)
   unfold fh
   rw [jl,hb]
   have lz:=setRow_heap w b cs.toArray (cs.take 0++us++cs.drop (0+us.length)).toArray e _ av
   have acj:b < w.heap.size:=av.lt
   refine ⟨⟨rfl,rfl,rfl,Nat.le_refl _,by simp,fun j _ hj=>setRow_other w b j _ fun h=>hj (by simp [h])⟩,[b],fun b' cg=>?_,b,c1,?_,by simp⟩
   ·rw [List.mem_singleton.1 cg]
    exact ⟨.inl (by simp),by simpa using acj⟩
   ·refine .inl (HL.own (f:=[b]) ⟨rfl,?_⟩ .nil)
    rw [e2]
    exact lz
theorem T0 {mt:Nat} {t i d:Nat} {cs:LV} {sl:LQ} {ms:MM} {A:LN} {ty:TI} {as:LL} {ops:LO} {r0:NV} {w0:World} {H:LN} (hz:zO P t cs) (h1:mf l mt U A (.alloc t) d ty as ops i) (h:fl P Z l mt U r0 w0 H i sl ms) :
   fl P Z l mt U r0 w0 H (i+1) sl (⟨i,d,[],Nat,fun _ b=>.pointer (some ⟨b,0,none⟩),fun _ b=>[.row b cs t]⟩ :: ms):=by
 obtain ⟨i',z,t1,t2,t3⟩:=hz.h
 refine h.mem h1 rfl rfl (fun _ _ _ h=>nomatch h) fun S' S2 hl hR g r w hC gh hn gu pos ab=>nx (fh.Vy (cs:=cs) t1 t2 (by rw [← t3])) ?_
 rintro v w' ⟨hC,f,hf,b,e1,e2,av⟩
 refine ⟨hC,f,hf,b,e2,?_,by rw [e1]; simp⟩
 have:=HL.own (Z:=fun _=>False) (e:=.row b cs t) (f:=[b]) ⟨rfl,av⟩ .nil
 rw [e1]
 exact .inl (by simpa using this)
theorem VG {mt t n:Nat} {A:LN} {st:TI} {d:Nat} {ty:TI} {as:LL} {ops:LO} {i:Nat} {sl:LQ} {ms:MM} {r0:NV} {w0:World} {H:LN} (h:fl P Z l mt U r0 w0 H i sl ms) (h1:mf l mt U A (.call ⟨.builtin .len,#[.tmp t],#[st]⟩) d ty as ops i) (ht:tT P st) (hi:jj ms) (dx:j7 A ms=true) (hx:∀ x:ks ms,Vx (jg A ms x) (px A ms x) t n):fl P Z l mt U r0 w0 H (i+1) ((i,d,.int .i64 (n:Int)) :: sl) ms:=by
 obtain ⟨S',hl,hR,hO⟩:=h
 subst hl
 obtain ⟨hA,⟨pos,ab,ho⟩,_⟩:=h1
 obtain ⟨e,i',q1,_,_⟩:=ht.h
 refine ⟨S'++[sV (.int .i64 (n:Int))],by simp,hR.val (by unfold bj; rw [ho]; rfl),fun j hj=>?_⟩
 by_cases h2:j < S'.length
 ·exact iw.more (hO j h2) h2
 ·obtain rfl:j=S'.length:=by omega
  refine iw.val (v:=.int .i64 (n:Int)) ho (by simp) rfl fun g r w hC gh hn gu=>?_
  obtain ⟨x,hv,hE⟩:=vC hR hA hi dx hn
  obtain ⟨xK,EB⟩:=hx x
  have yV:=(mw hv vF) t _ (by rw [List.append_nil]; exact xK)
  obtain ⟨_,_,_,_,hS⟩:=hE.front (Γ:=[]) (F:=[]) rfl
  rw [List.append_nil] at hS
  obtain ⟨b,c,rfl⟩:=EB.sound hS
  exact wo q1 (x:=.tmp t) yV
theorem fl.dep {mt t:Nat} {A:LN} {op:Op} {d:Nat} {ty:TI} {as:LL} {ops:LO} {i:Nat} {sl:LQ} {ms:MM} {r0:NV} {w0:World} {H:LN} {X:Value→Value} (h:fl P Z l mt U r0 w0 H i sl ms) (h1:mf l mt U A op d ty as ops i) (hi:jj ms) (dx:j7 A ms=true) (hj:∃ j,ou t ms=some j∧cw j A=true)
  (hq:∀ (r:NV) (x:ks ms),(∀ p∈jg A ms x,r p.1=p.2)→∀ w pos ab,(execOp (ev r) ⟨some d,op,ty,pos,ab,none⟩).run P w = .ok (.value (X (r t))) w):fl P Z l mt U r0 w0 H (i+1) sl (⟨i,d,[t],Unit,fun u _=>X u,fun _ _=>[]⟩ :: ms):=by
 refine h.mem h1 rfl rfl (fun S' hR t' ht=>by rw [List.mem_singleton.1 ht]; exact CR h1.A hR hj) ?_
 intro S' S2 hl hR g r w hC gh hn gu pos ab
 obtain ⟨x,hx,_⟩:=vC hR (by rw [hl]; exact h1.A) hi dx hn
 unfold fh
 rw [hq r x hx]
 exact ⟨ak.refl _ _,[],fun b hb=>absurd hb List.not_mem_nil,(),rfl,.inl .nil,List.nodup_nil⟩
theorem T1 {mt:Nat} {t:TI} {ps:List (Nat×Operand)} {zc:LV} {pl:List (Nat×Nat)} {A:LN} {as:LL} {d:Nat} {ty:TI} {ops:LO} {i:Nat} {sl:LQ} {ms:MM} {fr:Fr} {hd Γ:QE} {B:Bs} {r0:NV} {w0:World} {H:LN} {X:Value→List Value} {ts:LN} (hh:jz l mt base=true) (hb:yQ P t zc pl) (hi:jj ms) (dx:j7 A ms=true) (hj:tsB A ms ts=true) (hv:dM A none sl base fr)
   (hx:∀ x:ks ms,xe (px A ms x++Γ) (jg A ms x++fr) pl ps zc (X (zE (yT (mF ms x)) ts))) (h1:mf l mt U A (.build t ps.toArray) d ty as ops i) (ha:cq r0 base) (hs:mi B Z hd Γ H w0) (h:fl P Z l mt U r0 w0 H i sl ms) :
   fl P Z l mt U r0 w0 H (i+1) sl (⟨i,d,ts,Unit,fun u _=>.agg (X u).toArray,fun _ _=>[]⟩ :: ms):=by
 have hts:∀ t∈ts,∃ j,ou t ms=some j∧cw j A=true:=fun t ht=>by
  have:=List.all_eq_true.1 hj t ht
  cases hf:ou t ms with
  | none=>rw [hf] at this; cases this
  | some j=>rw [hf] at this; exact ⟨j,rfl,this⟩
 refine h.mem h1 rfl rfl (fun S' hR t' ht=>CR h1.A hR (hts t' ht)) ?_
 intro S' S2 hl hR g r w hC gh hn gu pos ab
 have hA:=h1.A
 rw [← hl] at hA
 have hbs:=jm hR hA hv (gx hh ha gu) gh
 obtain ⟨x,hxv,tJ⟩:=vC hR hA hi dx hn
 obtain ⟨F,Hd,⟨r5,r6,ov,r7⟩,hS,hG⟩:=hs
 obtain ⟨G,_,_,_,ja⟩:=tJ.front (mi.stay hS hG hC)
 have e:zE (yT (mF ms x)) ts=zE r ts:=CQ fun t ht=>by
  obtain ⟨j,h2,h3⟩:=hts t ht
  unfold yT
  rw [Ie h2 h3 hxv]
 have hF:=hx x
 rw [e] at hF
 have jl:=(VQ.SN (P:=P) (hb:=hb) hF).sound ja (mw hxv hbs) (some d) ty pos ab none w (ak.refl _ _)
 unfold fh
 rw [jl]
 exact ⟨ak.refl _ _,[],fun b hb=>absurd hb List.not_mem_nil,(),rfl,.inl .nil,List.nodup_nil⟩
theorem T2 {mt:Nat} {α:Type} {t e:TI} {E:ah α} {z0:α} {bt i d:Nat} {sl:LQ} {ms:MM} {A:LN} {ty:TI} {as:LL} {ops:LO} {r0:NV} {w0:World} {H:LN} (hz:mz P t α e E z0 bt) (h1:mf l mt U A (.buildSlice t 0 #[]) d ty as ops i) (h:fl P Z l mt U r0 w0 H i sl ms) :
   fl P Z l mt U r0 w0 H (i+1) sl (⟨i,d,[],Value,fun _ v=>v,fun _ v=>[.own (aJ e E) v []]⟩ :: ms):=by
 obtain ⟨t1,_,i',z,t2,_⟩:=hz.h
 refine h.mem h1 rfl rfl (fun _ _ _ h=>nomatch h) fun S' S2 hl hR g r w hC gh hn gu pos ab=>nx (fh.made (DX (E:=E) t1 t2)) ?_
 rintro v w' ⟨hC,f,hf,hV⟩
 refine ⟨hC,f,hf,v,rfl,?_,hV.2⟩
 have:=HL.own (Z:=fun _=>False) (e:=.own (aJ e E) v []) (f:=f) hV.1 .nil
 exact .inl (by simpa using this)
theorem VH {mt n:Nat} {α:Type} {t e:TI} {E:ah α} {z0:α} {bt i d:Nat} {sl:LQ} {ms:MM} {A:LN} {ty:TI} {as:LL} {ops:LO} {r0:NV} {w0:World} {H:LN} {x:OO} {z:Int} (hh:jz l mt base=true) (ha:cq r0 base) (hz:mz P t α e E z0 bt) (hv:dM A none sl base fr) (hx:ay fr x=some (.int .i64 z)) (hn:mk bt z=some n) (h1:mf l mt U A (.makeSlice t x x) d ty as ops i) (h:fl P Z l mt U r0 w0 H i sl ms) :
   fl P Z l mt U r0 w0 H (i+1) sl (⟨i,d,[],Value,fun _ v=>v,fun _ v=>[.own (aJ e E) v (List.replicate n z0)]⟩ :: ms):=by
 obtain ⟨e1,e2,e3⟩:=Gf hn
 obtain ⟨t1,hE,i',z',t2,t3,t4,t5,t6,t7⟩:=hz.h
 subst e1
 refine h.mem h1 rfl rfl (fun _ _ _ h=>nomatch h) fun S' S2 hl hR g r w hC gh hn gu pos ab=>?_
 have hb:=jm hR (by rw [hl]; exact h1.A) hv (gx hh ha gu) gh
 refine nx (fh.made (Io (E:=E) (z0:=z0) t1 t2 t3 t4 hE t5 t7 (aQ hb hx) (aQ hb hx) (by rw [t6]; exact e2) e3)) ?_
 rintro v w' ⟨hC,f,hf,hV⟩
 refine ⟨hC,f,hf,v,rfl,?_,hV.2⟩
 have:=HL.own (Z:=fun _=>False) (e:=.own (aJ e E) v (List.replicate n z0)) (f:=f) hV.1 .nil
 exact .inl (by simpa using this)
theorem VI {mt:Nat} {α:Type} {t e:TI} {E:ah α} {z0:α} {bt i d:Nat} {sl:LQ} {ms:MM} {A:LN} {ty:TI} {as:LL} {ops:LO} {r0:NV} {w0:World} {H:LN} {x:OO} {u:Value} {Γ:QE} {F:LN} (hh:jz l mt base=true) (ha:cq r0 base) (hz:mz P t α e E z0 bt) (hv:dM A none sl base fr) (hx:ay fr x=some u) (ho:One Γ u) (hS:∀ w,ak H w0 w→SA Z w Γ [] F) (h1:mf l mt U A (.buildSlice t 1 #[(0,x)]) d ty as ops i) (h:fl P Z l mt U r0 w0 H i sl ms) :
   fl P Z l mt U r0 w0 H (i+1) sl (⟨i,d,[],Nat,fun _ b=>.slice (some ⟨b,0,none⟩) 1 1,fun _ b=>[.row b [u] e]⟩ :: ms):=by
 obtain ⟨t1,hE,i',z',t2,t3,t4,t5,t6,t7⟩:=hz.h
 refine h.mem h1 rfl rfl (fun _ _ _ h=>nomatch h) fun S' S2 hl hR g r w hC gh hn gu pos ab=>?_
 have hb:=jm hR (by rw [hl]; exact h1.A) hv (gx hh ha gu) gh
 refine nx (fh.Ge t1 t2 t3 t4 (aQ hb hx) (ho.one (hS w hC))) ?_
 rintro v w' ⟨hC,f,hf,b,e1,e2,av⟩
 refine ⟨hC,f,hf,b,e2,?_,by rw [e1]; simp⟩
 have:=HL.own (Z:=fun _=>False) (e:=.row b [u] e) (f:=[b]) ⟨rfl,av⟩ .nil
 rw [e1]
 exact .inl (by simpa using this)
theorem KK {mt n:Nat} {t e:TI} {i d:Nat} {sl:LQ} {ms:MM} {A:LN} {ty:TI} {as:LL} {ops:LO} {r0:NV} {w0:World} {H:LN} {ps:List (Nat×Operand)} {us:LV} {Γ:QE} {F:LN} (hh:jz l mt base=true) (ha:cq r0 base) (hz:HW P t e) (hv:dM A none sl base fr) (hd:vK Γ fr 0 ps us) (hn:us.length=n) (hb:(Nat.ble 1 n && Nat.ble n 16777216)=true) (hS:∀ w,ak H w0 w→SA Z w Γ [] F) (h1:mf l mt U A (.buildSlice t n ps.toArray) d ty as ops i) (h:fl P Z l mt U r0 w0 H i sl ms) :
   fl P Z l mt U r0 w0 H (i+1) sl (⟨i,d,[],Nat,fun _ b=>.slice (some ⟨b,0,none⟩) n n,fun _ b=>[.row b us e]⟩ :: ms):=by
 refine h.mem h1 rfl rfl (fun _ _ _ h=>nomatch h) fun S' S2 hl hR g r w hC gh hnn gu pos ab=>?_
 have cg:=jm hR (by rw [hl]; exact h1.A) hv (gx hh ha gu) gh
 unfold fh
 rw [hd.op cg (hS w hC) hz hn hb]
 refine ⟨ak.alloc _ _ _,[w.heap.size],fun b hb=>by rw [List.mem_singleton.1 hb]; simp,w.heap.size,rfl,?_,by simp⟩
 have:=HL.own (Z:=fun _=>False) (e:=.row w.heap.size us e) (f:=[w.heap.size]) ⟨rfl,heap_alloc_new w _⟩ .nil
 exact .inl (by simpa using this)
theorem T3 {mt t:Nat} {α:Type} {s e:TI} {E:ah α} {z0:α} {bt i d:Nat} {sl:LQ} {ms:MM} {A:LN} {ty:TI} {as:LL} {ops:LO} {r0:NV} {w0:World} {H:LN} (hz:mz P s α e E z0 bt) (hi:jj ms) (dx:j7 A ms=true) (hj:∃ j,ou t ms=some j∧cw j A=true) (hx:∀ x:ks ms,Qk (jg A ms x) (px A ms x) t) (h1:mf l mt U A (.buildSlice s 1 #[(0,.tmp t)]) d ty as ops i) (h:fl P Z l mt U r0 w0 H i sl ms) :
   fl P Z l mt U r0 w0 H (i+1) sl (⟨i,d,[t],Nat,fun _ b=>.slice (some ⟨b,0,none⟩) 1 1,fun u b=>[.row b [u] e]⟩ :: ms):=by
 obtain ⟨t1,hE,i',z',t2,t3,t4,t5,t6,t7⟩:=hz.h
 refine h.mem h1 rfl rfl (fun S' hR t' ht=>by rw [List.mem_singleton.1 ht]; exact CR h1.A hR hj) ?_
 intro S' S2 hl hR g r w hC gh hn gu pos ab
 obtain ⟨x,hv,hE⟩:=vC hR (by rw [hl]; exact h1.A) hi dx hn
 obtain ⟨xK,uh⟩:=hx x
 have yV:r t=_:=(mw hv vF) t _ (by rw [List.append_nil]; exact xK)
 obtain ⟨_,_,_,_,hS⟩:=hE.front (Γ:=[]) (F:=[]) rfl
 rw [List.append_nil] at hS
 refine nx (fh.Ge t1 t2 t3 t4 (x:=.tmp t) rfl (by show (r t).oneCell'=true; rw [yV]; exact uh.one hS)) ?_
 rintro v w' ⟨hC,f,hf,b,e1,e2,av⟩
 refine ⟨hC,f,hf,b,e2,?_,by rw [e1]; simp⟩
 have:=HL.own (Z:=fun _=>False) (e:=.row b [r t] e) (f:=[b]) ⟨rfl,av⟩ .nil
 rw [e1]
 exact .inl (by simpa [u5,zE] using this)
theorem T4:∀ cs:List Value,lg cs [] cs:=by
 intro cs
 induction cs with
 | nil=>exact .nil
 | cons c cs ih=>exact .cons ih
theorem T5 {mt t n:Nat} {s e:TI} {i d:Nat} {sl:LQ} {ms:MM} {A:LN} {ty:TI} {as:LL} {ops:LO} {r0:NV} {w0:World} {H:LN} (hz:Nx P s e n) (hb:(Nat.ble 1 1 && Nat.ble (1 * n) 16777216)=true) (hi:jj ms) (dx:j7 A ms=true) (hj:∃ j,ou t ms=some j∧cw j A=true) (hx:∀ x:ks ms,Ql (jg A ms x) t n) (h1:mf l mt U A (.buildSlice s 1 #[(0,.tmp t)]) d ty as ops i) (h:fl P Z l mt U r0 w0 H i sl ms) :
   fl P Z l mt U r0 w0 H (i+1) sl (⟨i,d,[t],Nat,fun _ b=>.slice (some ⟨b,0,none⟩) 1 1,fun u b=>[.row b u.cells.toList e]⟩ :: ms):=by
 refine h.mem h1 rfl rfl (fun S' hR t' ht=>by rw [List.mem_singleton.1 ht]; exact CR h1.A hR hj) ?_
 intro S' S2 hl hR g r w hC gh hn gu pos ab
 obtain ⟨x,hv,hE⟩:=vC hR (by rw [hl]; exact h1.A) hi dx hn
 obtain ⟨xK,hlen⟩:=hx x
 rename_i cs
 have yV:r t = .agg cs.toArray:=(mw hv vF) t _ (by rw [List.append_nil]; exact xK)
 have tG:cq r [(t,.agg cs.toArray)]:=(fun t' v' h'=>by
  simp only [look] at h'
  cases h2:Nat.beq t' t with
  | true=>rw [h2] at h'; cases h'; rw [Nat.eq_of_beq_eq_true h2]; exact yV
  | false=>rw [h2] at h'; cases h')
 have hd:xf [] [(t,.agg cs.toArray)] n 0 [(0,.tmp t)] cs:=.cons (v:=.agg cs.toArray) (by simp [ay,look]) .agg hlen .nil (T4 cs)
 have Im:(execOp (ev r) ⟨some d,.buildSlice s 1 #[(0,.tmp t)],ty,pos,ab,none⟩).run P w=_:=hd.op (Z:=fun _=>False) (w:=w) (cur:=[]) (F:=[]) tG rfl hz rfl hb
 unfold fh
 rw [Im]
 refine ⟨ak.alloc _ _ _,[w.heap.size],fun b hb=>by rw [List.mem_singleton.1 hb]; simp,w.heap.size,rfl,?_,by simp⟩
 have vy:(Value.agg cs.toArray).cells.toList=cs:=rfl
 have:=HL.own (Z:=fun _=>False) (e:=.row w.heap.size (r t).cells.toList e) (f:=[w.heap.size]) ⟨rfl,by rw [yV,vy]; exact heap_alloc_new w _⟩ .nil
 exact .inl (by simpa [u5,zE] using this)
theorem Qr {mt:Nat} {β V:Type} {A:LN} {as:LL} {d:Nat} {f:FuncId} {xs:List Operand} {au:Array TypeId} {ty:TI} {mo:Option β} {rt:β→V→List Value} {ps:β→V→List aq} {ops:LO} {i:Nat} {sl:LQ} {ms:MM} {fr:Fr} {hd Γ:QE} {B:Bs} {r0:NV} {w0:World} {H:LN} {y:β} (hh:jz l mt base=true) (hf:bg P f) (hv:dM A none sl base fr)
   (hc:∀ x:ks ms,LM P f xs (jg A ms x++fr) (px A ms x++Γ) mo rt ps) (hi:jj ms) (dx:j7 A ms=true) (hw:∀ y v,qu (ps y v)=true) (h1:mf l mt U A (.call ⟨.value (.func f),xs.toArray,au⟩) d ty as ops i) (hy:mo=some y) (ha:cq r0 base) (hs:mi B Z hd Γ H w0) (h:fl P Z l mt U r0 w0 H i sl ms) :
   AA P Z l mt U r0 w0 H i sl ms ⟨i,d,[],V,fun _ v=>l7 (rt y v),fun _=>ps y⟩:=by
 obtain ⟨S',hl,hR,hO⟩:=h
 subst hl
 refine ⟨S',rfl,hR,hO,fun V' hV=>?_⟩
 obtain ⟨hA,⟨pos,ab,ho⟩,_⟩:=h1
 refine iw.Il (V:=V') ho (by simp) rfl fun g r w hC gh hn gu=>?_
 have hb:=jm hR hA hv (gx hh ha gu) gh
 obtain ⟨x,hx,tJ⟩:=vC hR hA hi dx hn
 obtain ⟨xL,sr,hd,hr⟩:=hc x
 obtain ⟨fn,c,f1,f2,f3⟩:=hf.h
 refine Calls.CO f1 f2 f3 ?_
 rw [mq (mw hx hb) xL]
 obtain ⟨F,Hd,⟨r5,r6,ov,r7⟩,hS,hG⟩:=hs
 obtain ⟨G,l5,FV,zU,ja⟩:=tJ.front (mi.stay hS hG hC)
 rw [p9] at sr
 refine (sr.2 w (fun b=>Z b∨b∈G) [] (hr.sound (fun _ h=>h) (fun _ b hb=>.inr (zU b hb)) ja hd.ho) List.nodup_nil (fun b hb=>absurd hb List.not_mem_nil)
  (fun b hb=>hb.elim (fun h=>Nat.lt_of_lt_of_le (hG.nh b h) hC.size) fun h=>(l5 b h).2) y hy).mono ?_
 rintro e w' ⟨v,he,Z2,F2,ox,gq⟩
 have yW:HL (fun _=>False) w' (ps y v) F2:=wm (hw y v) ox
 have bb:=(yW.front (Γ:=[]) (F:=[]) rfl).lt
 obtain ⟨f',bp,xM⟩:=hV F2 w' r _ ⟨v,rfl,.inl yW,gq.nd⟩
 refine ⟨_,he,gq.jf,f',fun b hb=>⟨(gq.low b (bp b hb)).resolve_left List.not_mem_nil,bb b (by simpa using bp b hb)⟩,xM⟩
theorem NZ {mt:Nat} {β V:Type} {A:LN} {as:LL} {d:Nat} {f:FuncId} {fs bs:LV} {xo:OO} {xs:List Operand} {au:Array TypeId} {ty:TI} {mo:Option β} {rt:β→V→List Value} {ps:β→V→List aq} {ops:LO} {i:Nat} {sl:LQ} {ms:MM} {fr:Fr} {hd Γ:QE} {B:Bs} {r0:NV} {w0:World} {H:LN} {y:β} (hh:jz l mt base=true) (hf:bg P f) (hv:dM A none sl base fr)
   (EI:ay fr xo=some (.func (.func f) fs.toArray bs.toArray)) (hc:∀ x:ks ms,ED P f fs bs xs (jg A ms x++fr) (px A ms x++Γ) mo rt ps) (hi:jj ms) (dx:j7 A ms=true) (hw:∀ y v,qu (ps y v)=true) (h1:mf l mt U A (.call ⟨.value xo,xs.toArray,au⟩) d ty as ops i) (hy:mo=some y) (ha:cq r0 base) (hs:mi B Z hd Γ H w0) (h:fl P Z l mt U r0 w0 H i sl ms) :
   AA P Z l mt U r0 w0 H i sl ms ⟨i,d,[],V,fun _ v=>l7 (rt y v),fun _=>ps y⟩:=by
 obtain ⟨S',hl,hR,hO⟩:=h
 subst hl
 refine ⟨S',rfl,hR,hO,fun V' hV=>?_⟩
 obtain ⟨hA,⟨pos,ab,ho⟩,_⟩:=h1
 refine iw.Il (V:=V') ho (by simp) rfl fun g r w hC gh hn gu=>?_
 have hb:=jm hR hA hv (gx hh ha gu) gh
 obtain ⟨x,hx,tJ⟩:=vC hR hA hi dx hn
 obtain ⟨xL,k1,k2,sr,hd,hr⟩:=hc x
 obtain ⟨fn,c,f1,f2,f3⟩:=hf.h
 unfold fh
 rw [Ib (aQ hb EI) f1 f2 f3,mq (mw hx hb) xL,List.append_assoc,k1.eq,k2.eq]
 obtain ⟨F,Hd,⟨r5,r6,ov,r7⟩,hS,hG⟩:=hs
 obtain ⟨G,l5,FV,zU,ja⟩:=tJ.front (mi.stay hS hG hC)
 rw [p9] at sr
 refine (sr.2 w (fun b=>Z b∨b∈G) [] (hr.sound (fun _ h=>h) (fun _ b hb=>.inr (zU b hb)) ja hd.ho) List.nodup_nil (fun b hb=>absurd hb List.not_mem_nil)
  (fun b hb=>hb.elim (fun h=>Nat.lt_of_lt_of_le (hG.nh b h) hC.size) fun h=>(l5 b h).2) y hy).mono ?_
 rintro e w' ⟨v,he,Z2,F2,ox,gq⟩
 have yW:HL (fun _=>False) w' (ps y v) F2:=wm (hw y v) ox
 have bb:=(yW.front (Γ:=[]) (F:=[]) rfl).lt
 obtain ⟨f',bp,xM⟩:=hV F2 w' r _ ⟨v,rfl,.inl yW,gq.nd⟩
 refine ⟨_,he,gq.jf,f',fun b hb=>⟨(gq.low b (bp b hb)).resolve_left List.not_mem_nil,bb b (by simpa using bp b hb)⟩,xM⟩
theorem N0 {mt:Nat} {β V:Type} {A:LN} {as:LL} {d:Nat} {f:FuncId} {it:TI} {nm:String} {u:Value} {xo:OO} {xs:List Operand} {au:Array TypeId} {ty:TI} {mo:Option β} {rt:β→V→List Value} {ps:β→V→List aq} {ops:LO} {i:Nat} {sl:LQ} {ms:MM} {fr:Fr} {hd Γ:QE} {B:Bs} {r0:NV} {w0:World} {H:LN} {y:β} (hh:jz l mt base=true) (hf:U6 P it nm f) (hv:dM A none sl base fr)
   (EI:ay fr xo=some (.iface it u)) (hc:∀ x:ks ms,ED P f [u] [] xs (jg A ms x++fr) (px A ms x++Γ) mo rt ps) (hi:jj ms) (dx:j7 A ms=true) (hw:∀ y v,qu (ps y v)=true) (h1:mf l mt U A (.call ⟨.invoke xo nm,xs.toArray,au⟩) d ty as ops i) (hy:mo=some y) (ha:cq r0 base) (hs:mi B Z hd Γ H w0) (h:fl P Z l mt U r0 w0 H i sl ms) :
   AA P Z l mt U r0 w0 H i sl ms ⟨i,d,[],V,fun _ v=>l7 (rt y v),fun _=>ps y⟩:=by
 obtain ⟨S',hl,hR,hO⟩:=h
 subst hl
 refine ⟨S',rfl,hR,hO,fun V' hV=>?_⟩
 obtain ⟨hA,⟨pos,ab,ho⟩,_⟩:=h1
 refine iw.Il (V:=V') ho (by simp) rfl fun g r w hC gh hn gu=>?_
 have hb:=jm hR hA hv (gx hh ha gu) gh
 obtain ⟨x,hx,tJ⟩:=vC hR hA hi dx hn
 obtain ⟨xL,k1,k2,sr,hd,hr⟩:=hc x
 have f1:=hf.h
 unfold fh
 rw [GR f1 (aQ hb EI),mq (mw hx hb) xL]
 have k3:=k2.eq
 rw [← k1.eq,List.append_nil,List.singleton_append] at k3
 rw [k3]
 obtain ⟨F,Hd,⟨r5,r6,ov,r7⟩,hS,hG⟩:=hs
 obtain ⟨G,l5,FV,zU,ja⟩:=tJ.front (mi.stay hS hG hC)
 rw [p9] at sr
 refine (sr.2 w (fun b=>Z b∨b∈G) [] (hr.sound (fun _ h=>h) (fun _ b hb=>.inr (zU b hb)) ja hd.ho) List.nodup_nil (fun b hb=>absurd hb List.not_mem_nil)
  (fun b hb=>hb.elim (fun h=>Nat.lt_of_lt_of_le (hG.nh b h) hC.size) fun h=>(l5 b h).2) y hy).mono ?_
 rintro e w' ⟨v,he,Z2,F2,ox,gq⟩
 have yW:HL (fun _=>False) w' (ps y v) F2:=wm (hw y v) ox
 have bb:=(yW.front (Γ:=[]) (F:=[]) rfl).lt
 obtain ⟨f',bp,xM⟩:=hV F2 w' r _ ⟨v,rfl,.inl yW,gq.nd⟩
 refine ⟨_,he,gq.jf,f',fun b hb=>⟨(gq.low b (bp b hb)).resolve_left List.not_mem_nil,bb b (by simpa using bp b hb)⟩,xM⟩
theorem Ip {A:LN} {g:Nat→List Nat} {b:Nat}:∀ {ms:MM},b∈B3 A g ms→∃ a∈ms,cw a.j A=true∧b∈g a.j:=by
 intro ms
 induction ms with
 | nil=>intro h; exact absurd h List.not_mem_nil
 | cons a l ih=>
  intro h
  unfold B3 at h
  cases hb:cw a.j A with
  | true=>
   rw [hb] at h
   rcases List.mem_append.1 h with h | h
   ·exact ⟨a,by simp,hb,h⟩
   ·obtain ⟨c,h1,h2⟩:=ih h; exact ⟨c,List.mem_cons_of_mem _ h1,h2⟩
  | false=>rw [hb] at h; obtain ⟨c,h1,h2⟩:=ih h; exact ⟨c,List.mem_cons_of_mem _ h1,h2⟩
theorem vO {mt i:Nat} (h:((U.set i []).all fun us=>!(us.contains l.length))=true):AF l U mt i=true:=by
 unfold AF
 simp only [List.all_eq_true,List.mem_range,Bool.or_eq_true,Bool.not_eq_true'] at h ⊢
 intro k _
 by_cases hk:k=i
 ·exact .inl (.inr (by rw [hk]; exact Nat.beq_refl i))
 ·refine .inl (.inl ?_)
  rw [List.getD_eq_getElem?_getD]
  cases hu:U[k]? with
  | none=>rfl
  | some us=>exact h us (List.mem_of_getElem? (i:=k) (by rw [List.getElem?_set_ne (fun e=>hk e.symm)]; exact hu))
theorem HO.mono {Z':Nat→Prop} (hz:∀ b,Z b→Z' b) {Δ:QE} {F:LN} (h:HO Z w Δ F):HO Z' w Δ F:=by
 induction h with
 | nil=>exact .nil
 | own h _ ih=>exact .own (h.mono hz) ih
 | rd _ ih=>exact .rd ih
 | au _ ih=>exact .au ih
theorem N1 {mt:Nat} {β V:Type} {A:LN} {as:LL} {d:Nat} {f:FuncId} {xs:List Operand} {au:Array TypeId} {ty:TI} {mo:Option β} {rt:β→V→List Value} {ps:β→V→List aq} {ops:LO} {i:Nat} {sl:LQ} {ms:MM} {fr:Fr} {hd Γ:QE} {B:Bs} {r0:NV} {w0:World} {H:LN} {y:β} (hh:jz l mt base=true) (hf:bg P f) (hv:dM A none sl base fr)
   (hU:U.getD i []=[l.length]) (u6:((U.set i []).all fun us=>!(us.contains l.length))=true)
   (hc:∀ x:ks ms,EE P f xs (jg A ms x++fr) hd (px A ms x++Γ) mo rt ps) (hi:jj ms) (dx:j7 A ms=true) (hw:∀ y v,qu (ps y v)=true) (h1:mf l mt U A (.call ⟨.value (.func f),xs.toArray,au⟩) d ty as ops i) (hy:mo=some y) (ha:cq r0 base) (hs:mi B Z hd Γ H w0) (h:fl P Z l mt U r0 w0 H i sl ms) :
   AA P Z l mt U r0 w0 H i sl ms ⟨i,d,[],V,fun _ v=>l7 (rt y v),fun _=>ps y⟩:=by
 obtain ⟨S',hl,hR,hO⟩:=h
 subst hl
 refine ⟨S',rfl,hR,hO,fun V' hV=>?_⟩
 obtain ⟨hA,⟨pos,ab,ho⟩,_⟩:=h1
 intro o' s' bm b9 g r w hC uI gh hn gu rn ir
 rw [ho] at bm
 cases bm
 rw [List.getElem?_append_right (Nat.le_refl _),Nat.sub_self] at b9
 cases b9
 rw [if_pos rfl]
 refine ⟨rfl,?_⟩
 obtain ⟨B6,B7,B8⟩:=uI (vO u6)
 have hb:=jm hR hA hv (gx hh ha gu) gh
 obtain ⟨x,hx,tJ⟩:=vC hR hA hi dx hn
 obtain ⟨xL,sr,Iq,hr⟩:=hc x
 obtain ⟨fn,c,f1,f2,f3⟩:=hf.h
 refine Calls.CO f1 f2 f3 ?_
 rw [mq (mw hx hb) xL]
 obtain ⟨F,Hd,⟨r5,r6,ov,r7⟩,hS,hG⟩:=hs
 obtain ⟨G,l5,FV,zU,ja⟩:=tJ.front (mi.stay hS hG hC)
 obtain ⟨Fd,F',Ir,_,xN⟩:=Iq.sound (r5.ic B6)
 have bp:∀ b∈Fd,b∈H:=fun b hb=>(r6 b (xN.mem_iff.1 (List.mem_append_left _ hb))).1
 have cp:=List.nodup_append.1 hG.nd
 have hblk:jk g (U.getD S'.length [])=H:=by rw [hU]; simp [jk,B7]
 rw [hblk]
 rw [p9] at sr
 refine (sr.2 w (fun b=>Z b∨b∈G) Fd (hr.sound (fun _ h=>h) (fun _ b hb=>.inr (zU b hb)) ja (Ir.mono fun _ h=>.inl h)) ((xN.nodup_iff.2 r7).sublist (List.sublist_append_left _ _)) (fun b hb=>?_)
  (fun b hb=>hb.elim (fun h=>Nat.lt_of_lt_of_le (hG.nh b h) hC.size) fun h=>(l5 b h).2) y hy).mono ?_
 ·rintro (hz | hz)
  ·exact hG.apart b (List.mem_append_left _ (bp b hb)) hz
  ·rcases List.mem_append.1 (l5 b hz).1 with hz | hz
   ·obtain ⟨a,ham,oy,tG⟩:=Ip hz
    have h2:=B8 a.j (iy (by rw [← hA]; exact gn.1 oy)).1 b tG
    have h3:=ov b (bp b hb)
    omega
   ·exact cp.2.2 b (bp b hb) b hz rfl
 ·rintro e w' ⟨v,he,Z2,F2,ox,gq⟩
  have yW:HL (fun _=>False) w' (ps y v) F2:=wm (hw y v) ox
  have bb:=(yW.front (Γ:=[]) (F:=[]) rfl).lt
  obtain ⟨f',EJ,xM⟩:=hV F2 w' r _ ⟨v,rfl,.inl yW,gq.nd⟩
  exact ⟨_,he,gq.jf.mono bp,f',fun b hb=>⟨(gq.low b (EJ b hb)).imp (bp b) id,bb b (by simpa using EJ b hb)⟩,xM⟩
theorem Az.sub {ms BI:MM} {a:ez} {t:Nat} (h:Az ms t a BI):a∈ms∧a.j=t∧(∀ b∈BI,b∈ms)∧(BI.map (·.j)).Sublist (ms.map (·.j))∧((ms.map (·.j)).Nodup→∀ b∈BI,b.j≠t):=by
 induction h with
 | here=>exact ⟨by simp,rfl,fun b hb=>List.mem_cons_of_mem _ hb,by simp,fun hn b hb he=>by rw [List.map_cons,List.nodup_cons] at hn; exact hn.1 (by rw [← he]; exact List.mem_map_of_mem hb)⟩
 | there _ ih=>
  obtain ⟨h1,h2,h3,h4,h5⟩:=ih
  refine ⟨List.mem_cons_of_mem _ h1,h2,fun b hb=>?_,by simpa using h4,fun hn b hb=>?_⟩
  ·rcases List.mem_cons.1 hb with rfl | hb
   ·simp
   ·exact List.mem_cons_of_mem _ (h3 b hb)
  ·rw [List.map_cons,List.nodup_cons] at hn
   rcases List.mem_cons.1 hb with rfl | hb
   ·intro he
    exact hn.1 (by rw [he,← h2]; exact List.mem_map_of_mem h1)
   ·exact h5 hn.2 b hb
theorem N2 {mt:Nat} {β V:Type} {j1:Nat} {a1:ez} {A:LN} {as:LL} {d:Nat} {f:FuncId} {xs:List Operand} {au:Array TypeId} {ty:TI} {mo:Option β} {rt:β→V→List Value} {ps:β→V→List aq} {ops:LO} {i:Nat} {sl:LQ} {ms fq:MM} {fr:Fr} {hd Γ:QE} {B:Bs} {r0:NV} {w0:World} {H:LN} {y:β} (hh:jz l mt base=true) (hf:bg P f) (hv:dM A none sl base fr)
   (hU:U.getD i []=[j1]) (vA:Az ms j1 a1 fq) (EG:a1.src=[]) (h4:cw j1 A=true)
   (hc:∀ (q:a1.V) (x:ks fq),EE P f xs (jg A fq x++fr) (a1.ps undef q) (px A fq x++Γ) mo rt ps) (hi:jj fq) (dx:j7 A fq=true) (hw:∀ y v,qu (ps y v)=true) (h1:mf l mt U A (.call ⟨.value (.func f),xs.toArray,au⟩) d ty as ops i) (hy:mo=some y) (ha:cq r0 base) (hs:mi B Z hd Γ H w0) (h:fl P Z l mt U r0 w0 H i sl ms) :
   AA P Z l mt U r0 w0 H i sl fq ⟨i,d,[],V,fun _ v=>l7 (rt y v),fun _=>ps y⟩:=by
 obtain ⟨S',hl,KL,hO⟩:=h
 subst hl
 obtain ⟨m1,m2,m3,m4,m5⟩:=vA.sub
 have hR:=KL.sub m3 m4
 refine ⟨S',rfl,hR,hO,fun V' hV=>?_⟩
 obtain ⟨hA,⟨pos,ab,ho⟩,_⟩:=h1
 intro o' s' bm b9 g r w hC uI gh hn gu rn ir
 rw [ho] at bm
 cases bm
 rw [List.getElem?_append_right (Nat.le_refl _),Nat.sub_self] at b9
 cases b9
 rw [if_pos rfl]
 refine ⟨rfl,?_⟩
 have AE:=iy (by rw [← hA]; exact gn.1 h4)
 have hb:=jm hR hA hv (gx hh ha gu) gh
 obtain ⟨x,hx,tJ⟩:=vC hR hA hi dx hn
 obtain ⟨q,_,N3,N4⟩:=KL.vB m1 (hn a1.j (by rw [m2]; exact AE.2))
 have uJ:u5 a1 r=undef:=by unfold u5; rw [EG]; rfl
 rw [uJ,m2] at N3
 rw [m2] at N4
 obtain ⟨xL,sr,Iq,hr⟩:=hc q x
 obtain ⟨fn,c,f1,f2,f3⟩:=hf.h
 refine Calls.CO f1 f2 f3 ?_
 rw [mq (mw hx hb) xL]
 obtain ⟨F,Hd,⟨r5,r6,ov,r7⟩,hS,hG⟩:=hs
 have Is:=mi.stay hS hG hC
 obtain ⟨G,l5,FV,zU,ja⟩:=tJ.front Is
 obtain ⟨Fo,Fr,KM,B9,VJ⟩:=N3.all
 have VK:SA (fun b=>Z b∨b∈Fr) w (a1.ps undef q) [] Fo:=by
  have:=VJ.front (Γ:=[]) (F:=[]) rfl
  simpa using this
 have N5:=List.nodup_append.1 (KM ▸ N4)
 obtain ⟨Fd,F',Ir,_,xN⟩:=Iq.sound VK
 have EK:∀ b∈Fd,b∈Fo:=fun b hb=>xN.mem_iff.1 (List.mem_append_left _ hb)
 have bp:∀ b∈Fd,b∈g j1:=fun b hb=>by rw [KM]; exact List.mem_append_left _ (EK b hb)
 have cp:=List.nodup_append.1 hG.nd
 have hblk:jk g (U.getD S'.length [])=g j1:=by rw [hU]; simp [jk]
 rw [hblk]
 rw [p9] at sr
 have SX:∀ b∈g j1,w0.heap.size≤b∨b∈H:=fun b hb=>(ir j1 AE.1 b hb).1
 refine (sr.2 w (fun b=>Z b∨b∈Fr++G) Fd (hr.sound (fun _ h=>h) (fun _ b hb=>.inr (List.mem_append_right _ (zU b hb))) (ja.mono (fun _ h=>h.imp id fun h=>List.mem_append_right _ h) fun _ h=>h) (Ir.mono fun _ h=>h.imp id fun h=>List.mem_append_left _ h)) ((xN.nodup_iff.2 N5.1).sublist (List.sublist_append_left _ _)) (fun b hb=>?_)
  (fun b hb=>hb.elim (fun h=>Nat.lt_of_lt_of_le (hG.nh b h) hC.size) fun h=>(List.mem_append.1 h).elim (B9 b) fun h=>(l5 b h).2) y hy).mono ?_
 ·rintro (hz | hz)
  ·rcases SX b (bp b hb) with h | h
   ·have:=hG.nh b hz; omega
   ·exact hG.apart b (List.mem_append_left _ h) hz
  ·rcases List.mem_append.1 hz with hz | hz
   ·exact N5.2.2 b (EK b hb) b hz rfl
   rcases List.mem_append.1 (l5 b hz).1 with hz | hz
   ·obtain ⟨a,ham,oy,tG⟩:=Ip hz
    exact rn a.j (iy (by rw [← hA]; exact gn.1 oy)).1 j1 AE.1 (m5 KL.d a ham) b tG (bp b hb)
   ·rcases SX b (bp b hb) with h | h
    ·have:=hS.lt b hz; omega
    ·exact cp.2.2 b h b hz rfl
 ·rintro e w' ⟨v,he,Z2,F2,ox,gq⟩
  have yW:HL (fun _=>False) w' (ps y v) F2:=wm (hw y v) ox
  have bb:=(yW.front (Γ:=[]) (F:=[]) rfl).lt
  obtain ⟨f',EJ,xM⟩:=hV F2 w' r _ ⟨v,rfl,.inl yW,gq.nd⟩
  exact ⟨_,he,gq.jf.mono bp,f',fun b hb=>⟨(gq.low b (EJ b hb)).imp (bp b) id,bb b (by simpa using EJ b hb)⟩,xM⟩
theorem SA.app {Γ Γ':QE} {F F':LN}:∀ {cur:LN},SA Z w Γ' cur F'→SA Z w Γ [] F→SA Z w (Γ'++Γ) cur (F'++F):=by
 induction Γ' generalizing F' with
 | nil=>intro cur h hs; cases h; exact hs.any
 | cons e Γ' ih=>
  intro cur h hs
  cases e with
  | own T v x=>obtain ⟨f,F1,rfl,h1,h2⟩:=h; exact ⟨f,F1++F,by rw [List.append_assoc],h1,ih h2 hs⟩
  | om e E v xs=>obtain ⟨f,F1,rfl,h1,h2⟩:=h; exact ⟨f,F1++F,by rw [List.append_assoc],h1,ih h2 hs⟩
  | row b cs e=>obtain ⟨f,F1,rfl,h1,h2⟩:=h; exact ⟨f,F1++F,by rw [List.append_assoc],h1,ih h2 hs⟩
  | fv e E v xs j u=>obtain ⟨f,F1,rfl,h1,h2⟩:=h; exact ⟨f,F1++F,by rw [List.append_assoc],h1,ih h2 hs⟩
  | rd o T v x=>exact ⟨h.1,ih h.2 hs⟩
  | ad o1 o2 v j T x=>exact ⟨h.1,ih h.2 hs⟩
  | au p cs=>exact ⟨h.1,ih h.2 hs⟩
  | hd v j u=>exact ⟨h.1,ih h.2 hs⟩
open Classical in
theorem VL {w':World} {Zc Z2:Nat→Prop} {Fd F2 K:LN} {Δ:QE} (hl:HL Z2 w' Δ F2) (hg:Gd ⟨w,Zc,Fd⟩ Z2 F2 w') (hz:∀ b,Zc b→Z b∨b∈K) (hK:∀ b∈Fd,b∈K) :
  ∃ f,(∀ b∈f,(b∈K∨w.heap.size≤b)∧b < w'.heap.size)∧HN Z w' Δ f∧f.Nodup:=by
 have bb:=(hl.front (Γ:=[]) (F:=[]) rfl).lt
 by_cases ho:qu Δ=true
 ·exact ⟨F2,fun b hb=>⟨(hg.low b hb).imp (hK b) id,bb b (by simpa using hb)⟩,.inl (wm ho hl),hg.nd⟩
 ·let Fr:=(List.range w'.heap.size).filter fun b=>decide (Z2 b∧(b∈K∨w.heap.size≤b))
  have B9:∀ b,b∈Fr↔b < w'.heap.size∧Z2 b∧(b∈K∨w.heap.size≤b):=fun b=>by simp [Fr]
  refine ⟨F2++Fr,fun b hb=>?_,.inr ⟨F2,Fr,rfl,⟨by simpa using ho,fun b hb=>((B9 b).1 hb).1⟩,hl.mono fun b hb=>?_⟩,?_⟩
  ·rcases List.mem_append.1 hb with hb | hb
   ·exact ⟨(hg.low b hb).imp (hK b) id,bb b (by simpa using hb)⟩
   ·exact ⟨((B9 b).1 hb).2.2,((B9 b).1 hb).1⟩
  ·rcases hg.vH b hb with h | h | h
   ·rcases hz b h with h | h
    ·exact .inl h
    ·exact .inr ((B9 b).2 ⟨hg.nh b hb,hb,.inl h⟩)
   ·exact .inr ((B9 b).2 ⟨hg.nh b hb,hb,.inl (hK b h)⟩)
   ·exact .inr ((B9 b).2 ⟨hg.nh b hb,hb,.inr h⟩)
  ·refine uK hg.nd (List.nodup_range.filter _) fun b hb hf=>hg.apart b hb ((B9 b).1 hf).2.1
theorem N6 {mt:Nat} {β V:Type} {A:LN} {as:LL} {d:Nat} {f:FuncId} {xs:List Operand} {au:Array TypeId} {ty:TI} {mo:Option β} {rt:β→V→List Value} {ps:β→V→List aq} {ops:LO} {i:Nat} {sl:LQ} {ms:MM} {fr:Fr} {hd Γ:QE} {B:Bs} {r0:NV} {w0:World} {H:LN} {y:β} (hh:jz l mt base=true) (hf:bg P f) (hv:dM A none sl base fr)
   (hc:∀ x:ks ms,LP P f xs (jg A ms x++fr) Γ mo rt ps) (hi:jj ms) (dx:j7 A ms=true) (h1:mf l mt U A (.call ⟨.value (.func f),xs.toArray,au⟩) d ty as ops i) (hy:mo=some y) (ha:cq r0 base) (hs:mi B Z hd Γ H w0) (h:fl P Z l mt U r0 w0 H i sl ms) :
   AA P Z l mt U r0 w0 H i sl ms ⟨i,d,[],V,fun _ v=>l7 (rt y v),fun _=>ps y⟩:=by
 obtain ⟨S',hl,hR,hO⟩:=h
 subst hl
 refine ⟨S',rfl,hR,hO,fun V' hV=>?_⟩
 obtain ⟨hA,⟨pos,ab,ho⟩,_⟩:=h1
 refine iw.Il (V:=V') ho (by simp) rfl fun g r w hC gh hn gu=>?_
 have hb:=jm hR hA hv (gx hh ha gu) gh
 obtain ⟨x,hx,tJ⟩:=vC hR hA hi dx hn
 obtain ⟨xL,sr,hd,hr⟩:=hc x
 obtain ⟨fn,c,f1,f2,f3⟩:=hf.h
 refine Calls.CO f1 f2 f3 ?_
 rw [mq (mw hx hb) xL]
 obtain ⟨F,Hd,⟨r5,r6,ov,r7⟩,hS,hG⟩:=hs
 have Is:=mi.stay hS hG hC
 rw [p9] at sr
 refine (sr.2 w Z [] (hr.sound (fun _ h=>h) (fun h=>nomatch h) Is hd.ho) List.nodup_nil (fun b hb=>absurd hb List.not_mem_nil)
  (fun b h=>Nat.lt_of_lt_of_le (hG.nh b h) hC.size) y hy).mono ?_
 rintro e w' ⟨v,he,Z2,F2,ox,gq⟩
 obtain ⟨f2,k1,k2,k3⟩:=VL (Z:=Z) (K:=[]) ox gq (fun _ h=>.inl h) fun _ h=>h
 obtain ⟨f',bp,xM⟩:=hV f2 w' r _ ⟨v,rfl,k2,k3⟩
 exact ⟨_,he,gq.jf,f',fun b hb=>⟨(k1 b (bp b hb)).1.resolve_left List.not_mem_nil,(k1 b (bp b hb)).2⟩,xM⟩
theorem L6 {mt:Nat} {β V:Type} {A:LN} {as:LL} {d:Nat} {f:FuncId} {xs:List Operand} {au:Array TypeId} {ty:TI} {mo:Option β} {rt:β→V→List Value} {ps:β→V→List aq} {ops:LO} {i:Nat} {sl:LQ} {ms:MM} {fr:Fr} {hd Γ:QE} {B:Bs} {r0:NV} {w0:World} {H:LN} {y:β} (hh:jz l mt base=true) (hf:bg P f) (hv:dM A none sl base fr)
   (hU:U.getD i []=[l.length]) (u6:((U.set i []).all fun us=>!(us.contains l.length))=true)
   (hc:∀ x:ks ms,BZ P f xs (jg A ms x++fr) hd Γ mo rt ps) (hi:jj ms) (dx:j7 A ms=true) (h1:mf l mt U A (.call ⟨.value (.func f),xs.toArray,au⟩) d ty as ops i) (hy:mo=some y) (ha:cq r0 base) (hs:mi B Z hd Γ H w0) (h:fl P Z l mt U r0 w0 H i sl ms) :
   AA P Z l mt U r0 w0 H i sl ms ⟨i,d,[],V,fun _ v=>l7 (rt y v),fun _=>ps y⟩:=by
 obtain ⟨S',hl,hR,hO⟩:=h
 subst hl
 refine ⟨S',rfl,hR,hO,fun V' hV=>?_⟩
 obtain ⟨hA,⟨pos,ab,ho⟩,_⟩:=h1
 intro o' s' bm b9 g r w hC uI gh hn gu rn ir
 rw [ho] at bm
 cases bm
 rw [List.getElem?_append_right (Nat.le_refl _),Nat.sub_self] at b9
 cases b9
 rw [if_pos rfl]
 refine ⟨rfl,?_⟩
 obtain ⟨B6,B7,B8⟩:=uI (vO u6)
 have hb:=jm hR hA hv (gx hh ha gu) gh
 obtain ⟨x,hx,tJ⟩:=vC hR hA hi dx hn
 obtain ⟨xL,sr,Iq,hr⟩:=hc x
 obtain ⟨fn,c,f1,f2,f3⟩:=hf.h
 refine Calls.CO f1 f2 f3 ?_
 rw [mq (mw hx hb) xL]
 obtain ⟨F,Hd,⟨r5,r6,ov,r7⟩,hS,hG⟩:=hs
 have Is:=mi.stay hS hG hC
 obtain ⟨Fd,F',Ir,VM,xN⟩:=Iq.sound (r5.ic B6)
 have bp:∀ b∈Fd,b∈H:=fun b hb=>(r6 b (xN.mem_iff.1 (List.mem_append_left _ hb))).1
 have cp:=List.nodup_append.1 hG.nd
 have hblk:jk g (U.getD S'.length [])=H:=by rw [hU]; simp [jk,B7]
 rw [hblk]
 rw [p9] at sr
 refine (sr.2 w Z Fd (hr.sound (fun _ h=>h) (fun h=>nomatch h) (VM.app Is) Ir) ((xN.nodup_iff.2 r7).sublist (List.sublist_append_left _ _)) (fun b hb=>hG.apart b (List.mem_append_left _ (bp b hb)))
  (fun b h=>Nat.lt_of_lt_of_le (hG.nh b h) hC.size) y hy).mono ?_
 rintro e w' ⟨v,he,Z2,F2,ox,gq⟩
 obtain ⟨f2,k1,k2,k3⟩:=VL (Z:=Z) (K:=H) ox gq (fun _ h=>.inl h) bp
 obtain ⟨f',EJ,xM⟩:=hV f2 w' r _ ⟨v,rfl,k2,k3⟩
 exact ⟨_,he,gq.jf.mono bp,f',fun b hb=>k1 b (EJ b hb),xM⟩
theorem L7 {mt:Nat} {β V:Type} {j1:Nat} {a1:ez} {A:LN} {as:LL} {d:Nat} {f:FuncId} {xs:List Operand} {au:Array TypeId} {ty:TI} {mo:Option β} {rt:β→V→List Value} {ps:β→V→List aq} {ops:LO} {i:Nat} {sl:LQ} {ms fq:MM} {fr:Fr} {hd Γ:QE} {B:Bs} {r0:NV} {w0:World} {H:LN} {y:β} (hh:jz l mt base=true) (hf:bg P f) (hv:dM A none sl base fr)
   (hU:U.getD i []=[j1]) (vA:Az ms j1 a1 fq) (EG:a1.src=[]) (h4:cw j1 A=true)
   (hc:∀ (q:a1.V) (x:ks fq),BZ P f xs ((a1.d,a1.rt undef q) :: (jg A fq x++fr)) (a1.ps undef q) Γ mo rt ps) (hi:jj fq) (dx:j7 A fq=true) (h1:mf l mt U A (.call ⟨.value (.func f),xs.toArray,au⟩) d ty as ops i) (hy:mo=some y) (ha:cq r0 base) (hs:mi B Z hd Γ H w0) (h:fl P Z l mt U r0 w0 H i sl ms) :
   AA P Z l mt U r0 w0 H i sl fq ⟨i,d,[],V,fun _ v=>l7 (rt y v),fun _=>ps y⟩:=by
 obtain ⟨S',hl,KL,hO⟩:=h
 subst hl
 obtain ⟨m1,m2,m3,m4,m5⟩:=vA.sub
 have hR:=KL.sub m3 m4
 refine ⟨S',rfl,hR,hO,fun V' hV=>?_⟩
 obtain ⟨hA,⟨pos,ab,ho⟩,_⟩:=h1
 intro o' s' bm b9 g r w hC uI gh hn gu rn ir
 rw [ho] at bm
 cases bm
 rw [List.getElem?_append_right (Nat.le_refl _),Nat.sub_self] at b9
 cases b9
 rw [if_pos rfl]
 refine ⟨rfl,?_⟩
 have AE:=iy (by rw [← hA]; exact gn.1 h4)
 have hb:=jm hR hA hv (gx hh ha gu) gh
 obtain ⟨x,hx,tJ⟩:=vC hR hA hi dx hn
 obtain ⟨q,NW,N3,N4⟩:=KL.vB m1 (hn a1.j (by rw [m2]; exact AE.2))
 have uJ:u5 a1 r=undef:=by unfold u5; rw [EG]; rfl
 rw [uJ,m2] at N3
 rw [uJ] at NW
 rw [m2] at N4
 obtain ⟨xL,sr,Iq,hr⟩:=hc q x
 obtain ⟨fn,c,f1,f2,f3⟩:=hf.h
 refine Calls.CO f1 f2 f3 ?_
 rw [mq (mw (g:=(a1.d,a1.rt undef q) :: jg A fq x) (fun p hp=>(List.mem_cons.1 hp).elim (fun e=>e ▸ NW) (hx p)) hb) xL]
 obtain ⟨F,Hd,⟨r5,r6,ov,r7⟩,hS,hG⟩:=hs
 have Is:=mi.stay hS hG hC
 obtain ⟨Fo,Fr,KM,B9,VJ⟩:=N3.all
 have VK:SA (fun b=>Z b∨b∈Fr) w (a1.ps undef q) [] Fo:=by
  have:=VJ.front (Γ:=[]) (F:=[]) rfl
  simpa using this
 have N5:=List.nodup_append.1 (KM ▸ N4)
 obtain ⟨Fd,F',Ir,VM,xN⟩:=Iq.sound VK
 have EK:∀ b∈Fd,b∈Fo:=fun b hb=>xN.mem_iff.1 (List.mem_append_left _ hb)
 have bp:∀ b∈Fd,b∈g j1:=fun b hb=>by rw [KM]; exact List.mem_append_left _ (EK b hb)
 have cp:=List.nodup_append.1 hG.nd
 have hblk:jk g (U.getD S'.length [])=g j1:=by rw [hU]; simp [jk]
 rw [hblk]
 rw [p9] at sr
 have SX:∀ b∈g j1,w0.heap.size≤b∨b∈H:=fun b hb=>(ir j1 AE.1 b hb).1
 refine (sr.2 w (fun b=>Z b∨b∈Fr) Fd (hr.sound (fun _ h=>h) (fun h=>nomatch h) (VM.app (Is.mono (fun _ h=>.inl h) fun _ h=>h)) Ir) ((xN.nodup_iff.2 N5.1).sublist (List.sublist_append_left _ _)) (fun b hb=>?_)
  (fun b hb=>hb.elim (fun h=>Nat.lt_of_lt_of_le (hG.nh b h) hC.size) (B9 b)) y hy).mono ?_
 ·rintro (hz | hz)
  ·rcases SX b (bp b hb) with h | h
   ·have:=hG.nh b hz; omega
   ·exact hG.apart b (List.mem_append_left _ h) hz
  ·exact N5.2.2 b (EK b hb) b hz rfl
 ·rintro e w' ⟨v,he,Z2,F2,ox,gq⟩
  obtain ⟨f2,k1,k2,k3⟩:=VL (Z:=Z) (K:=g j1) ox gq (fun b h=>h.imp id fun h=>by rw [KM]; exact List.mem_append_right _ h) bp
  obtain ⟨f',EJ,xM⟩:=hV f2 w' r _ ⟨v,rfl,k2,k3⟩
  exact ⟨_,he,gq.jf.mono bp,f',fun b hb=>k1 b (EJ b hb),xM⟩
theorem fl.ack {mt:Nat} {A:LN} {op:Op} {d:Nat} {ty:TI} {as:LL} {ops:LO} {i:Nat} {sl:LQ} {ms:MM} {r0:NV} {w0:World} {H:LN} {u:Value} (h:fl P Z l mt U r0 w0 H i sl ms) (hh:jz l mt base=true) (ha:cq r0 base) (h1:mf l mt U A op d ty as ops i)
  (hV:(U.zipIdx.all fun p=>!(p.1.contains l.length) || ((cf l).getD p.2 []).contains i)=true) (hv:dM A none sl base fr) (hq:∀ r,cq r fr→∀ pos ab g w,ak [] w0 w→(execOp (ev r) ⟨some d,op,ty,pos,ab,g⟩).run P w = .ok (.value u) w):fl P Z l mt U r0 w0 H (i+1) ((i,d,u) :: sl) ms:=by
 obtain ⟨S',hl,hR,hO⟩:=h
 subst hl
 obtain ⟨hA,⟨pos,ab,ho⟩,_⟩:=h1
 refine ⟨S'++[sV u],by simp,hR.val (by unfold bj; rw [ho]; rfl),fun j hj=>?_⟩
 by_cases h2:j < S'.length
 ·exact iw.more (hO j h2) h2
 ·obtain rfl:j=S'.length:=by omega
  have hN:AF l U mt S'.length=true:=by
   unfold AF
   simp only [List.all_eq_true,List.mem_range,Bool.or_eq_true,Bool.not_eq_true'] at hV ⊢
   intro k _
   rw [List.getD_eq_getElem?_getD]
   cases hu:U[k]? with
   | none=>exact .inl (.inl rfl)
   | some us=>
    have hm:(us,k)∈U.zipIdx:=by rw [List.mem_zipIdx_iff_getElem?]; exact hu
    exact (hV _ hm).imp .inl id
  intro o' s' bm b9 g r w hC uI gh hn gu rn ir
  rw [ho] at bm
  cases bm
  rw [List.getElem?_append_right (Nat.le_refl _),Nat.sub_self] at b9
  cases b9
  rw [if_pos rfl]
  refine ⟨rfl,?_⟩
  unfold fh
  rw [hq r (jm hR hA hv (gx hh ha gu) gh) _ _ _ w (uI hN).1]
  exact ⟨ak.refl _ _,[],fun b hb=>absurd hb List.not_mem_nil,rfl⟩
theorem T6 {mt:Nat} {hd fx:QE} {α:Type} {t e e' et:TI} {E E':ah α} {z0:α} {bt t1 t2 j2:Nat} {v u yv:Value} {j:Int} {y:α} {z:List α} {xs:List (List α)} {o1 o2:Bool} {Γx:QE} {oj:MM} {A:LN} {as:LL} {d:Nat} {ty:TI} {ops:LO} {i:Nat} {sl:LQ} {ms:MM} {Γ:QE} {B:Bs} {r0:NV} {w0:World} {H:LN} (hh:jz l mt base=true) (ha:cq r0 base) (hT:mz P t α e E z0 bt) (hU:U.getD i []=[l.length])
   (u6:((U.set i []).all fun us=>!(us.contains l.length))=true) (hv:dM A none sl base fr) (hs:look fr t1=some u) (h2:jr ms t2 ⟨j2,t2,[],Nat,fun _ b=>.slice (some ⟨b,0,none⟩) 1 1,fun _ b=>[.row b [yv] et]⟩ oj) (h5:cw j2 A=true) (hl:Loc hd u (.row v j)) (hz:lr hd u o1 o2 E' z o6 Γx) (h1:bz hd (.own (aJ e' (aJ e E)) v xs) fx) (hr:RT (aJ e E) (aV E')) (hy:BG [] E yv y [])
   (hf:fits bt (z.length+1)=some ()) (nw:mf l mt U A (.call ⟨.builtin .append,#[.tmp t1,.tmp t2],#[t,t]⟩) d ty as ops i) (oh:mi B Z hd Γ H w0) (h:fl P Z l mt U r0 w0 H i sl ms) :
  fl P Z l mt U r0 w0 H (i+1) sl (⟨i,d,[],Value,fun _ v'=>v',fun _ v'=>[.own (aJ e E) v' (z++[y]),.own (qp e' (aJ e E) j.toNat) v xs]⟩ :: ms)∧mi B Z fx Γ H w0:=by
 obtain ⟨F,Hd,⟨r5,r6,ov,r7⟩,hS,hG⟩:=oh
 obtain ⟨VN,It,xO,_,DY⟩:=h1.sound r5
 refine ⟨?_,F,It,⟨DY,fun b hb=>r6 b (xO.mem_iff.1 (List.mem_append_right _ hb)),ov,(xO.nodup_iff.2 r7).sublist (List.sublist_append_right _ _)⟩,hS,hG⟩
 obtain ⟨S',w6,hR,hO⟩:=h
 subst w6
 obtain ⟨hA,⟨pos,ab,ho⟩,_⟩:=nw
 obtain ⟨b1,b2⟩:=ie hf
 obtain ⟨q1,q2,ii,zz,q3,q4,q5,q6,q7,_⟩:=hT.h
 obtain ⟨n1,_,_,_⟩:=h2.sub
 refine ⟨S'++[⟨true,MV Z ⟨S'.length,d,[],Value,fun _ v'=>v',fun _ v'=>[.own (aJ e E) v' (z++[y]),.own (qp e' (aJ e E) j.toNat) v xs]⟩⟩],by simp,hR.mem rfl (by unfold bj; rw [ho]; rfl) (by intro t h; cases h),fun k hk=>?_⟩
 by_cases bb:k < S'.length
 ·exact iw.more (hO k bb) bb
 ·obtain rfl:k=S'.length:=by omega
  intro o' s' bm b9 g r w hC uI gh hn gu rn ir
  rw [ho] at bm
  cases bm
  rw [List.getElem?_append_right (Nat.le_refl _),Nat.sub_self] at b9
  cases b9
  rw [if_pos rfl]
  refine ⟨rfl,?_⟩
  obtain ⟨B6,B7,B8⟩:=uI (vO u6)
  have Ca:=r5.ic B6
  obtain ⟨j0,j1,ik⟩:=Loc.row hl rfl Ca
  obtain ⟨dg,_,⟨⟨gz,n7,_⟩,_⟩,_⟩:=hz.sound Ca
  obtain ⟨fm,F1,n9,EL,_⟩:=h1.sound Ca
  obtain ⟨ky,F2,nv,N7,_⟩:=hy.sound (Z:=Z) (w:=w) (F:=[]) rfl
  have N8:ky=[]:=by
   cases ky with
   | nil=>rfl
   | cons a l=>exact absurd (nv.mem_iff.1 (List.mem_append_left _ List.mem_cons_self)) List.not_mem_nil
  subst N8
  rw [o7 EL] at j1
  obtain ⟨k,gm,a1,a2,a3⟩:=Aw rfl EL (List.getElem?_eq_getElem j1) ik
  have N9:xs[j.toNat]=z:=hr.uy (hr.le.le a1) n7
  rw [N9] at a1
  have Qs:(k++gm).Nodup:=a2.nodup_iff.2 ((n9.nodup_iff.2 r7).sublist (List.sublist_append_left _ _))
  have w7:=List.nodup_append.1 Qs
  have rq:∀ b∈k++gm,b∈H:=fun b hb=>(r6 b (n9.mem_iff.1 (List.mem_append_left _ (a2.mem_iff.1 hb)))).1
  obtain ⟨b,c1,c2,c3⟩:=hR.vB n1 (hn j2 (iy (by rw [← hA]; exact gn.1 h5)).2)
  simp only at c1 c2
  replace c2:=c2.own rfl
  generalize vA:g j2=G1 at c2 c3
  cases c2 with
  | fact h _=>exact h.elim
  | @own _ ff F0 _ xg p4=>
   cases p4
   obtain ⟨rfl,av⟩:=xg
   have hb:=jm hR hA hv (gx hh ha gu) gh
   obtain ⟨v',w',f',jl,r4,c9,bp,vP⟩:=kv (E:=E) (d:=some d) (ty:=ty) (pos:=pos) (ab:=ab) (g:=none) (r:=r) (s:=.tmp t1) (x:=.tmp t2) (k:=[]) (ys:=[y]) (news:=[yv]) q1 q3 q4 (by rw [q5,q2]) (by rw [cells_one q6,q2]; rfl) (hb _ _ hs) a1 w7.1 c1 (fun i u hi=>av.at i u hi) (l6 N7) (fun _ h=>absurd h List.not_mem_nil) (by simp) (by rw [q7]; exact b1) b2
   unfold fh
   rw [jl]
   have hblk:jk g (U.getD S'.length [])=H:=by rw [hU]; simp [jk,B7]
   rw [hblk]
   have Oa:(qp e' (aJ e E) j.toNat).rep w'.heap [v] xs gm:=ah.dp _ a3 r4 fun b hb hk=>w7.2.2 b hk b hb rfl
   refine ⟨r4.mono fun b hb=>rq b (List.mem_append_left _ hb),f'++gm,fun b hb=>?_,v',rfl,?_,?_⟩
   ·rcases List.mem_append.1 hb with hb | hb
    ·refine ⟨?_,ah.lt _ c9 b hb⟩
     rcases bp b hb with h | h | h
     ·exact .inl (rq b (List.mem_append_left _ h))
     ·exact absurd h List.not_mem_nil
     ·exact .inr h
    ·exact ⟨.inl (rq b (List.mem_append_right _ hb)),ah.lt _ Oa b hb⟩
   ·have:=HL.own (Z:=fun _=>False) (e:=.own (aJ e E) v' (z++[y])) (f:=f') c9 (HL.own (e:=.own (qp e' (aJ e E) j.toNat) v xs) (f:=gm) Oa .nil)
    exact .inl (by simpa using this)
   ·refine uK (vP List.nodup_nil) w7.2.1 fun b hb hm=>?_
    rcases bp b hb with h | h | h
    ·exact w7.2.2 b h b hm rfl
    ·exact absurd h List.not_mem_nil
    ·have:=ah.lt _ a3 b hm; omega
theorem T7 {mt:Nat} {hd fx:QE} {t e e' e3 et:TI} {kk:IntKind} {E':ah (List Int)} {z0:List Int} {bt t1 t2 t3 j2 j3 n:Nat} {v u:Value} {us:LV} {j:Int} {ys:List Int} {z:List (List Int)} {xs:List (List (List Int))} {o1 o2:Bool} {Γx:QE} {oj wq:MM} {A:LN} {as:LL} {d:Nat} {ty:TI} {ops:LO} {i:Nat} {sl:LQ} {ms:MM} {Γ:QE} {B:Bs} {r0:NV} {w0:World} {H:LN} (hh:jz l mt base=true) (ha:cq r0 base) (hT:mz P t (List Int) e (aJ e3 (aN kk)) z0 bt) (hU:U.getD i []=[l.length,j3])
   (u6:((U.set i []).all fun us=>!(us.contains l.length))=true) (hv:dM A none sl base fr) (hs:look fr t1=some u) (h2:jr ms t2 ⟨j2,t2,[t3],Nat,fun _ b=>.slice (some ⟨b,0,none⟩) 1 1,fun u b=>[.row b [u] et]⟩ oj) (h3:jr oj t3 ⟨j3,t3,[],Nat,fun _ b=>.slice (some ⟨b,0,none⟩) n n,fun _ b=>[.row b us e3]⟩ wq) (h5:cw j2 A=true) (h6:cw j3 A=true) (hl:Loc hd u (.row v j)) (hz:lr hd u o1 o2 E' z o6 Γx) (h1:bz hd (.own (aJ e' (aJ e (aJ e3 (aN kk)))) v xs) fx) (hr:RT (aJ e (aJ e3 (aN kk))) (aV E')) (hi:w5 kk us ys) (mh:us.length=n) (cg:Nat.ble n 16777216=true)
   (hf:fits bt (z.length+1)=some ()) (nw:mf l mt U A (.call ⟨.builtin .append,#[.tmp t1,.tmp t2],#[t,t]⟩) d ty as ops i) (oh:mi B Z hd Γ H w0) (h:fl P Z l mt U r0 w0 H i sl ms) :
  fl P Z l mt U r0 w0 H (i+1) sl (⟨i,d,[],Value,fun _ v'=>v',fun _ v'=>[.own (aJ e (aJ e3 (aN kk))) v' (z++[ys]),.own (qp e' (aJ e (aJ e3 (aN kk))) j.toNat) v xs]⟩ :: wq)∧mi B Z fx Γ H w0:=by
 obtain ⟨F,Hd,⟨r5,r6,ov,r7⟩,hS,hG⟩:=oh
 obtain ⟨VN,It,xO,_,DY⟩:=h1.sound r5
 refine ⟨?_,F,It,⟨DY,fun b hb=>r6 b (xO.mem_iff.1 (List.mem_append_right _ hb)),ov,(xO.nodup_iff.2 r7).sublist (List.sublist_append_right _ _)⟩,hS,hG⟩
 obtain ⟨S',w6,hR,hO⟩:=h
 subst w6
 obtain ⟨hA,⟨pos,ab,ho⟩,_⟩:=nw
 obtain ⟨b1,b2⟩:=ie hf
 obtain ⟨q1,q2,ii,zz,q3,q4,q5,q6,q7,_⟩:=hT.h
 obtain ⟨n1,_,m3,m4⟩:=h2.sub
 obtain ⟨n3,_,m5,m6⟩:=h3.sub
 refine ⟨S'++[⟨true,MV Z ⟨S'.length,d,[],Value,fun _ v'=>v',fun _ v'=>[.own (aJ e (aJ e3 (aN kk))) v' (z++[ys]),.own (qp e' (aJ e (aJ e3 (aN kk))) j.toNat) v xs]⟩⟩],by simp,(hR.sub (fun b hb=>m3 b (m5 b hb)) (m6.trans m4)).mem rfl (by unfold bj; rw [ho]; rfl) (by intro t h; cases h),fun k hk=>?_⟩
 by_cases bb:k < S'.length
 ·exact iw.more (hO k bb) bb
 ·obtain rfl:k=S'.length:=by omega
  intro o' s' bm b9 g r w hC uI gh hn gu rn ir
  rw [ho] at bm
  cases bm
  rw [List.getElem?_append_right (Nat.le_refl _),Nat.sub_self] at b9
  cases b9
  rw [if_pos rfl]
  refine ⟨rfl,?_⟩
  obtain ⟨B6,B7,B8⟩:=uI (vO u6)
  have Ca:=r5.ic B6
  obtain ⟨j0,j1,ik⟩:=Loc.row hl rfl Ca
  obtain ⟨dg,_,⟨⟨gz,n7,_⟩,_⟩,_⟩:=hz.sound Ca
  obtain ⟨fm,F1,n9,EL,_⟩:=h1.sound Ca
  rw [o7 EL] at j1
  obtain ⟨k,gm,a1,a2,a3⟩:=Aw rfl EL (List.getElem?_eq_getElem j1) ik
  have N9:xs[j.toNat]=z:=hr.uy (hr.le.le a1) n7
  rw [N9] at a1
  have Qs:(k++gm).Nodup:=a2.nodup_iff.2 ((n9.nodup_iff.2 r7).sublist (List.sublist_append_left _ _))
  have w7:=List.nodup_append.1 Qs
  have rq:∀ b∈k++gm,b∈H:=fun b hb=>(r6 b (n9.mem_iff.1 (List.mem_append_left _ (a2.mem_iff.1 hb)))).1
  have GV:=iy (by rw [← hA]; exact gn.1 h6)
  obtain ⟨b,c1,c2,c3⟩:=hR.vB n1 (hn j2 (iy (by rw [← hA]; exact gn.1 h5)).2)
  obtain ⟨b3,d1,d2,d3⟩:=hR.vB (m3 _ n3) (hn j3 GV.2)
  replace c1:r t2 = .slice (some ⟨b,0,none⟩) 1 1:=c1
  replace c2:HL (fun _=>False) w [.row b [r t3] et] (g j2):=c2.own rfl
  replace d1:r t3 = .slice (some ⟨b3,0,none⟩) n n:=d1
  replace d2:HL (fun _=>False) w [.row b3 us e3] (g j3):=d2.own rfl
  have Ob:=B8 j3 GV.1
  generalize vA:g j2=G1 at c2 c3
  generalize Oc:g j3=G3 at d2 d3 Ob
  cases c2 with
  | fact h _=>exact h.elim
  | @own _ ff F0 _ xg p4=>
   cases p4
   obtain ⟨rfl,av⟩:=xg
   cases d2 with
   | fact h _=>exact h.elim
   | @own _ ff3 F3 _ u7 EM=>
    cases EM
    obtain ⟨rfl,u7⟩:=u7
    obtain ⟨e1,e2⟩:=w5.sound hi w.heap
    have xF:=Nat.le_of_ble_eq_true cg
    have hE:(aJ e3 (aN kk)).rep w.heap [r t3] ys [b3]:=by
     rw [d1]
     refine ⟨some ⟨b3,0,none⟩,n,by rw [← mh,e1],.inr ⟨b3,us.toArray,[],rfl,u7,rfl,by rw [← mh,e1]; exact Nat.le_refl _,Nat.le_trans xF (by decide),by rw [show (aN kk).size=1 from rfl,Nat.mul_one]; simp [mh],?_⟩⟩
     rw [show (aN kk).size=1 from rfl,Nat.mul_one,List.toList_toArray,← e1,List.take_length]
     exact e2
    have AH:w0.heap.size≤b3:=Ob b3 (by simp)
    have Cb:∀ b∈k++gm,b≠b3:=fun b hb he=>by
     have:=ov b (rq b hb)
     omega
    have hb:=jm hR hA hv (gx hh ha gu) gh
    obtain ⟨v',w',f',jl,r4,c9,bp,vP⟩:=kv (E:=aJ e3 (aN kk)) (d:=some d) (ty:=ty) (pos:=pos) (ab:=ab) (g:=none) (r:=r) (s:=.tmp t1) (x:=.tmp t2) (k:=[b3]) (ys:=[ys]) (news:=[r t3]) q1 q3 q4 (by rw [q5,q2]) (by rw [cells_one q6,q2]; rfl) (hb _ _ hs) a1 w7.1 c1 (fun i u hi=>av.at i u hi) (l6 hE) (fun b hb hm=>Cb b (List.mem_append_left _ hm) (List.mem_singleton.1 hb)) (by simp) (by rw [q7]; exact b1) b2
    unfold fh
    rw [jl]
    have hblk:jk g (U.getD S'.length [])=H++[b3]:=by rw [hU]; simp [jk,B7,Oc]
    rw [hblk]
    have Oa:(qp e' (aJ e (aJ e3 (aN kk))) j.toNat).rep w'.heap [v] xs gm:=ah.dp _ a3 r4 fun b hb hk=>w7.2.2 b hk b hb rfl
    refine ⟨r4.mono fun b hb=>List.mem_append_left _ (rq b (List.mem_append_left _ hb)),f'++gm,fun b hb=>?_,v',rfl,?_,?_⟩
    ·rcases List.mem_append.1 hb with hb | hb
     ·refine ⟨?_,ah.lt _ c9 b hb⟩
      rcases bp b hb with h | h | h
      ·exact .inl (List.mem_append_left _ (rq b (List.mem_append_left _ h)))
      ·exact .inl (List.mem_append_right _ h)
      ·exact .inr h
     ·exact ⟨.inl (List.mem_append_left _ (rq b (List.mem_append_right _ hb))),ah.lt _ Oa b hb⟩
    ·have:=HL.own (Z:=fun _=>False) (e:=.own (aJ e (aJ e3 (aN kk))) v' (z++[ys])) (f:=f') c9 (HL.own (e:=.own (qp e' (aJ e (aJ e3 (aN kk))) j.toNat) v xs) (f:=gm) Oa .nil)
     exact .inl (by simpa using this)
    ·refine uK (vP (by simp)) w7.2.1 fun b hb hm=>?_
     rcases bp b hb with h | h | h
     ·exact w7.2.2 b h b hm rfl
     ·exact Cb b (List.mem_append_right _ hm) (List.mem_singleton.1 h)
     ·have:=ah.lt _ a3 b hm; omega
theorem T8 {mt:Nat} {hd fx:QE} {α:Type} {t e et:TI} {E:ah α} {z0:α} {bt t1 t2 j2:Nat} {v yv:Value} {y:α} {z:List α} {oj:MM} {A:LN} {as:LL} {d:Nat} {ty:TI} {ops:LO} {i:Nat} {sl:LQ} {ms:MM} {Γ:QE} {B:Bs} {r0:NV} {w0:World} {H:LN} (hh:jz l mt base=true) (ha:cq r0 base) (hT:mz P t α e E z0 bt) (hU:U.getD i []=[l.length])
   (u6:((U.set i []).all fun us=>!(us.contains l.length))=true) (hv:dM A none sl base fr) (hs:look fr t1=some v) (h2:jr ms t2 ⟨j2,t2,[],Nat,fun _ b=>.slice (some ⟨b,0,none⟩) 1 1,fun _ b=>[.row b [yv] et]⟩ oj) (h5:cw j2 A=true) (h1:bz hd (.own (aJ e E) v z) fx) (hy:BG [] E yv y [])
   (hf:fits bt (z.length+1)=some ()) (nw:mf l mt U A (.call ⟨.builtin .append,#[.tmp t1,.tmp t2],#[t,t]⟩) d ty as ops i) (oh:mi B Z hd Γ H w0) (h:fl P Z l mt U r0 w0 H i sl ms) :
  fl P Z l mt U r0 w0 H (i+1) sl (⟨i,d,[],Value,fun _ v'=>v',fun _ v'=>[.own (aJ e E) v' (z++[y])]⟩ :: ms)∧mi B Z fx Γ H w0:=by
 obtain ⟨F,Hd,⟨r5,r6,ov,r7⟩,hS,hG⟩:=oh
 obtain ⟨VN,It,xO,_,DY⟩:=h1.sound r5
 refine ⟨?_,F,It,⟨DY,fun b hb=>r6 b (xO.mem_iff.1 (List.mem_append_right _ hb)),ov,(xO.nodup_iff.2 r7).sublist (List.sublist_append_right _ _)⟩,hS,hG⟩
 obtain ⟨S',w6,hR,hO⟩:=h
 subst w6
 obtain ⟨hA,⟨pos,ab,ho⟩,_⟩:=nw
 obtain ⟨b1,b2⟩:=ie hf
 obtain ⟨q1,q2,ii,zz,q3,q4,q5,q6,q7,_⟩:=hT.h
 obtain ⟨n1,_,_,_⟩:=h2.sub
 refine ⟨S'++[⟨true,MV Z ⟨S'.length,d,[],Value,fun _ v'=>v',fun _ v'=>[.own (aJ e E) v' (z++[y])]⟩⟩],by simp,hR.mem rfl (by unfold bj; rw [ho]; rfl) (by intro t h; cases h),fun k hk=>?_⟩
 by_cases bb:k < S'.length
 ·exact iw.more (hO k bb) bb
 ·obtain rfl:k=S'.length:=by omega
  intro o' s' bm b9 g r w hC uI gh hn gu rn ir
  rw [ho] at bm
  cases bm
  rw [List.getElem?_append_right (Nat.le_refl _),Nat.sub_self] at b9
  cases b9
  rw [if_pos rfl]
  refine ⟨rfl,?_⟩
  obtain ⟨B6,B7,B8⟩:=uI (vO u6)
  have Ca:=r5.ic B6
  obtain ⟨fm,F1,n9,EL,_⟩:=h1.sound Ca
  obtain ⟨ky,F2,nv,N7,_⟩:=hy.sound (Z:=Z) (w:=w) (F:=[]) rfl
  have N8:ky=[]:=by
   cases ky with
   | nil=>rfl
   | cons a l=>exact absurd (nv.mem_iff.1 (List.mem_append_left _ List.mem_cons_self)) List.not_mem_nil
  subst N8
  have w7:fm.Nodup:=(n9.nodup_iff.2 r7).sublist (List.sublist_append_left _ _)
  have rq:∀ b∈fm,b∈H:=fun b hb=>(r6 b (n9.mem_iff.1 (List.mem_append_left _ hb))).1
  obtain ⟨b,c1,c2,c3⟩:=hR.vB n1 (hn j2 (iy (by rw [← hA]; exact gn.1 h5)).2)
  simp only at c1 c2
  replace c2:=c2.own rfl
  generalize vA:g j2=G1 at c2 c3
  cases c2 with
  | fact h _=>exact h.elim
  | @own _ ff F0 _ xg p4=>
   cases p4
   obtain ⟨rfl,av⟩:=xg
   have hb:=jm hR hA hv (gx hh ha gu) gh
   obtain ⟨v',w',f',jl,r4,c9,bp,vP⟩:=kv (E:=E) (d:=some d) (ty:=ty) (pos:=pos) (ab:=ab) (g:=none) (r:=r) (s:=.tmp t1) (x:=.tmp t2) (k:=[]) (ys:=[y]) (news:=[yv]) q1 q3 q4 (by rw [q5,q2]) (by rw [cells_one q6,q2]; rfl) (hb _ _ hs) EL w7 c1 (fun i u hi=>av.at i u hi) (l6 N7) (fun _ h=>absurd h List.not_mem_nil) (by simp) (by rw [q7]; exact b1) b2
   unfold fh
   rw [jl]
   have hblk:jk g (U.getD S'.length [])=H:=by rw [hU]; simp [jk,B7]
   rw [hblk]
   refine ⟨r4.mono fun b hb=>rq b hb,f',fun b hb=>?_,v',rfl,?_,vP List.nodup_nil⟩
   ·refine ⟨?_,ah.lt _ c9 b hb⟩
    rcases bp b hb with h | h | h
    ·exact .inl (rq b h)
    ·exact absurd h List.not_mem_nil
    ·exact .inr h
   ·have:=HL.own (Z:=fun _=>False) (e:=.own (aJ e E) v' (z++[y])) (f:=f') c9 .nil
    exact .inl (by simpa using this)
theorem T9 {mt:Nat} {hd fx:QE} {t e e3 et:TI} {kk:IntKind} {z0:List Int} {bt t1 t2 t3 j2 j3 n:Nat} {v:Value} {us:LV} {ys:List Int} {z:List (List Int)} {oj wq:MM} {A:LN} {as:LL} {d:Nat} {ty:TI} {ops:LO} {i:Nat} {sl:LQ} {ms:MM} {Γ:QE} {B:Bs} {r0:NV} {w0:World} {H:LN} (hh:jz l mt base=true) (ha:cq r0 base) (hT:mz P t (List Int) e (aJ e3 (aN kk)) z0 bt) (hU:U.getD i []=[l.length,j3])
   (u6:((U.set i []).all fun us=>!(us.contains l.length))=true) (hv:dM A none sl base fr) (hs:look fr t1=some v) (h2:jr ms t2 ⟨j2,t2,[t3],Nat,fun _ b=>.slice (some ⟨b,0,none⟩) 1 1,fun u b=>[.row b [u] et]⟩ oj) (h3:jr oj t3 ⟨j3,t3,[],Nat,fun _ b=>.slice (some ⟨b,0,none⟩) n n,fun _ b=>[.row b us e3]⟩ wq) (h5:cw j2 A=true) (h6:cw j3 A=true) (h1:bz hd (.own (aJ e (aJ e3 (aN kk))) v z) fx) (hi:w5 kk us ys) (mh:us.length=n) (cg:Nat.ble n 16777216=true)
   (hf:fits bt (z.length+1)=some ()) (nw:mf l mt U A (.call ⟨.builtin .append,#[.tmp t1,.tmp t2],#[t,t]⟩) d ty as ops i) (oh:mi B Z hd Γ H w0) (h:fl P Z l mt U r0 w0 H i sl ms) :
  fl P Z l mt U r0 w0 H (i+1) sl (⟨i,d,[],Value,fun _ v'=>v',fun _ v'=>[.own (aJ e (aJ e3 (aN kk))) v' (z++[ys])]⟩ :: wq)∧mi B Z fx Γ H w0:=by
 obtain ⟨F,Hd,⟨r5,r6,ov,r7⟩,hS,hG⟩:=oh
 obtain ⟨VN,It,xO,_,DY⟩:=h1.sound r5
 refine ⟨?_,F,It,⟨DY,fun b hb=>r6 b (xO.mem_iff.1 (List.mem_append_right _ hb)),ov,(xO.nodup_iff.2 r7).sublist (List.sublist_append_right _ _)⟩,hS,hG⟩
 obtain ⟨S',w6,hR,hO⟩:=h
 subst w6
 obtain ⟨hA,⟨pos,ab,ho⟩,_⟩:=nw
 obtain ⟨b1,b2⟩:=ie hf
 obtain ⟨q1,q2,ii,zz,q3,q4,q5,q6,q7,_⟩:=hT.h
 obtain ⟨n1,_,m3,m4⟩:=h2.sub
 obtain ⟨n3,_,m5,m6⟩:=h3.sub
 refine ⟨S'++[⟨true,MV Z ⟨S'.length,d,[],Value,fun _ v'=>v',fun _ v'=>[.own (aJ e (aJ e3 (aN kk))) v' (z++[ys])]⟩⟩],by simp,(hR.sub (fun b hb=>m3 b (m5 b hb)) (m6.trans m4)).mem rfl (by unfold bj; rw [ho]; rfl) (by intro t h; cases h),fun k hk=>?_⟩
 by_cases bb:k < S'.length
 ·exact iw.more (hO k bb) bb
 ·obtain rfl:k=S'.length:=by omega
  intro o' s' bm b9 g r w hC uI gh hn gu rn ir
  rw [ho] at bm
  cases bm
  rw [List.getElem?_append_right (Nat.le_refl _),Nat.sub_self] at b9
  cases b9
  rw [if_pos rfl]
  refine ⟨rfl,?_⟩
  obtain ⟨B6,B7,B8⟩:=uI (vO u6)
  have Ca:=r5.ic B6
  obtain ⟨fm,F1,n9,EL,_⟩:=h1.sound Ca
  have w7:fm.Nodup:=(n9.nodup_iff.2 r7).sublist (List.sublist_append_left _ _)
  have rq:∀ b∈fm,b∈H:=fun b hb=>(r6 b (n9.mem_iff.1 (List.mem_append_left _ hb))).1
  have GV:=iy (by rw [← hA]; exact gn.1 h6)
  obtain ⟨b,c1,c2,c3⟩:=hR.vB n1 (hn j2 (iy (by rw [← hA]; exact gn.1 h5)).2)
  obtain ⟨b3,d1,d2,d3⟩:=hR.vB (m3 _ n3) (hn j3 GV.2)
  replace c1:r t2 = .slice (some ⟨b,0,none⟩) 1 1:=c1
  replace c2:HL (fun _=>False) w [.row b [r t3] et] (g j2):=c2.own rfl
  replace d1:r t3 = .slice (some ⟨b3,0,none⟩) n n:=d1
  replace d2:HL (fun _=>False) w [.row b3 us e3] (g j3):=d2.own rfl
  have Ob:=B8 j3 GV.1
  generalize vA:g j2=G1 at c2 c3
  generalize Oc:g j3=G3 at d2 d3 Ob
  cases c2 with
  | fact h _=>exact h.elim
  | @own _ ff F0 _ xg p4=>
   cases p4
   obtain ⟨rfl,av⟩:=xg
   cases d2 with
   | fact h _=>exact h.elim
   | @own _ ff3 F3 _ u7 EM=>
    cases EM
    obtain ⟨rfl,u7⟩:=u7
    obtain ⟨e1,e2⟩:=w5.sound hi w.heap
    have xF:=Nat.le_of_ble_eq_true cg
    have hE:(aJ e3 (aN kk)).rep w.heap [r t3] ys [b3]:=by
     rw [d1]
     refine ⟨some ⟨b3,0,none⟩,n,by rw [← mh,e1],.inr ⟨b3,us.toArray,[],rfl,u7,rfl,by rw [← mh,e1]; exact Nat.le_refl _,Nat.le_trans xF (by decide),by rw [show (aN kk).size=1 from rfl,Nat.mul_one]; simp [mh],?_⟩⟩
     rw [show (aN kk).size=1 from rfl,Nat.mul_one,List.toList_toArray,← e1,List.take_length]
     exact e2
    have AH:w0.heap.size≤b3:=Ob b3 (by simp)
    have Cb:∀ b∈fm,b≠b3:=fun b hb he=>by
     have:=ov b (rq b hb)
     omega
    have hb:=jm hR hA hv (gx hh ha gu) gh
    obtain ⟨v',w',f',jl,r4,c9,bp,vP⟩:=kv (E:=aJ e3 (aN kk)) (d:=some d) (ty:=ty) (pos:=pos) (ab:=ab) (g:=none) (r:=r) (s:=.tmp t1) (x:=.tmp t2) (k:=[b3]) (ys:=[ys]) (news:=[r t3]) q1 q3 q4 (by rw [q5,q2]) (by rw [cells_one q6,q2]; rfl) (hb _ _ hs) EL w7 c1 (fun i u hi=>av.at i u hi) (l6 hE) (fun b hb hm=>Cb b hm (List.mem_singleton.1 hb)) (by simp) (by rw [q7]; exact b1) b2
    unfold fh
    rw [jl]
    have hblk:jk g (U.getD S'.length [])=H++[b3]:=by rw [hU]; simp [jk,B7,Oc]
    rw [hblk]
    refine ⟨r4.mono fun b hb=>List.mem_append_left _ (rq b hb),f',fun b hb=>?_,v',rfl,?_,vP (by simp)⟩
    ·refine ⟨?_,ah.lt _ c9 b hb⟩
     rcases bp b hb with h | h | h
     ·exact .inl (List.mem_append_left _ (rq b h))
     ·exact .inl (List.mem_append_right _ h)
     ·exact .inr h
    ·have:=HL.own (Z:=fun _=>False) (e:=.own (aJ e (aJ e3 (aN kk))) v' (z++[ys])) (f:=f') c9 .nil
     exact .inl (by simpa using this)
theorem Ua {mt:Nat} {t e e3 et:TI} {kk:IntKind} {z0:List Int} {bt t1 t2 t3 j1 j2 j3 n:Nat} {us:LV} {ys:List Int} {z:List (List Int)} {a1:ez} {fq oj wq:MM} {A:LN} {as:LL} {d:Nat} {ty:TI} {ops:LO} {i:Nat} {sl:LQ} {ms:MM} {r0:NV} {w0:World} {H:LN} (hT:mz P t (List Int) e (aJ e3 (aN kk)) z0 bt) (hU:U.getD i []=[j1,j3])
   (h1:jr ms t1 a1 fq) (h2:jr fq t2 ⟨j2,t2,[t3],Nat,fun _ b=>.slice (some ⟨b,0,none⟩) 1 1,fun u b=>[.row b [u] et]⟩ oj) (h3:jr oj t3 ⟨j3,t3,[],Nat,fun _ b=>.slice (some ⟨b,0,none⟩) n n,fun _ b=>[.row b us e3]⟩ wq) (hp:∀ u v,a1.ps u v=[.own (aJ e (aJ e3 (aN kk))) (a1.rt u v) z]) (hj:a1.j=j1) (mc:Nat.beq j1 j3=false) (h4:cw j1 A=true) (h5:cw j2 A=true) (h6:cw j3 A=true) (hi:w5 kk us ys) (mh:us.length=n) (cg:Nat.ble n 16777216=true)
   (hf:fits bt (z.length+1)=some ()) (nw:mf l mt U A (.call ⟨.builtin .append,#[.tmp t1,.tmp t2],#[t,t]⟩) d ty as ops i) (h:fl P Z l mt U r0 w0 H i sl ms) :
  fl P Z l mt U r0 w0 H (i+1) sl (⟨i,d,[],Value,fun _ v'=>v',fun _ v'=>[.own (aJ e (aJ e3 (aN kk))) v' (z++[ys])]⟩ :: wq):=by
 obtain ⟨S',w6,hR,hO⟩:=h
 subst w6
 subst hj
 obtain ⟨hA,⟨pos,ab,ho⟩,_⟩:=nw
 obtain ⟨b1,b2⟩:=ie hf
 obtain ⟨q1,q2,ii,zz,q3,q4,q5,q6,q7,_⟩:=hT.h
 obtain ⟨k1,k2,k3,k4⟩:=h1.sub
 obtain ⟨n1,_,m3,m4⟩:=h2.sub
 obtain ⟨n3,_,m5,m6⟩:=h3.sub
 refine ⟨S'++[⟨true,MV Z ⟨S'.length,d,[],Value,fun _ v'=>v',fun _ v'=>[.own (aJ e (aJ e3 (aN kk))) v' (z++[ys])]⟩⟩],by simp,(hR.sub (fun b hb=>k3 b (m3 b (m5 b hb))) ((m6.trans m4).trans k4)).mem rfl (by unfold bj; rw [ho]; rfl) (by intro t h; cases h),fun k hk=>?_⟩
 by_cases bb:k < S'.length
 ·exact iw.more (hO k bb) bb
 ·obtain rfl:k=S'.length:=by omega
  intro o' s' bm b9 g r w hC uI gh hn gu rn ir
  rw [ho] at bm
  cases bm
  rw [List.getElem?_append_right (Nat.le_refl _),Nat.sub_self] at b9
  cases b9
  rw [if_pos rfl]
  refine ⟨rfl,?_⟩
  have SY:=iy (by rw [← hA]; exact gn.1 h4)
  have GV:=iy (by rw [← hA]; exact gn.1 h6)
  obtain ⟨v1,p1,p2,p3⟩:=hR.vB k1 (hn a1.j SY.2)
  rw [hp,← p1,k2] at p2
  replace p2:=p2.own rfl
  obtain ⟨b,c1,c2,c3⟩:=hR.vB (k3 _ n1) (hn j2 (iy (by rw [← hA]; exact gn.1 h5)).2)
  obtain ⟨b3,d1,d2,d3⟩:=hR.vB (k3 _ (m3 _ n3)) (hn j3 GV.2)
  replace c1:r t2 = .slice (some ⟨b,0,none⟩) 1 1:=c1
  replace c2:HL (fun _=>False) w [.row b [r t3] et] (g j2):=c2.own rfl
  replace d1:r t3 = .slice (some ⟨b3,0,none⟩) n n:=d1
  replace d2:HL (fun _=>False) w [.row b3 us e3] (g j3):=d2.own rfl
  have Qt:=rn a1.j SY.1 j3 GV.1 (fun e=>by rw [e,Nat.beq_refl] at mc; cases mc)
  generalize vA:g j2=G1 at c2 c3
  generalize Oc:g j3=G3 at d2 d3 Qt
  generalize gq:g a1.j=G2 at p2 p3 Qt
  cases c2 with
  | fact h _=>exact h.elim
  | @own _ ff F0 _ xg p4=>
   cases p4
   obtain ⟨rfl,av⟩:=xg
   cases d2 with
   | fact h _=>exact h.elim
   | @own _ ff3 F3 _ u7 EM=>
    cases EM
    obtain ⟨rfl,u7⟩:=u7
    cases p2 with
    | fact h _=>exact h.elim
    | @own _ k F4 _ xJ ZT=>
     cases ZT
     rw [List.append_nil] at p3
     obtain ⟨e1,e2⟩:=w5.sound hi w.heap
     have xF:=Nat.le_of_ble_eq_true cg
     have hE:(aJ e3 (aN kk)).rep w.heap [r t3] ys [b3]:=by
      rw [d1]
      refine ⟨some ⟨b3,0,none⟩,n,by rw [← mh,e1],.inr ⟨b3,us.toArray,[],rfl,u7,rfl,by rw [← mh,e1]; exact Nat.le_refl _,Nat.le_trans xF (by decide),by rw [show (aN kk).size=1 from rfl,Nat.mul_one]; simp [mh],?_⟩⟩
      rw [show (aN kk).size=1 from rfl,Nat.mul_one,List.toList_toArray,← e1,List.take_length]
      exact e2
     have Cb:∀ b∈k,b≠b3:=fun b hb he=>Qt b (by simpa using hb) (by simp [he])
     obtain ⟨v',w',f',jl,r4,c9,bp,vP⟩:=kv (E:=aJ e3 (aN kk)) (d:=some d) (ty:=ty) (pos:=pos) (ab:=ab) (g:=none) (r:=r) (s:=.tmp t1) (x:=.tmp t2) (k:=[b3]) (ys:=[ys]) (news:=[r t3]) q1 q3 q4 (by rw [q5,q2]) (by rw [cells_one q6,q2]; rfl) rfl xJ p3 c1 (fun i u hi=>av.at i u hi) (l6 hE) (fun b hb hm=>Cb b hm (List.mem_singleton.1 hb)) (by simp) (by rw [q7]; exact b1) b2
     unfold fh
     rw [jl]
     have hblk:jk g (U.getD S'.length [])=k++[b3]:=by rw [hU]; simp [jk,gq,Oc]
     rw [hblk]
     refine ⟨r4.mono fun b hb=>List.mem_append_left _ hb,f',fun b hb=>?_,v',rfl,?_,vP (by simp)⟩
     ·refine ⟨?_,ah.lt _ c9 b hb⟩
      rcases bp b hb with h | h | h
      ·exact .inl (List.mem_append_left _ h)
      ·exact .inl (List.mem_append_right _ h)
      ·exact .inr h
     ·have:=HL.own (Z:=fun _=>False) (e:=.own (aJ e (aJ e3 (aN kk))) v' (z++[ys])) (f:=f') c9 .nil
      exact .inl (by simpa using this)
end
end Go.Dk
namespace Go.Dk
open Go Go.Li
section
variable {R S:Type} {P:Program} {cx:Cx R} {K:ch R S} {l tail:LO} {base fr:Fr} {U:LL} {hd:QE}
def L8 (P:Program) (cx:Cx R) (K:ch R S) (l l0:LO) (mt:Nat) (U:LL) (hd:QE) (id:Nat) (base:Fr):JA R S→Prop
 | .a as ops i sl ms Γ m=>wV l mt U as ops i→Fin P cx K l l0 mt U hd id base i sl ms Γ m
 | .o A op d ty as ops i sl ms Γ m=>mf l mt U A op d ty as ops i→Fin P cx K l l0 mt U hd id base i sl ms Γ m
 | .oc us f xs au A d ty as ops i sl ms Γ m=>U.getD i []=us→mf l mt U A (.call ⟨.value (.func f),xs.toArray,au⟩) d ty as ops i→Fin P cx K l l0 mt U hd id base i sl ms Γ m
 | .os A op ty as ops i sl ms Γ m=>VE l mt U A op ty as ops i→Fin P cx K l l0 mt U hd id base i sl ms Γ m
 | .ow _ A op d ty as ops i sl ms Γ m=>mf l mt U A op d ty as ops i→Fin P cx K l l0 mt U hd id base i sl ms Γ m
 | .ix _ v fr x y t A d ty as ops i sl ms Γ m=>dM A none sl base fr→ay fr x=some v→mf l mt U A (.indexAddr t x y) d ty as ops i→Fin P cx K l l0 mt U hd id base i sl ms Γ m
 | .lb _ v j fr t x A d ty as ops i sl ms Γ m=>dM A none sl base fr→ay fr x=some (.pointer (some (cn v 1 j)))→NA P t→mf l mt U A (.load t x) d ty as ops i→Fin P cx K l l0 mt U hd id base i sl ms Γ m
 | .ap us t1 t2 t A d ty as ops i sl ms Γ m=>U.getD i []=us→mf l mt U A (.call ⟨.builtin .append,#[.tmp t1,.tmp t2],#[t,t]⟩) d ty as ops i→Fin P cx K l l0 mt U hd id base i sl ms Γ m
 | .la fr a lk t x A d ty as ops i sl ms Γ m=>dM A none sl base fr→ay fr x=some (.pointer (some a))→(match lk with | none=>NA P t | some n=>AG P t n)→mf l mt U A (.load t x) d ty as ops i→Fin P cx K l l0 mt U hd id base i sl ms Γ m
 | .ld E z fr a t x A d ty as ops i sl ms Γ m=>dM A none sl base fr→ay fr x=some (.pointer (some a))→NA P t→mf l mt U A (.load t x) d ty as ops i→
   ∀ B o,m=some o→∀ r0 w0 H Z,cq r0 base→mi B Z hd Γ H w0→(∃ u,∀ w,ak H w0 w→w.cell? a=some u∧∃ g,E.rep w.heap [u] z g)→fl P Z l mt U r0 w0 H i sl ms→py P cx.n l0 (ku P cx B K o) r0 w0
 | .p Δ as ops i sl ms Γ m=>wV l mt U as ops i→Fin P cx K l l0 mt U hd id base i sl ms (Δ.reverse++Γ) m
 | .cr u ps d as ops i sl ms Γ m=>wV l mt U as ops (i+1)→bj l i=some d→
   ∀ B o,m=some o→∀ r0 w0 H Z,cq r0 base→mi B Z hd Γ H w0→AA P Z l mt U r0 w0 H i sl ms ⟨i,d,[],_,fun _=>u,fun _=>ps⟩→py P cx.n l0 (ku P cx B K o) r0 w0
theorem yX {w:World} {e n:Nat} {v:Value} {us:List (List Value)} {f:LN} {j:Int} {c:LV} (hO:(aJ e (kq n)).rep w.heap [v] us f) (hj:0≤j) (hu:us[j.toNat]? = some c):c.length=n∧(∀ u∈c,u.oneCell'=true)∧∀ i u,c[i]? = some u→w.cell? ((cn v n j).add i)=some u:=by
 obtain ⟨_,_,cs,f1,⟨rfl,h1,h2,_⟩,_,h3⟩:=tv (((Le.own (Le.refl (kq n)) e).le) hO) j hj hu
 exact ⟨h1,h2,h3⟩
theorem Qu {α:Type} {E:ah α} {h:Array Obj}:∀ {xs:List α} {cs:LV} {f:LN} (n m:Nat),dm E h cs xs f→∃ f3,dm E h ((cs.drop (n * E.size)).take (m * E.size)) ((xs.drop n).take m) f3∧∀ b∈f3,b∈f:=by
 intro xs
 induction xs with
 | nil=>rintro cs f n m ⟨rfl,rfl⟩; exact ⟨[],by simpa using ⟨rfl,rfl⟩,fun _ h=>h⟩
 | cons x xs ih=>
  rintro cs f n m ⟨c,ds,f1,f2,rfl,rfl,h1,h2⟩
  cases n with
  | zero=>
   cases m with
   | zero=>exact ⟨[],by simpa using ⟨rfl,rfl⟩,fun _ h=>absurd h List.not_mem_nil⟩
   | succ m=>
    obtain ⟨f3,h3,h4⟩:=ih 0 m h2
    simp only [Nat.zero_mul,List.drop_zero] at h3 ⊢
    refine ⟨f1++f3,?_,fun b hb=>(List.mem_append.1 hb).elim (List.mem_append_left _) fun hb=>List.mem_append_right _ (h4 b hb)⟩
    have e:(m+1) * E.size=c.length+m * E.size:=by rw [E.len h1,Nat.add_mul,Nat.one_mul,Nat.add_comm]
    rw [e,List.take_append,List.take_of_length_le (by omega),List.take_succ_cons]
    exact ⟨c,_,f1,f3,rfl,rfl,h1,by simpa using h3⟩
  | succ n=>
   obtain ⟨f3,h3,h4⟩:=ih n m h2
   refine ⟨f3,?_,fun b hb=>List.mem_append_right _ (h4 b hb)⟩
   have e:(n+1) * E.size=c.length+n * E.size:=by rw [E.len h1,Nat.add_mul,Nat.one_mul,Nat.add_comm]
   rw [e,List.drop_append,List.drop_of_length_le (by omega),List.nil_append,List.drop_succ_cons]
   simpa using h3
theorem Iu {Z:Nat→Prop} {w:World} {cur g:LN} {o:Bool} {α:Type} {E:ah α} {base:Option Addr} {cap a b:Nat} {xs:List α} (hE:E.size=1) (hr:(aV E).rep w.heap [.slice base xs.length cap] xs g) (hg:∀ i∈g,uX o Z cur i) (oy:a≤b) (hb:b≤xs.length) (hc:xs.length≤cap) :
  fact Z w cur (.rd o (aV E) (sliced base a b cap 1) ((xs.drop a).take (b - a))):=by
 have hlen:((xs.drop a).take (b - a)).length=b - a:=by rw [List.length_take,List.length_drop]; omega
 obtain ⟨Lx,PX,hv,eh⟩:=hr
 obtain ⟨rfl,rfl⟩ : base=Lx∧cap=PX:=by simpa using hv
 by_cases hj:a=b
 ·subst hj
  exact ⟨[],⟨_,cap - a,by unfold sliced; rw [hlen],.inl ⟨by simp,rfl⟩⟩,fun _ h=>absurd h List.not_mem_nil⟩
 ·rcases eh with ⟨rfl,_⟩ | ⟨b0,off,cr,e',fz,f',rfl,g1,rfl,_,g2⟩
  ·exfalso; simp at hb; omega
  ·have mc : ¬ (cap=a):=by omega
   obtain ⟨f3,c9,bp⟩:=Qu a (b - a) g2
   refine ⟨b0 :: f3,⟨some ⟨b0,off+a,none⟩,cap - a,?_,.inr ⟨b0,off+a,cr,e',fz,f3,rfl,g1,rfl,by omega,?_⟩⟩,fun i hi=>?_⟩
   ·unfold sliced
    rw [hlen,if_neg mc]
    simp [gw]
   ·rw [hE,Nat.mul_one,Nat.mul_one,Nat.mul_one,List.drop_take,List.take_take,List.drop_drop,Nat.min_eq_left (by omega)] at c9
    rw [hE,Nat.mul_one,hlen]
    exact c9
   ·rcases List.mem_cons.1 hi with rfl | hi
    ·exact hg _ (by simp)
    ·exact hg _ (List.mem_cons_of_mem _ (bp i hi))
theorem AD.sound {l0:LO} {tq:Bool} {mt id:Nat} (hh:jz l mt base=true)
  (p4:∀ hd i sl ms Γ m,BY ms=true→DV U sl ms=true→(∀ x:ks ms,D P cx (.p (Ay sl (mF ms x)) (DU ms x) base Γ fun fr Γ=>.tg tq (BT tail) l tail K Γ fr m))→L8 P cx K l l0 mt U hd id base (.a [] [] i sl ms Γ m))
  {J:JA R S} (h:AD tq P cx K l tail base U hd J):L8 P cx K l l0 mt U hd id base J:=by
 have stay:∀ {B:Bs} {Z:Nat→Prop} {hd Γ:QE} {H:LN} {w0:World},mi B Z hd Γ H w0→∃ F Hd,(SA Z w0 hd [] Hd∧(∀ b∈Hd,b∈H∧b < w0.heap.size)∧(∀ b∈H,b < w0.heap.size)∧Hd.Nodup)∧SA Z w0 Γ [] F∧Gd B Z (H++F) w0∧∀ w,ak H w0 w→SA Z w Γ [] F:=by
  rintro B Z hd Γ H w0 ⟨F,Hd,h1,h2,h3⟩
  exact ⟨F,Hd,h1,h2,h3,fun w hC=>mi.stay h2 h3 hC⟩
 induction h with
 | nil hs he h=>exact p4 _ _ _ _ _ _ hs he h
 | abs=>intro _ B o ho; cases ho
 | @gbt hd j d b q as ops i sl ms Γ m _ ih=>
  intro h B o ho r0 w0 H Z ha hs hp
  cases b with
  | false=>cases ho
  | true=>exact ih h B o ho r0 w0 H Z ha hs (hp.swap)
 | @gbf hd j d b q as ops i sl ms Γ m _ ih=>
  intro h B o ho r0 w0 H Z ha hs hp
  cases b with
  | true=>cases ho
  | false=>exact ih h B o ho r0 w0 H Z ha hs (hp.swap)
 | skp fx hb hA _ ih=>
  intro h B o ho r0 w0 H Z ha hs hp
  obtain ⟨h1,h2,h3⟩:=h.next
  exact ih h3 B o ho r0 w0 H Z ha hs (hp.skip h1 h2 fx hb hA)
 | cons _ ih=>exact fun h=>ih h.cons
 | LS _ ih=>exact fun h=>ih h.LS
 | Vi h1 hv hy hc hn b9 ho h4 h6 _ ih=>
  rename_i ht _
  intro h B o bm r0 w0 H Z ha hs hp
  obtain ⟨F,_,_,_,_,hK⟩:=stay hs
  exact ih h.n B o bm r0 w0 H Z ha hs (TZ hh ha ht h1 hv hy hc hn b9 ho h4 h6 hK h hp)
 | ixs hv hx _ _ ih=>exact fun h1=>ih hv hx h1
 | @acd hd α A as d x y v k j t ty o1 o2 E xs ops i sl ms fr Γ fx f ht hy hr hE _ ih=>
  intro hv hx h1 B o ho r0 w0 H Z ha hs hp
  obtain ⟨z,hz,ho⟩:=bind_some ho
  replace hz:=rm hz
  obtain ⟨e,ii,q1,q2,q3⟩:=ht.h
  obtain ⟨F,Hd,⟨hL,VO⟩,hS,hG,hK⟩:=stay hs
  obtain ⟨dg,_,⟨⟨n,hn,_⟩,H8⟩,sK⟩:=(hr z).sound hL
  obtain ⟨⟨a,c,kh⟩,bb,_⟩:=tv hn j hz.1 hz.2
  refine ih z h1.n B o ho r0 w0 H Z ha ⟨F,Hd,⟨sK (H8 hE j z hz.1 hz.2),VO⟩,hS,hG⟩ (hp.val hh ha h1 hv fun r eh _ _ _ w hC=>?_)
  rw [ni q1 q2 ((aQ eh hx).trans kh) (aQ eh hy) hz.1 (by omega),q3,kh]
  rfl
 | @idx hd α A as d x y v k j t ty o1 o2 E xs ops i sl ms fr Γ Γ' f ht hy hr hE _ ih=>
  intro hv hx h1 B o ho r0 w0 H Z ha hs hp
  obtain ⟨z,hz,ho⟩:=bind_some ho
  replace hz:=rm hz
  obtain ⟨F,Hd,hL,hS,hG,hK⟩:=stay hs
  obtain ⟨dg,_,⟨⟨n,hn,_⟩,H8⟩,sK⟩:=(hr z).sound hS
  refine ih z h1.n B o ho r0 w0 H Z ha ⟨F,Hd,hL,sK (H8 hE j z hz.1 hz.2),hG⟩ (hp.val hh ha h1 hv fun r eh _ _ _ w hC=>?_)
  obtain ⟨_,_,⟨⟨n',mh,_⟩,_⟩,_⟩:=(hr z).sound (hK w hC)
  exact Ix ht.h mh hz (aQ eh hx) (aQ eh hy) hE w (ak.refl _ _)
 | @SV hd α β A as d x y v k j t ty o1 o2 p1 p2 E E2 z xs ops i sl ms fr Γ Γx m ht hy hr hi hE _ ih=>
  intro hv hx h1 B o ho r0 w0 H Z ha hs hp
  obtain ⟨F,Hd,hL,hS,hG,hK⟩:=stay hs
  refine ih h1.n B o ho r0 w0 H Z ha ⟨F,Hd,hL,hS,hG⟩ (hp.val hh ha h1 hv fun r eh _ _ _ w hC=>?_)
  obtain ⟨_,_,⟨⟨n',mh,_⟩,_⟩,_⟩:=hr.sound (hK w hC)
  obtain ⟨j0,j1⟩:=hi.ad hS
  obtain ⟨a,c,kh⟩:=tu mh
  have bb:j.toNat < xs.length:=by rw [kh] at j1; exact j1
  exact Ix ht.h mh ⟨j0,List.getElem?_eq_getElem bb⟩ (aQ eh hx) (aQ eh hy) hE w (ak.refl _ _)
 | pz _ ih=>exact ih
 | @pe hd e Δ as ops i sl ms Γ m _ ih=>
  intro h1
  have h2:=ih h1
  have h3:(e :: Δ).reverse++Γ=Δ.reverse++e :: Γ:=by rw [List.reverse_cons,List.append_assoc]; rfl
  rw [h3]
  exact h2
 | @qe hd α V Sc cl en A as d n x y v xs k j t ty ops i sl ms fr Γ Γx f ht hy hr qn hn _ ih=>
  intro hv hx hA B o ho r0 w0 H Z ha hs hp
  replace qn:SO Sc V cl en:=by cases qn; assumption
  obtain ⟨z,hz,ho⟩:=bind_some ho
  replace hz:=rm hz
  obtain ⟨e,i',h1,h2,h3⟩:=ht.h
  obtain ⟨F,Hd,hL,hS,hG,hK⟩:=stay hs
  obtain ⟨dg,_,⟨⟨f0,Dq,tH⟩,_⟩,_⟩:=hr.sound hS
  have hZ:∀ b∈f0,Z b:=fun b hb=>(tH b hb).elim (fun h=>h) (fun h=>h)
  obtain ⟨⟨a,c,kh⟩,bb,cs,f1,c9,NN,ik⟩:=tv Dq j hz.1 hz.2
  have mh:(sg Sc).size=n:=hn
  rw [mh] at ik
  obtain ⟨u,rfl,rY⟩:=qn.op c9.2
  have hblk:Z (cn v n j).block:=by
   obtain ⟨base,cap,kh,eh⟩:=Dq
   rcases eh with ⟨rfl,_⟩ | ⟨b,off,cr,e',fz,f',rfl,_,rfl,_⟩
   ·simp at bb; omega
   ·obtain rfl:v = .slice (some ⟨b,off,none⟩) xs.length cap:=by simpa using kh
    have:(cn (.slice (some ⟨b,off,none⟩) xs.length cap) n j).block=b:=by unfold cn; rw [wi]
    rw [this]; exact hZ b (by simp)
  have H9:fact Z w0 [] (.au (cn v n j) (cl z u)):=⟨fun i u' hi=>ik i u' hi,fun _=>hblk⟩
  have fk:HL Z w0 (.au (cn v n j) (cl z u) :: en z u) []:=.fact H9 (vM (rY Z fun b hb=>hZ b (NN b hb)))
  obtain ⟨F',BU,ja⟩:=fk.build hS
  refine ih z u hA.n B o ho r0 w0 H Z ha ⟨F',Hd,hL,ja,hG.perm (List.Perm.append_left H (by simpa using BU))⟩ (hp.val hh ha hA hv fun r eh _ _ _ w hC=>?_)
  rw [ni h1 h2 ((aQ eh hx).trans kh) (aQ eh hy) hz.1 (by omega),h3,kh]
  rfl
 | @VA hd α V Sc cl en A as d n e bt x y v us xs k j t ty ops i sl ms fr Γ Γ1 f ht hy h1 hg qn _ ih=>
  intro hv hx hA B o ho r0 w0 H Z ha hs hp
  replace qn:SO Sc V cl en:=by cases qn; assumption
  obtain ⟨z,hz,ho⟩:=bind_some ho
  replace hz:=rm hz
  obtain ⟨q1,i',_,q2,_,_,q3,_⟩:=ht.h
  obtain ⟨F,Hd,hL,hS,hG,hK⟩:=stay hs
  obtain ⟨f0,F1,_,hO,_⟩:=h1.sound hS
  obtain ⟨g0,hk,n7⟩:=hg.rd hS []
  obtain ⟨c,g1,e1,e2,e3⟩:=Et j.toNat hk.2.1 hz.2
  obtain ⟨u,rfl,rY⟩:=qn.op e2
  have hlen:us.length=xs.length:=zM hk.2.1
  have bb:j.toNat < xs.length:=(List.getElem?_eq_some_iff.1 hz.2).1
  have kh:∃ a c,v = .slice (some a) us.length c:=by
   obtain ⟨b0,cap,hv,hr⟩:=hO
   obtain rfl:v = .slice b0 us.length cap:=by simpa using hv
   rcases hr with ⟨_,_,rfl,_⟩ | ⟨b,cur,f',rfl,_⟩
   ·rw [← hlen] at bb; simp at bb
   ·exact ⟨_,_,rfl⟩
  obtain ⟨a,c',rfl⟩:=kh
  have fk:HL Z w0 (.rd false (Dn us j) (.bool true) (cl z u) :: en z u) []:=.fact ⟨[],⟨rfl,⟨hz.1,e1⟩,rfl⟩,fun _ h=>absurd h List.not_mem_nil⟩ (vM (rY Z fun b hb=>n7 b (e3 b hb)))
  obtain ⟨F',BU,ja⟩:=fk.build hS
  refine ih z u hA.n B o ho r0 w0 H Z ha ⟨F',Hd,hL,ja,hG.perm (List.Perm.append_left H (by simpa using BU))⟩ (hp.val hh ha hA hv fun r eh _ _ _ w hC=>?_)
  rw [ni q1 q2 (aQ eh hx) (aQ eh hy) hz.1 (by omega),q3]
  rfl
 | @laG hd A as d n e off x v u us j cs t ty ops i sl ms fr Γ Γ1 m h1 r3 hc _ ih=>
  intro hv hx ht hA B o ho r0 w0 H Z ha hs hp
  obtain ⟨F,_,_,hS,_,hK⟩:=stay hs
  refine ih hA.n B o ho r0 w0 H Z ha hs (hp.val hh ha hA hv fun r hr _ _ _ w hC=>?_)
  obtain ⟨f,F1,_,hO,_⟩:=h1.sound (hK w hC)
  obtain ⟨_,⟨_,⟨hj,hu⟩,_⟩,_⟩:=r3.rd (hK w hC) []
  exact Ld ht ((yX hO hj hu).2.2 off u hc) (aQ hr hx) w (ak.refl _ _)
 | @VB hd A as d n e x v u us j cs t ty ops i sl ms fr Γ Γ1 m h1 r3 hc _ ih=>
  intro hv hx ht hA B o ho r0 w0 H Z ha hs hp
  obtain ⟨F,_,_,hS,_,hK⟩:=stay hs
  refine ih hA.n B o ho r0 w0 H Z ha hs (hp.val hh ha hA hv fun r hr _ _ _ w hC=>?_)
  obtain ⟨f,F1,_,hO,_⟩:=h1.sound (hK w hC)
  obtain ⟨_,⟨_,⟨hj,hu⟩,_⟩,_⟩:=r3.rd (hK w hC) []
  exact Ld ht ((yX hO hj hu).2.2 0 u hc) (aQ hr hx) w (ak.refl _ _)
 | load hv hx _ ih=>rename_i ht _; exact fun h1=>ih hv hx ht.h h1
 | lsw _ _ ih=>exact fun hv hx ht h1=>ih hv hx ht h1
 | @slH hd α o A as d x lo hi v k1 k2 a b E T xs t e ty ops i sl ms fr Γ Γ1 Γ' f ht hv hx hlo hhi hc hr hE _ ih=>
  intro h1 B oo ho r0 w0 H Z ha hs hp
  obtain ⟨ys,Od,ho⟩:=bind_some ho
  obtain ⟨j0,j1,j2,rfl⟩:=Oe Od
  obtain ⟨e',i',q1,q2,q3⟩:=ht.h
  obtain ⟨F,Hd,hL,hS,hG,hK⟩:=stay hs
  obtain ⟨f1,F1,_,hO,_⟩:=hc.sound hS
  obtain ⟨base,cap,rfl,DW⟩ : ∃ base cap,v = .slice base xs.length cap∧xs.length≤cap:=by
   obtain ⟨base,cap,hv,hr⟩:=hO
   refine ⟨base,cap,by simpa using hv,?_⟩
   rcases hr with ⟨_,rfl,rfl,_⟩ | ⟨b0,cur,f0,_,_,_,BQ,_⟩
   ·simp
   ·exact BQ
  obtain ⟨dg,_,⟨⟨g0,VP,tH⟩,_⟩,sK⟩:=(hr (sliced base a.toNat b.toNat cap 1) ((xs.drop a.toNat).take (b.toNat - a.toNat))).sound hS
  have hf:=Iu (a:=a.toNat) (b:=b.toNat) hE VP (fun i hi=>(tH i hi).elim (fun h=>h) fun h=>h) (by omega) (by omega) DW
  refine ih _ _ h1.n B oo ho r0 w0 H Z ha ⟨F,Hd,hL,sK hf,hG⟩ (hp.val hh ha h1 hv fun r eh _ _ _ w hC=>?_)
  have q4:P.elem t=e':=by simp [Program.elem,q1]
  have me:(sizeOf (P.elem t)).run P w = .ok 1 w:=by rw [q4]; simp [sizeOf,typeInfo,q2,q3]
  simp [execOp,aQ eh hx,aQ eh hlo,aQ eh hhi,run_sliceAt_slice w t _ _ _ _ (by rw [q4]; exact q1),run_slice_lh (P:=P) w t base xs.length cap (by rw [q4]; exact q1) k1 k2 a b j0 j1 (by omega),me,Result.andThen]
 | @ace hd α A as d x v j E z o' t ty ops i sl ms fr Γ Vz fx m hV h NO _ ih=>
  intro hv hx ht h1 B o ho r0 w0 H Z ha hs hp
  obtain ⟨F,Hd,⟨hL,VO⟩,hS,hG,hK⟩:=stay hs
  obtain ⟨_,⟨u,k,h3,h4,h5⟩,_⟩:=(h (.bool true)).sound hL
  obtain ⟨dg,⟨u',k',h4',h5',h6⟩,sK⟩:=(h u).sound hL
  rw [h3] at h4'
  cases h4'
  exact ih u h1.n B o ho r0 w0 H Z ha ⟨F,Hd,⟨(NO u).sound h3 (sK ⟨k',h5',h6⟩),VO⟩,hS,hG⟩ (hp.ack hh ha h1 hV hv fun r hr _ _ _ w hC=>Ld ht h3 (aQ hr hx) w hC)
 | @Va hd α A as d x v j o E z t ty ops i sl ms fr Γ Γx m h _ ih=>
  intro hv hx ht h1 B o' ho r0 w0 H Z ha hs hp
  obtain ⟨F,Hd,hL,hS,hG,hK⟩:=stay hs
  obtain ⟨_,⟨u,k,h2,h3,_⟩,_⟩:=h.sound hS
  refine ih hv hx ht h1 B o' ho r0 w0 H Z ha hs ⟨u,fun w hC=>?_⟩ hp
  have hb:(cn v 1 j).block ∉ H:=fun hm=>(h.BS hS).elim (fun h=>h.elim (fun h=>absurd h List.not_mem_nil) fun h=>(List.nodup_append.1 hG.nd).2.2 _ hm _ h rfl) fun h=>hG.apart _ (List.mem_append_left _ hm) h
  have hc:=hC.cell hb h2
  obtain ⟨_,⟨u',k',h4,h5,_⟩,_⟩:=h.sound (hK w hC)
  rw [hc] at h4
  cases h4
  exact ⟨hc,k',h5⟩
 | Vb h _ ih=>
  intro hv hx ht h1 B o ho r0 w0 H Z ha hs hp
  obtain ⟨F,_,_,hS,_,hK⟩:=stay hs
  exact ih h1.n B o ho r0 w0 H Z ha hs (hp.val hh ha h1 hv fun r hr _ _ _ w hC=>Ld ht (h.sound (hK w hC)) (aQ hr hx) w (ak.refl _ _))
 | NB h _ ih=>
  intro hv hx ht h1 B o ho r0 w0 H Z ha hs hp
  obtain ⟨F,_,_,hS,_,hK⟩:=stay hs
  refine ih h1.n B o ho r0 w0 H Z ha hs (hp.val hh ha h1 hv fun r hr _ _ _ w hC=>?_)
  obtain ⟨h2,h3⟩:=h.sound (hK w hC)
  exact Lg ht h2 (aQ hr hx) h3 w (ak.refl _ _)
 | Vc _ ih=>
  intro hv hx ht h1 B o ho r0 w0 H Z ha hs hu hp
  obtain ⟨u,hu⟩:=hu
  obtain ⟨_,_,h3,_⟩:=hu w0 (ak.refl _ _)
  obtain rfl:u=_:=by simpa using h3
  exact ih h1.n B o ho r0 w0 H Z ha hs (hp.val hh ha h1 hv fun r hr _ _ _ w hC=>Ld ht (hu w hC).1 (aQ hr hx) w (ak.refl _ _))
 | Vd _ ih=>
  intro hv hx ht h1 B o ho r0 w0 H Z ha hs hu hp
  obtain ⟨u,hu⟩:=hu
  obtain ⟨_,_,h3,_⟩:=hu w0 (ak.refl _ _)
  obtain rfl:u=_:=by simpa using h3
  exact ih h1.n B o ho r0 w0 H Z ha hs (hp.val hh ha h1 hv fun r hr _ _ _ w hC=>Ld ht (hu w hC).1 (aQ hr hx) w (ak.refl _ _))
 | @Ve hd α A as d x v j E z o' t ty ops i sl ms fr Γ Γ1 Γ' m h NO _ ih=>
  intro hv hx ht h1 B o ho r0 w0 H Z ha hs hu hp
  obtain ⟨u,hu⟩:=hu
  obtain ⟨h2,_⟩:=hu w0 (ak.refl _ _)
  obtain ⟨F,Hd,hL,hS,hG,hK⟩:=stay hs
  obtain ⟨dg,⟨u',k',h4,h5,h6⟩,sK⟩:=(h u).sound hS
  rw [h2] at h4
  cases h4
  exact ih u h1.n B o ho r0 w0 H Z ha ⟨F,Hd,hL,(NO u).sound h2 (sK ⟨k',h5,h6⟩),hG⟩ (hp.val hh ha h1 hv fun r hr _ _ _ w hC=>Ld ht (hu w hC).1 (aQ hr hx) w (ak.refl _ _))
 | @H5 hd α A as d t e ty E z0 bt ops i sl ms Γ m hz _ ih=>
  intro h1 B o ho r0 w0 H Z ha hs hp
  exact ih h1.n B o ho r0 w0 H Z ha hs (T2 hz h1 hp)
 | Nz hU _ ih=>exact fun h1=>ih hU h1
 | @acf hd β V A as d f fs bs xo xs au ty mo rt ps ops i sl ms fr Γ g hv EI hf hc hi dx hw _ ih=>
  intro h1 B o ho r0 w0 H Z ha hs hp
  obtain @⟨qw⟩:=hf
  obtain ⟨y,hy,ho⟩:=bind_some ho
  obtain ⟨pos,ab,h2⟩:=h1.o
  exact ih y h1.n (by unfold bj; rw [h2]; rfl) B o ho r0 w0 H Z ha hs (NZ hh qw hv EI hc hi dx hw h1 hy ha hs hp)
 | @acg hd β V A as d f it name nm u xo xs au ty mo rt ps ops i sl ms fr Γ g hv EI hf hn hc hi dx hw _ ih=>
  intro h1 B o ho r0 w0 H Z ha hs hp
  obtain @⟨qw⟩:=hf
  rw [nb] at hn
  subst hn
  obtain ⟨y,hy,ho⟩:=bind_some ho
  obtain ⟨pos,ab,h2⟩:=h1.o
  exact ih y h1.n (by unfold bj; rw [h2]; rfl) B o ho r0 w0 H Z ha hs (N0 hh qw hv EI hc hi dx hw h1 hy ha hs hp)
 | @call hd β V A as d f xs au ty mo rt ps ops i sl ms fr Γ g hf hv hc hi dx hw _ ih=>
  intro _ h1 B o ho r0 w0 H Z ha hs hp
  obtain ⟨y,hy,ho⟩:=bind_some ho
  obtain ⟨pos,ab,h2⟩:=h1.o
  exact ih y h1.n (by unfold bj; rw [h2]; rfl) B o ho r0 w0 H Z ha hs (Qr hh hf hv hc hi dx hw h1 hy ha hs hp)
 | @ZP hd β V A as d f xs au ty mo rt ps ops i sl ms fr Γ g hf hV hv hc hi dx hw _ ih=>
  intro hU h1 B o ho r0 w0 H Z ha hs hp
  obtain ⟨y,hy,ho⟩:=bind_some ho
  obtain ⟨pos,ab,h2⟩:=h1.o
  exact ih y h1.n (by unfold bj; rw [h2]; rfl) B o ho r0 w0 H Z ha hs (N1 hh hf hv hU hV hc hi dx hw h1 hy ha hs hp)
 | @LX hd β V A as d f xs au ty mo rt ps ops i sl ms fr Γ g hf hv hc hi dx _ ih=>
  intro hU h1 B o ho r0 w0 H Z ha hs hp
  obtain ⟨y,hy,ho⟩:=bind_some ho
  obtain ⟨pos,ab,h2⟩:=h1.o
  exact ih y h1.n (by unfold bj; rw [h2]; rfl) B o ho r0 w0 H Z ha hs (N6 hh hf hv hc hi dx h1 hy ha hs hp)
 | @Ij hd β V A as d f xs au ty mo rt ps ops i sl ms fr Γ g hf hV hv hc hi dx _ ih=>
  intro hU h1 B o ho r0 w0 H Z ha hs hp
  obtain ⟨y,hy,ho⟩:=bind_some ho
  obtain ⟨pos,ab,h2⟩:=h1.o
  exact ih y h1.n (by unfold bj; rw [h2]; rfl) B o ho r0 w0 H Z ha hs (L6 hh hf hv hU hV hc hi dx h1 hy ha hs hp)
 | @Ik hd β V j1 a1 fq A as d f xs au ty mo rt ps ops i sl ms fr Γ g hf hg EG h4 hv hc hi dx _ ih=>
  intro hU h1 B o ho r0 w0 H Z ha hs hp
  obtain ⟨y,hy,ho⟩:=bind_some ho
  obtain ⟨pos,ab,h2⟩:=h1.o
  exact ih y h1.n (by unfold bj; rw [h2]; rfl) B o ho r0 w0 H Z ha hs (let ⟨S',e1,e2,e3⟩:=L7 hh hf hv hU hg EG h4 hc hi dx h1 hy ha hs hp; ⟨S',e1,e2.re (iy (by rw [← h1.A]; exact gn.1 h4)).1,e3⟩)
 | @ZQ hd β V j1 a1 fq A as d f xs au ty mo rt ps ops i sl ms fr Γ g hf hg EG h4 hv hc hi dx hw _ ih=>
  intro hU h1 B o ho r0 w0 H Z ha hs hp
  obtain ⟨y,hy,ho⟩:=bind_some ho
  obtain ⟨pos,ab,h2⟩:=h1.o
  exact ih y h1.n (by unfold bj; rw [h2]; rfl) B o ho r0 w0 H Z ha hs (let ⟨S',e1,e2,e3⟩:=N2 hh hf hv hU hg EG h4 hc hi dx hw h1 hy ha hs hp; ⟨S',e1,e2.re (iy (by rw [← h1.A]; exact gn.1 h4)).1,e3⟩)
 | @crb hd u ps d as ops i sl ms Γ m _ ih=>
  intro h1 fx B o ho r0 w0 H Z ha hs ⟨S',hl,hR,hO,hL⟩
  subst hl
  refine ih h1 B o ho r0 w0 H Z ha hs ⟨S'++[⟨true,MV Z ⟨S'.length,d,[],Unit,fun _=>u,fun _=>ps⟩⟩],by simp,(hR.mem (b:=⟨S'.length,d,[],Unit,fun _=>u,fun _=>ps⟩) rfl fx (fun _ h=>nomatch h)).ach (s:=⟨true,MV Z ⟨S'.length,d,[],Unit,fun _=>u,fun _=>ps⟩⟩) fx (by simp) rfl (fun f w r x ⟨v,h,_⟩=>h),fun j hj=>?_⟩
  by_cases h2:j < S'.length
  ·exact iw.more (hO j h2) h2
  ·obtain rfl:j=S'.length:=by omega
   exact hL _ fun f w r x h=>⟨f,fun _ h=>h,h⟩
 | @crv hd u d as ops i sl ms Γ m _ ih=>
  intro h1 fx B o ho r0 w0 H Z ha hs ⟨S',hl,hR,hO,hL⟩
  subst hl
  refine ih h1 B o ho r0 w0 H Z ha hs ⟨_,by simp,hR.val fx,fun j hj=>?_⟩
  by_cases h2:j < S'.length
  ·exact iw.more (hO j h2) h2
  ·obtain rfl:j=S'.length:=by omega
   exact hL (pl fun _ _ x=>x=_) fun f w r x ⟨v,h,_⟩=>⟨[],fun _ h=>absurd h List.not_mem_nil,h⟩
 | @crm hd V u ps d as ops i sl ms Γ m _ ih=>
  intro h1 fx B o ho r0 w0 H Z ha hs ⟨S',hl,hR,hO,hL⟩
  subst hl
  refine ih h1 B o ho r0 w0 H Z ha hs ⟨_,by simp,hR.mem rfl fx (fun _ h=>nomatch h),fun j hj=>?_⟩
  by_cases h2:j < S'.length
  ·exact iw.more (hO j h2) h2
  ·obtain rfl:j=S'.length:=by omega
   exact hL _ fun f w r x h=>⟨f,fun _ h=>h,h⟩
 | Vh hU _ ih=>exact fun h1=>ih hU h1
 | apL u6 hv b9 h2 h3 h5 h6 hl hz h1 hr hi hn hb _ ih=>
  rename_i hT _
  intro hU h B o ho r0 w0 H Z ha hs hp
  obtain ⟨u,hu,ho⟩:=bind_some ho
  obtain ⟨p1,p2⟩:=T7 hh ha hT hU u6 hv b9 h2 h3 h5 h6 hl hz h1 hr hi hn hb hu h hs hp
  exact ih h.n B o ho r0 w0 H Z ha p2 p1
 | apH u6 hv b9 h2 h5 hl hz h1 hr hy _ ih=>
  rename_i hT _
  intro hU h B o ho r0 w0 H Z ha hs hp
  obtain ⟨u,hu,ho⟩:=bind_some ho
  obtain ⟨p1,p2⟩:=T6 hh ha hT hU u6 hv b9 h2 h5 hl hz h1 hr hy hu h hs hp
  exact ih h.n B o ho r0 w0 H Z ha p2 p1
 | VD u6 hv b9 h2 h3 h5 h6 h1 hi hn hb _ ih=>
  rename_i hT _
  intro hU h B o ho r0 w0 H Z ha hs hp
  obtain ⟨u,hu,ho⟩:=bind_some ho
  obtain ⟨p1,p2⟩:=T9 hh ha hT hU u6 hv b9 h2 h3 h5 h6 h1 hi hn hb hu h hs hp
  exact ih h.n B o ho r0 w0 H Z ha p2 p1
 | VC u6 hv b9 h2 h5 h1 hy _ ih=>
  rename_i hT _
  intro hU h B o ho r0 w0 H Z ha hs hp
  obtain ⟨u,hu,ho⟩:=bind_some ho
  obtain ⟨p1,p2⟩:=T8 hh ha hT hU u6 hv b9 h2 h5 h1 hy hu h hs hp
  exact ih h.n B o ho r0 w0 H Z ha p2 p1
 | apM h1 h2 h3 BU hj mc h4 h5 h6 hi hn hb _ ih=>
  rename_i hT _
  intro hU h B o ho r0 w0 H Z ha hs hp
  obtain ⟨u,hu,ho⟩:=bind_some ho
  exact ih h.n B o ho r0 w0 H Z ha hs (Ua hT hU h1 h2 h3 BU hj mc h4 h5 h6 hi hn hb hu h hp)
 | ap1 h1 h2 h3 hw h4 h5 _ ih=>
  rename_i hz _
  intro h6 h B o ho r0 w0 H Z ha hs hp
  obtain ⟨u,hu,ho⟩:=bind_some ho
  exact ih h.n B o ho r0 w0 H Z ha hs (TY hz h1 h2 h3 h4 h5 (h6.trans hw) hu h hp)
 | KJ h1 h3 hw h4 hv hx hr _ ih=>
  rename_i hz _
  intro h6 h B o ho r0 w0 H Z ha hs hp
  obtain ⟨u,hu,ho⟩:=bind_some ho
  obtain ⟨F,_,_,_,_,hK⟩:=stay hs
  exact ih h.n B o ho r0 w0 H Z ha hs (Qp hz h1 h3 h4 (h6.trans hw) hh ha hv hx hr hK hu h hp)
 | apO h1 h3 hw h4 h2 h7 h5 _ ih=>
  rename_i hz _
  intro h6 h B o ho r0 w0 H Z ha hs hp
  obtain ⟨u,hu,ho⟩:=bind_some ho
  exact ih h.n B o ho r0 w0 H Z ha hs (Qq hz h1 h3 h4 (h6.trans hw) h2 h7 h5 hu h hp)
 | sw1 _ _ ih=>exact fun h1=>ih h1
 | sw2 _ _ ih=>exact fun h1=>ih h1
 | sw3 _ _ ih=>exact fun h1=>ih h1
 | sw4 _ _ ih=>exact fun h1=>ih h1
 | sw6 _ _ ih=>exact fun h1=>ih h1
 | wl0 _ ih=>exact fun h1=>ih h1
 | Vy _ ih=>
  rename_i hz _
  intro h1 B o ho r0 w0 H Z ha hs hp
  exact ih h1.n B o ho r0 w0 H Z ha hs (T0 hz h1 hp)
 | sw5 _ _ ih=>exact fun h1=>ih h1
 | mln hi dx hx _ ih=>
  rename_i ht _
  intro h1 B o ho r0 w0 H Z ha hs hp
  exact ih h1.n B o ho r0 w0 H Z ha hs (VG hp h1 ht hi dx hx)
 | wv hv hq _ ih=>
  intro h1 B o ho r0 w0 H Z ha hs hp
  obtain ⟨F,_,_,_,_,hK⟩:=stay hs
  exact ih h1.n B o ho r0 w0 H Z ha hs (hp.val hh ha h1 hv fun r hr _ _ _ w hC=>hq.sound (hK w hC) hr _ _ _ _ _ w (ak.refl _ _))
 | wlt hv hx ho _ ih=>
  rename_i hz _
  intro h1 B o bm r0 w0 H Z ha hs hp
  obtain ⟨F,_,_,_,_,hK⟩:=stay hs
  exact ih h1.n B o bm r0 w0 H Z ha hs (VI hh ha hz hv hx ho hK h1 hp)
 | ltn hv fx hn hb _ ih=>
  rename_i hz _
  intro h1 B o bm r0 w0 H Z ha hs hp
  obtain ⟨F,_,_,_,_,hK⟩:=stay hs
  exact ih h1.n B o bm r0 w0 H Z ha hs (KK hh ha hz hv fx hn hb hK h1 hp)
 | ltu hv fx hn hb _ ih=>
  rename_i hz _
  intro h1 B o bm r0 w0 H Z ha hs hp
  obtain ⟨F,_,_,_,_,hK⟩:=stay hs
  exact ih h1.n B o bm r0 w0 H Z ha hs (KK hh ha ⟨hz.h⟩ hv fx hn hb hK h1 hp)
 | @rV hd A as op x y k k' a b t t' d ty ops i sl ms fr Γ f hv hx hy hk _ ih=>
  intro h1 B o ho r0 w0 H Z ha hs hp
  obtain ⟨z,hz,ho⟩:=bind_some ho
  have rX:Ny op=true∨k=k':=by
   cases hk with
   | same=>exact .inr rfl
   | sh h=>exact .inl h
  exact ih z h1.n B o ho r0 w0 H Z ha hs (hp.val hh ha h1 hv fun r hr _ _ _ w hC=>NL (aQ hr hx) (aQ hr hy) rX hz)
 | mk hv hx _ ih=>
  rename_i hz _
  intro h1 B o ho r0 w0 H Z ha hs hp
  obtain ⟨n,hn,ho⟩:=bind_some ho
  exact ih n h1.n B o ho r0 w0 H Z ha hs (VH hh ha hz hv hx hn h1 hp)
 | mmv hi dx hj _ ih=>
  intro h1 B o ho r0 w0 H Z ha hs hp
  exact ih h1.n B o ho r0 w0 H Z ha hs (hp.dep (X:=fun u=>u) h1 hi dx hj fun r x hx w pos ab=>(Mv (W:=w) _ rfl) w (ak.refl _ _))
 | @mex hd t k A as d ty ops i sl ms Γ m hi dx hj EN _ ih=>
  intro h1 B o ho r0 w0 H Z ha hs hp
  refine ih h1.n B o ho r0 w0 H Z ha hs (hp.dep (X:=fun u=>LU u _) h1 hi dx hj fun r x hx w pos ab=>?_)
  obtain ⟨xK,hc⟩:=EN x
  have yV:=(mw hx vF) _ _ (by rw [List.append_nil]; exact xK)
  have:=(Ex (W:=w) (P:=P) (r:=r) (d:=some d) (ty:=ty) (pos:=pos) (ab:=ab) (g:=none) _ (x:=.tmp t) yV (by simpa using hc)) w (ak.refl _ _)
  rw [this,yV]
  simp [LU,hc]
 | mfd hi dx hj EN _ ih=>
  rename_i hf _
  intro h1 B o ho r0 w0 H Z ha hs hp
  refine ih h1.n B o ho r0 w0 H Z ha hs (hp.dep (X:=fun u=>LW u _) h1 hi dx hj fun r x hx w pos ab=>?_)
  obtain ⟨xK,hc⟩:=EN x
  obtain ⟨fs,f,ds,q1,q2,q3,q4,q5⟩:=hf.h
  have yV:=(mw hx vF) _ _ (by rw [List.append_nil]; exact xK)
  rw [DR q1 q2 q3 q4 q5 (x:=.tmp _) yV (by simpa using hc),yV]
  simp [LW,hc]
 | mif hi dx hj _ ih=>
  rename_i hf _
  intro h1 B o ho r0 w0 H Z ha hs hp
  obtain ⟨ds,q1,q2⟩:=hf.h
  exact ih h1.n B o ho r0 w0 H Z ha hs (hp.dep (X:=fun u=>.iface _ u) h1 hi dx hj fun r x hx w pos ab=>(If (W:=w) q1 q2 _ rfl) w (ak.refl _ _))
 | mbl hi dx _ hj hv EN _ ih=>
  rename_i hb _ _
  intro h1 B o ho r0 w0 H Z ha hs hp
  exact ih h1.n B o ho r0 w0 H Z ha hs (T1 hh hb hi dx hj hv EN h1 ha hs hp)
 | mlt hi dx hj EN _ ih=>
  rename_i hz _
  intro h1 B o ho r0 w0 H Z ha hs hp
  exact ih h1.n B o ho r0 w0 H Z ha hs (T3 hz hi dx hj EN h1 hp)
 | mls hb hi dx hj EN _ ih=>
  rename_i hz _
  intro h1 B o ho r0 w0 H Z ha hs hp
  exact ih h1.n B o ho r0 w0 H Z ha hs (T5 hz hb hi dx hj EN h1 hp)
 | val hv hq _ ih=>
  intro h1 B o ho r0 w0 H Z ha hs hp
  obtain ⟨F,_,_,_,_,hK⟩:=stay hs
  exact ih h1.n B o ho r0 w0 H Z ha hs (hp.val hh ha h1 hv fun r hr _ _ _ w hC=>hq.sound (hK w hC) hr _ _ _ _ _ w (ak.refl _ _))
end
end Go.Dk
namespace Go.Dk
open Go Go.Li
section
variable {R S:Type} {P:Program} {cx:Cx R} {K:ch R S} {l tail:LO} {base fr:Fr} {w:World} {Z:Nat→Prop}
theorem J5 {n:Nat} {Q:Exit→(Nat→Value)→World→Prop} {r:NV} (hQ:∀ c,¬ Q (.panic c) r w):∀ iz,∀ c,¬ CM P n Q iz (.panic c) r w:=by
 intro iz
 induction iz with
 | nil=>exact hQ
 | cons a iz ih=>cases a <;> exact ih
theorem J6 {B:Bs} {b:Kb R S} {o:Out S R} {r:NV}:∀ c,¬ LA P cx B b o (.panic c) r w:=by
 intro c
 cases b <;> cases o <;> exact fun h=>h
theorem sd {B:Bs} {K:ch R S} {o:Out S R} {r:NV}:∀ c,¬ ku P cx B K o (.panic c) r w:=J5 J6 _
def AI (g:Nat→List Nat):List ez→List Nat
 | []=>[]
 | a :: l=>g a.j++AI g l
theorem DZ {g:Nat→List Nat}:∀ {ms:MM} {b:Nat},b∈AI g ms→∃ a∈ms,b∈g a.j:=by
 intro ms
 induction ms with
 | nil=>intro b h; exact absurd h List.not_mem_nil
 | cons a ms ih=>
  intro b h
  rcases List.mem_append.1 h with h | h
  ·exact ⟨a,by simp,h⟩
  ·obtain ⟨c,h1,h2⟩:=ih h
   exact ⟨c,List.mem_cons_of_mem _ h1,h2⟩
theorem KN {Vo Vr A F:LN} (h:(Vo++Vr).Perm A):((Vo++F)++Vr).Perm (A++F):=by
 refine List.Perm.trans ?_ (h.append_right F)
 rw [List.append_assoc,List.append_assoc]
 exact List.Perm.append_left Vo List.perm_append_comm
theorem SZ {g:Nat→List Nat} {r:NV}:∀ {ms:MM},BY ms=true→(ms.map (·.j)).Nodup→(∀ a∈ms,∀ b∈ms,a.j≠b.j→rZ (g a.j) (g b.j))→(∀ a∈ms,MV Z a (g a.j) w r (r a.d))→
  ∃ x:ks ms,(∀ p∈mF ms x,r p.1=p.2)∧(∃ Vo Vr,(Vo++Vr).Perm (AI g ms)∧(∀ b∈Vr,b < w.heap.size)∧HL (qv Z Vr) w (DU ms x) Vo)∧(AI g ms).Nodup:=by
 intro ms
 induction ms with
 | nil=>intro _ _ _ _; exact ⟨(),fun p hp=>absurd hp List.not_mem_nil,⟨[],[],.refl _,fun b (h:b∈[])=>absurd h List.not_mem_nil,.nil⟩,List.nodup_nil⟩
 | cons a ms ih=>
  intro dx hd hi h
  unfold BY at dx
  rw [Bool.and_eq_true] at dx
  rw [List.map_cons,List.nodup_cons] at hd
  obtain ⟨x,hx,hl,hn⟩:=ih dx.2 hd.2 (fun b hb c hc=>hi b (List.mem_cons_of_mem _ hb) c (List.mem_cons_of_mem _ hc)) fun b hb=>h b (List.mem_cons_of_mem _ hb)
  obtain ⟨v,e1,e2,e3⟩:=h a (by simp)
  have es:u5 a r=BX a (mF ms x):=by
   have h3:=dx.1
   rw [List.all_eq_true] at h3
   refine CQ fun t ht=>?_
   unfold yT
   rw [Qj (h3 t ht) hx]
  rw [es] at e1 e2
  refine ⟨(v,x),?_,?_,uK e3 hn ?_⟩
  rotate_left
  ·obtain ⟨Fo,Fr,hf,h1,h2⟩:=e2.all
   obtain ⟨Vo,Vr,k1,k2,k3⟩:=hl
   refine ⟨Fo++Vo,Fr++Vr,?_,fun b hb=>(List.mem_append.1 hb).elim (h1 b) (k2 b),(h2.mono fun b h=>h.imp id fun h=>List.mem_append_left _ h).app (k3.mono fun b h=>h.imp id fun h=>List.mem_append_right _ h)⟩
   show List.Perm _ (g a.j++AI g ms)
   rw [hf]
   refine List.Perm.trans ?_ (k1.append_left (Fo++Fr))
   rw [List.append_assoc,List.append_assoc]
   refine List.Perm.append_left Fo ?_
   rw [← List.append_assoc,← List.append_assoc]
   exact List.Perm.append_right Vr List.perm_append_comm
  rotate_right
  ·intro p hp
   rcases List.mem_cons.1 hp with rfl | hp
   ·exact e1
   ·exact hx p hp
  ·intro b hb hm
   obtain ⟨c,h1,h2⟩:=DZ hm
   exact hi a (by simp) c (List.mem_cons_of_mem _ h1) (fun e=>hd.1 (by rw [e]; exact List.mem_map_of_mem h1)) b hb h2
theorem Iv {r:NV} {f:Fr}:∀ {sl:LQ},(∀ p∈sl,r p.2.1=p.2.2)→(∀ p∈f,r p.1=p.2)→∀ p∈Ay sl f,r p.1=p.2:=by
 intro sl
 induction sl with
 | nil=>intro _ h; exact h
 | cons a sl ih=>
  intro h1 h2 p hp
  rcases List.mem_cons.1 hp with rfl | hp
  ·exact h1 a (by simp)
  ·exact ih (fun p hp=>h1 p (List.mem_cons_of_mem _ hp)) h2 p hp
theorem Qv {mt:Nat} {U:LL} {Of:QE} (hh:jz l mt base=true) {sl:LQ} {ms:MM} {Γ:QE} {m:Option (Out S R)} (Og:BY ms=true) (rY:DV U sl ms=true)
  (h:∀ x:ks ms,D P cx (.p (Ay sl (mF ms x)) (DU ms x) base Γ fun fr Γ=>.tg false (BT tail) l tail K Γ fr m)) {B:Bs} {o:Out S R} (ho:m=some o) {r0:NV} {w0:World} {H:LN} {Z:Nat→Prop} (ha:cq r0 base) (hs:mi B Z Of Γ H w0) {S':List ig} (hi:S'.length=mt) (hR:iH Z l S' sl ms) :
  ∀ g r w,xP l mt S' U r0 w0 H (fun j=>j < mt) g r w→WL P l tail r w (ku P cx B K o .normal):=by
 obtain ⟨F,Hd,⟨r5,r6,ov,r7⟩,hS,hG⟩:=hs
 intro g r w hI
 have L9:∀ k j,j∈U.getD k []→∀ a∈ms,a.j≠j:=by
  intro k j hj
  unfold DV at rY
  rw [Bool.and_eq_true] at rY
  rw [List.getD_eq_getElem?_getD] at hj
  cases hk:U[k]? with
  | none=>rw [hk] at hj; exact absurd hj List.not_mem_nil
  | some us=>
   rw [hk] at hj
   have h1:=List.all_eq_true.1 (List.all_eq_true.1 rY.1 us (List.mem_of_getElem? hk)) j hj
   intro a ha he
   have:=List.all_eq_true.1 h1 a ha
   rw [he,Nat.beq_refl] at this
   cases this
 have hD:∀ j,j < mt→(∀ k,j ∉ U.getD k [])→xI l S' j g r w:=fun j hj hn=>hI.done j hj fun k _=>hn k
 have bb:∀ a∈ms,a.j < mt:=fun a ha=>hi ▸ hR.lt ha
 obtain ⟨x,hx,tJ,VR⟩:=SZ (g:=g) (r:=r) (w:=w) Og hR.d (fun a ha b hb oy=>hI.w8 _ _ (bb a ha) (bb b hb) oy) fun a ha=>by
  have:=hR.vB (S2:=[]) ha (by rw [List.append_nil]; exact hD a.j (bb a ha) (fun k hk=>L9 k _ hk a ha rfl))
  exact this
 have ES:=List.nodup_append.1 hG.nd
 have ir:∀ b∈AI g ms,w0.heap.size≤b∨b∈H:=fun b hb=>by
  obtain ⟨a,h1,h2⟩:=DZ hb
  exact (hI.fresh a.j (bb a h1) b h2).1.imp (fun h=>h) (·.1)
 have ep:=mi.stay hS hG hI.jf
 obtain ⟨Vo,Vr,VS,VT,tJ⟩:=tJ
 obtain ⟨F',hp,ja⟩:=tJ.build (ep.mono (fun _ h=>.inl h) fun _ h=>h)
 have Iw:Gd B Z (AI g ms++F) w:=by
  refine ⟨uK VR ES.2.1 fun b hb hF=>(ir b hb).elim (fun h=>Nat.lt_irrefl _ (Nat.lt_of_lt_of_le (hS.lt b hF) h)) (fun h=>ES.2.2 b h b hF rfl),?_,fun b hb=>Nat.lt_of_lt_of_le (hG.nh b hb) hI.jf.size,?_,hG.wk,hG.vH,hG.jf.then hI.jf fun b hb=>hG.low b (List.mem_append_left _ hb)⟩
  ·intro b hb hz
   rcases List.mem_append.1 hb with hb | hb
   ·exact (ir b hb).elim (fun h=>Nat.lt_irrefl _ (Nat.lt_of_lt_of_le (hG.nh b hz) h)) (fun h=>hG.apart b (List.mem_append_left _ h) hz)
   ·exact hG.apart b (List.mem_append_right _ hb) hz
  ·intro b hb
   rcases List.mem_append.1 hb with hb | hb
   ·exact (ir b hb).elim (fun h=>.inr (Nat.le_trans hG.jf.size h)) (fun h=>hG.low b (List.mem_append_left _ h))
   ·exact hG.low b (List.mem_append_right _ hb)
 have Qw:cq r ((Ay sl (mF ms x)).reverse++base):=by
  refine uD (Iv (fun p hp=>?_) hx) (gx hh ha hI.other)
  exact hR.vC (S2:=[]) hp fun j _ hj=>(by rw [List.append_nil]; exact hI.tI j (hi ▸ hj))
 have:=(h x).sound B o ho r w Qw ⟨_,F',ja,((Iw.perm (KN VS)).freeze VT).perm hp⟩
 exact this
theorem Ub {mt id:Nat} {U:LL} {Zl:LN} {Of:QE} (hU:((List.range mt).all fun i=>(U.getD i []).all fun u=>Nat.beq u l.length || ((cf l).getD i []).contains u)=true) (hh:jz l mt base=true) (hd:dh cx.n l=true) (hA:AJ l mt Zl=true) (hZ:Iy l mt Zl=true) (Iz:mt≤l.length) (ht:tail=l.drop mt) {i:Nat} {sl:LQ} {ms:MM} {Γ:QE} {m:Option (Out S R)} (Og:BY ms=true) (rY:DV U sl ms=true)
  (h:∀ x:ks ms,D P cx (.p (Ay sl (mF ms x)) (DU ms x) base Γ fun fr Γ=>.tg false (BT tail) l tail K Γ fr m)):L8 P cx K l l mt U Of id base (.a [] [] i sl ms Γ m):=by
 rintro ⟨_,h2,h3⟩ B o ho r0 w0 H Z ha hs ⟨S',hl,hR,hO⟩
 have hi:i=mt:=by
  have:=congrArg List.length h2
  simp at this
  omega
 subst hl
 have VU:=hs
 obtain ⟨F,Hd,⟨r5,r6,ov,r7⟩,hS,hG⟩:=hs
 refine VV (N:=Z) (S:=S') (U:=U) (H:=H) hd hA hZ (fun c r w h=>sd c h) Iz hi ov hU (fun b hb=>⟨hG.nh b hb,fun h=>hG.apart b (List.mem_append_left _ h) hb⟩) (fun i s hs=>hR.s i s hs) (fun j hj=>hO j (by omega)) ?_
 intro g r w hI
 have:=Qv hh Og rY h ho ha VU hi hR g r w hI
 rwa [ht] at this
def Kq (q:Option (Bool×Nat×Value)) (f:Fr):Fr:=
 match q with
 | none=>f
 | some (_,d,u)=>(d,u) :: f
theorem Kp.lk {ws:LN} {q:Option (Bool×Nat×Value)} {f g:Fr} (h:Kp ws q f g):(∀ b d u,q=some (b,d,u)→b=cw d ws)→∀ t v,look g t=some v→cw t ws=false∧look (Kq q f) t=some v:=by
 induction h with
 | nil=>intro _ t v h; cases h
 | cons _ ih=>intro _ t v h; exact ih (by rintro b d u h; cases h; rfl) t v h
 | @drop ws d u f g _ ih=>
  intro hq t v h
  obtain ⟨h1,h2⟩:=ih (by rintro b d u h; cases h) t v h
  refine ⟨h1,?_⟩
  show look ((d,u) :: f) t=some v
  unfold look
  cases hb:Nat.beq t d with
  | true=>have:=hq true d u rfl; rw [Nat.eq_of_beq_eq_true hb,← this] at h1; cases h1
  | false=>exact h2
 | @dp ws d u f g _ ih=>
  intro hq t v h
  unfold look at h
  show cw t ws=false∧look ((d,u) :: f) t=some v
  unfold look
  cases hb:Nat.beq t d with
  | true=>rw [hb] at h; exact ⟨by rw [Nat.eq_of_beq_eq_true hb]; exact (hq false d u rfl).symm,h⟩
  | false=>
   rw [hb] at h
   obtain ⟨h1,h2⟩:=ih (by rintro b d u h; cases h) t v h
   unfold cw at h1
   rw [hb] at h1
   exact ⟨h1,h2⟩
theorem Kp.sound {ws:LN} {f g:Fr} {r:NV} (h:Kp ws none f g) (ha:cq r f):cq r g:=
 fun t v hl=>ha t v (h.lk (by rintro b d u h; cases h) t v hl).2
theorem VW {id:Nat} (hd:QE) (mt:Nat) (Zl:LN) (U as:LL) {ops:LO} {Γ Γ1:QE} {fr:Fr} {m:Option (Out S R)}
  (hB:(P.follows .mixedOrders && dh cx.n l && AJ l mt Zl && Iy l mt Zl && Nat.ble mt l.length && (nj l U mt == as) && ((List.range mt).all fun i=>(U.getD i []).all fun u=>Nat.beq u l.length || ((cf l).getD i []).contains u))=true)
  (ho:ops=l.take mt) (ht:tail=l.drop mt) (hf:Kp (Aq ops) none fr base) (hh:jz l mt base=true) (he:EO Γ hd Γ1) (IB:OW Γ hd)
  (h:AD false P cx K l tail base U hd (.a as ops 0 [] [] Γ1 m)):∀ B o,m=some o→∀ r w,cq r fr→St B Γ w→py P cx.n l (ku P cx B K o) r w:=by
 simp only [Bool.and_eq_true] at hB
 obtain ⟨⟨⟨⟨⟨⟨_,b2⟩,b3⟩,b4⟩,b5⟩,b6⟩,b7⟩:=hB
 intro B o hm r w ha hs
 obtain ⟨Z,F,hS,hG⟩:=hs
 obtain ⟨Fd,F',h1,h2,h3⟩:=he.sound hS
 have IC:SA Z w hd [] Fd:=by
  have:=(HO.hl IB hS h1).front (Γ:=[]) (F:=[]) rfl
  simpa using this
 have hX:mi B Z hd Γ1 Fd w:=⟨F',Fd,⟨IC,fun b hb=>⟨hb,IC.lt b hb⟩,IC.lt,(List.nodup_append.1 (hG.perm h3).nd).1⟩,h2,hG.perm h3⟩
 refine AD.sound (id:=id) hh (fun _ _ _ _ _ _ hs he h=>Ub b7 hh b2 b3 b4 (Nat.le_of_ble_eq_true b5) ht hs he h) h
  ⟨by rw [List.drop_zero]; exact (eq_of_beq b6).symm,by rw [List.drop_zero]; exact ho,Nat.zero_le _⟩ B o hm r w Fd Z (hf.sound ha) hX ⟨[],rfl,⟨fun _ h=>absurd h List.not_mem_nil,fun _ h=>absurd h List.not_mem_nil,fun i s h=>by simp at h,List.nodup_nil,fun _ _ _ h1 h2=>ET l (Oh b3) h1 h2⟩,fun j hj=>absurd hj (Nat.not_lt_zero j)⟩
theorem ru {id:Nat} (hd:QE) (mt:Nat) (Zl:LN) (U as:LL) {ops:LO} {Γ Γ1:QE} {fr:Fr} {m:Option (Out S R)}
  (hB:(P.follows .mixedOrders && dh cx.n l && AJ l mt Zl && Iy l mt Zl && Nat.ble mt l.length && (nj l U mt == as) && ((List.range mt).all fun i=>(U.getD i []).all fun u=>Nat.beq u l.length || ((cf l).getD i []).contains u))=true)
  (ho:ops=l.take mt) (ht:tail=l.drop mt) (hf:Kp (Aq ops) none fr base) (hh:jz l mt base=true) (he:EO Γ hd Γ1) (IB:OW Γ hd)
  (h:AD false P cx K l tail base U hd (.a as ops 0 [] [] Γ1 m)):Bx (qa P cx (.dr id l K Γ fr m)):=by
 have hm:P.follows .mixedOrders=true:=by
  simp only [Bool.and_eq_true] at hB
  exact hB.1.1.1.1.1.1
 rw [nb]
 intro B o xQ r w ha hs
 exact (VW (id:=id) hd mt Zl U as hB ho ht hf hh he IB h B o xQ r w ha hs).W hm
theorem acm {id:Nat} {l0:LO} (σ π:LN) (hd:QE) (mt:Nat) (Zl:LN) (U as:LL) {ops:LO} {Γ Γ1:QE} {fr:Fr} {m:Option (Out S R)}
  (hB:(P.follows .mixedOrders && Qx l0 σ π && dh cx.n (p5 l0 σ π) && AJ (p5 l0 σ π) mt Zl && Iy (p5 l0 σ π) mt Zl && Nat.ble mt (p5 l0 σ π).length && (nj (p5 l0 σ π) U mt == as) && ((List.range mt).all fun i=>(U.getD i []).all fun u=>Nat.beq u (p5 l0 σ π).length || ((cf (p5 l0 σ π)).getD i []).contains u))=true)
  (hl:l=p5 l0 σ π) (ho:ops=l.take mt) (ht:tail=l.drop mt) (hf:Kp (Aq ops) none fr base) (hh:jz l mt base=true) (he:EO Γ hd Γ1) (IB:OW Γ hd)
  (h:AD false P cx K l tail base U hd (.a as ops 0 [] [] Γ1 m)):Bx (qa P cx (.dr id l0 K Γ fr m)):=by
 subst hl
 simp only [Bool.and_eq_true] at hB
 obtain ⟨⟨⟨⟨⟨⟨⟨b0,b1⟩,b2⟩,b3⟩,b4⟩,b5⟩,b6⟩,b7⟩:=hB
 rw [nb]
 intro B o xQ r w ha hs
 refine ((VW (id:=id) hd mt Zl U as ?_ ho ht hf hh he IB h B o xQ r w ha hs).prm b1).W b0
 simp only [Bool.and_eq_true]
 exact ⟨⟨⟨⟨⟨⟨b0,b2⟩,b3⟩,b4⟩,b5⟩,b6⟩,b7⟩
theorem any {id:Nat} (mt:Nat) (Zl:LN) (U as:LL) {ops:LO} {Γ:QE} {fr:Fr} {m:Option (Out S R)}
  (hB:(P.follows .mixedOrders && dh cx.n l && AJ l mt Zl && Iy l mt Zl && Nat.ble mt l.length && (nj l U mt == as) && ((List.range mt).all fun i=>(U.getD i []).all fun u=>Nat.beq u l.length || ((cf l).getD i []).contains u))=true)
  (ho:ops=l.take mt) (ht:tail=l.drop mt) (hf:Kp (Aq ops) none fr base) (hh:jz l mt base=true)
  (h:AD false P cx K l tail base U [] (.a as ops 0 [] [] Γ m)):Bx (qa P cx (.dr id l K Γ fr m)):=ru [] mt Zl U as hB ho ht hf hh .nil .nil h
end
end Go.Dk
