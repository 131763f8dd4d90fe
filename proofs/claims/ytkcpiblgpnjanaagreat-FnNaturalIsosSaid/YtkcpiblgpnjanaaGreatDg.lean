/- A calculus of walks: regions that draw their order and make memory. No condition. -/
import Derived.Test.YtkcpiblgpnjanaaGreatDe
import Derived.Laws.Slices
namespace Go.Dk
open Go Go.Li
section
variable {w:World}
def rL {α:Type} (e:TI) (E:ag α) (j:Nat):ag (List α) where
 size:=1
 rep h cs xs f:=∃ b cap cur f1 f2 p c0 q,cs=[.slice (some ⟨b,0,none⟩) xs.length cap]∧h[b]? = some (.cells cur e (0,0))∧f=b :: (f1++f2)∧(xs.length≤cap∧cap≤maxLen∧cur.size=cap∧E.size=1)∧cur.toList.take xs.length=p++[c0]++q∧(p.length=j∧j < xs.length)∧
  (∀ i∈f1++f2,i < h.size)∧∀ h':Array Obj,(∀ i∈f1++f2,h'[i]? = h[i]?)→∀ u z k,E.rep h' [u] z k→dw E h' (p++[u]++q) (xs.set j z) (f1++k++f2)
 len:=by rintro h cs x f ⟨b,cap,cur,f1,f2,p,c0,q,rfl,_⟩; rfl
 one:=by rintro h cs x f ⟨b,cap,cur,f1,f2,p,c0,q,rfl,_⟩ v hv; simp at hv; subst hv; rfl
 congr:=by
  rintro h h' cs x f ⟨b,cap,cur,f1,f2,p,c0,q,rfl,h1,rfl,h2,h3,h4,h5,h6⟩ hb
  refine ⟨b,cap,cur,f1,f2,p,c0,q,rfl,(hb b (by simp)).trans h1,rfl,h2,h3,h4,fun i hi=>?_,fun h'' cq=>h6 h'' fun i hi=>(cq i hi).trans (hb i (List.mem_cons_of_mem _ hi))⟩
  have:=hb i (List.mem_cons_of_mem _ hi)
  rw [Array.getElem?_eq_getElem (h5 i hi)] at this
  exact (Array.getElem?_eq_some_iff.1 this).1
 lt:=by
  rintro h cs x f ⟨b,cap,cur,f1,f2,p,c0,q,rfl,h1,rfl,h2,h3,h4,h5,h6⟩ i hi
  rcases List.mem_cons.1 hi with rfl | hi
  ·exact (Array.getElem?_eq_some_iff.1 h1).1
  ·exact h5 i hi
theorem CI {α:Type} {e:TI} {E:ag α} {v u:Value} {xs:List α} {f:LN} {j:Int} {z:α} (h1:E.size=1) (hO:(aK e E).rep w.heap [v] xs f) (hz:xs[j.toNat]? = some z) (hu:w.cell? (dc v 1 j)=some u) :
  ∃ k g,E.rep w.heap [u] z k∧(k++g).Perm f∧(rL e E j.toNat).rep w.heap [v] xs g:=by
 obtain ⟨base,cap,hv,hr⟩:=hO
 obtain rfl:v = .slice base xs.length cap:=by simpa using hv
 have bc:j.toNat < xs.length:=(List.getElem?_eq_some_iff.1 hz).1
 rcases hr with ⟨_,_,rfl,_⟩ | ⟨b,cur,f0,rfl,hg,rfl,xJ,um,xK,dq⟩
 ·simp at bc
 ·rw [h1,Nat.mul_one] at xK dq
  have wV:dc (.slice (some ⟨b,0,none⟩) xs.length cap) 1 j = ⟨b,j.toNat,none⟩:=by
   simp only [dc,iu,Nat.zero_add,Nat.mul_one]
  rw [wV,cell_of_row w b _ cur e _ hg] at hu
  have N3:∀ i∈f0,i < w.heap.size:=mc dq
  obtain ⟨c,g0,g1,g2,p,q,Dc,hc,hp,Aq,r3⟩:=zp j.toNat z dq hz
  subst Dc
  rw [h1,Nat.mul_one] at hp
  have Dd:c.length=1:=by rw [E.len Aq,h1]
  obtain ⟨c0,rfl⟩ : ∃ c0,c=[c0]:=by match c,Dd with | [c0],_=>exact ⟨c0,rfl⟩
  have Te:c0=u:=by
   have h2:(cur.toList.take xs.length)[j.toNat]? = some c0:=by
    rw [hc,List.append_assoc,List.getElem?_append_right (by omega),hp,Nat.sub_self]; rfl
   rw [List.getElem?_take,if_pos bc,Array.getElem?_toList,hu] at h2
   exact (Option.some.inj h2).symm
  subst Te
  refine ⟨g1,b :: (g0++g2),Aq,?_,b,cap,cur,g0,g2,p,c0,q,rfl,hg,rfl,⟨xJ,um,xK,h1⟩,hc,⟨hp,bc⟩,fun i hi=>N3 i (by rcases List.mem_append.1 hi with hi | hi <;> simp [hi]),fun h' cq u z' k' hr=>r3 h' [u] z' k' (fun i hi=>cq i (by simp [hi])) (fun i hi=>cq i (by simp [hi])) hr⟩
  refine (List.perm_append_comm (l₁:=g1) (l₂:=b :: (g0++g2))).trans ?_
  rw [List.cons_append]
  refine List.Perm.cons b ?_
  rw [List.append_assoc,List.append_assoc]
  exact List.Perm.append_left g0 List.perm_append_comm
end
structure ep where
 j:Nat
 d:Nat
 src:List Nat
 V:Type
 rt:Value→V→Value
 ps:Value→V→List aw
abbrev MM:=List ep
def mq:List ep→Type
 | []=>Unit
 | a :: l=>a.V×mq l
def zB (f:NV):List Nat→Value
 | []=>undef
 | [t]=>f t
 | ts=>.tuple (ts.map f).toArray
def xS (f:Fr) (t:Nat):Value:=match look f t with
 | some v=>v
 | none=>undef
def va (a:ep) (r:NV):Value:=zB r a.src
def AP (a:ep) (f:Fr):Value:=zB (xS f) a.src
theorem BY {f g:NV}:∀ {ts:LN},(∀ t∈ts,f t=g t)→zB f ts=zB g ts:=by
 intro ts h
 match ts,h with
 | [],_=>rfl
 | [t],h=>exact h t (by simp)
 | t :: s :: ts,h=>
  show Value.tuple (List.map f (t :: s :: ts)).toArray=Value.tuple (List.map g (t :: s :: ts)).toArray
  rw [List.map_congr_left h]
def mF:(ms:MM)→mq ms→Fr
 | [],_=>[]
 | a :: l,x=>(a.d,a.rt (AP a (mF l x.2)) x.1) :: mF l x.2
def Ep:(ms:MM)→mq ms→List aw
 | [],_=>[]
 | a :: l,x=>a.ps (AP a (mF l x.2)) x.1++Ep l x.2
def kq (A:LN):(ms:MM)→mq ms→Fr
 | [],_=>[]
 | a :: l,x=>bif dx a.j A then (a.d,a.rt (AP a (mF l x.2)) x.1) :: kq A l x.2 else kq A l x.2
def sr (A:LN):(ms:MM)→mq ms→List aw
 | [],_=>[]
 | a :: l,x=>bif dx a.j A then a.ps (AP a (mF l x.2)) x.1++sr A l x.2 else sr A l x.2
def qi (t:Nat):List ep→Option Nat
 | []=>none
 | a :: l=>bif Nat.beq t a.d then some a.j else qi t l
def zC (ms:MM):List (Nat×Operand)→List Nat
 | []=>[]
 | (_,.tmp s) :: l=>match qi s ms with
  | some _=>s :: zC ms l
  | none=>zC ms l
 | _ :: l=>zC ms l
def Yk (s:Nat):List Nat→Option Nat
 | []=>none
 | t :: l=>bif Nat.beq s t then some 0 else (Yk s l).map (·+1)
def ZT (v:Value) (k:Nat):Value:=match v with
 | .tuple vs=>vs.toList.getD k undef
 | _=>undef
def ZU (f:Fr) (ts:LN) (u:Value):Operand→Value
 | .tmp s=>match Yk s ts with
  | some k=>(match ts with
   | [_]=>u
   | _=>ZT u k)
  | none=>xS f s
 | x=>match bm f x with
  | some v=>v
  | none=>undef
def Xr (k:Nat) (v:Value):List Value:=bif Nat.beq k 1 then [v] else match v with
 | .agg cs=>cs.toList
 | _=>[]
def QV (pl:List (Nat×Nat)):List (Nat×Value)→List Value→List Value
 | [],cs=>cs
 | (i,v) :: l,cs=>match Gg pl i with
  | some (off,k)=>QV pl l (cs.take off++Xr k v++cs.drop (off+k))
  | none=>cs
def TK (pl:List (Nat×Nat)) (f:Fr) (ts:LN) (ps:List (Nat×Operand)) (zc:LV) (u:Value):List Value:=QV pl (ps.map fun p=>(p.1,ZU f ts u p.2)) zc
def Yl (A:LN) (ms:MM) (ts:LN):Bool:=ts.all fun t=>match qi t ms with
 | some j=>dx j A
 | none=>false
def me (A:LN):List ep→Bool
 | []=>true
 | a :: l=>(bif dx a.j A then a.src.all (fun t=>match qi t l with
   | some j=>dx j A
   | none=>false) else true) && me A l
def CJ:List ep→Bool
 | []=>true
 | a :: l=>a.src.all (fun t=>(qi t l).isSome) && CJ l
theorem Gw {A:LN} {r:NV} {t:Nat}:∀ {ms:MM} {x:mq ms} {j:Nat},qi t ms=some j→dx j A=true→(∀ p∈kq A ms x,r p.1=p.2)→look (mF ms x) t=some (r t):=by
 intro ms
 induction ms with
 | nil=>intro x j h; cases h
 | cons a l ih=>
  intro x j h hj hp
  unfold qi at h
  unfold mF look
  cases hb:Nat.beq t a.d with
  | true=>
   rw [hb] at h
   cases h
   have:=hp (a.d,a.rt (AP a (mF l x.2)) x.1) (by unfold kq; rw [hj]; simp)
   simp only [cond_true]
   rw [Nat.eq_of_beq_eq_true hb,this]
  | false=>
   rw [hb] at h
   refine ih h hj fun p hm=>hp p ?_
   unfold kq
   cases dx a.j A with
   | true=>exact List.mem_cons_of_mem _ hm
   | false=>exact hm
theorem Ov {r:NV} {t:Nat}:∀ {ms:MM} {x:mq ms},(qi t ms).isSome=true→(∀ p∈mF ms x,r p.1=p.2)→look (mF ms x) t=some (r t):=by
 intro ms
 induction ms with
 | nil=>intro x h; cases h
 | cons a l ih=>
  intro x h hp
  unfold qi at h
  unfold mF at hp ⊢
  unfold look
  cases hb:Nat.beq t a.d with
  | true=>
   simp only [cond_true]
   rw [Nat.eq_of_beq_eq_true hb,hp (a.d,a.rt (AP a (mF l x.2)) x.1) (by simp)]
  | false=>
   rw [hb] at h
   exact ih h fun p hm=>hp p (List.mem_cons_of_mem _ hm)
def HN (N:Nat→Prop) (w:World) (Δ:QE) (f:LN):Prop:=HL (fun _=>False) w Δ f∨∃ Fo Fr,f=Fo++Fr∧(sG Δ=false∧∀ b∈Fr,b < w.heap.size)∧HL (fun b=>N b∨b∈Fr) w Δ Fo
def L5 (N:Nat→Prop) (a:ep):List Nat→World→(Nat→Value)→Value→Prop:=fun f w r _=>∃ v:a.V,r a.d=a.rt (va a r) v∧HN N w (a.ps (va a r) v) f∧f.Nodup
def MV (N:Nat→Prop) (a:ep):List Nat→World→(Nat→Value)→Value→Prop:=fun f w r x=>∃ v:a.V,x=a.rt (va a r) v∧HN N w (a.ps (va a r) v) f∧f.Nodup
def QW (N:Nat→Prop) (a:LN) (l:LO) (s:gv):Prop:=∀ f F (w w':World) (r r':NV) v,an F w w'→(∀ b∈f,b ∉ F)→(∀ b∈F,¬ N b)→(∀ j∈a,∀ t,br l j=some t→r' t=r t)→s.V f w r v→s.V f w' r' v
theorem Gx.n {N:Nat→Prop} {a:LN} {l:LO} {s:gv} (h:Gx a l s):QW N a l s:=fun f F w w' r r' v hC hn _=>h f F w w' r r' v hC hn
section
variable {P:Program} {w w':World} {Z:Nat→Prop}
theorem HL.Xs {F H:LN} {Δ:QE} (h:HL (fun _=>False) w Δ F) (hC:an H w w') (hd:∀ b∈F,b ∉ H):HL (fun _=>False) w' Δ F:=by
 induction h with
 | nil=>exact .nil
 | @own e f F Δ h _ ih=>exact .own (h.ec hC (fun _ _ h=>h) fun b hb hm=>hd b (List.mem_append_left _ hm) hb) (ih fun b hb=>hd b (List.mem_append_right _ hb))
 | @fact e F Δ h _ ih=>
  refine .fact ?_ (ih hd)
  cases e with
  | rd o T v x=>
   obtain ⟨g,h1,h2⟩:=h
   have hg:g=[]:=by
    cases g with
    | nil=>rfl
    | cons b g=>exact absurd (h2 b (by simp)) (by cases o <;> simp [uk])
   subst hg
   exact ⟨[],T.ec h1 hC (fun _ h=>absurd h List.not_mem_nil),fun _ h=>absurd h List.not_mem_nil⟩
  | ad o1 o2 v j T x=>obtain ⟨_,_,u,g,_,_,h3,_⟩:=h; exact absurd h3 (by cases o1 <;> simp [uk])
  | ak p cs=>
   have hc:cs=[]:=by
    cases cs with
    | nil=>rfl
    | cons c cs=>exact (h.2 (by simp)).elim
   subst hc
   exact ⟨fun j u hj=>by simp at hj,fun hn=>absurd rfl hn⟩
  | hd v j u=>exact absurd h.2.2.2 List.not_mem_nil
  | _=>exact h.elim
theorem HL.QY {F H:LN} {Δ:QE} (h:HL Z w Δ F) (hC:an H w w') (hz:∀ b∈H,¬ Z b) (hd:∀ b∈F,b ∉ H):HL Z w' Δ F:=by
 induction h with
 | nil=>exact .nil
 | @own e f F Δ h _ ih=>exact .own (h.ec hC hz fun b hb hm=>hd b (List.mem_append_left _ hm) hb) (ih fun b hb=>hd b (List.mem_append_right _ hb))
 | @fact e F Δ h _ ih=>exact .fact (h.ec hC hz fun _ _ h=>nomatch h) (ih hd)
theorem HN.ec {N:Nat→Prop} {f H:LN} {Δ:QE} (h:HN N w Δ f) (hC:an H w w') (hd:∀ b∈f,b ∉ H) (hz:∀ b∈H,¬ N b):HN N w' Δ f:=by
 rcases h with h | ⟨Fo,Fr,rfl,h1,h2⟩
 ·exact .inl (h.Xs hC hd)
 ·exact .inr ⟨Fo,Fr,rfl,⟨h1.1,fun b hb=>Nat.lt_of_lt_of_le (h1.2 b hb) hC.size⟩,h2.QY hC (fun b hb h=>h.elim (hz b hb) fun h=>hd b (List.mem_append_right _ h) hb) fun b hb=>hd b (List.mem_append_left _ hb)⟩
theorem HN.own {N:Nat→Prop} {f:LN} {Δ:QE} (h:HN N w Δ f) (ho:sG Δ=true):HL (fun _=>False) w Δ f:=by
 rcases h with h | ⟨_,_,_,h1,_⟩
 ·exact h
 ·rw [ho] at h1; cases h1.1
theorem HN.all {N:Nat→Prop} {f:LN} {Δ:QE} (h:HN N w Δ f):∃ Fo Fr,f=Fo++Fr∧(∀ b∈Fr,b < w.heap.size)∧HL (fun b=>N b∨b∈Fr) w Δ Fo:=by
 rcases h with h | ⟨Fo,Fr,rfl,h1,h2⟩
 ·exact ⟨f,[],by simp,fun b (h:b∈[])=>absurd h List.not_mem_nil,h.mono fun _ h=>h.elim⟩
 ·exact ⟨Fo,Fr,rfl,h1.2,h2⟩
theorem HL.up {F:LN} {Δ:QE} (h:HL (fun _=>False) w Δ F):HL Z w Δ F:=by
 induction h with
 | nil=>exact .nil
 | own h _ ih=>exact .own (h.mono fun _ h=>h.elim) ih
 | fact h _ ih=>exact .fact (h.mono (fun _ h=>h.elim) fun _ h=>h) ih
theorem HL.app {Δ Δ':QE} {F F':LN} (h:HL Z w Δ F) (k:HL Z w Δ' F'):HL Z w (Δ++Δ') (F++F'):=by
 induction h with
 | nil=>exact k
 | own h _ ih=>rw [List.append_assoc]; exact .own h ih
 | fact h _ ih=>exact .fact h ih
theorem I8 {a:ep} {r r':NV} (h:∀ t∈a.src,r' t=r t):va a r'=va a r:=BY h
theorem L6 {l:LO} {a:LN} {b:Bool} {m:ep} (hs:∀ t∈m.src,∃ j∈a,br l j=some t):QW Z a l ⟨b,MV Z m⟩:=by
 intro f F w w' r r' x hC hn hz hr ⟨v,h1,h2,h3⟩
 have e:=I8 (a:=m) (r:=r) (r':=r') fun t ht=>by
  obtain ⟨j,hj,hd⟩:=hs t ht
  exact hr j hj t hd
 refine ⟨v,by rw [e]; exact h1,by rw [e]; exact h2.ec hC hn hz,h3⟩
theorem J9 {l:LO} {a:LN} {b:Bool} {m:ep} (hd:∃ j∈a,br l j=some m.d) (hs:∀ t∈m.src,∃ j∈a,br l j=some t):QW Z a l ⟨b,L5 Z m⟩:=by
 intro f F w w' r r' x hC hn hz hr ⟨v,h1,h2,h3⟩
 have e:=I8 (a:=m) (r:=r) (r':=r') fun t ht=>by
  obtain ⟨j,hj,hd⟩:=hs t ht
  exact hr j hj t hd
 obtain ⟨j,hj,hjd⟩:=hd
 refine ⟨v,by rw [e,hr j hj _ hjd]; exact h1,by rw [e]; exact h2.ec hC hn hz,h3⟩
theorem jo.more {l:LO} {m i:Nat} {U:LL} {S S':List gv} {r0:NV} {w0:World} {H:LN} (h:jo P l m S U r0 w0 H i) (hi:i < S.length):jo P l m (S++S') U r0 w0 H i:=by
 intro o s ho hs g r w hC hV hO hn iT hd hf
 rw [List.getElem?_append_left hi] at hs
 refine h o s ho hs g r w hC hV (fun j hj d gp s' db=>hO j hj d gp s' (by rw [List.getElem?_append_left (List.getElem?_eq_some_iff.1 db).1]; exact db)) (fun j hj=>?_) iT hd hf
 have:=hn j hj
 refine ⟨fun d gp=>?_,fun gp s' db cq=>?_⟩
 ·have h2:=this.1 d gp
  by_cases hl:j < S.length
  ·rw [List.getElem?_append_left hl] at h2; exact h2
  ·rw [List.getElem?_eq_none (by omega)]; trivial
 ·exact this.2 gp s' (by rw [List.getElem?_append_left (List.getElem?_eq_some_iff.1 db).1]; exact db) cq
end
inductive eD (A:LN):Option (Bool×Nat×Value)→List (Nat×Nat×Value)→Fr→Fr→Prop
 | nil {base:Fr}:eD A none [] base base
 | cons {j d:Nat} {u:Value} {l:LQ} {base fr:Fr} (h:eD A (some (dx j A,d,u)) l base fr):eD A none ((j,d,u) :: l) base fr
 | ec {d:Nat} {u:Value} {l:LQ} {base fr:Fr} (h:eD A none l base fr):eD A (some (true,d,u)) l base ((d,u) :: fr)
 | drop {d:Nat} {u:Value} {l:LQ} {base fr:Fr} (h:eD A none l base fr):eD A (some (false,d,u)) l base fr
theorem ur.AL {Γ Γ':QE} {v:Addr} {o:Bool} {α:Type} {E:ag α} {x:α} {e:aw} (h:ur Γ v o E x e Γ') {Z:Nat→Prop} {w:World}:∀ {cur F:LN},SA Z w Γ cur F→(v.block∈cur∨v.block∈F)∨Z v.block:=by
 induction h with
 | @ad o1 o2 α E v j x e Γ=>
  intro cur F hS
  obtain ⟨⟨j0,j1,u,g,h1,h2,h3,h4⟩,h5⟩:=hS
  cases o1 with
  | false=>exact .inr h3
  | true=>exact .inl (.inl h3)
 | @there o2 α E v x e a Γ Γ' h ih=>
  intro cur F hS
  cases a with
  | own T v x=>obtain ⟨f,F',rfl,h2,h3⟩:=hS; exact (ih h3).imp (fun h=>.inr (List.mem_append.2 h)) id
  | om e E v xs=>obtain ⟨f,F',rfl,h2,h3⟩:=hS; exact (ih h3).imp (fun h=>.inr (List.mem_append.2 h)) id
  | row b cs e=>obtain ⟨f,F',rfl,h2,h3⟩:=hS; exact (ih h3).imp (fun h=>h.imp id (List.mem_append_right _)) id
  | fl e E v xs j u=>obtain ⟨f,F',rfl,h2,h3⟩:=hS; exact (ih h3).imp (fun h=>.inr (List.mem_append.2 h)) id
  | _=>exact ih hS.2
inductive VQ (P:Program) (Γ:QE) (fr:Fr):Op→Value→Prop
 | mv {x:OO} {v:Value} (hx:bm fr x=some v):VQ P Γ fr (.move x) v
 | as {x:OO} {v:Value} (hx:bm fr x=some v):VQ P Γ fr (.assign x) v
 | add {x y:OO} {t t':TI} {a b:Int} (hx:bm fr x=some (.int .i64 a)) (hy:bm fr y=some (.int .i64 b)):VQ P Γ fr (.binOp .add t x y t') (.int .i64 (aj (a+b)))
 | sub {x y:OO} {t t':TI} {a b:Int} (hx:bm fr x=some (.int .i64 a)) (hy:bm fr y=some (.int .i64 b)):VQ P Γ fr (.binOp .sub t x y t') (.int .i64 (aj (a - b)))
 | lss {x y:OO} {t t':TI} {k:IntKind} {a b:Int} (hx:bm fr x=some (.int k a)) (hy:bm fr y=some (.int k b)):VQ P Γ fr (.binOp .lss t x y t') (.bool (decide (a < b)))
 | eql {x y:OO} {t t':TI} {k:IntKind} {a b:Int} (hx:bm fr x=some (.int k a)) (hy:bm fr y=some (.int k b)):VQ P Γ fr (.binOp .eql t x y t') (.bool (a == b))
 | neq {x y:OO} {t t':TI} {k:IntKind} {a b:Int} (hx:bm fr x=some (.int k a)) (hy:bm fr y=some (.int k b)):VQ P Γ fr (.binOp .neq t x y t') (.bool (a != b))
 | not {x:OO} {t:TI} {b:Bool} (hx:bm fr x=some (.bool b)):VQ P Γ fr (.unOp .not t x) (.bool (!b))
 | Oc {x:OO} {a:Addr} (hx:bm fr x=some (.pointer (some a))):VQ P Γ fr (.nilCheck x) (.pointer (some a))
 | ext {x:OO} {k:Nat} {vs:LV} {v:Value} (hx:bm fr x=some (.tuple vs.toArray)) (hv:vs[k]? = some v):VQ P Γ fr (.extract x k) v
 | Tp {s k off:Nat} {x:OO} {a a':Addr} [hf:r9 P s k off] (hx:bm fr x=some (.pointer (some a))) (ha:CE a off a'):VQ P Γ fr (.fieldAddr s x k) (.pointer (some a'))
 | len {x:OO} {v:Value} {t:TI} {n:Nat} [ht:uW P t] (hx:bm fr x=some v) (hr:uz Γ v n):VQ P Γ fr (.call ⟨.builtin .len,#[x],#[t]⟩) (.int .i64 (n:Int))
 | QT {t:TI} {ps:List (Nat×Operand)} {zc cs:LV} {pl:List (Nat×Nat)} [hb:AM P t zc pl] (hf:wC Γ fr pl ps zc cs):VQ P Γ fr (.build t ps.toArray) (.agg cs.toArray)
 | Oe {x y:OO} {k k':IntKind} {a b:Int} {ak:Array TypeId} (hx:bm fr x=some (.int k a)) (hy:bm fr y=some (.int k' b)):VQ P Γ fr (.call ⟨.builtin .max,#[x,y],ak⟩) (.int k (if b > a then b else a))
 | Of {x y:OO} {k k':IntKind} {a b:Int} {ak:Array TypeId} (hx:bm fr x=some (.int k a)) (hy:bm fr y=some (.int k' b)):VQ P Γ fr (.call ⟨.builtin .min,#[x,y],ak⟩) (.int k (if b < a then b else a))
 | Tz {x:OO} {k k2:IntKind} {n:Int} {s t:TI} [ht:I5 P s t k2] (hx:bm fr x=some (.int k n)):VQ P Γ fr (.convert s t x) (.int k2 (k2.wrap n))
 | mul {x y:OO} {t t':TI} {a b:Int} (hx:bm fr x=some (.int .i64 a)) (hy:bm fr y=some (.int .i64 b)):VQ P Γ fr (.binOp .mul t x y t') (.int .i64 (aj (a * b)))
 | gtr {x y:OO} {t t':TI} {k:IntKind} {a b:Int} (hx:bm fr x=some (.int k a)) (hy:bm fr y=some (.int k b)):VQ P Γ fr (.binOp .gtr t x y t') (.bool (decide (a > b)))
 | geq {x y:OO} {t t':TI} {k:IntKind} {a b:Int} (hx:bm fr x=some (.int k a)) (hy:bm fr y=some (.int k b)):VQ P Γ fr (.binOp .geq t x y t') (.bool (decide (a ≥ b)))
 | leq {x y:OO} {t t':TI} {k:IntKind} {a b:Int} (hx:bm fr x=some (.int k a)) (hy:bm fr y=some (.int k b)):VQ P Γ fr (.binOp .leq t x y t') (.bool (decide (a≤b)))
 | Tv {s k off:Nat} {x:OO} {cs:LV} {v:Value} [hf:Tk P s k off] (hx:bm fr x=some (.agg cs.toArray)) (hc:cs[off]? = some v):VQ P Γ fr (.field s x k) v
 | Od {x:OO} {v:Value} {t:TI} {n k:Nat} [ht:Gi P t k] (hx:bm fr x=some v) (hr:uz Γ v n):VQ P Γ fr (.call ⟨.builtin .len,#[x],#[t]⟩) (.int .i64 (n:Int))
theorem VQ.sound {P:Program} {Γ:QE} {fr:Fr} {op:Op} {u:Value} (h:VQ P Γ fr op u) {Z:Nat→Prop} {w:World} {cur F:LN} (hS:SA Z w Γ cur F) {r:NV} (ha:cu r fr) (d:Option Nat) (ty:TI) (pos:String) (ab:Array Edge) (g:Option (Nat×Bool)) :
  Rd P w r ⟨d,op,ty,pos,ab,g⟩ u:=by
 cases h with
 | mv hx=>exact Mv _ (aR ha hx)
 | as hx=>exact Av _ (aR ha hx)
 | add hx hy=>exact Ba (aR ha hx) (aR ha hy)
 | sub hx hy=>exact Go.Li.Bs (aR ha hx) (aR ha hy)
 | lss hx hy=>exact Bl (aR ha hx) (aR ha hy)
 | eql hx hy=>exact Be (aR ha hx) (aR ha hy)
 | neq hx hy=>exact Bn (aR ha hx) (aR ha hy)
 | not hx=>exact Nt (aR ha hx)
 | Oc hx=>exact Nk (aR ha hx)
 | ext hx hv=>exact Ex _ (aR ha hx) (by simpa using hv)
 | @Tp s k off x a a' hf hx hq=>rw [hq.eq]; exact Fp hf.h (aR ha hx)
 | Oe hx hy=>exact fun _ _=>LR (aR ha hx) (aR ha hy)
 | Of hx hy=>exact fun _ _=>LS (aR ha hx) (aR ha hy)
 | @Tz x k k2 n s t ht hx=>exact fun _ _=>I7 ht.h.1 ht.h.2 (aR ha hx)
 | mul hx hy=>exact Bm (aR ha hx) (aR ha hy)
 | gtr hx hy=>exact Bg (aR ha hx) (aR ha hy)
 | geq hx hy=>exact Bh (aR ha hx) (aR ha hy)
 | leq hx hy=>exact Go.Li.Bk (aR ha hx) (aR ha hy)
 | @Tv s k off x cs v hf hx hc=>
  obtain ⟨fs,f,ds,h1,h2,h3,h4,h5⟩:=hf.h
  exact fun _ _=>CH h1 h2 h3 h4 h5 (aR ha hx) (by simpa using hc)
 | @len x v t n ht hx hr=>
  obtain ⟨b,c,rfl⟩:=hr.sound hS
  obtain ⟨e,i,h1,_,_⟩:=ht.h
  exact fun _ _=>vJ h1 (aR ha hx)
 | @Od x v t n k ht hx hr=>
  obtain ⟨b,c,rfl⟩:=hr.sound hS
  obtain ⟨e,i,h1,_,_⟩:=ht.h
  exact fun _ _=>vJ h1 (aR ha hx)
 | @QT t ps zc cs pl hb hf=>
  obtain ⟨fs,i,z,h1,h2,h3,h4,h5⟩:=hb.h
  refine Bu ?_
  have:=hf.fill ha hS
  unfold Program.built
  rw [h3,h1]
  simp only [h4,h2]
  rw [show z.cells=zc.toArray by rw [← h5]]
  exact this
theorem eD.sound {A:LN} {q:Option (Bool×Nat×Value)} {sl:LQ} {base fr:Fr} {r:NV} (h:eD A q sl base fr) (hb:cu r base) :
  (∀ p∈sl,dx p.1 A=true→r p.2.1=p.2.2)→(∀ b d u,q=some (b,d,u)→b=true→r d=u)→cu r fr:=by
 induction h with
 | nil=>intro _ _; exact hb
 | @cons j d u l base fr _ ih=>
  intro h1 _
  refine ih hb (fun p hp=>h1 p (by simp [hp])) ?_
  rintro b d' u' he hbt
  cases he
  exact h1 (j,d,u) (by simp) hbt
 | @ec d u l base fr _ ih=>
  intro h1 h2
  intro s v hl
  unfold look at hl
  cases uC:Nat.beq s d with
  | true=>rw [uC] at hl; cases hl; rw [Nat.eq_of_beq_eq_true uC]; exact h2 true d _ rfl rfl
  | false=>rw [uC] at hl; exact ih hb h1 (fun _ _ _ h=>nomatch h) s v hl
 | drop _ ih=>intro h1 _; exact ih hb h1 (fun _ _ _ h=>nomatch h)
def AQ:List (Nat×Nat×Value)→Fr→Fr
 | [],f=>f
 | (_,d,u) :: l,f=>(d,u) :: AQ l f
inductive Ka (P:Program) (f:FuncId) (xs:List Operand) (fr:Fr) (Γ:QE) {β V:Type} (mo:Option β) (rt:β→V→List Value) (ps:β→V→List aw):Prop
 | mk {vs:LV} {Δ:QE} (hx:tF fr xs=some vs) (hc:Ct P f true mo vs Δ rt ps) (hd:FO Δ) (hr:ER true Γ Δ):Ka P f xs fr Γ mo rt ps
inductive Kc {β V:Type} (P:Program) (f:FuncId) (xs:List Operand) (fr:Fr) (Γ:QE) (mo:Option β) (rt:β→V→List Value) (ps:β→V→List aw):Prop
 | mk {vs:LV} {Δ:QE} (hx:tF fr xs=some vs) (hc:Ct P f false mo vs Δ rt ps) (hd:FO Δ) (hr:ER false Γ Δ):Kc P f xs fr Γ mo rt ps
inductive AR {β V:Type} (P:Program) (f:FuncId) (xs:List Operand) (fr:Fr) (hd Γ:QE) (mo:Option β) (rt:β→V→List Value) (ps:β→V→List aw):Prop
 | mk {vs:LV} {Δ Γ':QE} (hx:tF fr xs=some vs) (hc:Ct P f false mo vs Δ rt ps) (ho:EO hd Δ Γ') (hr:ER false (Γ'++Γ) Δ):AR P f xs fr hd Γ mo rt ps
inductive Dr (P:Program) (f:FuncId) (xs:List Operand) (fr:Fr) (hd:QE) (Γ:QE) {β V:Type} (mo:Option β) (rt:β→V→List Value) (ps:β→V→List aw):Prop
 | mk {vs:LV} {Δ Γ':QE} (hx:tF fr xs=some vs) (hc:Ct P f true mo vs Δ rt ps) (ho:EO hd Δ Γ') (hr:ER true Γ Δ):Dr P f xs fr hd Γ mo rt ps
inductive lj:List ep→Prop
 | nil:lj []
 | cons {a:ep} {l:MM} (h:Dh a.V) (k:lj l):lj (a :: l)
theorem lj.ne {ms:MM} (h:lj ms):Nonempty (mq ms):=by
 induction h with
 | nil=>exact ⟨()⟩
 | cons h _ ih=>obtain ⟨a⟩:=h.ne; obtain ⟨b⟩:=ih; exact ⟨(a,b)⟩
inductive Cq:List ep→Nat→Bool→Prop
 | here {a:ep} {l:MM}:Cq (a :: l) a.d true
 | there {a:ep} {l:MM} {t:Nat} {b:Bool} (h:Cq l t b):Cq (a :: l) t b
 | nil {t:Nat}:Cq [] t false
inductive TL (fr:Fr) (t off:Nat):Prop
 | mk {cs:LV} {v:Value} (h:look fr t=some (.agg cs.toArray)) (hc:cs[off]? = some v):TL fr t off
inductive TM (fr:Fr) (t k:Nat):Prop
 | mk {cs:LV} {v:Value} (h:look fr t=some (.tuple cs.toArray)) (hc:cs[k]? = some v):TM fr t k
inductive Ow (fr:Fr) (Γ:QE) (t:Nat):Prop
 | mk {v:Value} (h:look fr t=some v) (hc:One Γ v):Ow fr Γ t
inductive TN (fr:Fr) (Γ:QE) (t n:Nat):Prop
 | mk {v:Value} (h:look fr t=some v) (hc:uz Γ v n):TN fr Γ t n
inductive JA (R S:Type):Type 1
 | a (as:LL) (ops:LO) (i:Nat) (sl:LQ) (ms:MM) (Γ:QE) (m:Option (Out S R))
 | o (A:LN) (op:Op) (d:Nat) (ty:TI) (as:LL) (ops:LO) (i:Nat) (sl:LQ) (ms:MM) (Γ:QE) (m:Option (Out S R))
 | ow (b:Bool) (A:LN) (op:Op) (d:Nat) (ty:TI) (as:LL) (ops:LO) (i:Nat) (sl:LQ) (ms:MM) (Γ:QE) (m:Option (Out S R))
 | ix (b:Bool) (v:Value) (fr:Fr) (x y:OO) (t:TI) (A:LN) (d:Nat) (ty:TI) (as:LL) (ops:LO) (i:Nat) (sl:LQ) (ms:MM) (Γ:QE) (m:Option (Out S R))
 | lb (b:Bool) (v:Value) (j:Int) (fr:Fr) (t:TI) (x:OO) (A:LN) (d:Nat) (ty:TI) (as:LL) (ops:LO) (i:Nat) (sl:LQ) (ms:MM) (Γ:QE) (m:Option (Out S R))
 | ap (us:LN) (t1 t2:Nat) (t:TI) (A:LN) (d:Nat) (ty:TI) (as:LL) (ops:LO) (i:Nat) (sl:LQ) (ms:MM) (Γ:QE) (m:Option (Out S R))
 | la (fr:Fr) (ad:Addr) (lk:Option Nat) (t:TI) (x:OO) (A:LN) (d:Nat) (ty:TI) (as:LL) (ops:LO) (i:Nat) (sl:LQ) (ms:MM) (Γ:QE) (m:Option (Out S R))
 | ld {α:Type} (E:ag α) (z:α) (fr:Fr) (ad:Addr) (t:TI) (x:OO) (A:LN) (d:Nat) (ty:TI) (as:LL) (ops:LO) (i:Nat) (sl:LQ) (ms:MM) (Γ:QE) (m:Option (Out S R))
 | oc (us:LN) (f:FuncId) (xs:List Operand) (ak:Array TypeId) (A:LN) (d:Nat) (ty:TI) (as:LL) (ops:LO) (i:Nat) (sl:LQ) (ms:MM) (Γ:QE) (m:Option (Out S R))
 | os (A:LN) (op:Op) (ty:TI) (as:LL) (ops:LO) (i:Nat) (sl:LQ) (ms:MM) (Γ:QE) (m:Option (Out S R))
 | cr {V:Type} (u:V→Value) (ps:V→List aw) (d:Nat) (as:LL) (ops:LO) (i:Nat) (sl:LQ) (ms:MM) (Γ:QE) (m:Option (Out S R))
 | p (Δ:QE) (as:LL) (ops:LO) (i:Nat) (sl:LQ) (ms:MM) (Γ:QE) (m:Option (Out S R))
inductive I9:List aw→Value→Bool→Prop
 | here {α:Type} {T:ag α} {v:Value} {x:α} {Γ:QE}:I9 (.own T v x :: Γ) v true
 | there {e:aw} {v:Value} {b:Bool} {Γ:QE} (h:I9 Γ v b):I9 (e :: Γ) v b
 | nil {v:Value}:I9 [] v false
inductive ly:List ep→Nat→ep→List ep→Prop
 | here {a:ep} {l:MM}:ly (a :: l) a.d a l
 | there {a b:ep} {l l':MM} {t:Nat} (h:ly l t a l'):ly (b :: l) t a (b :: l')
inductive zD:List ep→Nat→ep→List ep→Prop
 | here {a:ep} {l:MM}:zD (a :: l) a.j a l
 | there {a b:ep} {l l':MM} {t:Nat} (h:zD l t a l'):zD (b :: l) t a (b :: l')
def Kd (j i:Nat) (sl:LQ):List (Nat×Nat×Value):=sl.map fun p=>bif Nat.beq p.1 j then (i,p.2) else p
def Er (U:LL) (_sl:LQ) (ms:MM):Bool:=U.all fun us=>us.all fun j=>ms.all fun a=>!Nat.beq a.j j
inductive AD {R S:Type} (tq:Bool) (P:Program) (cx:Cx R) (K:dh R S) (l tail:LO) (base:Fr) (U:LL):List aw→JA R S→Prop
 | nil {hd:QE} {i:Nat} {sl:LQ} {ms:MM} {Γ:QE} {m:Option (Out S R)} (vb:CJ ms=true) (he:Er U sl ms=true) (h:∀ x:mq ms,D P cx (.p (AQ sl (mF ms x)) (Ep ms x) base Γ fun fr Γ=>.tg tq (CF tail) l tail K Γ fr m)):AD tq P cx K l tail base U hd (.a [] [] i sl ms Γ m)
 | cons {hd:QE} {A:LN} {as:LL} {op:Op} {d:Nat} {ty:TI} {pos:String} {ab:Array Edge} {ops:LO} {i:Nat} {sl:LQ} {ms:MM} {Γ:QE} {m:Option (Out S R)} (h:AD tq P cx K l tail base U hd (.o A op d ty as ops i sl ms Γ m)) :
   AD tq P cx K l tail base U hd (.a (A :: as) (⟨some d,op,ty,pos,ab,none⟩ :: ops) i sl ms Γ m)
 | Ke {hd:QE} {A:LN} {as:LL} {op:Op} {ty:TI} {pos:String} {ab:Array Edge} {ops:LO} {i:Nat} {sl:LQ} {ms:MM} {Γ:QE} {m:Option (Out S R)} (h:AD tq P cx K l tail base U hd (.os A op ty as ops i sl ms Γ m)) :
   AD tq P cx K l tail base U hd (.a (A :: as) (⟨none,op,ty,pos,ab,none⟩ :: ops) i sl ms Γ m)
 | Tx {hd:QE} {t e:TI} {t1 j1 n:Nat} {y:OO} {u:Value} {us cs ds:LV} {fg:MM} {fr:Fr} {A:LN} {as:LL} {ty:TI} {ops:LO} {i:Nat} {sl:LQ} {ms:MM} {Γ:QE} {m:Option (Out S R)} [ht:vI P t n]
   (h1:ly ms t1 ⟨j1,t1,[],Nat,fun _ b=>.pointer (some ⟨b,0,none⟩),fun _ b=>[.row b cs e]⟩ fg) (hv:eD A none sl base fr) (hy:bm fr y=some u) (hc:sI Γ u us) (hn:us.length=n) (hs:bb us 0 cs ds) (ho:bd Γ us) (h4:dx j1 A=true) (h6:U.getD i []=[j1])
   (h:AD tq P cx K l tail base U hd (.a as ops (i+1) sl (⟨i,t1,[],Nat,fun _ b=>.pointer (some ⟨b,0,none⟩),fun _ b=>[.row b ds e]⟩ :: fg) Γ m)):AD tq P cx K l tail base U hd (.os A (.store t (.tmp t1) y) ty as ops i sl ms Γ m)
 | Gm {hd:QE} {α:Type} {A:LN} {as:LL} {d:Nat} {t e ty:TI} {E:ag α} {z0:α} {bt:Nat} {ops:LO} {i:Nat} {sl:LQ} {ms:MM} {Γ:QE} {m:Option (Out S R)} [hz:qp P t α e E z0 bt]
   (h:AD tq P cx K l tail base U hd (.a as ops (i+1) sl (⟨i,d,[],Value,fun _ v=>v,fun _ v=>[.own (aK e E) v []]⟩ :: ms) Γ m)):AD tq P cx K l tail base U hd (.o A (.buildSlice t 0 #[]) d ty as ops i sl ms Γ m)
 | sw4 {hd:QE} {t st e:Nat} {α:Type} {E:ag α} {z0:α} {bt:Nat} {b:Bool} {A:LN} {as:LL} {d:Nat} {ty:TI} {ops:LO} {i:Nat} {sl:LQ} {ms:MM} {Γ:QE} {m:Option (Out S R)} [hz:qp P st α e E z0 bt] (hw:Cq ms t b) (h:AD tq P cx K l tail base U hd (.ow b A (.buildSlice st 1 #[(0,.tmp t)]) d ty as ops i sl ms Γ m)):AD tq P cx K l tail base U hd (.o A (.buildSlice st 1 #[(0,.tmp t)]) d ty as ops i sl ms Γ m)
 | ltn {hd:QE} {t e:TI} {n:Nat} {ps:List (Nat×Operand)} {us:LV} {fr:Fr} {A:LN} {as:LL} {d:Nat} {ty:TI} {ops:LO} {i:Nat} {sl:LQ} {ms:MM} {Γ:QE} {m:Option (Out S R)} [hz:Gh P t e] (hv:eD A none sl base fr) (hl:u5 Γ fr 0 ps us) (hn:us.length=n) (hb:(Nat.ble 1 n && Nat.ble n 16777216)=true)
   (h:AD tq P cx K l tail base U hd (.a as ops (i+1) sl (⟨i,d,[],Nat,fun _ b=>.slice (some ⟨b,0,none⟩) n n,fun _ b=>[.row b us e]⟩ :: ms) Γ m)):AD tq P cx K l tail base U hd (.o A (.buildSlice t n ps.toArray) d ty as ops i sl ms Γ m)
 | ltu {hd:QE} {t e:TI} {n:Nat} {ps:List (Nat×Operand)} {us:LV} {fr:Fr} {A:LN} {as:LL} {d:Nat} {ty:TI} {ops:LO} {i:Nat} {sl:LQ} {ms:MM} {Γ:QE} {m:Option (Out S R)} [hz:LC P t e] (hv:eD A none sl base fr) (hl:u5 Γ fr 0 ps us) (hn:us.length=n) (hb:(Nat.ble 1 n && Nat.ble n 16777216)=true)
   (h:AD tq P cx K l tail base U hd (.a as ops (i+1) sl (⟨i,d,[],Nat,fun _ b=>.slice (some ⟨b,0,none⟩) n n,fun _ b=>[.row b us e]⟩ :: ms) Γ m)):AD tq P cx K l tail base U hd (.o A (.buildSlice t n ps.toArray) d ty as ops i sl ms Γ m)
 | sw1 {hd:QE} {t:Nat} {b:Bool} {A:LN} {as:LL} {d:Nat} {ty:TI} {ops:LO} {i:Nat} {sl:LQ} {ms:MM} {Γ:QE} {m:Option (Out S R)} (hw:Cq ms t b) (h:AD tq P cx K l tail base U hd (.ow b A (.move (.tmp t)) d ty as ops i sl ms Γ m)):AD tq P cx K l tail base U hd (.o A (.move (.tmp t)) d ty as ops i sl ms Γ m)
 | sw2 {hd:QE} {t k:Nat} {b:Bool} {A:LN} {as:LL} {d:Nat} {ty:TI} {ops:LO} {i:Nat} {sl:LQ} {ms:MM} {Γ:QE} {m:Option (Out S R)} (hw:Cq ms t b) (h:AD tq P cx K l tail base U hd (.ow b A (.extract (.tmp t) k) d ty as ops i sl ms Γ m)):AD tq P cx K l tail base U hd (.o A (.extract (.tmp t) k) d ty as ops i sl ms Γ m)
 | sw3 {hd:QE} {s t k:Nat} {b:Bool} {A:LN} {as:LL} {d:Nat} {ty:TI} {ops:LO} {i:Nat} {sl:LQ} {ms:MM} {Γ:QE} {m:Option (Out S R)} (hw:Cq ms t b) (h:AD tq P cx K l tail base U hd (.ow b A (.field s (.tmp t) k) d ty as ops i sl ms Γ m)):AD tq P cx K l tail base U hd (.o A (.field s (.tmp t) k) d ty as ops i sl ms Γ m)
 | sw6 {hd:QE} {t:Nat} {it:TI} {b:Bool} {A:LN} {as:LL} {d:Nat} {ty:TI} {ops:LO} {i:Nat} {sl:LQ} {ms:MM} {Γ:QE} {m:Option (Out S R)} (hw:Cq ms t b) (h:AD tq P cx K l tail base U hd (.ow b A (.makeInterface it (.tmp t)) d ty as ops i sl ms Γ m)):AD tq P cx K l tail base U hd (.o A (.makeInterface it (.tmp t)) d ty as ops i sl ms Γ m)
 | wlt {hd:QE} {t e:TI} {α:Type} {E:ag α} {z0:α} {bt:Nat} {u:Value} {x:OO} {fr:Fr} {A:LN} {as:LL} {d:Nat} {ty:TI} {ops:LO} {i:Nat} {sl:LQ} {ms:MM} {Γ:QE} {m:Option (Out S R)} [hz:qp P t α e E z0 bt] (hv:eD A none sl base fr) (hx:bm fr x=some u) (h1:One Γ u)
   (h:AD tq P cx K l tail base U hd (.a as ops (i+1) sl (⟨i,d,[],Nat,fun _ b=>.slice (some ⟨b,0,none⟩) 1 1,fun _ b=>[.row b [u] e]⟩ :: ms) Γ m)):AD tq P cx K l tail base U hd (.ow false A (.buildSlice t 1 #[(0,x)]) d ty as ops i sl ms Γ m)
 | sw5 {hd:QE} {t st:Nat} {b:Bool} {A:LN} {as:LL} {d:Nat} {ty:TI} {ops:LO} {i:Nat} {sl:LQ} {ms:MM} {Γ:QE} {m:Option (Out S R)} (hw:Cq ms t b) (h:AD tq P cx K l tail base U hd (.ow b A (.call ⟨.builtin .len,#[.tmp t],#[st]⟩) d ty as ops i sl ms Γ m)):AD tq P cx K l tail base U hd (.o A (.call ⟨.builtin .len,#[.tmp t],#[st]⟩) d ty as ops i sl ms Γ m)
 | mln {hd:QE} {t n:Nat} {st:TI} {A:LN} {as:LL} {d:Nat} {ty:TI} {ops:LO} {i:Nat} {sl:LQ} {ms:MM} {Γ:QE} {m:Option (Out S R)} [ht:uW P st] (hi:lj ms) (vb:me A ms=true) (hx:∀ x:mq ms,TN (kq A ms x) (sr A ms x) t n) (h:AD tq P cx K l tail base U hd (.a as ops (i+1) ((i,d,.int .i64 (n:Int)) :: sl) ms Γ m)):AD tq P cx K l tail base U hd (.ow true A (.call ⟨.builtin .len,#[.tmp t],#[st]⟩) d ty as ops i sl ms Γ m)
 | TO {hd:QE} {t:TI} {cs:LV} {A:LN} {as:LL} {d:Nat} {ty:TI} {ops:LO} {i:Nat} {sl:LQ} {ms:MM} {Γ:QE} {m:Option (Out S R)} [hz:yE P t cs] (h:AD tq P cx K l tail base U hd (.a as ops (i+1) sl (⟨i,d,[],Nat,fun _ b=>.pointer (some ⟨b,0,none⟩),fun _ b=>[.row b cs t]⟩ :: ms) Γ m)):AD tq P cx K l tail base U hd (.o A (.alloc t) d ty as ops i sl ms Γ m)
 | wl0 {hd:QE} {st:TI} {c:Value} {A:LN} {as:LL} {d:Nat} {ty:TI} {ops:LO} {i:Nat} {sl:LQ} {ms:MM} {Γ:QE} {m:Option (Out S R)} (h:AD tq P cx K l tail base U hd (.ow false A (.buildSlice st 1 #[(0,.const c)]) d ty as ops i sl ms Γ m)):AD tq P cx K l tail base U hd (.o A (.buildSlice st 1 #[(0,.const c)]) d ty as ops i sl ms Γ m)
 | Tw {hd:QE} {us:LN} {t1 t2:Nat} {t:TI} {A:LN} {as:LL} {d:Nat} {ty:TI} {ops:LO} {i:Nat} {sl:LQ} {ms:MM} {Γ:QE} {m:Option (Out S R)} (hU:U.getD i []=us) (h:AD tq P cx K l tail base U hd (.ap us t1 t2 t A d ty as ops i sl ms Γ m)):AD tq P cx K l tail base U hd (.o A (.call ⟨.builtin .append,#[.tmp t1,.tmp t2],#[t,t]⟩) d ty as ops i sl ms Γ m)
 | apH {hd gp:QE} {α:Type} {t e e' et:TI} {E E':ag α} {z0:α} {bt t1 t2 j2:Nat} {v u yv:Value} {j:Int} {y:α} {z:List α} {xs:List (List α)} {o1 o2:Bool} {Γx:QE} {sK:MM} {fr:Fr} {f:Unit→Option (Out S R)} {A:LN} {as:LL} {d:Nat} {ty:TI} {ops:LO} {i:Nat} {sl:LQ} {ms:MM} {Γ:QE} [hT:qp P t α e E z0 bt]
   (hV:((U.set i []).all fun us=>!(us.contains l.length))=true) (hv:eD A none sl base fr) (hs:look fr t1=some u) (h2:ly ms t2 ⟨j2,t2,[],Nat,fun _ b=>.slice (some ⟨b,0,none⟩) 1 1,fun _ b=>[.row b [yv] et]⟩ sK) (h5:dx j2 A=true) (hl:Loc hd u (.row v j)) (hz:ll hd u o1 o2 E' z px Γx) (h1:dj hd (.own (aK e' (aK e E)) v xs) gp) (hr:RT (aK e E) (aD E')) (hy:Cn [] E yv y [])
   (h:AD tq P cx K l tail base U gp (.a as ops (i+1) sl (⟨i,d,[],Value,fun _ v'=>v',fun _ v'=>[.own (aK e E) v' (z++[y]),.own (rL e' (aK e E) j.toNat) v xs]⟩ :: ms) Γ (f ()))):AD tq P cx K l tail base U hd (.ap [l.length] t1 t2 t A d ty as ops i sl ms Γ (fits bt (z.length+1)>>=f))
 | apL {hd gp:QE} {t e e' e3 et:TI} {kk:IntKind} {E':ag (List Int)} {z0:List Int} {bt t1 t2 t3 j2 j3 n:Nat} {v u:Value} {us:LV} {j:Int} {ys:List Int} {z:List (List Int)} {xs:List (List (List Int))} {o1 o2:Bool} {Γx:QE} {sK AS:MM} {fr:Fr} {f:Unit→Option (Out S R)} {A:LN} {as:LL} {d:Nat} {ty:TI} {ops:LO} {i:Nat} {sl:LQ} {ms:MM} {Γ:QE} [hT:qp P t (List Int) e (aK e3 (aA kk)) z0 bt]
   (hV:((U.set i []).all fun us=>!(us.contains l.length))=true) (hv:eD A none sl base fr) (hs:look fr t1=some u) (h2:ly ms t2 ⟨j2,t2,[t3],Nat,fun _ b=>.slice (some ⟨b,0,none⟩) 1 1,fun u b=>[.row b [u] et]⟩ sK) (h3:ly sK t3 ⟨j3,t3,[],Nat,fun _ b=>.slice (some ⟨b,0,none⟩) n n,fun _ b=>[.row b us e3]⟩ AS) (h5:dx j2 A=true) (h6:dx j3 A=true) (hl:Loc hd u (.row v j)) (hz:ll hd u o1 o2 E' z px Γx) (h1:dj hd (.own (aK e' (aK e (aK e3 (aA kk)))) v xs) gp) (hr:RT (aK e (aK e3 (aA kk))) (aD E')) (hi:yF kk us ys) (hn:us.length=n) (hb:Nat.ble n 16777216=true)
   (h:AD tq P cx K l tail base U gp (.a as ops (i+1) sl (⟨i,d,[],Value,fun _ v'=>v',fun _ v'=>[.own (aK e (aK e3 (aA kk))) v' (z++[ys]),.own (rL e' (aK e (aK e3 (aA kk))) j.toNat) v xs]⟩ :: AS) Γ (f ()))):AD tq P cx K l tail base U hd (.ap [l.length,j3] t1 t2 t A d ty as ops i sl ms Γ (fits bt (z.length+1)>>=f))
 | apM {hd:QE} {t e e3 et:TI} {kk:IntKind} {z0:List Int} {bt t1 t2 t3 j1 j2 j3 n:Nat} {us:LV} {ys:List Int} {z:List (List Int)} {a1:ep} {fg sK AS:MM} {f:Unit→Option (Out S R)} {A:LN} {as:LL} {d:Nat} {ty:TI} {ops:LO} {i:Nat} {sl:LQ} {ms:MM} {Γ:QE} [hT:qp P t (List Int) e (aK e3 (aA kk)) z0 bt]
   (h1:ly ms t1 a1 fg) (h2:ly fg t2 ⟨j2,t2,[t3],Nat,fun _ b=>.slice (some ⟨b,0,none⟩) 1 1,fun u b=>[.row b [u] et]⟩ sK) (h3:ly sK t3 ⟨j3,t3,[],Nat,fun _ b=>.slice (some ⟨b,0,none⟩) n n,fun _ b=>[.row b us e3]⟩ AS) (hp:∀ u v,a1.ps u v=[.own (aK e (aK e3 (aA kk))) (a1.rt u v) z]) (hj:a1.j=j1) (kp:Nat.beq j1 j3=false) (h4:dx j1 A=true) (h5:dx j2 A=true) (h6:dx j3 A=true) (hi:yF kk us ys) (hn:us.length=n) (hb:Nat.ble n 16777216=true)
   (h:AD tq P cx K l tail base U hd (.a as ops (i+1) sl (⟨i,d,[],Value,fun _ v'=>v',fun _ v'=>[.own (aK e (aK e3 (aA kk))) v' (z++[ys])]⟩ :: AS) Γ (f ()))):AD tq P cx K l tail base U hd (.ap [j1,j3] t1 t2 t A d ty as ops i sl ms Γ (fits bt (z.length+1)>>=f))
 | ap1 {hd:QE} {us:LN} {t e et:TI} {E:ag Int} {z0:Int} {bt t1 t2 j2 d2:Nat} {k:IntKind} {y:Int} {xs:List Int} {a1:ep} {fg sK:MM} {f:Unit→Option (Out S R)} {A:LN} {as:LL} {d:Nat} {ty:TI} {ops:LO} {i:Nat} {sl:LQ} {ms:MM} {Γ:QE} [hz:qp P t Int e E z0 bt] (h1:ly ms t1 a1 fg) (h2:ly fg t2 ⟨j2,d2,[],Nat,fun _ b=>.slice (some ⟨b,0,none⟩) 1 1,fun _ b=>[.row b [.int k y] et]⟩ sK) (h3:∀ u v,a1.ps u v=[.own (aK e (aA k)) (a1.rt u v) xs]) (hu:us=[a1.j]) (h4:dx a1.j A=true) (h5:dx j2 A=true)
   (h:AD tq P cx K l tail base U hd (.a as ops (i+1) sl (⟨i,d,[],Value,fun _ v=>v,fun _ v=>[.own (aK e (aA k)) v (xs++[y])]⟩ :: fg) Γ (f ()))):AD tq P cx K l tail base U hd (.ap us t1 t2 t A d ty as ops i sl ms Γ (fits bt (xs.length+1)>>=f))
 | wv {hd:QE} {op:Op} {u:Value} {fr:Fr} {A:LN} {as:LL} {d:Nat} {ty:TI} {ops:LO} {i:Nat} {sl:LQ} {ms:MM} {Γ:QE} {m:Option (Out S R)} (hv:eD A none sl base fr) (hq:VQ P Γ fr op u) (h:AD tq P cx K l tail base U hd (.a as ops (i+1) ((i,d,u) :: sl) ms Γ m)):AD tq P cx K l tail base U hd (.ow false A op d ty as ops i sl ms Γ m)
 | mmv {hd:QE} {t:Nat} {A:LN} {as:LL} {d:Nat} {ty:TI} {ops:LO} {i:Nat} {sl:LQ} {ms:MM} {Γ:QE} {m:Option (Out S R)} (hi:lj ms) (vb:me A ms=true) (hj:∃ j,qi t ms=some j∧dx j A=true) (h:AD tq P cx K l tail base U hd (.a as ops (i+1) sl (⟨i,d,[t],Unit,fun u _=>u,fun _ _=>[]⟩ :: ms) Γ m)):AD tq P cx K l tail base U hd (.ow true A (.move (.tmp t)) d ty as ops i sl ms Γ m)
 | mbl {hd:QE} {t:TI} {ps:List (Nat×Operand)} {zc:LV} {pl:List (Nat×Nat)} {fr:Fr} {A:LN} {as:LL} {d:Nat} {ty:TI} {ops:LO} {i:Nat} {sl:LQ} {ms:MM} {Γ:QE} {m:Option (Out S R)} [hb:AM P t zc pl] (hi:lj ms) (vb:me A ms=true) (kp:(zC ms ps).isEmpty=false) (hj:Yl A ms (zC ms ps)=true) (hv:eD A none sl base fr)
   (hx:∀ x:mq ms,wC (sr A ms x++Γ) (kq A ms x++fr) pl ps zc (TK pl fr (zC ms ps) ps zc (zB (xS (mF ms x)) (zC ms ps))))
   (h:AD tq P cx K l tail base U hd (.a as ops (i+1) sl (⟨i,d,zC ms ps,Unit,fun u _=>.agg (TK pl fr (zC ms ps) ps zc u).toArray,fun _ _=>[]⟩ :: ms) Γ m)):AD tq P cx K l tail base U hd (.o A (.build t ps.toArray) d ty as ops i sl ms Γ m)
 | mex {hd:QE} {t k:Nat} {A:LN} {as:LL} {d:Nat} {ty:TI} {ops:LO} {i:Nat} {sl:LQ} {ms:MM} {Γ:QE} {m:Option (Out S R)} (hi:lj ms) (vb:me A ms=true) (hj:∃ j,qi t ms=some j∧dx j A=true) (hx:∀ x:mq ms,TM (kq A ms x) t k) (h:AD tq P cx K l tail base U hd (.a as ops (i+1) sl (⟨i,d,[t],Unit,fun u _=>Kf u k,fun _ _=>[]⟩ :: ms) Γ m)):AD tq P cx K l tail base U hd (.ow true A (.extract (.tmp t) k) d ty as ops i sl ms Γ m)
 | mfd {hd:QE} {s t k off:Nat} {A:LN} {as:LL} {d:Nat} {ty:TI} {ops:LO} {i:Nat} {sl:LQ} {ms:MM} {Γ:QE} {m:Option (Out S R)} [hf:Tk P s k off] (hi:lj ms) (vb:me A ms=true) (hj:∃ j,qi t ms=some j∧dx j A=true) (hx:∀ x:mq ms,TL (kq A ms x) t off) (h:AD tq P cx K l tail base U hd (.a as ops (i+1) sl (⟨i,d,[t],Unit,fun u _=>Kg u off,fun _ _=>[]⟩ :: ms) Γ m)):AD tq P cx K l tail base U hd (.ow true A (.field s (.tmp t) k) d ty as ops i sl ms Γ m)
 | mif {hd:QE} {t:Nat} {it:TI} {A:LN} {as:LL} {d:Nat} {ty:TI} {ops:LO} {i:Nat} {sl:LQ} {ms:MM} {Γ:QE} {m:Option (Out S R)} [hf:Yd P it] (hi:lj ms) (vb:me A ms=true) (hj:∃ j,qi t ms=some j∧dx j A=true) (h:AD tq P cx K l tail base U hd (.a as ops (i+1) sl (⟨i,d,[t],Unit,fun u _=>.iface it u,fun _ _=>[]⟩ :: ms) Γ m)):AD tq P cx K l tail base U hd (.ow true A (.makeInterface it (.tmp t)) d ty as ops i sl ms Γ m)
 | mlt {hd:QE} {t:Nat} {Ym e:TI} {α:Type} {E:ag α} {z0:α} {bt:Nat} {A:LN} {as:LL} {d:Nat} {ty:TI} {ops:LO} {i:Nat} {sl:LQ} {ms:MM} {Γ:QE} {m:Option (Out S R)} [hz:qp P Ym α e E z0 bt] (hi:lj ms) (vb:me A ms=true) (hj:∃ j,qi t ms=some j∧dx j A=true) (hx:∀ x:mq ms,Ow (kq A ms x) (sr A ms x) t)
   (h:AD tq P cx K l tail base U hd (.a as ops (i+1) sl (⟨i,d,[t],Nat,fun _ b=>.slice (some ⟨b,0,none⟩) 1 1,fun u b=>[.row b [u] e]⟩ :: ms) Γ m)):AD tq P cx K l tail base U hd (.ow true A (.buildSlice Ym 1 #[(0,.tmp t)]) d ty as ops i sl ms Γ m)
 | mk {hd:QE} {t e:TI} {α:Type} {E:ag α} {z0:α} {bt:Nat} {x:OO} {z:Int} {fr:Fr} {f:Nat→Option (Out S R)} {A:LN} {as:LL} {d:Nat} {ty:TI} {ops:LO} {i:Nat} {sl:LQ} {ms:MM} {Γ:QE} [hz:qp P t α e E z0 bt] (hv:eD A none sl base fr) (hx:bm fr x=some (.int .i64 z))
   (h:∀ n,AD tq P cx K l tail base U hd (.a as ops (i+1) sl (⟨i,d,[],Value,fun _ v=>v,fun _ v=>[.own (aK e E) v (List.replicate n z0)]⟩ :: ms) Γ (f n))):AD tq P cx K l tail base U hd (.o A (.makeSlice t x x) d ty as ops i sl ms Γ (mk bt z>>=f))
 | ixs {hd:QE} {b:Bool} {v:Value} {x y:OO} {t:TI} {fr:Fr} {A:LN} {as:LL} {d:Nat} {ty:TI} {ops:LO} {i:Nat} {sl:LQ} {ms:MM} {Γ:QE} {m:Option (Out S R)} (hv:eD A none sl base fr) (hx:bm fr x=some v) (hw:I9 hd v b) (h:AD tq P cx K l tail base U hd (.ix b v fr x y t A d ty as ops i sl ms Γ m)):AD tq P cx K l tail base U hd (.o A (.indexAddr t x y) d ty as ops i sl ms Γ m)
 | idx {hd:QE} {α:Type} {A:LN} {as:LL} {d:Nat} {x y:OO} {v:Value} {k:IntKind} {j:Int} {t ty:TI} {o1 o2:Bool} {E:ag α} {xs:List α} {ops:LO} {i:Nat} {sl:LQ} {ms:MM} {fr:Fr} {Γ:QE} {Γ':α→List aw} {f:α→Option (Out S R)} [ht:uW P t]
   (hy:bm fr y=some (.int k j)) (hr:∀ z,ll Γ v o1 o2 E xs (.ad o1 o2 v j E z) (Γ' z)) (hE:E.size=1)
   (h:∀ z,AD tq P cx K l tail base U hd (.a as ops (i+1) ((i,d,.pointer (some (dc v 1 j))) :: sl) ms (Γ' z) (f z))):AD tq P cx K l tail base U hd (.ix false v fr x y t A d ty as ops i sl ms Γ (idx xs j>>=f))
 | ZV {hd:QE} {α:Type} {A:LN} {as:LL} {d:Nat} {x y:OO} {v:Value} {k:IntKind} {j:Int} {t ty:TI} {o1 o2:Bool} {E:ag α} {xs:List α} {ops:LO} {i:Nat} {sl:LQ} {ms:MM} {fr:Fr} {Γ:QE} {gp:α→List aw} {f:α→Option (Out S R)} [ht:uW P t]
   (hy:bm fr y=some (.int k j)) (hr:∀ z,ll hd v o1 o2 E xs (.ad o1 o2 v j E z) (gp z)) (hE:E.size=1)
   (h:∀ z,AD tq P cx K l tail base U (gp z) (.a as ops (i+1) ((i,d,.pointer (some (dc v 1 j))) :: sl) ms Γ (f z))):AD tq P cx K l tail base U hd (.ix true v fr x y t A d ty as ops i sl ms Γ (idx xs j>>=f))
 | load {hd:QE} {A:LN} {as:LL} {d:Nat} {x:OO} {a:Addr} {t ty:TI} {lk:Option Nat} {ops:LO} {i:Nat} {sl:LQ} {ms:MM} {fr:Fr} {Γ:QE} {m:Option (Out S R)} [ht:LK P t lk] (hv:eD A none sl base fr) (hx:bm fr x=some (.pointer (some a)))
   (h:AD tq P cx K l tail base U hd (.la fr a lk t x A d ty as ops i sl ms Γ m)):AD tq P cx K l tail base U hd (.o A (.load t x) d ty as ops i sl ms Γ m)
 | lsw {hd:QE} {b:Bool} {v:Value} {j:Int} {x:OO} {t:TI} {fr:Fr} {A:LN} {as:LL} {d:Nat} {ty:TI} {ops:LO} {i:Nat} {sl:LQ} {ms:MM} {Γ:QE} {m:Option (Out S R)} (hw:I9 hd v b) (h:AD tq P cx K l tail base U hd (.lb b v j fr t x A d ty as ops i sl ms Γ m)):AD tq P cx K l tail base U hd (.la fr (dc v 1 j) none t x A d ty as ops i sl ms Γ m)
 | Tq {hd:QE} {α:Type} {A:LN} {as:LL} {d:Nat} {x:OO} {v:Value} {j:Int} {o:Bool} {E:ag α} {z:α} {t ty:TI} {ops:LO} {i:Nat} {sl:LQ} {ms:MM} {fr:Fr} {Γ Γx:QE} {m:Option (Out S R)} (h:ur Γ (dc v 1 j) o E z px Γx)
   (k:AD tq P cx K l tail base U hd (.ld E z fr (dc v 1 j) t x A d ty as ops i sl ms Γ m)):AD tq P cx K l tail base U hd (.lb false v j fr t x A d ty as ops i sl ms Γ m)
 | ZW {hd:QE} {α:Type} {A:LN} {as:LL} {d:Nat} {x:OO} {v:Value} {j:Int} {E:ag α} {z:List α} {o:Bool} {t ty:TI} {ops:LO} {i:Nat} {sl:LQ} {ms:MM} {fr:Fr} {Γ:QE} {TP gp:Value→List aw} {m:Option (Out S R)} (hV:((U.zipIdx.all fun p=>!(p.1.contains l.length) || ((cj l).getD p.2 []).contains i))=true) (h:∀ u,ur hd (dc v 1 j) o (aD E) z (.rd o (aD E) u z) (TP u)) (h2:∀ u,yn (TP u) v j u (gp u))
   (k:∀ u,AD tq P cx K l tail base U (gp u) (.a as ops (i+1) ((i,d,u) :: sl) ms Γ m)):AD tq P cx K l tail base U hd (.lb true v j fr t x A d ty as ops i sl ms Γ m)
 | Tr {hd:QE} {A:LN} {as:LL} {d:Nat} {x:OO} {a:Addr} {u:Value} {t ty:TI} {ops:LO} {i:Nat} {sl:LQ} {ms:MM} {fr:Fr} {Γ:QE} {m:Option (Out S R)} (h:uw Γ a u)
   (k:AD tq P cx K l tail base U hd (.a as ops (i+1) ((i,d,u) :: sl) ms Γ m)):AD tq P cx K l tail base U hd (.la fr a none t x A d ty as ops i sl ms Γ m)
 | LG {hd:QE} {A:LN} {as:LL} {d n:Nat} {x:OO} {a:Addr} {ds:LV} {t ty:TI} {ops:LO} {i:Nat} {sl:LQ} {ms:MM} {fr:Fr} {Γ:QE} {m:Option (Out S R)} (h:bg Γ a n ds)
   (k:AD tq P cx K l tail base U hd (.a as ops (i+1) ((i,d,.agg ds.toArray) :: sl) ms Γ m)):AD tq P cx K l tail base U hd (.la fr a (some n) t x A d ty as ops i sl ms Γ m)
 | Ts {hd:QE} {A:LN} {as:LL} {d:Nat} {x:OO} {a:Addr} {k:IntKind} {z:Int} {t ty:TI} {ops:LO} {i:Nat} {sl:LQ} {ms:MM} {fr:Fr} {Γ:QE} {m:Option (Out S R)}
   (h:AD tq P cx K l tail base U hd (.a as ops (i+1) ((i,d,.int k z) :: sl) ms Γ m)):AD tq P cx K l tail base U hd (.ld (aA k) z fr a t x A d ty as ops i sl ms Γ m)
 | Tt {hd:QE} {A:LN} {as:LL} {d:Nat} {x:OO} {a:Addr} {z:Bool} {t ty:TI} {ops:LO} {i:Nat} {sl:LQ} {ms:MM} {fr:Fr} {Γ:QE} {m:Option (Out S R)}
   (h:AD tq P cx K l tail base U hd (.a as ops (i+1) ((i,d,.bool z) :: sl) ms Γ m)):AD tq P cx K l tail base U hd (.ld j5 z fr a t x A d ty as ops i sl ms Γ m)
 | Tu {hd:QE} {α:Type} {A:LN} {as:LL} {d:Nat} {x:OO} {v:Value} {j:Int} {E:ag α} {z:List α} {o:Bool} {t ty:TI} {ops:LO} {i:Nat} {sl:LQ} {ms:MM} {fr:Fr} {Γ:QE} {Γ1 Γ':Value→List aw} {m:Option (Out S R)} (h:∀ u,ur Γ (dc v 1 j) o (aD E) z (.rd o (aD E) u z) (Γ1 u)) (h2:∀ u,yn (Γ1 u) v j u (Γ' u))
   (k:∀ u,AD tq P cx K l tail base U hd (.a as ops (i+1) ((i,d,u) :: sl) ms (Γ' u) m)):AD tq P cx K l tail base U hd (.ld (aD E) z fr (dc v 1 j) t x A d ty as ops i sl ms Γ m)
 | LF {hd:QE} {us:LN} {A:LN} {as:LL} {d:Nat} {f:FuncId} {xs:List Operand} {ak:Array TypeId} {ty:TI} {ops:LO} {i:Nat} {sl:LQ} {ms:MM} {Γ:QE} {m:Option (Out S R)} (hU:U.getD i []=us) (h:AD tq P cx K l tail base U hd (.oc us f xs ak A d ty as ops i sl ms Γ m)):AD tq P cx K l tail base U hd (.o A (.call ⟨.value (.func f),xs.toArray,ak⟩) d ty as ops i sl ms Γ m)
 | call {hd:QE} {β V:Type} {A:LN} {as:LL} {d:Nat} {f:FuncId} {xs:List Operand} {ak:Array TypeId} {ty:TI} {mo:Option β} {rt:β→V→List Value} {ps:β→V→List aw} {ops:LO} {i:Nat} {sl:LQ} {ms:MM} {fr:Fr} {Γ:QE} {g:β→Option (Out S R)} [hf:bu P f]
   (hv:eD A none sl base fr) (hc:∀ x:mq ms,Ka P f xs (kq A ms x++fr) (sr A ms x++Γ) mo rt ps) (hi:lj ms) (vb:me A ms=true) (ho:∀ y v,sG (ps y v)=true)
   (h:∀ y,AD tq P cx K l tail base U hd (.cr (fun v=>nq (rt y v)) (ps y) d as ops i sl ms Γ (g y))):AD tq P cx K l tail base U hd (.oc [] f xs ak A d ty as ops i sl ms Γ (mo>>=g))
 | Xt {hd:QE} {β V:Type} {A:LN} {as:LL} {d:Nat} {f:FuncId} {xs:List Operand} {ak:Array TypeId} {ty:TI} {mo:Option β} {rt:β→V→List Value} {ps:β→V→List aw} {ops:LO} {i:Nat} {sl:LQ} {ms:MM} {fr:Fr} {Γ:QE} {g:β→Option (Out S R)} [hf:bu P f]
   (hV:((U.set i []).all fun us=>!(us.contains l.length))=true) (hv:eD A none sl base fr) (hc:∀ x:mq ms,Dr P f xs (kq A ms x++fr) hd (sr A ms x++Γ) mo rt ps) (hi:lj ms) (vb:me A ms=true) (ho:∀ y v,sG (ps y v)=true)
   (h:∀ y,AD tq P cx K l tail base U hd (.cr (fun v=>nq (rt y v)) (ps y) d as ops i sl ms Γ (g y))):AD tq P cx K l tail base U hd (.oc [l.length] f xs ak A d ty as ops i sl ms Γ (mo>>=g))
 | Xu {hd:QE} {β V:Type} {j1:Nat} {a1:ep} {fg:MM} {A:LN} {as:LL} {d:Nat} {f:FuncId} {xs:List Operand} {ak:Array TypeId} {ty:TI} {mo:Option β} {rt:β→V→List Value} {ps:β→V→List aw} {ops:LO} {i:Nat} {sl:LQ} {ms:MM} {fr:Fr} {Γ:QE} {g:β→Option (Out S R)} [hf:bu P f]
   (h1:zD ms j1 a1 fg) (Ds:a1.src=[]) (h4:dx j1 A=true) (hv:eD A none sl base fr) (hc:∀ (q:a1.V) (x:mq fg),Dr P f xs (kq A fg x++fr) (a1.ps undef q) (sr A fg x++Γ) mo rt ps) (hi:lj fg) (vb:me A fg=true) (ho:∀ y v,sG (ps y v)=true)
   (h:∀ y,AD tq P cx K l tail base U hd (.cr (fun v=>nq (rt y v)) (ps y) d as ops i (Kd j1 i sl) fg Γ (g y))):AD tq P cx K l tail base U hd (.oc [j1] f xs ak A d ty as ops i sl ms Γ (mo>>=g))
 | crv {hd:QE} {u:Unit→Value} {d:Nat} {as:LL} {ops:LO} {i:Nat} {sl:LQ} {ms:MM} {Γ:QE} {m:Option (Out S R)} (h:AD tq P cx K l tail base U hd (.a as ops (i+1) ((i,d,u ()) :: sl) ms Γ m)):AD tq P cx K l tail base U hd (.cr u (fun _=>[]) d as ops i sl ms Γ m)
 | crb {hd:QE} {u:Unit→Value} {ps:Unit→List aw} {d:Nat} {as:LL} {ops:LO} {i:Nat} {sl:LQ} {ms:MM} {Γ:QE} {m:Option (Out S R)} (h:AD tq P cx K l tail base U hd (.a as ops (i+1) ((i,d,u ()) :: sl) (⟨i,d,[],Unit,fun _=>u,fun _=>ps⟩ :: ms) Γ m)):AD tq P cx K l tail base U hd (.cr u ps d as ops i sl ms Γ m)
 | crm {hd:QE} {V:Type} {u:V→Value} {ps:V→List aw} {d:Nat} {as:LL} {ops:LO} {i:Nat} {sl:LQ} {ms:MM} {Γ:QE} {m:Option (Out S R)} (h:AD tq P cx K l tail base U hd (.a as ops (i+1) sl (⟨i,d,[],V,fun _=>u,fun _=>ps⟩ :: ms) Γ m)):AD tq P cx K l tail base U hd (.cr u ps d as ops i sl ms Γ m)
 | val {hd:QE} {A:LN} {as:LL} {op:Op} {d:Nat} {ty:TI} {u:Value} {ops:LO} {i:Nat} {sl:LQ} {ms:MM} {fr:Fr} {Γ:QE} {m:Option (Out S R)} (hv:eD A none sl base fr) (hq:VQ P Γ fr op u)
   (h:AD tq P cx K l tail base U hd (.a as ops (i+1) ((i,d,u) :: sl) ms Γ m)):AD tq P cx K l tail base U hd (.o A op d ty as ops i sl ms Γ m)
 | tv {hd:QE} {A:LN} {as:LL} {op:BinOp} {x y:OO} {k k':IntKind} {a b:Int} {t t':TI} {d:Nat} {ty:TI} {ops:LO} {i:Nat} {sl:LQ} {ms:MM} {fr:Fr} {Γ:QE} {f:Int→Option (Out S R)} (hv:eD A none sl base fr) (hx:bm fr x=some (.int k a)) (hy:bm fr y=some (.int k' b)) (hk:QS op k k')
   (h:∀ z,AD tq P cx K l tail base U hd (.a as ops (i+1) ((i,d,.int k z) :: sl) ms Γ (f z))):AD tq P cx K l tail base U hd (.o A (.binOp op t x y t') d ty as ops i sl ms Γ (uX op k a b>>=f))
 | Yn {hd:QE} {α β:Type} {A:LN} {as:LL} {d:Nat} {x y:OO} {v:Value} {k:IntKind} {j:Int} {t ty:TI} {o1 o2 p1 p2:Bool} {E:ag α} {E2:ag β} {z:β} {xs:List α} {ops:LO} {i:Nat} {sl:LQ} {ms:MM} {fr:Fr} {Γ Γx:QE} {m:Option (Out S R)} [ht:uW P t]
   (hy:bm fr y=some (.int k j)) (hr:ll Γ v o1 o2 E xs px Γx) (hi:In (.ad p1 p2 v j E2 z) Γ) (hE:E.size=1)
   (h:AD tq P cx K l tail base U hd (.a as ops (i+1) ((i,d,.pointer (some (dc v 1 j))) :: sl) ms Γ m)):AD tq P cx K l tail base U hd (.ix false v fr x y t A d ty as ops i sl ms Γ m)
 | pz {hd:QE} {as:LL} {ops:LO} {i:Nat} {sl:LQ} {ms:MM} {Γ:QE} {m:Option (Out S R)} (h:AD tq P cx K l tail base U hd (.a as ops i sl ms Γ m)):AD tq P cx K l tail base U hd (.p [] as ops i sl ms Γ m)
 | pe {hd:QE} {e:aw} {Δ:QE} {as:LL} {ops:LO} {i:Nat} {sl:LQ} {ms:MM} {Γ:QE} {m:Option (Out S R)} (h:AD tq P cx K l tail base U hd (.p Δ as ops i sl ms (e :: Γ) m)):AD tq P cx K l tail base U hd (.p (e :: Δ) as ops i sl ms Γ m)
 | Gl {hd:QE} {α V:Type} {Sc:ag α} {cl:α→V→List Value} {en:α→V→List aw} {A:LN} {as:LL} {d n:Nat} {x y:OO} {v:Value} {xs:List α} {k:IntKind} {j:Int} {t ty:TI} {ops:LO} {i:Nat} {sl:LQ} {ms:MM} {fr:Fr} {Γ Γx:QE} {f:α→Option (Out S R)} [ht:Gi P t n]
   (hy:bm fr y=some (.int k j)) (hr:ll Γ v false false (r4 Sc) xs px Γx) (hs:EU Sc V cl en) (hn:Sc.size=n)
   (h:∀ z u,AD tq P cx K l tail base U hd (.p (.ak (dc v n j) (cl z u) :: en z u) as ops (i+1) ((i,d,.pointer (some (dc v n j))) :: sl) ms Γ (f z))):AD tq P cx K l tail base U hd (.ix false v fr x y t A d ty as ops i sl ms Γ (idx xs j>>=f))
 | TQ {hd:QE} {α V:Type} {Sc:ag α} {cl:α→V→List Value} {en:α→V→List aw} {A:LN} {as:LL} {d n e bt:Nat} {x y:OO} {v:Value} {us:List (List Value)} {xs:List α} {k:IntKind} {j:Int} {t ty:TI} {ops:LO} {i:Nat} {sl:LQ} {ms:MM} {fr:Fr} {Γ Γ1:QE} {f:α→Option (Out S R)} [ht:AN P t e n bt]
   (hy:bm fr y=some (.int k j)) (h1:dj Γ (.own (aK e (jm n)) v us) Γ1) (hg:In (.rd false (vG Sc) (.bool true) (us,xs)) Γ) (hs:EU Sc V cl en)
   (h:∀ z u,AD tq P cx K l tail base U hd (.p (.rd false (Ar us j) (.bool true) (cl z u) :: en z u) as ops (i+1) ((i,d,.pointer (some (dc v n j))) :: sl) ms Γ (f z))):AD tq P cx K l tail base U hd (.ix false v fr x y t A d ty as ops i sl ms Γ (idx xs j>>=f))
 | Yo {hd:QE} {A:LN} {as:LL} {d n e off:Nat} {x:OO} {v u:Value} {us:List (List Value)} {j:Int} {cs:LV} {t ty:TI} {ops:LO} {i:Nat} {sl:LQ} {ms:MM} {fr:Fr} {Γ Γ1:QE} {m:Option (Out S R)} (h1:dj Γ (.own (aK e (jm n)) v us) Γ1) (hp:In (.rd false (Ar us j) (.bool true) cs) Γ) (hc:cs[off]? = some u)
   (k:AD tq P cx K l tail base U hd (.a as ops (i+1) ((i,d,u) :: sl) ms Γ m)):AD tq P cx K l tail base U hd (.la fr ((dc v n j).add off) none t x A d ty as ops i sl ms Γ m)
 | TR {hd:QE} {A:LN} {as:LL} {d n e:Nat} {x:OO} {v u:Value} {us:List (List Value)} {j:Int} {cs:LV} {t ty:TI} {ops:LO} {i:Nat} {sl:LQ} {ms:MM} {fr:Fr} {Γ Γ1:QE} {m:Option (Out S R)} (h1:dj Γ (.own (aK e (jm n)) v us) Γ1) (hp:In (.rd false (Ar us j) (.bool true) cs) Γ) (hc:cs[0]? = some u)
   (k:AD tq P cx K l tail base U hd (.a as ops (i+1) ((i,d,u) :: sl) ms Γ m)):AD tq P cx K l tail base U hd (.la fr (dc v n j) none t x A d ty as ops i sl ms Γ m)
 | QZ {hd:QE} {β V:Type} {A:LN} {as:LL} {d:Nat} {f:FuncId} {xs:List Operand} {ak:Array TypeId} {ty:TI} {mo:Option β} {rt:β→V→List Value} {ps:β→V→List aw} {ops:LO} {i:Nat} {sl:LQ} {ms:MM} {fr:Fr} {Γ:QE} {g:β→Option (Out S R)} [hf:bu P f]
   (hv:eD A none sl base fr) (hc:∀ x:mq ms,Kc P f xs (kq A ms x++fr) Γ mo rt ps) (hi:lj ms) (vb:me A ms=true)
   (h:∀ y,AD tq P cx K l tail base U hd (.cr (fun v=>nq (rt y v)) (ps y) d as ops i sl ms Γ (g y))):AD tq P cx K l tail base U hd (.oc [] f xs ak A d ty as ops i sl ms Γ (mo>>=g))
 | L7 {hd:QE} {β V:Type} {A:LN} {as:LL} {d:Nat} {f:FuncId} {xs:List Operand} {ak:Array TypeId} {ty:TI} {mo:Option β} {rt:β→V→List Value} {ps:β→V→List aw} {ops:LO} {i:Nat} {sl:LQ} {ms:MM} {fr:Fr} {Γ:QE} {g:β→Option (Out S R)} [hf:bu P f]
   (hV:((U.set i []).all fun us=>!(us.contains l.length))=true) (hv:eD A none sl base fr) (hc:∀ x:mq ms,AR P f xs (kq A ms x++fr) hd Γ mo rt ps) (hi:lj ms) (vb:me A ms=true)
   (h:∀ y,AD tq P cx K l tail base U hd (.cr (fun v=>nq (rt y v)) (ps y) d as ops i sl ms Γ (g y))):AD tq P cx K l tail base U hd (.oc [l.length] f xs ak A d ty as ops i sl ms Γ (mo>>=g))
 | L8 {hd:QE} {β V:Type} {j1:Nat} {a1:ep} {fg:MM} {A:LN} {as:LL} {d:Nat} {f:FuncId} {xs:List Operand} {ak:Array TypeId} {ty:TI} {mo:Option β} {rt:β→V→List Value} {ps:β→V→List aw} {ops:LO} {i:Nat} {sl:LQ} {ms:MM} {fr:Fr} {Γ:QE} {g:β→Option (Out S R)} [hf:bu P f]
   (h1:zD ms j1 a1 fg) (Ds:a1.src=[]) (h4:dx j1 A=true) (hv:eD A none sl base fr) (hc:∀ (q:a1.V) (x:mq fg),AR P f xs ((a1.d,a1.rt undef q) :: (kq A fg x++fr)) (a1.ps undef q) Γ mo rt ps) (hi:lj fg) (vb:me A fg=true)
   (h:∀ y,AD tq P cx K l tail base U hd (.cr (fun v=>nq (rt y v)) (ps y) d as ops i (Kd j1 i sl) fg Γ (g y))):AD tq P cx K l tail base U hd (.oc [j1] f xs ak A d ty as ops i sl ms Γ (mo>>=g))
 | slH {hd:QE} {α:Type} {o:Bool} {A:LN} {as:LL} {d:Nat} {x lo hi:OO} {v:Value} {k1 k2:IntKind} {a b:Int} {E T:ag α} {xs:List α} {t e ty:TI} {ops:LO} {i:Nat} {sl:LQ} {ms:MM} {fr:Fr} {Γ Γ1:QE} {Γ':Value→List α→List aw} {f:List α→Option (Out S R)} [ht:uW P t]
   (hv:eD A none sl base fr) (hx:bm fr x=some v) (Ja:bm fr lo=some (.int k1 a)) (L9:bm fr hi=some (.int k2 b)) (hc:dj Γ (.own (aK e T) v xs) Γ1) (hr:∀ v' ys,ll Γ v o o E xs (.rd o (aD E) v' ys) (Γ' v' ys)) (hE:E.size=1)
   (h:∀ v' ys,AD tq P cx K l tail base U hd (.a as ops (i+1) ((i,d,v') :: sl) ms (Γ' v' ys) (f ys))):AD tq P cx K l tail base U hd (.o A (.slice t x (some lo) (some hi) none) d ty as ops i sl ms Γ (Ox xs a b>>=f))
 | Q0 {o1 o2:Bool} {yv:Value} {fr:Fr} {Γx:QE} {hd:QE} {us:LN} {t e:TI} {E:ag Int} {z0:Int} {bt t1 t2:Nat} {k:IntKind} {xs ys:List Int} {a1:ep} {fg:MM} {f:Unit→Option (Out S R)} {A:LN} {as:LL} {d:Nat} {ty:TI} {ops:LO} {i:Nat} {sl:LQ} {ms:MM} {Γ:QE} [hz:qp P t Int e E z0 bt] (h1:ly ms t1 a1 fg) (h3:∀ u v,a1.ps u v=[.own (aK e (aA k)) (a1.rt u v) xs]) (hu:us=[a1.j]) (h4:dx a1.j A=true) (hv:eD A none sl base fr) (hx:look fr t2=some yv) (hr:ll Γ yv o1 o2 (aA k) ys px Γx)
   (h:AD tq P cx K l tail base U hd (.a as ops (i+1) sl (⟨i,d,[],Value,fun _ v=>v,fun _ v=>[.own (aK e (aA k)) v (xs++ys)]⟩ :: fg) Γ (f ()))):AD tq P cx K l tail base U hd (.ap us t1 t2 t A d ty as ops i sl ms Γ (fits bt (xs.length+ys.length)>>=f))
 | TS {e2:TI} {a2:ep} {sK:MM} {hd:QE} {us:LN} {t e:TI} {E:ag Int} {z0:Int} {bt t1 t2:Nat} {k:IntKind} {xs ys:List Int} {a1:ep} {fg:MM} {f:Unit→Option (Out S R)} {A:LN} {as:LL} {d:Nat} {ty:TI} {ops:LO} {i:Nat} {sl:LQ} {ms:MM} {Γ:QE} [hz:qp P t Int e E z0 bt] (h1:ly ms t1 a1 fg) (h3:∀ u v,a1.ps u v=[.own (aK e (aA k)) (a1.rt u v) xs]) (hu:us=[a1.j]) (h4:dx a1.j A=true) (h2:ly fg t2 a2 sK) (h7:∀ u v,a2.ps u v=[.own (aK e2 (aA k)) (a2.rt u v) ys]) (h5:dx a2.j A=true)
   (h:AD tq P cx K l tail base U hd (.a as ops (i+1) sl (⟨i,d,[],Value,fun _ v=>v,fun _ v=>[.own (aK e (aA k)) v (xs++ys)]⟩ :: fg) Γ (f ()))):AD tq P cx K l tail base U hd (.ap us t1 t2 t A d ty as ops i sl ms Γ (fits bt (xs.length+ys.length)>>=f))
end Go.Dk
namespace Go.Dk
open Go Go.Li
theorem iv {t:Nat} {l:LN}:dx t l=true↔t∈l:=by
 induction l with
 | nil=>simp [dx]
 | cons a l ih=>
  unfold dx
  cases hb:Nat.beq t a with
  | true=>simp [Nat.eq_of_beq_eq_true hb]
  | false=>simp only [cond_false,ih,List.mem_cons]; exact ⟨.inr,fun h=>h.resolve_left fun e=>by rw [e,Nat.beq_refl] at hb; cases hb⟩
def rq (l:LO) (U:LL) (mt:Nat):List (List Nat):=(List.range mt).map fun i=>((cj l).getD i []).filter (uD l U mt i)
theorem j7 {l:LO} {U:LL} {mt i j:Nat} (h:j∈(rq l U mt).getD i []):j∈(cj l).getD i []∧uD l U mt i j=true:=by
 unfold rq at h
 rw [List.getD_eq_getElem?_getD,List.getElem?_map] at h
 by_cases hi:i < mt
 ·rw [List.getElem?_range hi] at h
  exact List.mem_filter.1 h
 ·rw [List.getElem?_eq_none (by simpa using hi)] at h
  exact absurd h List.not_mem_nil
variable {Z:Nat→Prop}
structure ja (Z:Nat→Prop) (l:LO) (S:List gv) (sl:LQ) (ms:MM):Prop where
 v:∀ p∈sl,∃ j,(j=p.1∨j∈(cj l).getD p.1 [])∧br l j=some p.2.1∧∃ s,S[j]? = some s∧s.b=true∧∀ f w r x,s.V f w r x→x=p.2.2
 m:∀ a∈ms,(S[a.j]? = some ⟨true,MV Z a⟩∧br l a.j=some a.d)∨(S[a.j]? = some ⟨true,L5 Z a⟩∧br l a.j=none∧∃ k∈(cj l).getD a.j [],br l k=some a.d)
 s:∀ i s,S[i]? = some s→QW Z ((cj l).getD i []) l s
 d:(ms.map (·.j)).Nodup
 t:∀ i j k,j∈(cj l).getD k []→k∈(cj l).getD i []→j∈(cj l).getD i []
theorem ja.lt {l:LO} {S:List gv} {sl:LQ} {ms:MM} (h:ja Z l S sl ms) {a:ep} (ha:a∈ms):a.j < S.length:=by
 rcases h.m a ha with h | h <;> exact (List.getElem?_eq_some_iff.1 h.1).1
theorem ja.w5 {l:LO} {S S2:List gv} {sl:LQ} {ms:MM} (h:ja Z l S sl ms) {a:ep} (ha:a∈ms) {g:Nat→List Nat} {r:NV} {w:World} (hd:w6 l (S++S2) a.j g r w):MV Z a (g a.j) w r (r a.d):=by
 rcases h.m a ha with h1 | h1
 ·have h2:=hd.1 a.d h1.2
  rw [List.getElem?_append_left (List.getElem?_eq_some_iff.1 h1.1).1,h1.1] at h2
  exact h2
 ·obtain ⟨x,hx⟩:=hd.2 h1.2.1 _ (by rw [List.getElem?_append_left (List.getElem?_eq_some_iff.1 h1.1).1]; exact h1.1) rfl
  exact hx
theorem ja.slot {l:LO} {S:List gv} {sl:LQ} {ms:MM} (h:ja Z l S sl ms) {a:ep} (ha:a∈ms) {i:Nat} (hi:a.j∈(cj l).getD i []):∃ k∈(cj l).getD i [],br l k=some a.d:=by
 rcases h.m a ha with h1 | ⟨_,_,k,hk,hd⟩
 ·exact ⟨a.j,hi,h1.2⟩
 ·exact ⟨k,h.t i k a.j hk hi,hd⟩
theorem ja.tw {l:LO} {S S2:List gv} {sl:LQ} {ms:MM} (h:ja Z l S sl ms) {a:ep} (ha:a∈ms):((S++S2)[a.j]? = some ⟨true,MV Z a⟩∧br l a.j=some a.d)∨((S++S2)[a.j]? = some ⟨true,L5 Z a⟩∧br l a.j=none∧∃ k∈(cj l).getD a.j [],br l k=some a.d):=by
 rw [List.getElem?_append_left (h.lt ha)]
 exact h.m a ha
theorem ja.Oy {l:LO} {S S2:List gv} {sl:LQ} {ms:MM} (h:ja Z l S sl ms) {p:Nat×Nat×Value} (hp:p∈sl):∃ j,(j=p.1∨j∈(cj l).getD p.1 [])∧br l j=some p.2.1∧∃ s,(S++S2)[j]? = some s∧s.b=true∧∀ f w r x,s.V f w r x→x=p.2.2:=by
 obtain ⟨j,hj,h1,s,h2,h3⟩:=h.v p hp
 exact ⟨j,hj,h1,s,by rw [List.getElem?_append_left (List.getElem?_eq_some_iff.1 h2).1]; exact h2,h3⟩
theorem ja.xT {l:LO} {S S2:List gv} {sl:LQ} {ms:MM} (h:ja Z l S sl ms) {p:Nat×Nat×Value} (hp:p∈sl) {r:NV} (ho:∀ j,(j=p.1∨j∈(cj l).getD p.1 [])→j < S.length→Old l (S++S2) j r):r p.2.1=p.2.2:=by
 obtain ⟨j,hj,h1,s,h2,h3,h4⟩:=h.v p hp
 have hl:=(List.getElem?_eq_some_iff.1 h2).1
 have:=ho j hj hl _ h1 s (by rw [List.getElem?_append_left hl]; exact h2)
 rw [if_pos h3] at this
 obtain ⟨f,w,hV⟩:=this
 exact h4 f w r _ hV
theorem ja.val {l:LO} {S:List gv} {sl:LQ} {ms:MM} (h:ja Z l S sl ms) {d:Nat} {u:Value} (hd:br l S.length=some d):ja Z l (S++[sV u]) ((S.length,d,u) :: sl) ms:=by
 refine ⟨?_,fun a ha=>h.tw ha,?_,h.d,h.t⟩
 ·intro p hp
  rcases List.mem_cons.1 hp with rfl | hp
  ·exact ⟨S.length,.inl rfl,hd,sV u,by simp,rfl,fun _ _ _ _ h=>h⟩
  ·exact h.Oy hp
 ·intro i s hs
  by_cases hi:i < S.length
  ·rw [List.getElem?_append_left hi] at hs; exact h.s i s hs
  ·rw [List.getElem?_append_right (by omega)] at hs
   have w7:i - S.length=0:=by
    have:=(List.getElem?_eq_some_iff.1 hs).1
    simp at this; omega
   rw [w7] at hs
   cases hs
   exact Gx.n Kh
theorem ja.mem {l:LO} {S:List gv} {sl:LQ} {ms:MM} (h:ja Z l S sl ms) {b:ep} (hj:b.j=S.length) (hd:br l S.length=some b.d) (fq:∀ t∈b.src,∃ j∈(cj l).getD S.length [],br l j=some t):ja Z l (S++[⟨true,MV Z b⟩]) sl (b :: ms):=by
 have bc:∀ a∈ms,a.j < S.length:=fun a ha=>h.lt ha
 refine ⟨fun p hp=>?_,?_,?_,?_,h.t⟩
 ·exact h.Oy hp
 ·intro a ha
  rcases List.mem_cons.1 ha with rfl | ha
  ·exact .inl ⟨by rw [hj]; simp,by rw [hj]; exact hd⟩
  ·exact h.tw ha
 ·intro i s hs
  by_cases hi:i < S.length
  ·rw [List.getElem?_append_left hi] at hs; exact h.s i s hs
  ·rw [List.getElem?_append_right (by omega)] at hs
   have w7:i - S.length=0:=by
    have:=(List.getElem?_eq_some_iff.1 hs).1
    simp at this; omega
   have TU:i=S.length:=by omega
   rw [w7] at hs
   cases hs
   rw [TU]
   exact L6 fq
 ·rw [List.map_cons,List.nodup_cons]
  refine ⟨fun hm=>?_,h.d⟩
  obtain ⟨a,ha,he⟩:=List.mem_map.1 hm
  have:=bc a ha
  omega
theorem ja.ZX {l:LO} {S:List gv} {sl:LQ} {ms:MM} (h:ja Z l S sl ms) {j d:Nat} {u:Value} (hd:br l j=some d) {s:gv} (hs:S[j]? = some s) (hb:s.b=true) (hV:∀ f w r x,s.V f w r x→x=u):ja Z l S ((j,d,u) :: sl) ms:=
 ⟨fun p hp=>by
  rcases List.mem_cons.1 hp with rfl | hp
  ·exact ⟨j,.inl rfl,hd,s,hs,hb,hV⟩
  ·exact h.v p hp,h.m,h.s,h.d,h.t⟩
theorem ja.re {l:LO} {S:List gv} {sl:LQ} {ms:MM} (h:ja Z l S sl ms) {j i:Nat} (hj:j∈(cj l).getD i []):ja Z l S (Kd j i sl) ms:=by
 refine ⟨fun p hp=>?_,h.m,h.s,h.d,h.t⟩
 obtain ⟨q,hq,rfl⟩:=List.mem_map.1 hp
 obtain ⟨k,hk,h1⟩:=h.v q hq
 cases hb:Nat.beq q.1 j with
 | false=>exact ⟨k,hk,h1⟩
 | true=>
  refine ⟨k,.inr ?_,h1⟩
  have Ma:=Nat.eq_of_beq_eq_true hb
  show k∈(cj l).getD i []
  rcases hk with rfl | hk
  ·rw [Ma]; exact hj
  ·rw [Ma] at hk; exact h.t i k j hk hj
theorem ja.ZY {l:LO} {S:List gv} {sl:LQ} {ms:MM} (h:ja Z l S sl ms) {b:ep} (hj:b.j=S.length) (hd:br l S.length=none) (hk:∃ k∈(cj l).getD S.length [],br l k=some b.d) (fq:b.src=[]):ja Z l (S++[⟨true,L5 Z b⟩]) sl (b :: ms):=by
 have bc:∀ a∈ms,a.j < S.length:=fun a ha=>h.lt ha
 refine ⟨fun p hp=>?_,?_,?_,?_,h.t⟩
 ·exact h.Oy hp
 ·intro a ha
  rcases List.mem_cons.1 ha with rfl | ha
  ·exact .inr ⟨by rw [hj]; simp,by rw [hj]; exact hd,by rw [hj]; exact hk⟩
  ·exact h.tw ha
 ·intro i s hs
  by_cases hi:i < S.length
  ·rw [List.getElem?_append_left hi] at hs; exact h.s i s hs
  ·rw [List.getElem?_append_right (by omega)] at hs
   have w7:i - S.length=0:=by
    have:=(List.getElem?_eq_some_iff.1 hs).1
    simp at this; omega
   have TU:i=S.length:=by omega
   rw [w7] at hs
   cases hs
   rw [TU]
   exact J9 hk fun t ht=>by rw [fq] at ht; cases ht
 ·rw [List.map_cons,List.nodup_cons]
  refine ⟨fun hm=>?_,h.d⟩
  obtain ⟨a,ha,he⟩:=List.mem_map.1 hm
  have:=bc a ha
  omega
theorem jf {l:LO} {m:Nat} {base:Fr} {r r0:NV} (hh:lz l m base=true) (ha:cu r0 base) (ho:∀ t,(∀ j,j < m→br l j≠some t)→r t=r0 t):cu r base:=by
 intro t v hl
 have hm:∃ u,(t,u)∈base:=by
  clear hh ha
  induction base with
  | nil=>cases hl
  | cons p base ih=>
   obtain ⟨a,u⟩:=p
   unfold look at hl
   cases hb:Nat.beq t a with
   | true=>exact ⟨u,by rw [Nat.eq_of_beq_eq_true hb]; simp⟩
   | false=>rw [hb] at hl; obtain ⟨u',h⟩:=ih hl; exact ⟨u',by simp [h]⟩
 obtain ⟨u,hu⟩:=hm
 rw [ho t fun j hj=>Mb hh (t,u) hu j hj]
 exact ha t v hl
section
variable {P:Program} {l:LO} {mt:Nat} {S:List gv} {sl:LQ} {ms:MM} {base fr:Fr} {r r0:NV} {w w0:World} {g:Nat→List Nat} {i:Nat} {A:LN} {U:LL}
theorem l7 (hR:ja Z l S sl ms) (hA:A=(rq l U mt).getD i []) (hv:eD A none sl base fr) (hb:cu r base) {S':List gv} (hO:∀ j∈(cj l).getD i [],Old l (S++S') j r):cu r fr:=by
 refine hv.sound hb ?_ (fun _ _ _ h=>nomatch h)
 intro p hp hm
 have hi:=(j7 (by rw [← hA]; exact iv.1 hm)).1
 exact hR.xT hp fun j hj _=>hO j (hj.elim (fun e=>e ▸ hi) fun hj=>hR.t i j p.1 hj hi)
theorem Oz {H:LN} {o:Oper} {u:Value} (hh:lz l mt base=true) (ha:cu r0 base) (hR:ja Z l S sl ms) (ho:l[S.length]? = some o) (hg:o.guard=none) (hA:A=(rq l U mt).getD S.length []) (hv:eD A none sl base fr)
  (h:∀ r,cu r fr→∀ w,an H w0 w→(execOp (ev r) o).run P w = .ok (.value u) w):jo P l mt (S++[sV u]) U r0 w0 H S.length:=
 jo.val ho (by simp) hg fun g r w hC hO hn iT=>h r (l7 hR hA hv (jf hh ha iT) hO) w hC
end
end Go.Dk
namespace Go.Dk
open Go Go.Li
section
variable {R S:Type} {P:Program} {cx:Cx R} {K:dh R S} {l tail:LO} {base fr:Fr} {w:World} {Z:Nat→Prop} {U:LL}
def ir (P:Program) (Z:Nat→Prop) (l:LO) (mt:Nat) (U:LL) (r0:NV) (w0:World) (H:LN) (i:Nat) (sl:LQ) (ms:MM):Prop:=
 ∃ S:List gv,S.length=i∧ja Z l S sl ms∧∀ j,j < i→jo P l mt S U r0 w0 H j
def rK (B:Bs) (Z:Nat→Prop) (hd Γ:QE) (H:LN) (w:World):Prop:=∃ F Hd,(SA Z w hd [] Hd∧(∀ b∈Hd,b∈H∧b < w.heap.size)∧(∀ b∈H,b < w.heap.size)∧Hd.Nodup)∧SA Z w Γ [] F∧Gd B Z (H++F) w
theorem rK.stay {B:Bs} {Γ:QE} {F H:LN} {w w':World} (hS:SA Z w Γ [] F) (hG:Gd B Z (H++F) w) (hC:an H w w'):SA Z w' Γ [] F:=
 hS.ec hC (fun b hb=>hG.apart b (List.mem_append_left _ hb)) (fun _ _=>List.not_mem_nil) (fun b hb hf=>(List.nodup_append.1 hG.nd).2.2 b hb b hf rfl)
def Fin (P:Program) (cx:Cx R) (K:dh R S) (l:LO) (mt:Nat) (U:LL) (hd:QE) (_id:Nat) (base:Fr) (i:Nat) (sl:LQ) (ms:MM) (Γ:QE) (m:Option (Out S R)):Prop:=
 ∀ B o,m=some o→∀ r0 w0 H Z,cu r0 base→rK B Z hd Γ H w0→ir P Z l mt U r0 w0 H i sl ms→mf P cx.n l (ma P cx B K o) r0 w0
theorem ir.re {mt:Nat} {r0:NV} {w0:World} {H:LN} {i k j:Nat} {sl:LQ} {ms:MM} (h:ir P Z l mt U r0 w0 H k sl ms) (hj:j∈(cj l).getD i []):ir P Z l mt U r0 w0 H k (Kd j i sl) ms:=by
 obtain ⟨S,h1,h2,h3⟩:=h
 exact ⟨S,h1,h2.re hj,h3⟩
structure zE (l:LO) (mt:Nat) (U:LL) (as:LL) (ops:LO) (i:Nat):Prop where
 a:as=(rq l U mt).drop i
 o:ops=(l.take mt).drop i
 le:i≤mt
structure TV (l:LO) (mt:Nat) (U:LL) (A:LN) (op:Op) (ty:TI) (as:LL) (ops:LO) (i:Nat):Prop where
 A:A=(rq l U mt).getD i []
 o:∃ pos ab,l[i]? = some ⟨none,op,ty,pos,ab,none⟩
 n:zE l mt U as ops (i+1)
theorem zE.Ke {mt:Nat} {A:LN} {as:LL} {op:Op} {ty:TI} {pos:String} {ab:Array Edge} {ops:LO} {i:Nat} (h:zE l mt U (A :: as) (⟨none,op,ty,pos,ab,none⟩ :: ops) i):TV l mt U A op ty as ops i:=by
 obtain ⟨h1,h2,h3⟩:=h
 have e1:(rq l U mt)[i]? = some A:=by
  have:=congrArg (fun x=>x[0]?) h1
  simpa using this.symm
 have e2:(l.take mt)[i]? = some ⟨none,op,ty,pos,ab,none⟩:=by
  have:=congrArg (fun x=>x[0]?) h2
  simpa using this.symm
 have t1:as=(rq l U mt).drop (i+1):=by
  have:=congrArg List.tail h1
  simpa [List.tail_drop] using this
 have t2:ops=(l.take mt).drop (i+1):=by
  have:=congrArg List.tail h2
  simpa [List.tail_drop] using this
 have hi:i < mt:=by
  have:=(List.getElem?_eq_some_iff.1 e1).1
  simpa [rq] using this
 rw [List.getElem?_take,if_pos hi] at e2
 exact ⟨by rw [List.getD_eq_getElem?_getD,e1]; rfl,⟨pos,ab,e2⟩,t1,t2,hi⟩
structure n5 (l:LO) (mt:Nat) (U:LL) (A:LN) (op:Op) (d:Nat) (ty:TI) (as:LL) (ops:LO) (i:Nat):Prop where
 A:A=(rq l U mt).getD i []
 o:∃ pos ab,l[i]? = some ⟨some d,op,ty,pos,ab,none⟩
 n:zE l mt U as ops (i+1)
theorem zE.cons {mt:Nat} {A:LN} {as:LL} {op:Op} {d:Nat} {ty:TI} {pos:String} {ab:Array Edge} {ops:LO} {i:Nat} (h:zE l mt U (A :: as) (⟨some d,op,ty,pos,ab,none⟩ :: ops) i):n5 l mt U A op d ty as ops i:=by
 obtain ⟨h1,h2,h3⟩:=h
 have e1:(rq l U mt)[i]? = some A:=by
  have:=congrArg (fun x=>x[0]?) h1
  simpa using this.symm
 have e2:(l.take mt)[i]? = some ⟨some d,op,ty,pos,ab,none⟩:=by
  have:=congrArg (fun x=>x[0]?) h2
  simpa using this.symm
 have t1:as=(rq l U mt).drop (i+1):=by
  have:=congrArg List.tail h1
  simpa [List.tail_drop] using this
 have t2:ops=(l.take mt).drop (i+1):=by
  have:=congrArg List.tail h2
  simpa [List.tail_drop] using this
 have hi:i < mt:=by
  have:=(List.getElem?_eq_some_iff.1 e1).1
  simpa [rq] using this
 rw [List.getElem?_take,if_pos hi] at e2
 exact ⟨by rw [List.getD_eq_getElem?_getD,e1]; rfl,⟨pos,ab,e2⟩,t1,t2,hi⟩
theorem ir.val {mt:Nat} {A:LN} {op:Op} {d:Nat} {ty:TI} {as:LL} {ops:LO} {i:Nat} {sl:LQ} {ms:MM} {r0:NV} {w0:World} {H:LN} {u:Value} (h:ir P Z l mt U r0 w0 H i sl ms) (hh:lz l mt base=true) (ha:cu r0 base) (h1:n5 l mt U A op d ty as ops i)
  (hv:eD A none sl base fr) (hq:∀ r,cu r fr→∀ pos ab g w,an H w0 w→(execOp (ev r) ⟨some d,op,ty,pos,ab,g⟩).run P w = .ok (.value u) w):ir P Z l mt U r0 w0 H (i+1) ((i,d,u) :: sl) ms:=by
 obtain ⟨S',hl,hR,hO⟩:=h
 subst hl
 obtain ⟨hA,⟨pos,ab,ho⟩,_⟩:=h1
 refine ⟨S'++[sV u],by simp,hR.val (by unfold br; rw [ho]; rfl),fun j hj=>?_⟩
 by_cases h2:j < S'.length
 ·exact jo.more (hO j h2) h2
 ·obtain rfl:j=S'.length:=by omega
  exact Oz hh ha hR ho rfl hA hv fun r hr=>hq r hr _ _ _
def CK (P:Program) (Z:Nat→Prop) (l:LO) (mt:Nat) (U:LL) (r0:NV) (w0:World) (H:LN) (i:Nat) (sl:LQ) (ms:MM) (a:ep):Prop:=
 ∃ S:List gv,S.length=i∧ja Z l S sl ms∧(∀ j,j < i→jo P l mt S U r0 w0 H j)∧
  ∀ V:List Nat→World→(Nat→Value)→Value→Prop,(∀ f w r x,MV Z a f w r x→∃ f',(∀ b∈f',b∈f)∧V f' w r x)→jo P l mt (S++[⟨true,V⟩]) U r0 w0 H i
theorem HL.front {Δ Γ:QE} {Fd F:LN} (h:HL Z w Δ Fd) (hs:SA Z w Γ [] F):SA Z w (Δ++Γ) [] (Fd++F):=by
 induction h with
 | nil=>exact hs
 | own h _ ih=>rw [List.append_assoc]; exact SA.cons ih h
 | fact h _ ih=>exact SA.fact ih h
def AT (A:LN) (g:Nat→List Nat):List ep→List Nat
 | []=>[]
 | a :: l=>bif dx a.j A then g a.j++AT A g l else AT A g l
def HV (Z:Nat→Prop) (w:World) (Δ:QE) (B:LN):Prop:=∃ Vo Vr,(∀ b∈Vo++Vr,b∈B)∧(∀ b∈Vr,b < w.heap.size)∧HL (fun b=>Z b∨b∈Vr) w Δ Vo
theorem HV.front {Δ Γ:QE} {B F:LN} (h:HV Z w Δ B) (hs:SA Z w Γ [] F):∃ G:List Nat,(∀ b∈G,b∈B++F∧b < w.heap.size)∧∃ F':List Nat,(∀ b∈F',b∈G)∧SA (fun b=>Z b∨b∈G) w (Δ++Γ) [] F':=by
 obtain ⟨Vo,Vr,h1,h2,h3⟩:=h
 have hS:=h3.front (hs.mono (Z':=fun b=>Z b∨b∈Vr) (fun _ h=>.inl h) fun _ h=>h)
 refine ⟨Vr++(Vo++F),fun b hb=>?_,Vo++F,fun b hb=>List.mem_append_right _ hb,hS.mono (fun b h=>h.imp id fun h=>List.mem_append_left _ h) fun _ h=>h⟩
 rcases List.mem_append.1 hb with hb | hb
 ·exact ⟨List.mem_append_left _ (h1 b (List.mem_append_right _ hb)),h2 b hb⟩
 ·refine ⟨?_,hS.lt b hb⟩
  rcases List.mem_append.1 hb with hb | hb
  ·exact List.mem_append_left _ (h1 b (List.mem_append_left _ hb))
  ·exact List.mem_append_right _ hb
theorem HV.app {Δ Δ':QE} {f B:LN} (h:HN Z w Δ f) (k:HV Z w Δ' B):HV Z w (Δ++Δ') (f++B):=by
 obtain ⟨Fo,Fr,rfl,h1,h2⟩:=h.all
 obtain ⟨Vo,Vr,k1,k2,k3⟩:=k
 refine ⟨Fo++Vo,Fr++Vr,fun b hb=>?_,fun b hb=>(List.mem_append.1 hb).elim (h1 b) (k2 b),(h2.mono fun b h=>h.imp id fun h=>List.mem_append_left _ h).app (k3.mono fun b h=>h.imp id fun h=>List.mem_append_right _ h)⟩
 have:=fun h=>k1 b h
 simp only [List.mem_append] at hb this ⊢
 rcases hb with (h | h) | h | h
 ·exact .inl (.inl h)
 ·exact .inr (this (.inl h))
 ·exact .inl (.inr h)
 ·exact .inr (this (.inr h))
theorem Xv {A:LN} {g:Nat→List Nat} {r:NV}:∀ {ms:MM},lj ms→me A ms=true→(∀ a∈ms,dx a.j A=true→MV Z a (g a.j) w r (r a.d))→
  ∃ x:mq ms,(∀ p∈kq A ms x,r p.1=p.2)∧HV Z w (sr A ms x) (AT A g ms):=by
 intro ms
 induction ms with
 | nil=>intro _ _ _; exact ⟨(),fun p hp=>absurd hp List.not_mem_nil,[],[],fun b (h:b∈[])=>absurd h List.not_mem_nil,fun b (h:b∈[])=>absurd h List.not_mem_nil,.nil⟩
 | cons a ms ih=>
  intro hi fq h
  unfold me at fq
  rw [Bool.and_eq_true] at fq
  cases hi with
  | cons h1 h2=>
   obtain ⟨x,hx,hl⟩:=ih h2 fq.2 fun b hb=>h b (List.mem_cons_of_mem _ hb)
   cases hb:dx a.j A with
   | false=>
    obtain ⟨v⟩:=h1.ne
    refine ⟨(v,x),?_,?_⟩
    ·simp only [kq,hb,cond_false]; exact hx
    ·simp only [sr,AT,hb,cond_false]; exact hl
   | true=>
    obtain ⟨v,e1,e2,_⟩:=h a (by simp) hb
    have es:va a r=AP a (mF ms x):=by
     have h3:=fq.1
     rw [hb,cond_true,List.all_eq_true] at h3
     refine BY fun t ht=>?_
     have h4:=h3 t ht
     cases hj:qi t ms with
     | none=>rw [hj] at h4; cases h4
     | some j=>rw [hj] at h4; unfold xS; rw [Gw hj h4 hx]
    rw [es] at e1 e2
    refine ⟨(v,x),?_,?_⟩
    ·simp only [kq,hb,cond_true]
     intro p hp
     rcases List.mem_cons.1 hp with rfl | hp
     ·exact e1
     ·exact hx p hp
    ·simp only [sr,AT,hb,cond_true]; exact HV.app e2 hl
theorem OA {t j:Nat}:∀ {ms:MM},qi t ms=some j→∃ a∈ms,a.j=j∧a.d=t:=by
 intro ms
 induction ms with
 | nil=>intro h; cases h
 | cons a l ih=>
  intro h
  unfold qi at h
  cases hb:Nat.beq t a.d with
  | true=>rw [hb] at h; cases h; exact ⟨a,by simp,rfl,(Nat.eq_of_beq_eq_true hb).symm⟩
  | false=>rw [hb] at h; obtain ⟨b,h1,h2⟩:=ih h; exact ⟨b,List.mem_cons_of_mem _ h1,h2⟩
theorem Es {mt i:Nat} {A:LN} (hA:A=(rq l U mt).getD i []) {S':List gv} {sl:LQ} {ms:MM} {t:Nat} (hR:ja Z l S' sl ms) (hj:∃ j,qi t ms=some j∧dx j A=true):∃ j∈(cj l).getD i [],br l j=some t:=by
 obtain ⟨j,h1,h2⟩:=hj
 obtain ⟨a,ha,rfl,rfl⟩:=OA h1
 exact hR.slot ha (j7 (by rw [← hA]; exact iv.1 h2)).1
theorem xT {mt:Nat} {A:LN} {S' S2:List gv} {sl:LQ} {ms:MM} {g:Nat→List Nat} {r:NV} (hR:ja Z l S' sl ms) (hA:A=(rq l U mt).getD S'.length []) (hi:lj ms) (fq:me A ms=true) (hn:∀ j,uD l U mt S'.length j=true→w6 l (S'++S2) j g r w) :
  ∃ x:mq ms,(∀ p∈kq A ms x,r p.1=p.2)∧HV Z w (sr A ms x) (AT A g ms):=
 Xv hi fq fun a hm hb=>by
  exact hR.w5 hm (hn a.j (j7 (by rw [← hA]; exact iv.1 hb)).2)
theorem ir.mem {mt:Nat} {A:LN} {op:Op} {d:Nat} {ty:TI} {as:LL} {ops:LO} {i:Nat} {sl:LQ} {ms:MM} {r0:NV} {w0:World} {H:LN} {a:ep} (h:ir P Z l mt U r0 w0 H i sl ms) (h1:n5 l mt U A op d ty as ops i) (haj:a.j=i) (had:a.d=d)
  (fq:∀ S',ja Z l S' sl ms→∀ t∈a.src,∃ j∈(cj l).getD i [],br l j=some t)
  (hq:∀ S' S2,S'.length=i→ja Z l S' sl ms→∀ (g:Nat→List Nat) (r:NV) (w:World),an H w0 w→(∀ j∈(cj l).getD S'.length [],Old l (S'++S2) j r)→(∀ j,uD l U mt S'.length j=true→w6 l (S'++S2) j g r w)→(∀ t,(∀ j,j < mt→br l j≠some t)→r t=r0 t)→∀ pos ab,
   fc P ⟨some d,op,ty,pos,ab,none⟩ r w fun v w'=>an [] w w'∧∃ f,(∀ b∈f,w.heap.size≤b∧b < w'.heap.size)∧MV Z a f w' r v):ir P Z l mt U r0 w0 H (i+1) sl (a :: ms):=by
 obtain ⟨S',hl,hR,hO⟩:=h
 subst hl
 subst had
 obtain ⟨hA,⟨pos,ab,ho⟩,_⟩:=h1
 refine ⟨S'++[⟨true,MV Z a⟩],by simp,hR.mem haj (by unfold br; rw [ho]; rfl) (fq S' hR),fun j hj=>?_⟩
 by_cases h2:j < S'.length
 ·exact jo.more (hO j h2) h2
 ·obtain rfl:j=S'.length:=by omega
  exact jo.OB (V:=MV Z a) ho (by simp) rfl fun g r w hC hO hn iT=>hq S' _ rfl hR g r w hC hO hn iT pos ab
theorem ly.sub {ms Ax:MM} {a:ep} {t:Nat} (h:ly ms t a Ax):a∈ms∧a.d=t∧(∀ b∈Ax,b∈ms)∧(Ax.map (·.j)).Sublist (ms.map (·.j)):=by
 induction h with
 | here=>exact ⟨by simp,rfl,fun b hb=>List.mem_cons_of_mem _ hb,by simp⟩
 | there _ ih=>
  obtain ⟨h1,h2,h3,h4⟩:=ih
  refine ⟨List.mem_cons_of_mem _ h1,h2,fun b hb=>?_,by simpa using h4⟩
  rcases List.mem_cons.1 hb with rfl | hb
  ·simp
  ·exact List.mem_cons_of_mem _ (h3 b hb)
theorem ja.sub {S':List gv} {sl:LQ} {ms Ax:MM} (h:ja Z l S' sl ms) (hm:∀ b∈Ax,b∈ms) (hn:(Ax.map (·.j)).Sublist (ms.map (·.j))):ja Z l S' sl Ax:=⟨h.v,fun a ha=>h.m a (hm a ha),h.s,h.d.sublist hn,h.t⟩
theorem R0 {mt:Nat} {t e et:TI} {E:ag Int} {z0:Int} {bt t1 t2 j2 d2 i d:Nat} {k:IntKind} {y:Int} {xs:List Int} {a1:ep} {ms fg sK:MM} {sl:LQ} {A:LN} {ty:TI} {as:LL} {ops:LO} {r0:NV} {w0:World} {H:LN} (hz:qp P t Int e E z0 bt) (h1:ly ms t1 a1 fg) (h2:ly fg t2 ⟨j2,d2,[],Nat,fun _ b=>.slice (some ⟨b,0,none⟩) 1 1,fun _ b=>[.row b [.int k y] et]⟩ sK) (h3:∀ u v,a1.ps u v=[.own (aK e (aA k)) (a1.rt u v) xs]) (h4:dx a1.j A=true) (h5:dx j2 A=true) (h6:U.getD i []=[a1.j])
  (hf:fits bt (xs.length+1)=some ()) (wY:n5 l mt U A (.call ⟨.builtin .append,#[.tmp t1,.tmp t2],#[t,t]⟩) d ty as ops i) (h:ir P Z l mt U r0 w0 H i sl ms) :
  ir P Z l mt U r0 w0 H (i+1) sl (⟨i,d,[],Value,fun _ v=>v,fun _ v=>[.own (aK e (aA k)) v (xs++[y])]⟩ :: fg):=by
 obtain ⟨S',hl,hR,hO⟩:=h
 subst hl
 obtain ⟨hA,⟨pos,ab,ho⟩,_⟩:=wY
 obtain ⟨b1,b2⟩:=iq hf
 obtain ⟨q1,hE,i',z,q3,q4,q5,q6,q7,q8⟩:=hz.h
 obtain ⟨m1,m2,m3,m4⟩:=h1.sub
 obtain ⟨n1,n2,_,_⟩:=h2.sub
 refine ⟨S'++[⟨true,MV Z ⟨S'.length,d,[],Value,fun _ v=>v,fun _ v=>[.own (aK e (aA k)) v (xs++[y])]⟩⟩],by simp,(hR.sub m3 m4).mem rfl (by unfold br; rw [ho]; rfl) (by intro t h; cases h),fun j hj=>?_⟩
 by_cases bc:j < S'.length
 ·exact jo.more (hO j bc) bc
 ·obtain rfl:j=S'.length:=by omega
  intro o' s' bw db g r w hC wk jg hn iT sL mz
  rw [ho] at bw
  cases bw
  rw [List.getElem?_append_right (Nat.le_refl _),Nat.sub_self] at db
  cases db
  rw [if_pos rfl]
  refine ⟨rfl,?_⟩
  have get:∀ a∈ms,dx a.j A=true→MV Z a (g a.j) w r (r a.d):=fun a hm hb=>by
   exact hR.w5 hm (hn a.j (j7 (by rw [← hA]; exact iv.1 hb)).2)
  obtain ⟨v1,c1,c2,c3⟩:=get a1 m1 h4
  obtain ⟨v2,f1,f2,f3⟩:=get _ (m3 _ n1) h5
  rw [h3,← c1,m2] at c2
  rw [m2] at c1
  simp only at f1 f2
  subst n2
  replace c2:=c2.own rfl
  replace f2:=f2.own rfl
  generalize wj:g a1.j=G1 at c2 c3
  generalize gx:g j2=G2 at f2 f3
  cases c2 with
  | fact h _=>exact h.elim
  | @own _ ff F0 _ w8 su=>
   cases su
   rw [List.append_nil] at c3
   cases f2 with
   | fact h _=>exact h.elim
   | @own _ gg F0 _ bh su=>
    cases su
    obtain ⟨rfl,bh⟩:=bh
    have hb:kj g (U.getD S'.length [])=ff:=by rw [h6]; simp [kj,wj]
    refine nr (fc.s9 (E:=aA k) (F:=ff) q1 q3 q4 q5 rfl q6 (s:=.tmp t1) (x:=.tmp d2) rfl ⟨w8,c3⟩ (fun b hb=>hb) f1 bh ⟨rfl,rfl⟩ (by rw [q7]; exact b1) b2) ?_
    rintro v w' ⟨wm,f',tx,hV⟩
    rw [hb]
    refine ⟨wm,f',tx,v,rfl,?_,hV.2⟩
    have:=HL.own (Z:=fun _=>False) (e:=.own (aK e (aA k)) v (xs++[y])) (f:=f') hV.1 .nil
    exact .inl (by simpa using this)
theorem fc.tU {α:Type} {E:ag α} {F f k:LN} {t e:TI} {s x:OO} {i:TypeInfo} {z:Value} {sv yv:Value} {xs ys:List α} {r:NV} {w:World} {d:Option Nat} {ty:TI} {pos:String} {ab:Array Edge} (TW:∀ {h cs x f},E.rep h cs x f→f=[])
  (ht:P.underlying t=some (.slice e)) (hi:P.info? e=some i) (hz:i.zero=some z) (hs:i.size=1) (hE:E.size=1) (yJ:z.oneCell'=true)
  (tW:ev r s=sv) (hO:Et (aK e E) xs f w sv) (hF:∀ b∈f,b∈F) (hx:ev r x=yv) (hy:(aD E).rep w.heap [yv] ys k)
  (hb:(xs.length+ys.length) * i.bytes≤140737488355328) (xU:xs.length+ys.length≤maxLen) :
  fc P ⟨d,.call ⟨.builtin .append,#[s,x],#[t,t]⟩,ty,pos,ab,none⟩ r w fun v w'=>an F w w'∧∃ f',(∀ b∈f',(b∈F∨w.heap.size≤b)∧b < w'.heap.size)∧Et (aK e E) (xs++ys) f' w' v:=by
 have sa:=E3 hy
 rcases Nat.eq_zero_or_pos ys.length with yK | yK
 ·obtain rfl:ys=[]:=List.eq_nil_of_length_eq_zero yK
  obtain ⟨b0,c0,AU⟩:=s7 hy
  obtain ⟨base,cap,hv,hr⟩:=hO.1
  obtain rfl:sv = .slice base xs.length cap:=by simpa using hv
  have Gy:xs.length≤cap:=by
   rcases hr with ⟨_,rfl,rfl,_⟩ | ⟨_,_,_,_,_,_,h,_⟩
   ·simp
   ·exact h
  have iw:=yL (P:=P) (w:=w) (ty:=ty) ht hi (b:=base) (a:=b0) (c:=c0) Gy
  subst AU
  have zF:(execOp (ev r) ⟨d,.call ⟨.builtin .append,#[s,x],#[t,t]⟩,ty,pos,ab,none⟩).run P w = .ok (.value (.slice base xs.length cap)) w:=by
   simp only [execOp,resolve,invoke,builtin,Sem.run_bind,Sem.run_pure,Result.andThen_ok,List.map_toArray,List.map_cons,List.map_nil,tW,hx,List.length_nil,iw]
  unfold fc
  rw [zF]
  exact ⟨an.refl _ _,f,fun b hb=>⟨.inl (hF b hb),ag.lt _ hO.1 b hb⟩,by rw [List.append_nil]; exact hO⟩
 ·rcases sa with rfl | ⟨a,c,news,g1,AU,zG,dq,_⟩
  ·simp at yK
  ·obtain ⟨rfl,_⟩:=AV (h':=w.heap) TW dq
   obtain ⟨v,w',f',h,hC,FX,cg,cn⟩:=mw (d:=d) (ty:=ty) (pos:=pos) (ab:=ab) (g:=none) ht hi hz (by rw [hs,hE]) (by rw [cells_one yJ,hE]; rfl) tW hO.1 hO.2 (hx.trans AU) zG dq (fun _ h=>nomatch h) yK hb xU
   unfold fc
   rw [h]
   refine ⟨hC.mono hF,f',fun b hb=>⟨?_,ag.lt _ FX b hb⟩,FX,cn List.nodup_nil⟩
   rcases cg b hb with h | h | h
   ·exact .inl (hF b h)
   ·cases h
   ·exact .inr h
theorem OC {mt:Nat} {t e:TI} {E:ag Int} {z0:Int} {bt t1 t2 i d:Nat} {k:IntKind} {xs ys:List Int} {a1:ep} {ms fg:MM} {sl:LQ} {A:LN} {ty:TI} {as:LL} {ops:LO} {r0:NV} {w0:World} {H:LN} {o1 o2:Bool} {yv:Value} {Γ Γx:QE} {F:LN} (hz:qp P t Int e E z0 bt) (h1:ly ms t1 a1 fg) (h3:∀ u v,a1.ps u v=[.own (aK e (aA k)) (a1.rt u v) xs]) (h4:dx a1.j A=true) (h6:U.getD i []=[a1.j]) (hh:lz l mt base=true) (ha:cu r0 base) (hv:eD A none sl base fr) (hx:look fr t2=some yv) (hr:ll Γ yv o1 o2 (aA k) ys px Γx) (hS:∀ w,an H w0 w→SA Z w Γ [] F)
  (hf:fits bt (xs.length+ys.length)=some ()) (wY:n5 l mt U A (.call ⟨.builtin .append,#[.tmp t1,.tmp t2],#[t,t]⟩) d ty as ops i) (h:ir P Z l mt U r0 w0 H i sl ms) :
  ir P Z l mt U r0 w0 H (i+1) sl (⟨i,d,[],Value,fun _ v=>v,fun _ v=>[.own (aK e (aA k)) v (xs++ys)]⟩ :: fg):=by
 obtain ⟨S',hl,hR,hO⟩:=h
 subst hl
 obtain ⟨hA,⟨pos,ab,ho⟩,_⟩:=wY
 obtain ⟨b1,b2⟩:=iq hf
 obtain ⟨q1,hE,i',z,q3,q4,q5,q6,q7,q8⟩:=hz.h
 obtain ⟨m1,m2,m3,m4⟩:=h1.sub
 refine ⟨S'++[⟨true,MV Z ⟨S'.length,d,[],Value,fun _ v=>v,fun _ v=>[.own (aK e (aA k)) v (xs++ys)]⟩⟩],by simp,(hR.sub m3 m4).mem rfl (by unfold br; rw [ho]; rfl) (by intro t h; cases h),fun j hj=>?_⟩
 by_cases bc:j < S'.length
 ·exact jo.more (hO j bc) bc
 ·obtain rfl:j=S'.length:=by omega
  intro o' s' bw db g r w hC wk jg hn iT sL mz
  rw [ho] at bw
  cases bw
  rw [List.getElem?_append_right (Nat.le_refl _),Nat.sub_self] at db
  cases db
  rw [if_pos rfl]
  refine ⟨rfl,?_⟩
  have get:∀ a∈ms,dx a.j A=true→MV Z a (g a.j) w r (r a.d):=fun a hm hb=>by
   exact hR.w5 hm (hn a.j (j7 (by rw [← hA]; exact iv.1 hb)).2)
  obtain ⟨v1,c1,c2,c3⟩:=get a1 m1 h4
  rw [h3,← c1,m2] at c2
  rw [m2] at c1
  replace c2:=c2.own rfl
  have AU:ev r (.tmp t2)=yv:=l7 hR hA hv (jf hh ha iT) jg t2 yv hx
  obtain ⟨_,_,⟨⟨kk,Ki,_⟩,_⟩,_⟩:=hr.sound (hS w hC)
  generalize wj:g a1.j=G1 at c2 c3
  cases c2 with
  | fact h _=>exact h.elim
  | @own _ ff F0 _ w8 su=>
   cases su
   rw [List.append_nil] at c3
   have hb:kj g (U.getD S'.length [])=ff:=by rw [h6]; simp [kj,wj]
   refine nr (fc.tU (E:=aA k) (F:=ff) tV q1 q3 q4 q5 rfl q6 (s:=.tmp t1) (x:=.tmp t2) rfl ⟨w8,c3⟩ (fun b hb=>hb) AU Ki (by rw [q7]; exact b1) b2) ?_
   rintro v w' ⟨wm,f',tx,hV⟩
   rw [hb]
   refine ⟨wm,f',tx,v,rfl,?_,hV.2⟩
   have:=HL.own (Z:=fun _=>False) (e:=.own (aK e (aA k)) v (xs++ys)) (f:=f') hV.1 .nil
   exact .inl (by simpa using this)
theorem OD {mt:Nat} {t e:TI} {E:ag Int} {z0:Int} {bt t1 t2 i d:Nat} {k:IntKind} {xs ys:List Int} {a1:ep} {ms fg:MM} {sl:LQ} {A:LN} {ty:TI} {as:LL} {ops:LO} {r0:NV} {w0:World} {H:LN} {e2:TI} {a2:ep} {sK:MM} (hz:qp P t Int e E z0 bt) (h1:ly ms t1 a1 fg) (h3:∀ u v,a1.ps u v=[.own (aK e (aA k)) (a1.rt u v) xs]) (h4:dx a1.j A=true) (h6:U.getD i []=[a1.j]) (h2:ly fg t2 a2 sK) (h7:∀ u v,a2.ps u v=[.own (aK e2 (aA k)) (a2.rt u v) ys]) (h5:dx a2.j A=true)
  (hf:fits bt (xs.length+ys.length)=some ()) (wY:n5 l mt U A (.call ⟨.builtin .append,#[.tmp t1,.tmp t2],#[t,t]⟩) d ty as ops i) (h:ir P Z l mt U r0 w0 H i sl ms) :
  ir P Z l mt U r0 w0 H (i+1) sl (⟨i,d,[],Value,fun _ v=>v,fun _ v=>[.own (aK e (aA k)) v (xs++ys)]⟩ :: fg):=by
 obtain ⟨S',hl,hR,hO⟩:=h
 subst hl
 obtain ⟨hA,⟨pos,ab,ho⟩,_⟩:=wY
 obtain ⟨b1,b2⟩:=iq hf
 obtain ⟨q1,hE,i',z,q3,q4,q5,q6,q7,q8⟩:=hz.h
 obtain ⟨m1,m2,m3,m4⟩:=h1.sub
 obtain ⟨n1,n2,_,_⟩:=h2.sub
 refine ⟨S'++[⟨true,MV Z ⟨S'.length,d,[],Value,fun _ v=>v,fun _ v=>[.own (aK e (aA k)) v (xs++ys)]⟩⟩],by simp,(hR.sub m3 m4).mem rfl (by unfold br; rw [ho]; rfl) (by intro t h; cases h),fun j hj=>?_⟩
 by_cases bc:j < S'.length
 ·exact jo.more (hO j bc) bc
 ·obtain rfl:j=S'.length:=by omega
  intro o' s' bw db g r w hC wk jg hn iT sL mz
  rw [ho] at bw
  cases bw
  rw [List.getElem?_append_right (Nat.le_refl _),Nat.sub_self] at db
  cases db
  rw [if_pos rfl]
  refine ⟨rfl,?_⟩
  have get:∀ a∈ms,dx a.j A=true→MV Z a (g a.j) w r (r a.d):=fun a hm hb=>by
   exact hR.w5 hm (hn a.j (j7 (by rw [← hA]; exact iv.1 hb)).2)
  obtain ⟨v1,c1,c2,c3⟩:=get a1 m1 h4
  rw [h3,← c1,m2] at c2
  rw [m2] at c1
  replace c2:=c2.own rfl
  obtain ⟨v2,f1,f2,f3⟩:=get a2 (m3 _ n1) h5
  rw [h7,← f1,n2] at f2
  replace f2:=f2.own rfl
  have AU:ev r (.tmp t2)=r t2:=rfl
  obtain ⟨kk,Ki⟩ : ∃ kk,(aD (aA k)).rep w.heap [r t2] ys kk:=by
   generalize g a2.j=G2 at f2
   cases f2 with
   | fact h _=>exact h.elim
   | @own _ gg F0 _ w8 su=>exact ⟨_,(Le.own (Le.refl (aA k)) e2).le w8⟩
  generalize wj:g a1.j=G1 at c2 c3
  cases c2 with
  | fact h _=>exact h.elim
  | @own _ ff F0 _ w8 su=>
   cases su
   rw [List.append_nil] at c3
   have hb:kj g (U.getD S'.length [])=ff:=by rw [h6]; simp [kj,wj]
   refine nr (fc.tU (E:=aA k) (F:=ff) tV q1 q3 q4 q5 rfl q6 (s:=.tmp t1) (x:=.tmp t2) rfl ⟨w8,c3⟩ (fun b hb=>hb) AU Ki (by rw [q7]; exact b1) b2) ?_
   rintro v w' ⟨wm,f',tx,hV⟩
   rw [hb]
   refine ⟨wm,f',tx,v,rfl,?_,hV.2⟩
   have:=HL.own (Z:=fun _=>False) (e:=.own (aK e (aA k)) v (xs++ys)) (f:=f') hV.1 .nil
   exact .inl (by simpa using this)
theorem vv {t:TI} {x y:OO} {i:TypeInfo} {b off:Nat} {cs us:LV} {e:TI} {r:NV} {d:Option Nat} {ty:TI} {pos:String} {ab:Array Edge} {gg:Option (Nat×Bool)}
  (hi:P.info? t=some i) (hs:us.length=i.size) (bh:Row w b cs e) (hl:off+us.length≤cs.length) (hx:ev r x = .pointer (some ⟨b,off,none⟩)) (hy:(ev r y).cells.toList=us) (hu:∀ u∈us,u.oneCell'=true) :
  (execOp (ev r) ⟨d,.store t x y,ty,pos,ab,gg⟩).run P w = .ok .skip (w.setRow b (cs.take off++us++cs.drop (off+us.length)).toArray):=by
 have h:=run_storeCells_at P b off e us 0 cs.toArray w bh (by simpa using hl) hu
 simp only [Nat.add_zero] at h
 have sM:(ev r y).cells=us.toArray:=by rw [← hy]
 simp only [execOp,Instr.storeAt,Instr.sureAddr,hx,storeVar]
 simp [sM,sizeOf,typeInfo,hi,hs,h]
theorem R1 {mt:Nat} {t e:TI} {t1 j1 n i:Nat} {y:OO} {u:Value} {us cs ds:LV} {ms fg:MM} {sl:LQ} {A:LN} {ty:TI} {as:LL} {ops:LO} {r0:NV} {w0:World} {H:LN} {Γ:QE} {F:LN} (hh:lz l mt base=true) (ha:cu r0 base) (ht:vI P t n)
  (h1:ly ms t1 ⟨j1,t1,[],Nat,fun _ b=>.pointer (some ⟨b,0,none⟩),fun _ b=>[.row b cs e]⟩ fg) (hv:eD A none sl base fr) (hy:bm fr y=some u) (hc:sI Γ u us) (nz:us.length=n) (hs:bb us 0 cs ds) (ho:bd Γ us) (h4:dx j1 A=true) (h6:U.getD i []=[j1])
  (hS:∀ w,an H w0 w→SA Z w Γ [] F) (wY:TV l mt U A (.store t (.tmp t1) y) ty as ops i) (h:ir P Z l mt U r0 w0 H i sl ms) :
  ir P Z l mt U r0 w0 H (i+1) sl (⟨i,t1,[],Nat,fun _ b=>.pointer (some ⟨b,0,none⟩),fun _ b=>[.row b ds e]⟩ :: fg):=by
 obtain ⟨S',hl,hR,hO⟩:=h
 subst hl
 obtain ⟨hA,⟨pos,ab,Yp⟩,_⟩:=wY
 obtain ⟨ti,q1,q2⟩:=ht.h
 obtain ⟨m1,_,m3,m4⟩:=h1.sub
 have zH:=j7 (by rw [← hA]; exact iv.1 h4)
 refine ⟨S'++[⟨true,L5 Z ⟨S'.length,t1,[],Nat,fun _ b=>.pointer (some ⟨b,0,none⟩),fun _ b=>[.row b ds e]⟩⟩],by simp,(hR.sub m3 m4).ZY (b:=⟨S'.length,t1,[],Nat,fun _ b=>.pointer (some ⟨b,0,none⟩),fun _ b=>[.row b ds e]⟩) rfl (by unfold br; rw [Yp]; rfl) (hR.slot m1 zH.1) rfl,fun j hj=>?_⟩
 by_cases bc:j < S'.length
 ·exact jo.more (hO j bc) bc
 ·obtain rfl:j=S'.length:=by omega
  intro o' s' bw db g r w hC wk jg hn iT sL mz
  rw [Yp] at bw
  cases bw
  rw [List.getElem?_append_right (Nat.le_refl _),Nat.sub_self] at db
  cases db
  rw [if_pos rfl]
  refine ⟨rfl,?_⟩
  obtain ⟨b,c1,c2,c3⟩:=hR.w5 m1 (hn j1 zH.2)
  simp only at c1 c2
  replace c2:=c2.own rfl
  generalize wj:g j1=G1 at c2 c3
  cases c2 with
  | fact h _=>exact h.elim
  | @own _ ff F0 _ w8 su=>
   cases su
   obtain ⟨rfl,bh⟩:=w8
   have hb:kj g (U.getD S'.length [])=[b]:=by rw [h6]; simp [kj,wj]
   have hr:=l7 hR hA hv (jf hh ha iT) jg
   obtain ⟨e1,e2⟩:=hs.eq
   have Gv:=hS w hC
   have iw:=vv (P:=P) (d:=none) (ty:=ty) (pos:=pos) (ab:=ab) (gg:=none) q1 (by rw [nz,q2]) bh e1 (x:=.tmp t1) c1 (y:=y) (by rw [aR hr hy]; exact hc.eq Gv) (ho.one Gv)
   unfold fc
   rw [iw,hb]
   have qc:=setRow_heap w b cs.toArray (cs.take 0++us++cs.drop (0+us.length)).toArray e _ bh
   have ZZ:b < w.heap.size:=bh.lt
   refine ⟨⟨rfl,rfl,rfl,Nat.le_refl _,by simp,fun j _ hj=>setRow_other w b j _ fun h=>hj (by simp [h])⟩,[b],fun b' cq=>?_,b,c1,?_,by simp⟩
   ·rw [List.mem_singleton.1 cq]
    exact ⟨.inl (by simp),by simpa using ZZ⟩
   ·refine .inl (HL.own (f:=[b]) ⟨rfl,?_⟩ .nil)
    rw [e2]
    exact qc
theorem R2 {mt:Nat} {t i d:Nat} {cs:LV} {sl:LQ} {ms:MM} {A:LN} {ty:TI} {as:LL} {ops:LO} {r0:NV} {w0:World} {H:LN} (hz:yE P t cs) (h1:n5 l mt U A (.alloc t) d ty as ops i) (h:ir P Z l mt U r0 w0 H i sl ms) :
   ir P Z l mt U r0 w0 H (i+1) sl (⟨i,d,[],Nat,fun _ b=>.pointer (some ⟨b,0,none⟩),fun _ b=>[.row b cs t]⟩ :: ms):=by
 obtain ⟨i',z,t1,t2,t3⟩:=hz.h
 refine h.mem h1 rfl rfl (fun _ _ _ h=>nomatch h) fun S' S2 hl hR g r w hC jg hn iT pos ab=>nr (fc.TO (cs:=cs) t1 t2 (by rw [← t3])) ?_
 rintro v w' ⟨hC,f,hf,b,e1,e2,bh⟩
 refine ⟨hC,f,hf,b,e2,?_,by rw [e1]; simp⟩
 have:=HL.own (Z:=fun _=>False) (e:=.row b cs t) (f:=[b]) ⟨rfl,bh⟩ .nil
 rw [e1]
 exact .inl (by simpa using this)
theorem TX {mt t n:Nat} {A:LN} {st:TI} {d:Nat} {ty:TI} {as:LL} {ops:LO} {i:Nat} {sl:LQ} {ms:MM} {r0:NV} {w0:World} {H:LN} (h:ir P Z l mt U r0 w0 H i sl ms) (h1:n5 l mt U A (.call ⟨.builtin .len,#[.tmp t],#[st]⟩) d ty as ops i) (ht:uW P st) (hi:lj ms) (fq:me A ms=true) (hx:∀ x:mq ms,TN (kq A ms x) (sr A ms x) t n):ir P Z l mt U r0 w0 H (i+1) ((i,d,.int .i64 (n:Int)) :: sl) ms:=by
 obtain ⟨S',hl,hR,hO⟩:=h
 subst hl
 obtain ⟨hA,⟨pos,ab,ho⟩,_⟩:=h1
 obtain ⟨e,i',q1,_,_⟩:=ht.h
 refine ⟨S'++[sV (.int .i64 (n:Int))],by simp,hR.val (by unfold br; rw [ho]; rfl),fun j hj=>?_⟩
 by_cases h2:j < S'.length
 ·exact jo.more (hO j h2) h2
 ·obtain rfl:j=S'.length:=by omega
  refine jo.val (v:=.int .i64 (n:Int)) ho (by simp) rfl fun g r w hC jg hn iT=>?_
  obtain ⟨x,hv,hE⟩:=xT hR hA hi fq hn
  obtain ⟨yM,TG⟩:=hx x
  have AW:=(qm hv wQ) t _ (by rw [List.append_nil]; exact yM)
  obtain ⟨_,_,_,_,hS⟩:=hE.front (Γ:=[]) (F:=[]) rfl
  rw [List.append_nil] at hS
  obtain ⟨b,c,rfl⟩:=TG.sound hS
  exact vJ q1 (x:=.tmp t) AW
theorem ir.dep {mt t:Nat} {A:LN} {op:Op} {d:Nat} {ty:TI} {as:LL} {ops:LO} {i:Nat} {sl:LQ} {ms:MM} {r0:NV} {w0:World} {H:LN} {X:Value→Value} (h:ir P Z l mt U r0 w0 H i sl ms) (h1:n5 l mt U A op d ty as ops i) (hi:lj ms) (fq:me A ms=true) (hj:∃ j,qi t ms=some j∧dx j A=true)
  (hq:∀ (r:NV) (x:mq ms),(∀ p∈kq A ms x,r p.1=p.2)→∀ w pos ab,(execOp (ev r) ⟨some d,op,ty,pos,ab,none⟩).run P w = .ok (.value (X (r t))) w):ir P Z l mt U r0 w0 H (i+1) sl (⟨i,d,[t],Unit,fun u _=>X u,fun _ _=>[]⟩ :: ms):=by
 refine h.mem h1 rfl rfl (fun S' hR t' ht=>by rw [List.mem_singleton.1 ht]; exact Es h1.A hR hj) ?_
 intro S' S2 hl hR g r w hC jg hn iT pos ab
 obtain ⟨x,hx,_⟩:=xT hR (by rw [hl]; exact h1.A) hi fq hn
 unfold fc
 rw [hq r x hx]
 exact ⟨an.refl _ _,[],fun b hb=>absurd hb List.not_mem_nil,(),rfl,.inl .nil,List.nodup_nil⟩
theorem R3 {mt:Nat} {t:TI} {ps:List (Nat×Operand)} {zc:LV} {pl:List (Nat×Nat)} {A:LN} {as:LL} {d:Nat} {ty:TI} {ops:LO} {i:Nat} {sl:LQ} {ms:MM} {fr:Fr} {hd Γ:QE} {B:Bs} {r0:NV} {w0:World} {H:LN} {X:Value→List Value} {ts:LN} (hh:lz l mt base=true) (hb:AM P t zc pl) (hi:lj ms) (fq:me A ms=true) (hj:Yl A ms ts=true) (hv:eD A none sl base fr)
   (hx:∀ x:mq ms,wC (sr A ms x++Γ) (kq A ms x++fr) pl ps zc (X (zB (xS (mF ms x)) ts))) (h1:n5 l mt U A (.build t ps.toArray) d ty as ops i) (ha:cu r0 base) (hs:rK B Z hd Γ H w0) (h:ir P Z l mt U r0 w0 H i sl ms) :
   ir P Z l mt U r0 w0 H (i+1) sl (⟨i,d,ts,Unit,fun u _=>.agg (X u).toArray,fun _ _=>[]⟩ :: ms):=by
 have Yq:∀ t∈ts,∃ j,qi t ms=some j∧dx j A=true:=fun t ht=>by
  have:=List.all_eq_true.1 hj t ht
  cases hf:qi t ms with
  | none=>rw [hf] at this; cases this
  | some j=>rw [hf] at this; exact ⟨j,rfl,this⟩
 refine h.mem h1 rfl rfl (fun S' hR t' ht=>Es h1.A hR (Yq t' ht)) ?_
 intro S' S2 hl hR g r w hC jg hn iT pos ab
 have hA:=h1.A
 rw [← hl] at hA
 have hbs:=l7 hR hA hv (jf hh ha iT) jg
 obtain ⟨x,Yr,tX⟩:=xT hR hA hi fq hn
 obtain ⟨F,Hd,⟨tY,wq,tk,wu⟩,hS,hG⟩:=hs
 obtain ⟨G,_,_,_,fw⟩:=tX.front (rK.stay hS hG hC)
 have e:zB (xS (mF ms x)) ts=zB r ts:=BY fun t ht=>by
  obtain ⟨j,h2,h3⟩:=Yq t ht
  unfold xS
  rw [Gw h2 h3 Yr]
 have hF:=hx x
 rw [e] at hF
 have iw:=(VQ.QT (P:=P) (hb:=hb) hF).sound fw (qm Yr hbs) (some d) ty pos ab none w (an.refl _ _)
 unfold fc
 rw [iw]
 exact ⟨an.refl _ _,[],fun b hb=>absurd hb List.not_mem_nil,(),rfl,.inl .nil,List.nodup_nil⟩
theorem R4 {mt:Nat} {α:Type} {t e:TI} {E:ag α} {z0:α} {bt i d:Nat} {sl:LQ} {ms:MM} {A:LN} {ty:TI} {as:LL} {ops:LO} {r0:NV} {w0:World} {H:LN} (hz:qp P t α e E z0 bt) (h1:n5 l mt U A (.buildSlice t 0 #[]) d ty as ops i) (h:ir P Z l mt U r0 w0 H i sl ms) :
   ir P Z l mt U r0 w0 H (i+1) sl (⟨i,d,[],Value,fun _ v=>v,fun _ v=>[.own (aK e E) v []]⟩ :: ms):=by
 obtain ⟨t1,_,i',z,t2,_⟩:=hz.h
 refine h.mem h1 rfl rfl (fun _ _ _ h=>nomatch h) fun S' S2 hl hR g r w hC jg hn iT pos ab=>nr (fc.made (zI (E:=E) t1 t2)) ?_
 rintro v w' ⟨hC,f,hf,hV⟩
 refine ⟨hC,f,hf,v,rfl,?_,hV.2⟩
 have:=HL.own (Z:=fun _=>False) (e:=.own (aK e E) v []) (f:=f) hV.1 .nil
 exact .inl (by simpa using this)
theorem TY {mt n:Nat} {α:Type} {t e:TI} {E:ag α} {z0:α} {bt i d:Nat} {sl:LQ} {ms:MM} {A:LN} {ty:TI} {as:LL} {ops:LO} {r0:NV} {w0:World} {H:LN} {x:OO} {z:Int} (hh:lz l mt base=true) (ha:cu r0 base) (hz:qp P t α e E z0 bt) (hv:eD A none sl base fr) (hx:bm fr x=some (.int .i64 z)) (hn:mk bt z=some n) (h1:n5 l mt U A (.makeSlice t x x) d ty as ops i) (h:ir P Z l mt U r0 w0 H i sl ms) :
   ir P Z l mt U r0 w0 H (i+1) sl (⟨i,d,[],Value,fun _ v=>v,fun _ v=>[.own (aK e E) v (List.replicate n z0)]⟩ :: ms):=by
 obtain ⟨e1,e2,e3⟩:=En hn
 obtain ⟨t1,hE,i',z',t2,t3,t4,t5,t6,t7⟩:=hz.h
 subst e1
 refine h.mem h1 rfl rfl (fun _ _ _ h=>nomatch h) fun S' S2 hl hR g r w hC jg hn iT pos ab=>?_
 have hb:=l7 hR (by rw [hl]; exact h1.A) hv (jf hh ha iT) jg
 refine nr (fc.made (Gz (E:=E) (z0:=z0) t1 t2 t3 t4 hE t5 t7 (aR hb hx) (aR hb hx) (by rw [t6]; exact e2) e3)) ?_
 rintro v w' ⟨hC,f,hf,hV⟩
 refine ⟨hC,f,hf,v,rfl,?_,hV.2⟩
 have:=HL.own (Z:=fun _=>False) (e:=.own (aK e E) v (List.replicate n z0)) (f:=f) hV.1 .nil
 exact .inl (by simpa using this)
theorem TZ {mt:Nat} {α:Type} {t e:TI} {E:ag α} {z0:α} {bt i d:Nat} {sl:LQ} {ms:MM} {A:LN} {ty:TI} {as:LL} {ops:LO} {r0:NV} {w0:World} {H:LN} {x:OO} {u:Value} {Γ:QE} {F:LN} (hh:lz l mt base=true) (ha:cu r0 base) (hz:qp P t α e E z0 bt) (hv:eD A none sl base fr) (hx:bm fr x=some u) (ho:One Γ u) (hS:∀ w,an H w0 w→SA Z w Γ [] F) (h1:n5 l mt U A (.buildSlice t 1 #[(0,x)]) d ty as ops i) (h:ir P Z l mt U r0 w0 H i sl ms) :
   ir P Z l mt U r0 w0 H (i+1) sl (⟨i,d,[],Nat,fun _ b=>.slice (some ⟨b,0,none⟩) 1 1,fun _ b=>[.row b [u] e]⟩ :: ms):=by
 obtain ⟨t1,hE,i',z',t2,t3,t4,t5,t6,t7⟩:=hz.h
 refine h.mem h1 rfl rfl (fun _ _ _ h=>nomatch h) fun S' S2 hl hR g r w hC jg hn iT pos ab=>?_
 have hb:=l7 hR (by rw [hl]; exact h1.A) hv (jf hh ha iT) jg
 refine nr (fc.Em t1 t2 t3 t4 (aR hb hx) (ho.one (hS w hC))) ?_
 rintro v w' ⟨hC,f,hf,b,e1,e2,bh⟩
 refine ⟨hC,f,hf,b,e2,?_,by rw [e1]; simp⟩
 have:=HL.own (Z:=fun _=>False) (e:=.row b [u] e) (f:=[b]) ⟨rfl,bh⟩ .nil
 rw [e1]
 exact .inl (by simpa using this)
theorem Jb {mt n:Nat} {t e:TI} {i d:Nat} {sl:LQ} {ms:MM} {A:LN} {ty:TI} {as:LL} {ops:LO} {r0:NV} {w0:World} {H:LN} {ps:List (Nat×Operand)} {us:LV} {Γ:QE} {F:LN} (hh:lz l mt base=true) (ha:cu r0 base) (hz:Gh P t e) (hv:eD A none sl base fr) (hd:u5 Γ fr 0 ps us) (hn:us.length=n) (hb:(Nat.ble 1 n && Nat.ble n 16777216)=true) (hS:∀ w,an H w0 w→SA Z w Γ [] F) (h1:n5 l mt U A (.buildSlice t n ps.toArray) d ty as ops i) (h:ir P Z l mt U r0 w0 H i sl ms) :
   ir P Z l mt U r0 w0 H (i+1) sl (⟨i,d,[],Nat,fun _ b=>.slice (some ⟨b,0,none⟩) n n,fun _ b=>[.row b us e]⟩ :: ms):=by
 refine h.mem h1 rfl rfl (fun _ _ _ h=>nomatch h) fun S' S2 hl hR g r w hC jg hnn iT pos ab=>?_
 have cq:=l7 hR (by rw [hl]; exact h1.A) hv (jf hh ha iT) jg
 unfold fc
 rw [hd.op cq (hS w hC) hz hn hb]
 refine ⟨an.alloc _ _ _,[w.heap.size],fun b hb=>by rw [List.mem_singleton.1 hb]; simp,w.heap.size,rfl,?_,by simp⟩
 have:=HL.own (Z:=fun _=>False) (e:=.row w.heap.size us e) (f:=[w.heap.size]) ⟨rfl,heap_alloc_new w _⟩ .nil
 exact .inl (by simpa using this)
theorem R5 {mt t:Nat} {α:Type} {s e:TI} {E:ag α} {z0:α} {bt i d:Nat} {sl:LQ} {ms:MM} {A:LN} {ty:TI} {as:LL} {ops:LO} {r0:NV} {w0:World} {H:LN} (hz:qp P s α e E z0 bt) (hi:lj ms) (fq:me A ms=true) (hj:∃ j,qi t ms=some j∧dx j A=true) (hx:∀ x:mq ms,Ow (kq A ms x) (sr A ms x) t) (h1:n5 l mt U A (.buildSlice s 1 #[(0,.tmp t)]) d ty as ops i) (h:ir P Z l mt U r0 w0 H i sl ms) :
   ir P Z l mt U r0 w0 H (i+1) sl (⟨i,d,[t],Nat,fun _ b=>.slice (some ⟨b,0,none⟩) 1 1,fun u b=>[.row b [u] e]⟩ :: ms):=by
 obtain ⟨t1,hE,i',z',t2,t3,t4,t5,t6,t7⟩:=hz.h
 refine h.mem h1 rfl rfl (fun S' hR t' ht=>by rw [List.mem_singleton.1 ht]; exact Es h1.A hR hj) ?_
 intro S' S2 hl hR g r w hC jg hn iT pos ab
 obtain ⟨x,hv,hE⟩:=xT hR (by rw [hl]; exact h1.A) hi fq hn
 obtain ⟨yM,tH⟩:=hx x
 have AW:r t=_:=(qm hv wQ) t _ (by rw [List.append_nil]; exact yM)
 obtain ⟨_,_,_,_,hS⟩:=hE.front (Γ:=[]) (F:=[]) rfl
 rw [List.append_nil] at hS
 refine nr (fc.Em t1 t2 t3 t4 (x:=.tmp t) rfl (by show (r t).oneCell'=true; rw [AW]; exact tH.one hS)) ?_
 rintro v w' ⟨hC,f,hf,b,e1,e2,bh⟩
 refine ⟨hC,f,hf,b,e2,?_,by rw [e1]; simp⟩
 have:=HL.own (Z:=fun _=>False) (e:=.row b [r t] e) (f:=[b]) ⟨rfl,bh⟩ .nil
 rw [e1]
 exact .inl (by simpa [va,zB] using this)
theorem OF {mt:Nat} {β V:Type} {A:LN} {as:LL} {d:Nat} {f:FuncId} {xs:List Operand} {ak:Array TypeId} {ty:TI} {mo:Option β} {rt:β→V→List Value} {ps:β→V→List aw} {ops:LO} {i:Nat} {sl:LQ} {ms:MM} {fr:Fr} {hd Γ:QE} {B:Bs} {r0:NV} {w0:World} {H:LN} {y:β} (hh:lz l mt base=true) (hf:bu P f) (hv:eD A none sl base fr)
   (hc:∀ x:mq ms,Ka P f xs (kq A ms x++fr) (sr A ms x++Γ) mo rt ps) (hi:lj ms) (fq:me A ms=true) (hw:∀ y v,sG (ps y v)=true) (h1:n5 l mt U A (.call ⟨.value (.func f),xs.toArray,ak⟩) d ty as ops i) (hy:mo=some y) (ha:cu r0 base) (hs:rK B Z hd Γ H w0) (h:ir P Z l mt U r0 w0 H i sl ms) :
   CK P Z l mt U r0 w0 H i sl ms ⟨i,d,[],V,fun _ v=>nq (rt y v),fun _=>ps y⟩:=by
 obtain ⟨S',hl,hR,hO⟩:=h
 subst hl
 refine ⟨S',rfl,hR,hO,fun V' hV=>?_⟩
 obtain ⟨hA,⟨pos,ab,ho⟩,_⟩:=h1
 refine jo.OB (V:=V') ho (by simp) rfl fun g r w hC jg hn iT=>?_
 have hb:=l7 hR hA hv (jf hh ha iT) jg
 obtain ⟨x,hx,tX⟩:=xT hR hA hi fq hn
 obtain ⟨AX,sN,hd,hr⟩:=hc x
 obtain ⟨fn,c,f1,f2,f3⟩:=hf.h
 refine Calls.BW f1 f2 f3 ?_
 rw [qk (qm hx hb) AX]
 obtain ⟨F,Hd,⟨tY,wq,tk,wu⟩,hS,hG⟩:=hs
 obtain ⟨G,ju,FV,Du,fw⟩:=tX.front (rK.stay hS hG hC)
 rw [qb] at sN
 refine (sN.2 w (fun b=>Z b∨b∈G) [] (hr.sound (fun _ h=>h) (fun _ b hb=>.inr (Du b hb)) fw hd.ho) List.nodup_nil (fun b hb=>absurd hb List.not_mem_nil)
  (fun b hb=>hb.elim (fun h=>Nat.lt_of_lt_of_le (hG.ml b h) hC.size) fun h=>(ju b h).2) y hy).mono ?_
 rintro e w' ⟨v,he,Z2,F2,py,gx⟩
 have E4:HL (fun _=>False) w' (ps y v) F2:=yG (hw y v) py
 have bc:=(E4.front (Γ:=[]) (F:=[]) rfl).lt
 obtain ⟨f',cg,AY⟩:=hV F2 w' r _ ⟨v,rfl,.inl E4,gx.nd⟩
 refine ⟨_,he,gx.iH,f',fun b hb=>⟨(gx.low b (cg b hb)).resolve_left List.not_mem_nil,bc b (by simpa using cg b hb)⟩,AY⟩
theorem GA {A:LN} {g:Nat→List Nat} {b:Nat}:∀ {ms:MM},b∈AT A g ms→∃ a∈ms,dx a.j A=true∧b∈g a.j:=by
 intro ms
 induction ms with
 | nil=>intro h; exact absurd h List.not_mem_nil
 | cons a l ih=>
  intro h
  unfold AT at h
  cases hb:dx a.j A with
  | true=>
   rw [hb] at h
   rcases List.mem_append.1 h with h | h
   ·exact ⟨a,by simp,hb,h⟩
   ·obtain ⟨c,h1,h2⟩:=ih h; exact ⟨c,List.mem_cons_of_mem _ h1,h2⟩
  | false=>rw [hb] at h; obtain ⟨c,h1,h2⟩:=ih h; exact ⟨c,List.mem_cons_of_mem _ h1,h2⟩
theorem zJ {mt i:Nat} (h:((U.set i []).all fun us=>!(us.contains l.length))=true):zK l U mt i=true:=by
 unfold zK
 simp only [List.all_eq_true,List.mem_range,Bool.or_eq_true,Bool.not_eq_true'] at h ⊢
 intro k _
 by_cases hk:k=i
 ·exact .inl (.inr (by rw [hk]; exact Nat.beq_refl i))
 ·refine .inl (.inl ?_)
  rw [List.getD_eq_getElem?_getD]
  cases hu:U[k]? with
  | none=>rfl
  | some us=>exact h us (List.mem_of_getElem? (i:=k) (by rw [List.getElem?_set_ne (fun e=>hk e.symm)]; exact hu))
theorem HO.mono {Z':Nat→Prop} (hz:∀ b,Z b→Z' b) {Δ:QE} {F:LN} (h:HO Z w Δ F):HO Z' w Δ F:=by
 induction h with
 | nil=>exact .nil
 | own h _ ih=>exact .own (h.mono hz) ih
 | rd _ ih=>exact .rd ih
 | ak _ ih=>exact .ak ih
theorem Mc {mt:Nat} {β V:Type} {A:LN} {as:LL} {d:Nat} {f:FuncId} {xs:List Operand} {ak:Array TypeId} {ty:TI} {mo:Option β} {rt:β→V→List Value} {ps:β→V→List aw} {ops:LO} {i:Nat} {sl:LQ} {ms:MM} {fr:Fr} {hd Γ:QE} {B:Bs} {r0:NV} {w0:World} {H:LN} {y:β} (hh:lz l mt base=true) (hf:bu P f) (hv:eD A none sl base fr)
   (hU:U.getD i []=[l.length]) (AZ:((U.set i []).all fun us=>!(us.contains l.length))=true)
   (hc:∀ x:mq ms,Dr P f xs (kq A ms x++fr) hd (sr A ms x++Γ) mo rt ps) (hi:lj ms) (fq:me A ms=true) (hw:∀ y v,sG (ps y v)=true) (h1:n5 l mt U A (.call ⟨.value (.func f),xs.toArray,ak⟩) d ty as ops i) (hy:mo=some y) (ha:cu r0 base) (hs:rK B Z hd Γ H w0) (h:ir P Z l mt U r0 w0 H i sl ms) :
   CK P Z l mt U r0 w0 H i sl ms ⟨i,d,[],V,fun _ v=>nq (rt y v),fun _=>ps y⟩:=by
 obtain ⟨S',hl,hR,hO⟩:=h
 subst hl
 refine ⟨S',rfl,hR,hO,fun V' hV=>?_⟩
 obtain ⟨hA,⟨pos,ab,ho⟩,_⟩:=h1
 intro o' s' bw db g r w hC wk jg hn iT sL mz
 rw [ho] at bw
 cases bw
 rw [List.getElem?_append_right (Nat.le_refl _),Nat.sub_self] at db
 cases db
 rw [if_pos rfl]
 refine ⟨rfl,?_⟩
 obtain ⟨GB,GC,GD⟩:=wk (zJ AZ)
 have hb:=l7 hR hA hv (jf hh ha iT) jg
 obtain ⟨x,hx,tX⟩:=xT hR hA hi fq hn
 obtain ⟨AX,sN,GF,hr⟩:=hc x
 obtain ⟨fn,c,f1,f2,f3⟩:=hf.h
 refine Calls.BW f1 f2 f3 ?_
 rw [qk (qm hx hb) AX]
 obtain ⟨F,Hd,⟨tY,wq,tk,wu⟩,hS,hG⟩:=hs
 obtain ⟨G,ju,FV,Du,fw⟩:=tX.front (rK.stay hS hG hC)
 obtain ⟨Fd,F',GG,_,yN⟩:=GF.sound (tY.gf GB)
 have cg:∀ b∈Fd,b∈H:=fun b hb=>(wq b (yN.mem_iff.1 (List.mem_append_left _ hb))).1
 have cn:=List.nodup_append.1 hG.nd
 have hblk:kj g (U.getD S'.length [])=H:=by rw [hU]; simp [kj,GC]
 rw [hblk]
 rw [qb] at sN
 refine (sN.2 w (fun b=>Z b∨b∈G) Fd (hr.sound (fun _ h=>h) (fun _ b hb=>.inr (Du b hb)) fw (GG.mono fun _ h=>.inl h)) ((yN.nodup_iff.2 wu).sublist (List.sublist_append_left _ _)) (fun b hb=>?_)
  (fun b hb=>hb.elim (fun h=>Nat.lt_of_lt_of_le (hG.ml b h) hC.size) fun h=>(ju b h).2) y hy).mono ?_
 ·rintro (hz | hz)
  ·exact hG.apart b (List.mem_append_left _ (cg b hb)) hz
  ·rcases List.mem_append.1 (ju b hz).1 with hz | hz
   ·obtain ⟨a,Ys,uE,qt⟩:=GA hz
    have h2:=GD a.j (j7 (by rw [← hA]; exact iv.1 uE)).1 b qt
    have h3:=tk b (cg b hb)
    omega
   ·exact cn.2.2 b (cg b hb) b hz rfl
 ·rintro e w' ⟨v,he,Z2,F2,py,gx⟩
  have E4:HL (fun _=>False) w' (ps y v) F2:=yG (hw y v) py
  have bc:=(E4.front (Γ:=[]) (F:=[]) rfl).lt
  obtain ⟨f',Dv,AY⟩:=hV F2 w' r _ ⟨v,rfl,.inl E4,gx.nd⟩
  exact ⟨_,he,gx.iH.mono cg,f',fun b hb=>⟨(gx.low b (Dv b hb)).imp (cg b) id,bc b (by simpa using Dv b hb)⟩,AY⟩
theorem zD.sub {ms Ax:MM} {a:ep} {t:Nat} (h:zD ms t a Ax):a∈ms∧a.j=t∧(∀ b∈Ax,b∈ms)∧(Ax.map (·.j)).Sublist (ms.map (·.j))∧((ms.map (·.j)).Nodup→∀ b∈Ax,b.j≠t):=by
 induction h with
 | here=>exact ⟨by simp,rfl,fun b hb=>List.mem_cons_of_mem _ hb,by simp,fun hn b hb he=>by rw [List.map_cons,List.nodup_cons] at hn; exact hn.1 (by rw [← he]; exact List.mem_map_of_mem hb)⟩
 | there _ ih=>
  obtain ⟨h1,h2,h3,h4,h5⟩:=ih
  refine ⟨List.mem_cons_of_mem _ h1,h2,fun b hb=>?_,by simpa using h4,fun hn b hb=>?_⟩
  ·rcases List.mem_cons.1 hb with rfl | hb
   ·simp
   ·exact List.mem_cons_of_mem _ (h3 b hb)
  ·rw [List.map_cons,List.nodup_cons] at hn
   rcases List.mem_cons.1 hb with rfl | hb
   ·intro he
    exact hn.1 (by rw [he,← h2]; exact List.mem_map_of_mem h1)
   ·exact h5 hn.2 b hb
theorem Md {mt:Nat} {β V:Type} {j1:Nat} {a1:ep} {A:LN} {as:LL} {d:Nat} {f:FuncId} {xs:List Operand} {ak:Array TypeId} {ty:TI} {mo:Option β} {rt:β→V→List Value} {ps:β→V→List aw} {ops:LO} {i:Nat} {sl:LQ} {ms fg:MM} {fr:Fr} {hd Γ:QE} {B:Bs} {r0:NV} {w0:World} {H:LN} {y:β} (hh:lz l mt base=true) (hf:bu P f) (hv:eD A none sl base fr)
   (hU:U.getD i []=[j1]) (wj:zD ms j1 a1 fg) (Ds:a1.src=[]) (h4:dx j1 A=true)
   (hc:∀ (q:a1.V) (x:mq fg),Dr P f xs (kq A fg x++fr) (a1.ps undef q) (sr A fg x++Γ) mo rt ps) (hi:lj fg) (fq:me A fg=true) (hw:∀ y v,sG (ps y v)=true) (h1:n5 l mt U A (.call ⟨.value (.func f),xs.toArray,ak⟩) d ty as ops i) (hy:mo=some y) (ha:cu r0 base) (hs:rK B Z hd Γ H w0) (h:ir P Z l mt U r0 w0 H i sl ms) :
   CK P Z l mt U r0 w0 H i sl fg ⟨i,d,[],V,fun _ v=>nq (rt y v),fun _=>ps y⟩:=by
 obtain ⟨S',hl,Jc,hO⟩:=h
 subst hl
 obtain ⟨m1,m2,m3,m4,m5⟩:=wj.sub
 have hR:=Jc.sub m3 m4
 refine ⟨S',rfl,hR,hO,fun V' hV=>?_⟩
 obtain ⟨hA,⟨pos,ab,ho⟩,_⟩:=h1
 intro o' s' bw db g r w hC wk jg hn iT sL mz
 rw [ho] at bw
 cases bw
 rw [List.getElem?_append_right (Nat.le_refl _),Nat.sub_self] at db
 cases db
 rw [if_pos rfl]
 refine ⟨rfl,?_⟩
 have zH:=j7 (by rw [← hA]; exact iv.1 h4)
 have hb:=l7 hR hA hv (jf hh ha iT) jg
 obtain ⟨x,hx,tX⟩:=xT hR hA hi fq hn
 obtain ⟨q,_,yO,Me⟩:=Jc.w5 m1 (hn a1.j (by rw [m2]; exact zH.2))
 have tW:va a1 r=undef:=by unfold va; rw [Ds]; rfl
 rw [tW,m2] at yO
 rw [m2] at Me
 obtain ⟨AX,sN,GF,hr⟩:=hc q x
 obtain ⟨fn,c,f1,f2,f3⟩:=hf.h
 refine Calls.BW f1 f2 f3 ?_
 rw [qk (qm hx hb) AX]
 obtain ⟨F,Hd,⟨tY,wq,tk,wu⟩,hS,hG⟩:=hs
 have GH:=rK.stay hS hG hC
 obtain ⟨G,ju,FV,Du,fw⟩:=tX.front GH
 obtain ⟨Fo,Fr,Je,A3,T0⟩:=yO.all
 have T1:SA (fun b=>Z b∨b∈Fr) w (a1.ps undef q) [] Fo:=by
  have:=T0.front (Γ:=[]) (F:=[]) rfl
  simpa using this
 have Mf:=List.nodup_append.1 (Je ▸ Me)
 obtain ⟨Fd,F',GG,_,yN⟩:=GF.sound T1
 have Dw:∀ b∈Fd,b∈Fo:=fun b hb=>yN.mem_iff.1 (List.mem_append_left _ hb)
 have cg:∀ b∈Fd,b∈g j1:=fun b hb=>by rw [Je]; exact List.mem_append_left _ (Dw b hb)
 have cn:=List.nodup_append.1 hG.nd
 have hblk:kj g (U.getD S'.length [])=g j1:=by rw [hU]; simp [kj]
 rw [hblk]
 rw [qb] at sN
 have E5:∀ b∈g j1,w0.heap.size≤b∨b∈H:=fun b hb=>(mz j1 zH.1 b hb).1
 refine (sN.2 w (fun b=>Z b∨b∈Fr++G) Fd (hr.sound (fun _ h=>h) (fun _ b hb=>.inr (List.mem_append_right _ (Du b hb))) (fw.mono (fun _ h=>h.imp id fun h=>List.mem_append_right _ h) fun _ h=>h) (GG.mono fun _ h=>h.imp id fun h=>List.mem_append_left _ h)) ((yN.nodup_iff.2 Mf.1).sublist (List.sublist_append_left _ _)) (fun b hb=>?_)
  (fun b hb=>hb.elim (fun h=>Nat.lt_of_lt_of_le (hG.ml b h) hC.size) fun h=>(List.mem_append.1 h).elim (A3 b) fun h=>(ju b h).2) y hy).mono ?_
 ·rintro (hz | hz)
  ·rcases E5 b (cg b hb) with h | h
   ·have:=hG.ml b hz; omega
   ·exact hG.apart b (List.mem_append_left _ h) hz
  ·rcases List.mem_append.1 hz with hz | hz
   ·exact Mf.2.2 b (Dw b hb) b hz rfl
   rcases List.mem_append.1 (ju b hz).1 with hz | hz
   ·obtain ⟨a,Ys,uE,qt⟩:=GA hz
    exact sL a.j (j7 (by rw [← hA]; exact iv.1 uE)).1 j1 zH.1 (m5 Jc.d a Ys) b qt (cg b hb)
   ·rcases E5 b (cg b hb) with h | h
    ·have:=hS.lt b hz; omega
    ·exact cn.2.2 b h b hz rfl
 ·rintro e w' ⟨v,he,Z2,F2,py,gx⟩
  have E4:HL (fun _=>False) w' (ps y v) F2:=yG (hw y v) py
  have bc:=(E4.front (Γ:=[]) (F:=[]) rfl).lt
  obtain ⟨f',Dv,AY⟩:=hV F2 w' r _ ⟨v,rfl,.inl E4,gx.nd⟩
  exact ⟨_,he,gx.iH.mono cg,f',fun b hb=>⟨(gx.low b (Dv b hb)).imp (cg b) id,bc b (by simpa using Dv b hb)⟩,AY⟩
theorem SA.app {Γ Γ':QE} {F F':LN}:∀ {cur:LN},SA Z w Γ' cur F'→SA Z w Γ [] F→SA Z w (Γ'++Γ) cur (F'++F):=by
 induction Γ' generalizing F' with
 | nil=>intro cur h hs; cases h; exact hs.any
 | cons e Γ' ih=>
  intro cur h hs
  cases e with
  | own T v x=>obtain ⟨f,F1,rfl,h1,h2⟩:=h; exact ⟨f,F1++F,by rw [List.append_assoc],h1,ih h2 hs⟩
  | om e E v xs=>obtain ⟨f,F1,rfl,h1,h2⟩:=h; exact ⟨f,F1++F,by rw [List.append_assoc],h1,ih h2 hs⟩
  | row b cs e=>obtain ⟨f,F1,rfl,h1,h2⟩:=h; exact ⟨f,F1++F,by rw [List.append_assoc],h1,ih h2 hs⟩
  | fl e E v xs j u=>obtain ⟨f,F1,rfl,h1,h2⟩:=h; exact ⟨f,F1++F,by rw [List.append_assoc],h1,ih h2 hs⟩
  | rd o T v x=>exact ⟨h.1,ih h.2 hs⟩
  | ad o1 o2 v j T x=>exact ⟨h.1,ih h.2 hs⟩
  | ak p cs=>exact ⟨h.1,ih h.2 hs⟩
  | hd v j u=>exact ⟨h.1,ih h.2 hs⟩
open Classical in
theorem T2 {w':World} {Zc Z2:Nat→Prop} {Fd F2 K:LN} {Δ:QE} (hl:HL Z2 w' Δ F2) (hg:Gd ⟨w,Zc,Fd⟩ Z2 F2 w') (hz:∀ b,Zc b→Z b∨b∈K) (hK:∀ b∈Fd,b∈K) :
  ∃ f,(∀ b∈f,(b∈K∨w.heap.size≤b)∧b < w'.heap.size)∧HN Z w' Δ f∧f.Nodup:=by
 have bc:=(hl.front (Γ:=[]) (F:=[]) rfl).lt
 by_cases ho:sG Δ=true
 ·exact ⟨F2,fun b hb=>⟨(hg.low b hb).imp (hK b) id,bc b (by simpa using hb)⟩,.inl (yG ho hl),hg.nd⟩
 ·let Fr:=(List.range w'.heap.size).filter fun b=>decide (Z2 b∧(b∈K∨w.heap.size≤b))
  have A3:∀ b,b∈Fr↔b < w'.heap.size∧Z2 b∧(b∈K∨w.heap.size≤b):=fun b=>by simp [Fr]
  refine ⟨F2++Fr,fun b hb=>?_,.inr ⟨F2,Fr,rfl,⟨by simpa using ho,fun b hb=>((A3 b).1 hb).1⟩,hl.mono fun b hb=>?_⟩,?_⟩
  ·rcases List.mem_append.1 hb with hb | hb
   ·exact ⟨(hg.low b hb).imp (hK b) id,bc b (by simpa using hb)⟩
   ·exact ⟨((A3 b).1 hb).2.2,((A3 b).1 hb).1⟩
  ·rcases hg.tj b hb with h | h | h
   ·rcases hz b h with h | h
    ·exact .inl h
    ·exact .inr ((A3 b).2 ⟨hg.ml b hb,hb,.inl h⟩)
   ·exact .inr ((A3 b).2 ⟨hg.ml b hb,hb,.inl (hK b h)⟩)
   ·exact .inr ((A3 b).2 ⟨hg.ml b hb,hb,.inr h⟩)
  ·refine tZ hg.nd (List.nodup_range.filter _) fun b hb hf=>hg.apart b hb ((A3 b).1 hf).2.1
theorem Mg {mt:Nat} {β V:Type} {A:LN} {as:LL} {d:Nat} {f:FuncId} {xs:List Operand} {ak:Array TypeId} {ty:TI} {mo:Option β} {rt:β→V→List Value} {ps:β→V→List aw} {ops:LO} {i:Nat} {sl:LQ} {ms:MM} {fr:Fr} {hd Γ:QE} {B:Bs} {r0:NV} {w0:World} {H:LN} {y:β} (hh:lz l mt base=true) (hf:bu P f) (hv:eD A none sl base fr)
   (hc:∀ x:mq ms,Kc P f xs (kq A ms x++fr) Γ mo rt ps) (hi:lj ms) (fq:me A ms=true) (h1:n5 l mt U A (.call ⟨.value (.func f),xs.toArray,ak⟩) d ty as ops i) (hy:mo=some y) (ha:cu r0 base) (hs:rK B Z hd Γ H w0) (h:ir P Z l mt U r0 w0 H i sl ms) :
   CK P Z l mt U r0 w0 H i sl ms ⟨i,d,[],V,fun _ v=>nq (rt y v),fun _=>ps y⟩:=by
 obtain ⟨S',hl,hR,hO⟩:=h
 subst hl
 refine ⟨S',rfl,hR,hO,fun V' hV=>?_⟩
 obtain ⟨hA,⟨pos,ab,ho⟩,_⟩:=h1
 refine jo.OB (V:=V') ho (by simp) rfl fun g r w hC jg hn iT=>?_
 have hb:=l7 hR hA hv (jf hh ha iT) jg
 obtain ⟨x,hx,tX⟩:=xT hR hA hi fq hn
 obtain ⟨AX,sN,hd,hr⟩:=hc x
 obtain ⟨fn,c,f1,f2,f3⟩:=hf.h
 refine Calls.BW f1 f2 f3 ?_
 rw [qk (qm hx hb) AX]
 obtain ⟨F,Hd,⟨tY,wq,tk,wu⟩,hS,hG⟩:=hs
 have GH:=rK.stay hS hG hC
 rw [qb] at sN
 refine (sN.2 w Z [] (hr.sound (fun _ h=>h) (fun h=>nomatch h) GH hd.ho) List.nodup_nil (fun b hb=>absurd hb List.not_mem_nil)
  (fun b h=>Nat.lt_of_lt_of_le (hG.ml b h) hC.size) y hy).mono ?_
 rintro e w' ⟨v,he,Z2,F2,py,gx⟩
 obtain ⟨f2,k1,k2,k3⟩:=T2 (Z:=Z) (K:=[]) py gx (fun _ h=>.inl h) fun _ h=>h
 obtain ⟨f',cg,AY⟩:=hV f2 w' r _ ⟨v,rfl,k2,k3⟩
 exact ⟨_,he,gx.iH,f',fun b hb=>⟨(k1 b (cg b hb)).1.resolve_left List.not_mem_nil,(k1 b (cg b hb)).2⟩,AY⟩
theorem Kj {mt:Nat} {β V:Type} {A:LN} {as:LL} {d:Nat} {f:FuncId} {xs:List Operand} {ak:Array TypeId} {ty:TI} {mo:Option β} {rt:β→V→List Value} {ps:β→V→List aw} {ops:LO} {i:Nat} {sl:LQ} {ms:MM} {fr:Fr} {hd Γ:QE} {B:Bs} {r0:NV} {w0:World} {H:LN} {y:β} (hh:lz l mt base=true) (hf:bu P f) (hv:eD A none sl base fr)
   (hU:U.getD i []=[l.length]) (AZ:((U.set i []).all fun us=>!(us.contains l.length))=true)
   (hc:∀ x:mq ms,AR P f xs (kq A ms x++fr) hd Γ mo rt ps) (hi:lj ms) (fq:me A ms=true) (h1:n5 l mt U A (.call ⟨.value (.func f),xs.toArray,ak⟩) d ty as ops i) (hy:mo=some y) (ha:cu r0 base) (hs:rK B Z hd Γ H w0) (h:ir P Z l mt U r0 w0 H i sl ms) :
   CK P Z l mt U r0 w0 H i sl ms ⟨i,d,[],V,fun _ v=>nq (rt y v),fun _=>ps y⟩:=by
 obtain ⟨S',hl,hR,hO⟩:=h
 subst hl
 refine ⟨S',rfl,hR,hO,fun V' hV=>?_⟩
 obtain ⟨hA,⟨pos,ab,ho⟩,_⟩:=h1
 intro o' s' bw db g r w hC wk jg hn iT sL mz
 rw [ho] at bw
 cases bw
 rw [List.getElem?_append_right (Nat.le_refl _),Nat.sub_self] at db
 cases db
 rw [if_pos rfl]
 refine ⟨rfl,?_⟩
 obtain ⟨GB,GC,GD⟩:=wk (zJ AZ)
 have hb:=l7 hR hA hv (jf hh ha iT) jg
 obtain ⟨x,hx,tX⟩:=xT hR hA hi fq hn
 obtain ⟨AX,sN,GF,hr⟩:=hc x
 obtain ⟨fn,c,f1,f2,f3⟩:=hf.h
 refine Calls.BW f1 f2 f3 ?_
 rw [qk (qm hx hb) AX]
 obtain ⟨F,Hd,⟨tY,wq,tk,wu⟩,hS,hG⟩:=hs
 have GH:=rK.stay hS hG hC
 obtain ⟨Fd,F',GG,T3,yN⟩:=GF.sound (tY.gf GB)
 have cg:∀ b∈Fd,b∈H:=fun b hb=>(wq b (yN.mem_iff.1 (List.mem_append_left _ hb))).1
 have cn:=List.nodup_append.1 hG.nd
 have hblk:kj g (U.getD S'.length [])=H:=by rw [hU]; simp [kj,GC]
 rw [hblk]
 rw [qb] at sN
 refine (sN.2 w Z Fd (hr.sound (fun _ h=>h) (fun h=>nomatch h) (T3.app GH) GG) ((yN.nodup_iff.2 wu).sublist (List.sublist_append_left _ _)) (fun b hb=>hG.apart b (List.mem_append_left _ (cg b hb)))
  (fun b h=>Nat.lt_of_lt_of_le (hG.ml b h) hC.size) y hy).mono ?_
 rintro e w' ⟨v,he,Z2,F2,py,gx⟩
 obtain ⟨f2,k1,k2,k3⟩:=T2 (Z:=Z) (K:=H) py gx (fun _ h=>.inl h) cg
 obtain ⟨f',Dv,AY⟩:=hV f2 w' r _ ⟨v,rfl,k2,k3⟩
 exact ⟨_,he,gx.iH.mono cg,f',fun b hb=>k1 b (Dv b hb),AY⟩
theorem Kk {mt:Nat} {β V:Type} {j1:Nat} {a1:ep} {A:LN} {as:LL} {d:Nat} {f:FuncId} {xs:List Operand} {ak:Array TypeId} {ty:TI} {mo:Option β} {rt:β→V→List Value} {ps:β→V→List aw} {ops:LO} {i:Nat} {sl:LQ} {ms fg:MM} {fr:Fr} {hd Γ:QE} {B:Bs} {r0:NV} {w0:World} {H:LN} {y:β} (hh:lz l mt base=true) (hf:bu P f) (hv:eD A none sl base fr)
   (hU:U.getD i []=[j1]) (wj:zD ms j1 a1 fg) (Ds:a1.src=[]) (h4:dx j1 A=true)
   (hc:∀ (q:a1.V) (x:mq fg),AR P f xs ((a1.d,a1.rt undef q) :: (kq A fg x++fr)) (a1.ps undef q) Γ mo rt ps) (hi:lj fg) (fq:me A fg=true) (h1:n5 l mt U A (.call ⟨.value (.func f),xs.toArray,ak⟩) d ty as ops i) (hy:mo=some y) (ha:cu r0 base) (hs:rK B Z hd Γ H w0) (h:ir P Z l mt U r0 w0 H i sl ms) :
   CK P Z l mt U r0 w0 H i sl fg ⟨i,d,[],V,fun _ v=>nq (rt y v),fun _=>ps y⟩:=by
 obtain ⟨S',hl,Jc,hO⟩:=h
 subst hl
 obtain ⟨m1,m2,m3,m4,m5⟩:=wj.sub
 have hR:=Jc.sub m3 m4
 refine ⟨S',rfl,hR,hO,fun V' hV=>?_⟩
 obtain ⟨hA,⟨pos,ab,ho⟩,_⟩:=h1
 intro o' s' bw db g r w hC wk jg hn iT sL mz
 rw [ho] at bw
 cases bw
 rw [List.getElem?_append_right (Nat.le_refl _),Nat.sub_self] at db
 cases db
 rw [if_pos rfl]
 refine ⟨rfl,?_⟩
 have zH:=j7 (by rw [← hA]; exact iv.1 h4)
 have hb:=l7 hR hA hv (jf hh ha iT) jg
 obtain ⟨x,hx,tX⟩:=xT hR hA hi fq hn
 obtain ⟨q,Ma,yO,Me⟩:=Jc.w5 m1 (hn a1.j (by rw [m2]; exact zH.2))
 have tW:va a1 r=undef:=by unfold va; rw [Ds]; rfl
 rw [tW,m2] at yO
 rw [tW] at Ma
 rw [m2] at Me
 obtain ⟨AX,sN,GF,hr⟩:=hc q x
 obtain ⟨fn,c,f1,f2,f3⟩:=hf.h
 refine Calls.BW f1 f2 f3 ?_
 rw [qk (qm (g:=(a1.d,a1.rt undef q) :: kq A fg x) (fun p hp=>(List.mem_cons.1 hp).elim (fun e=>e ▸ Ma) (hx p)) hb) AX]
 obtain ⟨F,Hd,⟨tY,wq,tk,wu⟩,hS,hG⟩:=hs
 have GH:=rK.stay hS hG hC
 obtain ⟨Fo,Fr,Je,A3,T0⟩:=yO.all
 have T1:SA (fun b=>Z b∨b∈Fr) w (a1.ps undef q) [] Fo:=by
  have:=T0.front (Γ:=[]) (F:=[]) rfl
  simpa using this
 have Mf:=List.nodup_append.1 (Je ▸ Me)
 obtain ⟨Fd,F',GG,T3,yN⟩:=GF.sound T1
 have Dw:∀ b∈Fd,b∈Fo:=fun b hb=>yN.mem_iff.1 (List.mem_append_left _ hb)
 have cg:∀ b∈Fd,b∈g j1:=fun b hb=>by rw [Je]; exact List.mem_append_left _ (Dw b hb)
 have cn:=List.nodup_append.1 hG.nd
 have hblk:kj g (U.getD S'.length [])=g j1:=by rw [hU]; simp [kj]
 rw [hblk]
 rw [qb] at sN
 have E5:∀ b∈g j1,w0.heap.size≤b∨b∈H:=fun b hb=>(mz j1 zH.1 b hb).1
 refine (sN.2 w (fun b=>Z b∨b∈Fr) Fd (hr.sound (fun _ h=>h) (fun h=>nomatch h) (T3.app (GH.mono (fun _ h=>.inl h) fun _ h=>h)) GG) ((yN.nodup_iff.2 Mf.1).sublist (List.sublist_append_left _ _)) (fun b hb=>?_)
  (fun b hb=>hb.elim (fun h=>Nat.lt_of_lt_of_le (hG.ml b h) hC.size) (A3 b)) y hy).mono ?_
 ·rintro (hz | hz)
  ·rcases E5 b (cg b hb) with h | h
   ·have:=hG.ml b hz; omega
   ·exact hG.apart b (List.mem_append_left _ h) hz
  ·exact Mf.2.2 b (Dw b hb) b hz rfl
 ·rintro e w' ⟨v,he,Z2,F2,py,gx⟩
  obtain ⟨f2,k1,k2,k3⟩:=T2 (Z:=Z) (K:=g j1) py gx (fun b h=>h.imp id fun h=>by rw [Je]; exact List.mem_append_right _ h) cg
  obtain ⟨f',Dv,AY⟩:=hV f2 w' r _ ⟨v,rfl,k2,k3⟩
  exact ⟨_,he,gx.iH.mono cg,f',fun b hb=>k1 b (Dv b hb),AY⟩
theorem ir.Z1 {mt:Nat} {A:LN} {op:Op} {d:Nat} {ty:TI} {as:LL} {ops:LO} {i:Nat} {sl:LQ} {ms:MM} {r0:NV} {w0:World} {H:LN} {u:Value} (h:ir P Z l mt U r0 w0 H i sl ms) (hh:lz l mt base=true) (ha:cu r0 base) (h1:n5 l mt U A op d ty as ops i)
  (hV:(U.zipIdx.all fun p=>!(p.1.contains l.length) || ((cj l).getD p.2 []).contains i)=true) (hv:eD A none sl base fr) (hq:∀ r,cu r fr→∀ pos ab g w,an [] w0 w→(execOp (ev r) ⟨some d,op,ty,pos,ab,g⟩).run P w = .ok (.value u) w):ir P Z l mt U r0 w0 H (i+1) ((i,d,u) :: sl) ms:=by
 obtain ⟨S',hl,hR,hO⟩:=h
 subst hl
 obtain ⟨hA,⟨pos,ab,ho⟩,_⟩:=h1
 refine ⟨S'++[sV u],by simp,hR.val (by unfold br; rw [ho]; rfl),fun j hj=>?_⟩
 by_cases h2:j < S'.length
 ·exact jo.more (hO j h2) h2
 ·obtain rfl:j=S'.length:=by omega
  have hN:zK l U mt S'.length=true:=by
   unfold zK
   simp only [List.all_eq_true,List.mem_range,Bool.or_eq_true,Bool.not_eq_true'] at hV ⊢
   intro k _
   rw [List.getD_eq_getElem?_getD]
   cases hu:U[k]? with
   | none=>exact .inl (.inl rfl)
   | some us=>
    have hm:(us,k)∈U.zipIdx:=by rw [List.mem_zipIdx_iff_getElem?]; exact hu
    exact (hV _ hm).imp .inl id
  intro o' s' bw db g r w hC wk jg hn iT sL mz
  rw [ho] at bw
  cases bw
  rw [List.getElem?_append_right (Nat.le_refl _),Nat.sub_self] at db
  cases db
  rw [if_pos rfl]
  refine ⟨rfl,?_⟩
  unfold fc
  rw [hq r (l7 hR hA hv (jf hh ha iT) jg) _ _ _ w (wk hN).1]
  exact ⟨an.refl _ _,[],fun b hb=>absurd hb List.not_mem_nil,rfl⟩
theorem R6 {mt:Nat} {hd gp:QE} {α:Type} {t e e' et:TI} {E E':ag α} {z0:α} {bt t1 t2 j2:Nat} {v u yv:Value} {j:Int} {y:α} {z:List α} {xs:List (List α)} {o1 o2:Bool} {Γx:QE} {sK:MM} {A:LN} {as:LL} {d:Nat} {ty:TI} {ops:LO} {i:Nat} {sl:LQ} {ms:MM} {Γ:QE} {B:Bs} {r0:NV} {w0:World} {H:LN} (hh:lz l mt base=true) (ha:cu r0 base) (hT:qp P t α e E z0 bt) (hU:U.getD i []=[l.length])
   (AZ:((U.set i []).all fun us=>!(us.contains l.length))=true) (hv:eD A none sl base fr) (hs:look fr t1=some u) (h2:ly ms t2 ⟨j2,t2,[],Nat,fun _ b=>.slice (some ⟨b,0,none⟩) 1 1,fun _ b=>[.row b [yv] et]⟩ sK) (h5:dx j2 A=true) (hl:Loc hd u (.row v j)) (hz:ll hd u o1 o2 E' z px Γx) (h1:dj hd (.own (aK e' (aK e E)) v xs) gp) (hr:RT (aK e E) (aD E')) (hy:Cn [] E yv y [])
   (hf:fits bt (z.length+1)=some ()) (wY:n5 l mt U A (.call ⟨.builtin .append,#[.tmp t1,.tmp t2],#[t,t]⟩) d ty as ops i) (my:rK B Z hd Γ H w0) (h:ir P Z l mt U r0 w0 H i sl ms) :
  ir P Z l mt U r0 w0 H (i+1) sl (⟨i,d,[],Value,fun _ v'=>v',fun _ v'=>[.own (aK e E) v' (z++[y]),.own (rL e' (aK e E) j.toNat) v xs]⟩ :: ms)∧rK B Z gp Γ H w0:=by
 obtain ⟨F,Hd,⟨tY,wq,tk,wu⟩,hS,hG⟩:=my
 obtain ⟨fm0,T4,GI,_,OG⟩:=h1.sound tY
 refine ⟨?_,F,T4,⟨OG,fun b hb=>wq b (GI.mem_iff.1 (List.mem_append_right _ hb)),tk,(GI.nodup_iff.2 wu).sublist (List.sublist_append_right _ _)⟩,hS,hG⟩
 obtain ⟨S',yH,hR,hO⟩:=h
 subst yH
 obtain ⟨hA,⟨pos,ab,ho⟩,_⟩:=wY
 obtain ⟨b1,b2⟩:=iq hf
 obtain ⟨q1,q2,ii,zz,q3,q4,q5,q6,q7,_⟩:=hT.h
 obtain ⟨n1,_,_,_⟩:=h2.sub
 refine ⟨S'++[⟨true,MV Z ⟨S'.length,d,[],Value,fun _ v'=>v',fun _ v'=>[.own (aK e E) v' (z++[y]),.own (rL e' (aK e E) j.toNat) v xs]⟩⟩],by simp,hR.mem rfl (by unfold br; rw [ho]; rfl) (by intro t h; cases h),fun k hk=>?_⟩
 by_cases bc:k < S'.length
 ·exact jo.more (hO k bc) bc
 ·obtain rfl:k=S'.length:=by omega
  intro o' s' bw db g r w hC wk jg hn iT sL mz
  rw [ho] at bw
  cases bw
  rw [List.getElem?_append_right (Nat.le_refl _),Nat.sub_self] at db
  cases db
  rw [if_pos rfl]
  refine ⟨rfl,?_⟩
  obtain ⟨GB,GC,GD⟩:=wk (zJ AZ)
  have GJ:=tY.gf GB
  obtain ⟨j0,j1,ji⟩:=Loc.row hl rfl GJ
  obtain ⟨dk,_,⟨⟨gz,n4,_⟩,_⟩,_⟩:=hz.sound GJ
  obtain ⟨fm,F1,qv,Mh,_⟩:=h1.sound GJ
  obtain ⟨ky,F2,mx,T5,_⟩:=hy.sound (Z:=Z) (w:=w) (F:=[]) rfl
  have T6:ky=[]:=by
   cases ky with
   | nil=>rfl
   | cons a l=>exact absurd (mx.mem_iff.1 (List.mem_append_left _ List.mem_cons_self)) List.not_mem_nil
  subst T6
  rw [rm Mh] at j1
  obtain ⟨k,gm,a1,a2,a3⟩:=CI rfl Mh (List.getElem?_eq_getElem j1) ji
  have Mi:xs[j.toNat]=z:=hr.uq (hr.le.le a1) n4
  rw [Mi] at a1
  have OH:(k++gm).Nodup:=a2.nodup_iff.2 ((qv.nodup_iff.2 wu).sublist (List.sublist_append_left _ _))
  have Au:=List.nodup_append.1 OH
  have xV:∀ b∈k++gm,b∈H:=fun b hb=>(wq b (qv.mem_iff.1 (List.mem_append_left _ (a2.mem_iff.1 hb)))).1
  obtain ⟨b,c1,c2,c3⟩:=hR.w5 n1 (hn j2 (j7 (by rw [← hA]; exact iv.1 h5)).2)
  simp only at c1 c2
  replace c2:=c2.own rfl
  generalize wj:g j2=G1 at c2 c3
  cases c2 with
  | fact h _=>exact h.elim
  | @own _ ff F0 _ Dx su=>
   cases su
   obtain ⟨rfl,bh⟩:=Dx
   have hb:=l7 hR hA hv (jf hh ha iT) jg
   obtain ⟨v',w',f',iw,wm,dq,cg,zL⟩:=mw (E:=E) (d:=some d) (ty:=ty) (pos:=pos) (ab:=ab) (g:=none) (r:=r) (s:=.tmp t1) (x:=.tmp t2) (k:=[]) (ys:=[y]) (news:=[yv]) q1 q3 q4 (by rw [q5,q2]) (by rw [cells_one q6,q2]; rfl) (hb _ _ hs) a1 Au.1 c1 (fun i u hi=>bh.at i u hi) (ou T5) (fun _ h=>absurd h List.not_mem_nil) (by simp) (by rw [q7]; exact b1) b2
   unfold fc
   rw [iw]
   have hblk:kj g (U.getD S'.length [])=H:=by rw [hU]; simp [kj,GC]
   rw [hblk]
   have Mj:(rL e' (aK e E) j.toNat).rep w'.heap [v] xs gm:=ag.ec _ a3 wm fun b hb hk=>Au.2.2 b hk b hb rfl
   refine ⟨wm.mono fun b hb=>xV b (List.mem_append_left _ hb),f'++gm,fun b hb=>?_,v',rfl,?_,?_⟩
   ·rcases List.mem_append.1 hb with hb | hb
    ·refine ⟨?_,ag.lt _ dq b hb⟩
     rcases cg b hb with h | h | h
     ·exact .inl (xV b (List.mem_append_left _ h))
     ·exact absurd h List.not_mem_nil
     ·exact .inr h
    ·exact ⟨.inl (xV b (List.mem_append_right _ hb)),ag.lt _ Mj b hb⟩
   ·have:=HL.own (Z:=fun _=>False) (e:=.own (aK e E) v' (z++[y])) (f:=f') dq (HL.own (e:=.own (rL e' (aK e E) j.toNat) v xs) (f:=gm) Mj .nil)
    exact .inl (by simpa using this)
   ·refine tZ (zL List.nodup_nil) Au.2.1 fun b hb hm=>?_
    rcases cg b hb with h | h | h
    ·exact Au.2.2 b h b hm rfl
    ·exact absurd h List.not_mem_nil
    ·have:=ag.lt _ a3 b hm; omega
theorem R7 {mt:Nat} {hd gp:QE} {t e e' e3 et:TI} {kk:IntKind} {E':ag (List Int)} {z0:List Int} {bt t1 t2 t3 j2 j3 n:Nat} {v u:Value} {us:LV} {j:Int} {ys:List Int} {z:List (List Int)} {xs:List (List (List Int))} {o1 o2:Bool} {Γx:QE} {sK AS:MM} {A:LN} {as:LL} {d:Nat} {ty:TI} {ops:LO} {i:Nat} {sl:LQ} {ms:MM} {Γ:QE} {B:Bs} {r0:NV} {w0:World} {H:LN} (hh:lz l mt base=true) (ha:cu r0 base) (hT:qp P t (List Int) e (aK e3 (aA kk)) z0 bt) (hU:U.getD i []=[l.length,j3])
   (AZ:((U.set i []).all fun us=>!(us.contains l.length))=true) (hv:eD A none sl base fr) (hs:look fr t1=some u) (h2:ly ms t2 ⟨j2,t2,[t3],Nat,fun _ b=>.slice (some ⟨b,0,none⟩) 1 1,fun u b=>[.row b [u] et]⟩ sK) (h3:ly sK t3 ⟨j3,t3,[],Nat,fun _ b=>.slice (some ⟨b,0,none⟩) n n,fun _ b=>[.row b us e3]⟩ AS) (h5:dx j2 A=true) (h6:dx j3 A=true) (hl:Loc hd u (.row v j)) (hz:ll hd u o1 o2 E' z px Γx) (h1:dj hd (.own (aK e' (aK e (aK e3 (aA kk)))) v xs) gp) (hr:RT (aK e (aK e3 (aA kk))) (aD E')) (hi:yF kk us ys) (nz:us.length=n) (cq:Nat.ble n 16777216=true)
   (hf:fits bt (z.length+1)=some ()) (wY:n5 l mt U A (.call ⟨.builtin .append,#[.tmp t1,.tmp t2],#[t,t]⟩) d ty as ops i) (my:rK B Z hd Γ H w0) (h:ir P Z l mt U r0 w0 H i sl ms) :
  ir P Z l mt U r0 w0 H (i+1) sl (⟨i,d,[],Value,fun _ v'=>v',fun _ v'=>[.own (aK e (aK e3 (aA kk))) v' (z++[ys]),.own (rL e' (aK e (aK e3 (aA kk))) j.toNat) v xs]⟩ :: AS)∧rK B Z gp Γ H w0:=by
 obtain ⟨F,Hd,⟨tY,wq,tk,wu⟩,hS,hG⟩:=my
 obtain ⟨fm0,T4,GI,_,OG⟩:=h1.sound tY
 refine ⟨?_,F,T4,⟨OG,fun b hb=>wq b (GI.mem_iff.1 (List.mem_append_right _ hb)),tk,(GI.nodup_iff.2 wu).sublist (List.sublist_append_right _ _)⟩,hS,hG⟩
 obtain ⟨S',yH,hR,hO⟩:=h
 subst yH
 obtain ⟨hA,⟨pos,ab,ho⟩,_⟩:=wY
 obtain ⟨b1,b2⟩:=iq hf
 obtain ⟨q1,q2,ii,zz,q3,q4,q5,q6,q7,_⟩:=hT.h
 obtain ⟨n1,_,m3,m4⟩:=h2.sub
 obtain ⟨n3,_,m5,m6⟩:=h3.sub
 refine ⟨S'++[⟨true,MV Z ⟨S'.length,d,[],Value,fun _ v'=>v',fun _ v'=>[.own (aK e (aK e3 (aA kk))) v' (z++[ys]),.own (rL e' (aK e (aK e3 (aA kk))) j.toNat) v xs]⟩⟩],by simp,(hR.sub (fun b hb=>m3 b (m5 b hb)) (m6.trans m4)).mem rfl (by unfold br; rw [ho]; rfl) (by intro t h; cases h),fun k hk=>?_⟩
 by_cases bc:k < S'.length
 ·exact jo.more (hO k bc) bc
 ·obtain rfl:k=S'.length:=by omega
  intro o' s' bw db g r w hC wk jg hn iT sL mz
  rw [ho] at bw
  cases bw
  rw [List.getElem?_append_right (Nat.le_refl _),Nat.sub_self] at db
  cases db
  rw [if_pos rfl]
  refine ⟨rfl,?_⟩
  obtain ⟨GB,GC,GD⟩:=wk (zJ AZ)
  have GJ:=tY.gf GB
  obtain ⟨j0,j1,ji⟩:=Loc.row hl rfl GJ
  obtain ⟨dk,_,⟨⟨gz,n4,_⟩,_⟩,_⟩:=hz.sound GJ
  obtain ⟨fm,F1,qv,Mh,_⟩:=h1.sound GJ
  rw [rm Mh] at j1
  obtain ⟨k,gm,a1,a2,a3⟩:=CI rfl Mh (List.getElem?_eq_getElem j1) ji
  have Mi:xs[j.toNat]=z:=hr.uq (hr.le.le a1) n4
  rw [Mi] at a1
  have OH:(k++gm).Nodup:=a2.nodup_iff.2 ((qv.nodup_iff.2 wu).sublist (List.sublist_append_left _ _))
  have Au:=List.nodup_append.1 OH
  have xV:∀ b∈k++gm,b∈H:=fun b hb=>(wq b (qv.mem_iff.1 (List.mem_append_left _ (a2.mem_iff.1 hb)))).1
  have Mk:=j7 (by rw [← hA]; exact iv.1 h6)
  obtain ⟨b,c1,c2,c3⟩:=hR.w5 n1 (hn j2 (j7 (by rw [← hA]; exact iv.1 h5)).2)
  obtain ⟨b3,d1,d2,d3⟩:=hR.w5 (m3 _ n3) (hn j3 Mk.2)
  replace c1:r t2 = .slice (some ⟨b,0,none⟩) 1 1:=c1
  replace c2:HL (fun _=>False) w [.row b [r t3] et] (g j2):=c2.own rfl
  replace d1:r t3 = .slice (some ⟨b3,0,none⟩) n n:=d1
  replace d2:HL (fun _=>False) w [.row b3 us e3] (g j3):=d2.own rfl
  have Yt:=GD j3 Mk.1
  generalize wj:g j2=G1 at c2 c3
  generalize T8:g j3=G3 at d2 d3 Yt
  cases c2 with
  | fact h _=>exact h.elim
  | @own _ ff F0 _ Dx su=>
   cases su
   obtain ⟨rfl,bh⟩:=Dx
   cases d2 with
   | fact h _=>exact h.elim
   | @own _ ff3 F3 _ wD Kl=>
    cases Kl
    obtain ⟨rfl,wD⟩:=wD
    obtain ⟨e1,e2⟩:=yF.sound hi w.heap
    have zw:=Nat.le_of_ble_eq_true cq
    have hE:(aK e3 (aA kk)).rep w.heap [r t3] ys [b3]:=by
     rw [d1]
     refine ⟨some ⟨b3,0,none⟩,n,by rw [← nz,e1],.inr ⟨b3,us.toArray,[],rfl,wD,rfl,by rw [← nz,e1]; exact Nat.le_refl _,Nat.le_trans zw (by decide),by rw [show (aA kk).size=1 from rfl,Nat.mul_one]; simp [nz],?_⟩⟩
     rw [show (aA kk).size=1 from rfl,Nat.mul_one,List.toList_toArray,← e1,List.take_length]
     exact e2
    have yq:w0.heap.size≤b3:=Yt b3 (by simp)
    have Km:∀ b∈k++gm,b≠b3:=fun b hb he=>by
     have:=tk b (xV b hb)
     omega
    have hb:=l7 hR hA hv (jf hh ha iT) jg
    obtain ⟨v',w',f',iw,wm,dq,cg,zL⟩:=mw (E:=aK e3 (aA kk)) (d:=some d) (ty:=ty) (pos:=pos) (ab:=ab) (g:=none) (r:=r) (s:=.tmp t1) (x:=.tmp t2) (k:=[b3]) (ys:=[ys]) (news:=[r t3]) q1 q3 q4 (by rw [q5,q2]) (by rw [cells_one q6,q2]; rfl) (hb _ _ hs) a1 Au.1 c1 (fun i u hi=>bh.at i u hi) (ou hE) (fun b hb hm=>Km b (List.mem_append_left _ hm) (List.mem_singleton.1 hb)) (by simp) (by rw [q7]; exact b1) b2
    unfold fc
    rw [iw]
    have hblk:kj g (U.getD S'.length [])=H++[b3]:=by rw [hU]; simp [kj,GC,T8]
    rw [hblk]
    have Mj:(rL e' (aK e (aK e3 (aA kk))) j.toNat).rep w'.heap [v] xs gm:=ag.ec _ a3 wm fun b hb hk=>Au.2.2 b hk b hb rfl
    refine ⟨wm.mono fun b hb=>List.mem_append_left _ (xV b (List.mem_append_left _ hb)),f'++gm,fun b hb=>?_,v',rfl,?_,?_⟩
    ·rcases List.mem_append.1 hb with hb | hb
     ·refine ⟨?_,ag.lt _ dq b hb⟩
      rcases cg b hb with h | h | h
      ·exact .inl (List.mem_append_left _ (xV b (List.mem_append_left _ h)))
      ·exact .inl (List.mem_append_right _ h)
      ·exact .inr h
     ·exact ⟨.inl (List.mem_append_left _ (xV b (List.mem_append_right _ hb))),ag.lt _ Mj b hb⟩
    ·have:=HL.own (Z:=fun _=>False) (e:=.own (aK e (aK e3 (aA kk))) v' (z++[ys])) (f:=f') dq (HL.own (e:=.own (rL e' (aK e (aK e3 (aA kk))) j.toNat) v xs) (f:=gm) Mj .nil)
     exact .inl (by simpa using this)
    ·refine tZ (zL (by simp)) Au.2.1 fun b hb hm=>?_
     rcases cg b hb with h | h | h
     ·exact Au.2.2 b h b hm rfl
     ·exact Km b (List.mem_append_right _ hm) (List.mem_singleton.1 h)
     ·have:=ag.lt _ a3 b hm; omega
theorem R8 {mt:Nat} {t e e3 et:TI} {kk:IntKind} {z0:List Int} {bt t1 t2 t3 j1 j2 j3 n:Nat} {us:LV} {ys:List Int} {z:List (List Int)} {a1:ep} {fg sK AS:MM} {A:LN} {as:LL} {d:Nat} {ty:TI} {ops:LO} {i:Nat} {sl:LQ} {ms:MM} {r0:NV} {w0:World} {H:LN} (hT:qp P t (List Int) e (aK e3 (aA kk)) z0 bt) (hU:U.getD i []=[j1,j3])
   (h1:ly ms t1 a1 fg) (h2:ly fg t2 ⟨j2,t2,[t3],Nat,fun _ b=>.slice (some ⟨b,0,none⟩) 1 1,fun u b=>[.row b [u] et]⟩ sK) (h3:ly sK t3 ⟨j3,t3,[],Nat,fun _ b=>.slice (some ⟨b,0,none⟩) n n,fun _ b=>[.row b us e3]⟩ AS) (hp:∀ u v,a1.ps u v=[.own (aK e (aK e3 (aA kk))) (a1.rt u v) z]) (hj:a1.j=j1) (kp:Nat.beq j1 j3=false) (h4:dx j1 A=true) (h5:dx j2 A=true) (h6:dx j3 A=true) (hi:yF kk us ys) (nz:us.length=n) (cq:Nat.ble n 16777216=true)
   (hf:fits bt (z.length+1)=some ()) (wY:n5 l mt U A (.call ⟨.builtin .append,#[.tmp t1,.tmp t2],#[t,t]⟩) d ty as ops i) (h:ir P Z l mt U r0 w0 H i sl ms) :
  ir P Z l mt U r0 w0 H (i+1) sl (⟨i,d,[],Value,fun _ v'=>v',fun _ v'=>[.own (aK e (aK e3 (aA kk))) v' (z++[ys])]⟩ :: AS):=by
 obtain ⟨S',yH,hR,hO⟩:=h
 subst yH
 subst hj
 obtain ⟨hA,⟨pos,ab,ho⟩,_⟩:=wY
 obtain ⟨b1,b2⟩:=iq hf
 obtain ⟨q1,q2,ii,zz,q3,q4,q5,q6,q7,_⟩:=hT.h
 obtain ⟨k1,k2,k3,k4⟩:=h1.sub
 obtain ⟨n1,_,m3,m4⟩:=h2.sub
 obtain ⟨n3,_,m5,m6⟩:=h3.sub
 refine ⟨S'++[⟨true,MV Z ⟨S'.length,d,[],Value,fun _ v'=>v',fun _ v'=>[.own (aK e (aK e3 (aA kk))) v' (z++[ys])]⟩⟩],by simp,(hR.sub (fun b hb=>k3 b (m3 b (m5 b hb))) ((m6.trans m4).trans k4)).mem rfl (by unfold br; rw [ho]; rfl) (by intro t h; cases h),fun k hk=>?_⟩
 by_cases bc:k < S'.length
 ·exact jo.more (hO k bc) bc
 ·obtain rfl:k=S'.length:=by omega
  intro o' s' bw db g r w hC wk jg hn iT sL mz
  rw [ho] at bw
  cases bw
  rw [List.getElem?_append_right (Nat.le_refl _),Nat.sub_self] at db
  cases db
  rw [if_pos rfl]
  refine ⟨rfl,?_⟩
  have Jf:=j7 (by rw [← hA]; exact iv.1 h4)
  have Mk:=j7 (by rw [← hA]; exact iv.1 h6)
  obtain ⟨v1,p1,p2,p3⟩:=hR.w5 k1 (hn a1.j Jf.2)
  rw [hp,← p1,k2] at p2
  replace p2:=p2.own rfl
  obtain ⟨b,c1,c2,c3⟩:=hR.w5 (k3 _ n1) (hn j2 (j7 (by rw [← hA]; exact iv.1 h5)).2)
  obtain ⟨b3,d1,d2,d3⟩:=hR.w5 (k3 _ (m3 _ n3)) (hn j3 Mk.2)
  replace c1:r t2 = .slice (some ⟨b,0,none⟩) 1 1:=c1
  replace c2:HL (fun _=>False) w [.row b [r t3] et] (g j2):=c2.own rfl
  replace d1:r t3 = .slice (some ⟨b3,0,none⟩) n n:=d1
  replace d2:HL (fun _=>False) w [.row b3 us e3] (g j3):=d2.own rfl
  have OI:=sL a1.j Jf.1 j3 Mk.1 (fun e=>by rw [e,Nat.beq_refl] at kp; cases kp)
  generalize wj:g j2=G1 at c2 c3
  generalize T8:g j3=G3 at d2 d3 OI
  generalize gx:g a1.j=G2 at p2 p3 OI
  cases c2 with
  | fact h _=>exact h.elim
  | @own _ ff F0 _ Dx su=>
   cases su
   obtain ⟨rfl,bh⟩:=Dx
   cases d2 with
   | fact h _=>exact h.elim
   | @own _ ff3 F3 _ wD Kl=>
    cases Kl
    obtain ⟨rfl,wD⟩:=wD
    cases p2 with
    | fact h _=>exact h.elim
    | @own _ k F4 _ w8 Xw=>
     cases Xw
     rw [List.append_nil] at p3
     obtain ⟨e1,e2⟩:=yF.sound hi w.heap
     have zw:=Nat.le_of_ble_eq_true cq
     have hE:(aK e3 (aA kk)).rep w.heap [r t3] ys [b3]:=by
      rw [d1]
      refine ⟨some ⟨b3,0,none⟩,n,by rw [← nz,e1],.inr ⟨b3,us.toArray,[],rfl,wD,rfl,by rw [← nz,e1]; exact Nat.le_refl _,Nat.le_trans zw (by decide),by rw [show (aA kk).size=1 from rfl,Nat.mul_one]; simp [nz],?_⟩⟩
      rw [show (aA kk).size=1 from rfl,Nat.mul_one,List.toList_toArray,← e1,List.take_length]
      exact e2
     have Km:∀ b∈k,b≠b3:=fun b hb he=>OI b (by simpa using hb) (by simp [he])
     obtain ⟨v',w',f',iw,wm,dq,cg,zL⟩:=mw (E:=aK e3 (aA kk)) (d:=some d) (ty:=ty) (pos:=pos) (ab:=ab) (g:=none) (r:=r) (s:=.tmp t1) (x:=.tmp t2) (k:=[b3]) (ys:=[ys]) (news:=[r t3]) q1 q3 q4 (by rw [q5,q2]) (by rw [cells_one q6,q2]; rfl) rfl w8 p3 c1 (fun i u hi=>bh.at i u hi) (ou hE) (fun b hb hm=>Km b hm (List.mem_singleton.1 hb)) (by simp) (by rw [q7]; exact b1) b2
     unfold fc
     rw [iw]
     have hblk:kj g (U.getD S'.length [])=k++[b3]:=by rw [hU]; simp [kj,gx,T8]
     rw [hblk]
     refine ⟨wm.mono fun b hb=>List.mem_append_left _ hb,f',fun b hb=>?_,v',rfl,?_,zL (by simp)⟩
     ·refine ⟨?_,ag.lt _ dq b hb⟩
      rcases cg b hb with h | h | h
      ·exact .inl (List.mem_append_left _ h)
      ·exact .inl (List.mem_append_right _ h)
      ·exact .inr h
     ·have:=HL.own (Z:=fun _=>False) (e:=.own (aK e (aK e3 (aA kk))) v' (z++[ys])) (f:=f') dq .nil
      exact .inl (by simpa using this)
end
end Go.Dk
namespace Go.Dk
open Go Go.Li
section
variable {R S:Type} {P:Program} {cx:Cx R} {K:dh R S} {l tail:LO} {base fr:Fr} {U:LL} {hd:QE}
def Kn (P:Program) (cx:Cx R) (K:dh R S) (l:LO) (mt:Nat) (U:LL) (hd:QE) (id:Nat) (base:Fr):JA R S→Prop
 | .a as ops i sl ms Γ m=>zE l mt U as ops i→Fin P cx K l mt U hd id base i sl ms Γ m
 | .o A op d ty as ops i sl ms Γ m=>n5 l mt U A op d ty as ops i→Fin P cx K l mt U hd id base i sl ms Γ m
 | .oc us f xs ak A d ty as ops i sl ms Γ m=>U.getD i []=us→n5 l mt U A (.call ⟨.value (.func f),xs.toArray,ak⟩) d ty as ops i→Fin P cx K l mt U hd id base i sl ms Γ m
 | .os A op ty as ops i sl ms Γ m=>TV l mt U A op ty as ops i→Fin P cx K l mt U hd id base i sl ms Γ m
 | .ow _ A op d ty as ops i sl ms Γ m=>n5 l mt U A op d ty as ops i→Fin P cx K l mt U hd id base i sl ms Γ m
 | .ix _ v fr x y t A d ty as ops i sl ms Γ m=>eD A none sl base fr→bm fr x=some v→n5 l mt U A (.indexAddr t x y) d ty as ops i→Fin P cx K l mt U hd id base i sl ms Γ m
 | .lb _ v j fr t x A d ty as ops i sl ms Γ m=>eD A none sl base fr→bm fr x=some (.pointer (some (dc v 1 j)))→NA P t→n5 l mt U A (.load t x) d ty as ops i→Fin P cx K l mt U hd id base i sl ms Γ m
 | .ap us t1 t2 t A d ty as ops i sl ms Γ m=>U.getD i []=us→n5 l mt U A (.call ⟨.builtin .append,#[.tmp t1,.tmp t2],#[t,t]⟩) d ty as ops i→Fin P cx K l mt U hd id base i sl ms Γ m
 | .la fr a lk t x A d ty as ops i sl ms Γ m=>eD A none sl base fr→bm fr x=some (.pointer (some a))→(match lk with | none=>NA P t | some n=>AG P t n)→n5 l mt U A (.load t x) d ty as ops i→Fin P cx K l mt U hd id base i sl ms Γ m
 | .ld E z fr a t x A d ty as ops i sl ms Γ m=>eD A none sl base fr→bm fr x=some (.pointer (some a))→NA P t→n5 l mt U A (.load t x) d ty as ops i→
   ∀ B o,m=some o→∀ r0 w0 H Z,cu r0 base→rK B Z hd Γ H w0→(∃ u,∀ w,an H w0 w→w.cell? a=some u∧∃ g,E.rep w.heap [u] z g)→ir P Z l mt U r0 w0 H i sl ms→mf P cx.n l (ma P cx B K o) r0 w0
 | .p Δ as ops i sl ms Γ m=>zE l mt U as ops i→Fin P cx K l mt U hd id base i sl ms (Δ.reverse++Γ) m
 | .cr u ps d as ops i sl ms Γ m=>zE l mt U as ops (i+1)→br l i=some d→
   ∀ B o,m=some o→∀ r0 w0 H Z,cu r0 base→rK B Z hd Γ H w0→CK P Z l mt U r0 w0 H i sl ms ⟨i,d,[],_,fun _=>u,fun _=>ps⟩→mf P cx.n l (ma P cx B K o) r0 w0
theorem xW {w:World} {e n:Nat} {v:Value} {us:List (List Value)} {f:LN} {j:Int} {c:LV} (hO:(aK e (jm n)).rep w.heap [v] us f) (hj:0≤j) (hu:us[j.toNat]? = some c):c.length=n∧(∀ u∈c,u.oneCell'=true)∧∀ i u,c[i]? = some u→w.cell? ((dc v n j).add i)=some u:=by
 obtain ⟨_,_,cs,f1,⟨rfl,h1,h2,_⟩,_,h3⟩:=s8 (((Le.own (Le.refl (jm n)) e).le) hO) j hj hu
 exact ⟨h1,h2,h3⟩
theorem OJ {α:Type} {E:ag α} {h:Array Obj}:∀ {xs:List α} {cs:LV} {f:LN} (n m:Nat),dw E h cs xs f→∃ f3,dw E h ((cs.drop (n * E.size)).take (m * E.size)) ((xs.drop n).take m) f3∧∀ b∈f3,b∈f:=by
 intro xs
 induction xs with
 | nil=>rintro cs f n m ⟨rfl,rfl⟩; exact ⟨[],by simpa using ⟨rfl,rfl⟩,fun _ h=>h⟩
 | cons x xs ih=>
  rintro cs f n m ⟨c,ds,f1,f2,rfl,rfl,h1,h2⟩
  cases n with
  | zero=>
   cases m with
   | zero=>exact ⟨[],by simpa using ⟨rfl,rfl⟩,fun _ h=>absurd h List.not_mem_nil⟩
   | succ m=>
    obtain ⟨f3,h3,h4⟩:=ih 0 m h2
    simp only [Nat.zero_mul,List.drop_zero] at h3 ⊢
    refine ⟨f1++f3,?_,fun b hb=>(List.mem_append.1 hb).elim (List.mem_append_left _) fun hb=>List.mem_append_right _ (h4 b hb)⟩
    have e:(m+1) * E.size=c.length+m * E.size:=by rw [E.len h1,Nat.add_mul,Nat.one_mul,Nat.add_comm]
    rw [e,List.take_append,List.take_of_length_le (by omega),List.take_succ_cons]
    exact ⟨c,_,f1,f3,rfl,rfl,h1,by simpa using h3⟩
  | succ n=>
   obtain ⟨f3,h3,h4⟩:=ih n m h2
   refine ⟨f3,?_,fun b hb=>List.mem_append_right _ (h4 b hb)⟩
   have e:(n+1) * E.size=c.length+n * E.size:=by rw [E.len h1,Nat.add_mul,Nat.one_mul,Nat.add_comm]
   rw [e,List.drop_append,List.drop_of_length_le (by omega),List.nil_append,List.drop_succ_cons]
   simpa using h3
theorem OK {Z:Nat→Prop} {w:World} {cur g:LN} {o:Bool} {α:Type} {E:ag α} {base:Option Addr} {cap a b:Nat} {xs:List α} (hE:E.size=1) (hr:(aD E).rep w.heap [.slice base xs.length cap] xs g) (hg:∀ i∈g,uk o Z cur i) (uE:a≤b) (hb:b≤xs.length) (hc:xs.length≤cap) :
  fact Z w cur (.rd o (aD E) (sliced base a b cap 1) ((xs.drop a).take (b - a))):=by
 have hlen:((xs.drop a).take (b - a)).length=b - a:=by rw [List.length_take,List.length_drop]; omega
 obtain ⟨JY,N5,hv,ee⟩:=hr
 obtain ⟨rfl,rfl⟩ : base=JY∧cap=N5:=by simpa using hv
 by_cases hj:a=b
 ·subst hj
  exact ⟨[],⟨_,cap - a,by unfold sliced; rw [hlen],.inl ⟨by simp,rfl⟩⟩,fun _ h=>absurd h List.not_mem_nil⟩
 ·rcases ee with ⟨rfl,_⟩ | ⟨b0,off,cr,e',fz,f',rfl,g1,rfl,g2⟩
  ·exfalso; simp at hb; omega
  ·have kp : ¬ (cap=a):=by omega
   obtain ⟨f3,dq,cg⟩:=OJ a (b - a) g2
   refine ⟨b0 :: f3,⟨some ⟨b0,off+a,none⟩,cap - a,?_,.inr ⟨b0,off+a,cr,e',fz,f3,rfl,g1,rfl,?_⟩⟩,fun i hi=>?_⟩
   ·unfold sliced
    rw [hlen,if_neg kp]
    simp [iu]
   ·rw [hE,Nat.mul_one,Nat.mul_one,Nat.mul_one,List.drop_take,List.take_take,List.drop_drop,Nat.min_eq_left (by omega)] at dq
    rw [hE,Nat.mul_one,hlen]
    exact dq
   ·rcases List.mem_cons.1 hi with rfl | hi
    ·exact hg _ (by simp)
    ·exact hg _ (List.mem_cons_of_mem _ (cg i hi))
theorem AD.sound {tq:Bool} {mt id:Nat} (hh:lz l mt base=true)
  (su:∀ hd i sl ms Γ m,CJ ms=true→Er U sl ms=true→(∀ x:mq ms,D P cx (.p (AQ sl (mF ms x)) (Ep ms x) base Γ fun fr Γ=>.tg tq (CF tail) l tail K Γ fr m))→Kn P cx K l mt U hd id base (.a [] [] i sl ms Γ m))
  {J:JA R S} (h:AD tq P cx K l tail base U hd J):Kn P cx K l mt U hd id base J:=by
 have stay:∀ {B:Bs} {Z:Nat→Prop} {hd Γ:QE} {H:LN} {w0:World},rK B Z hd Γ H w0→∃ F Hd,(SA Z w0 hd [] Hd∧(∀ b∈Hd,b∈H∧b < w0.heap.size)∧(∀ b∈H,b < w0.heap.size)∧Hd.Nodup)∧SA Z w0 Γ [] F∧Gd B Z (H++F) w0∧∀ w,an H w0 w→SA Z w Γ [] F:=by
  rintro B Z hd Γ H w0 ⟨F,Hd,h1,h2,h3⟩
  exact ⟨F,Hd,h1,h2,h3,fun w hC=>rK.stay h2 h3 hC⟩
 induction h with
 | nil hs he h=>exact su _ _ _ _ _ _ hs he h
 | cons _ ih=>exact fun h=>ih h.cons
 | Ke _ ih=>exact fun h=>ih h.Ke
 | Tx h1 hv hy hc hn db ho h4 h6 _ ih=>
  rename_i ht _
  intro h B o bw r0 w0 H Z ha hs hp
  obtain ⟨F,_,_,_,_,hK⟩:=stay hs
  exact ih h.n B o bw r0 w0 H Z ha hs (R1 hh ha ht h1 hv hy hc hn db ho h4 h6 hK h hp)
 | ixs hv hx _ _ ih=>exact fun h1=>ih hv hx h1
 | @ZV hd α A as d x y v k j t ty o1 o2 E xs ops i sl ms fr Γ gp f ht hy hr hE _ ih=>
  intro hv hx h1 B o ho r0 w0 H Z ha hs hp
  obtain ⟨z,hz,ho⟩:=bind_some ho
  replace hz:=rn hz
  obtain ⟨e,ii,q1,q2,q3⟩:=ht.h
  obtain ⟨F,Hd,⟨hL,Ml⟩,hS,hG,hK⟩:=stay hs
  obtain ⟨dk,_,⟨⟨n,hn,_⟩,LP⟩,tG⟩:=(hr z).sound hL
  obtain ⟨⟨a,c,mm⟩,bc,_⟩:=s8 hn j hz.1 hz.2
  refine ih z h1.n B o ho r0 w0 H Z ha ⟨F,Hd,⟨tG (LP hE j z hz.1 hz.2),Ml⟩,hS,hG⟩ (hp.val hh ha h1 hv fun r ee _ _ _ w hC=>?_)
  rw [lv q1 q2 ((aR ee hx).trans mm) (aR ee hy) hz.1 (by omega),q3,mm]
  rfl
 | @idx hd α A as d x y v k j t ty o1 o2 E xs ops i sl ms fr Γ Γ' f ht hy hr hE _ ih=>
  intro hv hx h1 B o ho r0 w0 H Z ha hs hp
  obtain ⟨z,hz,ho⟩:=bind_some ho
  replace hz:=rn hz
  obtain ⟨F,Hd,hL,hS,hG,hK⟩:=stay hs
  obtain ⟨dk,_,⟨⟨n,hn,_⟩,LP⟩,tG⟩:=(hr z).sound hS
  refine ih z h1.n B o ho r0 w0 H Z ha ⟨F,Hd,hL,tG (LP hE j z hz.1 hz.2),hG⟩ (hp.val hh ha h1 hv fun r ee _ _ _ w hC=>?_)
  obtain ⟨_,_,⟨⟨n',nz,_⟩,_⟩,_⟩:=(hr z).sound (hK w hC)
  exact Ix ht.h nz hz (aR ee hx) (aR ee hy) hE w (an.refl _ _)
 | @Yn hd α β A as d x y v k j t ty o1 o2 p1 p2 E E2 z xs ops i sl ms fr Γ Γx m ht hy hr hi hE _ ih=>
  intro hv hx h1 B o ho r0 w0 H Z ha hs hp
  obtain ⟨F,Hd,hL,hS,hG,hK⟩:=stay hs
  refine ih h1.n B o ho r0 w0 H Z ha ⟨F,Hd,hL,hS,hG⟩ (hp.val hh ha h1 hv fun r ee _ _ _ w hC=>?_)
  obtain ⟨_,_,⟨⟨n',nz,_⟩,_⟩,_⟩:=hr.sound (hK w hC)
  obtain ⟨j0,j1⟩:=hi.ad hS
  obtain ⟨a,c,mm⟩:=s7 nz
  have bc:j.toNat < xs.length:=by rw [mm] at j1; exact j1
  exact Ix ht.h nz ⟨j0,List.getElem?_eq_getElem bc⟩ (aR ee hx) (aR ee hy) hE w (an.refl _ _)
 | pz _ ih=>exact ih
 | @pe hd e Δ as ops i sl ms Γ m _ ih=>
  intro h1
  have h2:=ih h1
  have h3:(e :: Δ).reverse++Γ=Δ.reverse++e :: Γ:=by rw [List.reverse_cons,List.append_assoc]; rfl
  rw [h3]
  exact h2
 | @Gl hd α V Sc cl en A as d n x y v xs k j t ty ops i sl ms fr Γ Γx f ht hy hr rJ hn _ ih=>
  intro hv hx hA B o ho r0 w0 H Z ha hs hp
  replace rJ:SO Sc V cl en:=by cases rJ; assumption
  obtain ⟨z,hz,ho⟩:=bind_some ho
  replace hz:=rn hz
  obtain ⟨e,i',h1,h2,h3⟩:=ht.h
  obtain ⟨F,Hd,hL,hS,hG,hK⟩:=stay hs
  obtain ⟨dk,_,⟨⟨f0,Co,tT⟩,_⟩,_⟩:=hr.sound hS
  have hZ:∀ b∈f0,Z b:=fun b hb=>(tT b hb).elim (fun h=>h) (fun h=>h)
  obtain ⟨⟨a,c,mm⟩,bc,cs,f1,dq,Gr,ji⟩:=s8 Co j hz.1 hz.2
  have nz:(r4 Sc).size=n:=hn
  rw [nz] at ji
  obtain ⟨u,rfl,sJ⟩:=rJ.op dq.2
  have hblk:Z (dc v n j).block:=by
   obtain ⟨base,cap,mm,ee⟩:=Co
   rcases ee with ⟨rfl,_⟩ | ⟨b,off,cr,e',fz,f',rfl,_,rfl,_⟩
   ·simp at bc; omega
   ·obtain rfl:v = .slice (some ⟨b,off,none⟩) xs.length cap:=by simpa using mm
    have:(dc (.slice (some ⟨b,off,none⟩) xs.length cap) n j).block=b:=by unfold dc; rw [vF]
    rw [this]; exact hZ b (by simp)
  have Gs:fact Z w0 [] (.ak (dc v n j) (cl z u)):=⟨fun i u' hi=>ji i u' hi,fun _=>hblk⟩
  have ei:HL Z w0 (.ak (dc v n j) (cl z u) :: en z u) []:=.fact Gs (u7 (sJ Z fun b hb=>hZ b (Gr b hb)))
  obtain ⟨F',uY,fw⟩:=ei.build hS
  refine ih z u hA.n B o ho r0 w0 H Z ha ⟨F',Hd,hL,fw,hG.perm (List.Perm.append_left H (by simpa using uY))⟩ (hp.val hh ha hA hv fun r ee _ _ _ w hC=>?_)
  rw [lv h1 h2 ((aR ee hx).trans mm) (aR ee hy) hz.1 (by omega),h3,mm]
  rfl
 | @TQ hd α V Sc cl en A as d n e bt x y v us xs k j t ty ops i sl ms fr Γ Γ1 f ht hy h1 hg rJ _ ih=>
  intro hv hx hA B o ho r0 w0 H Z ha hs hp
  replace rJ:SO Sc V cl en:=by cases rJ; assumption
  obtain ⟨z,hz,ho⟩:=bind_some ho
  replace hz:=rn hz
  obtain ⟨q1,i',_,q2,_,_,q3,_⟩:=ht.h
  obtain ⟨F,Hd,hL,hS,hG,hK⟩:=stay hs
  obtain ⟨f0,F1,_,hO,_⟩:=h1.sound hS
  obtain ⟨g0,hk,n4⟩:=hg.rd hS []
  obtain ⟨c,g1,e1,e2,e3⟩:=De j.toNat hk.2.1 hz.2
  obtain ⟨u,rfl,sJ⟩:=rJ.op e2
  have hlen:us.length=xs.length:=AK hk.2.1
  have bc:j.toNat < xs.length:=(List.getElem?_eq_some_iff.1 hz.2).1
  have mm:∃ a c,v = .slice (some a) us.length c:=by
   obtain ⟨b0,cap,hv,hr⟩:=hO
   obtain rfl:v = .slice b0 us.length cap:=by simpa using hv
   rcases hr with ⟨_,_,rfl,_⟩ | ⟨b,cur,f',rfl,_⟩
   ·rw [← hlen] at bc; simp at bc
   ·exact ⟨_,_,rfl⟩
  obtain ⟨a,c',rfl⟩:=mm
  have ei:HL Z w0 (.rd false (Ar us j) (.bool true) (cl z u) :: en z u) []:=.fact ⟨[],⟨rfl,⟨hz.1,e1⟩,rfl⟩,fun _ h=>absurd h List.not_mem_nil⟩ (u7 (sJ Z fun b hb=>n4 b (e3 b hb)))
  obtain ⟨F',uY,fw⟩:=ei.build hS
  refine ih z u hA.n B o ho r0 w0 H Z ha ⟨F',Hd,hL,fw,hG.perm (List.Perm.append_left H (by simpa using uY))⟩ (hp.val hh ha hA hv fun r ee _ _ _ w hC=>?_)
  rw [lv q1 q2 (aR ee hx) (aR ee hy) hz.1 (by omega),q3]
  rfl
 | @Yo hd A as d n e off x v u us j cs t ty ops i sl ms fr Γ Γ1 m h1 qu hc _ ih=>
  intro hv hx ht hA B o ho r0 w0 H Z ha hs hp
  obtain ⟨F,_,_,hS,_,hK⟩:=stay hs
  refine ih hA.n B o ho r0 w0 H Z ha hs (hp.val hh ha hA hv fun r hr _ _ _ w hC=>?_)
  obtain ⟨f,F1,_,hO,_⟩:=h1.sound (hK w hC)
  obtain ⟨_,⟨_,⟨hj,hu⟩,_⟩,_⟩:=qu.rd (hK w hC) []
  exact Ld ht ((xW hO hj hu).2.2 off u hc) (aR hr hx) w (an.refl _ _)
 | @TR hd A as d n e x v u us j cs t ty ops i sl ms fr Γ Γ1 m h1 qu hc _ ih=>
  intro hv hx ht hA B o ho r0 w0 H Z ha hs hp
  obtain ⟨F,_,_,hS,_,hK⟩:=stay hs
  refine ih hA.n B o ho r0 w0 H Z ha hs (hp.val hh ha hA hv fun r hr _ _ _ w hC=>?_)
  obtain ⟨f,F1,_,hO,_⟩:=h1.sound (hK w hC)
  obtain ⟨_,⟨_,⟨hj,hu⟩,_⟩,_⟩:=qu.rd (hK w hC) []
  exact Ld ht ((xW hO hj hu).2.2 0 u hc) (aR hr hx) w (an.refl _ _)
 | load hv hx _ ih=>rename_i ht _; exact fun h1=>ih hv hx ht.h h1
 | lsw _ _ ih=>exact fun hv hx ht h1=>ih hv hx ht h1
 | @slH hd α o A as d x lo hi v k1 k2 a b E T xs t e ty ops i sl ms fr Γ Γ1 Γ' f ht hv hx Ja L9 hc hr hE _ ih=>
  intro h1 B oo ho r0 w0 H Z ha hs hp
  obtain ⟨ys,T9,ho⟩:=bind_some ho
  obtain ⟨j0,j1,j2,rfl⟩:=Mm T9
  obtain ⟨e',i',q1,q2,q3⟩:=ht.h
  obtain ⟨F,Hd,hL,hS,hG,hK⟩:=stay hs
  obtain ⟨f1,F1,_,hO,_⟩:=hc.sound hS
  obtain ⟨base,cap,rfl,Gy⟩ : ∃ base cap,v = .slice base xs.length cap∧xs.length≤cap:=by
   obtain ⟨base,cap,hv,hr⟩:=hO
   refine ⟨base,cap,by simpa using hv,?_⟩
   rcases hr with ⟨_,rfl,rfl,_⟩ | ⟨b0,cur,f0,_,_,_,xJ,_⟩
   ·simp
   ·exact xJ
  obtain ⟨dk,_,⟨⟨g0,hg0,tT⟩,_⟩,tG⟩:=(hr (sliced base a.toNat b.toNat cap 1) ((xs.drop a.toNat).take (b.toNat - a.toNat))).sound hS
  have hf:=OK (a:=a.toNat) (b:=b.toNat) hE hg0 (fun i hi=>(tT i hi).elim (fun h=>h) fun h=>h) (by omega) (by omega) Gy
  refine ih _ _ h1.n B oo ho r0 w0 H Z ha ⟨F,Hd,hL,tG hf,hG⟩ (hp.val hh ha h1 hv fun r ee _ _ _ w hC=>?_)
  have q4:P.elem t=e':=by simp [Program.elem,q1]
  have rP:(sizeOf (P.elem t)).run P w = .ok 1 w:=by rw [q4]; simp [sizeOf,typeInfo,q2,q3]
  simp [execOp,aR ee hx,aR ee Ja,aR ee L9,run_sliceAt_slice w t _ _ _ _ (by rw [q4]; exact q1),run_slice_lh (P:=P) w t base xs.length cap (by rw [q4]; exact q1) k1 k2 a b j0 j1 (by omega),rP,Result.andThen]
 | @ZW hd α A as d x v j E z o' t ty ops i sl ms fr Γ TP gp m hV h Dn _ ih=>
  intro hv hx ht h1 B o ho r0 w0 H Z ha hs hp
  obtain ⟨F,Hd,⟨hL,Ml⟩,hS,hG,hK⟩:=stay hs
  obtain ⟨_,⟨u,k,h3,h4,h5⟩,_⟩:=(h (.bool true)).sound hL
  obtain ⟨dk,⟨u',k',Yu,h5',h6⟩,tG⟩:=(h u).sound hL
  rw [h3] at Yu
  cases Yu
  exact ih u h1.n B o ho r0 w0 H Z ha ⟨F,Hd,⟨(Dn u).sound h3 (tG ⟨k',h5',h6⟩),Ml⟩,hS,hG⟩ (hp.Z1 hh ha h1 hV hv fun r hr _ _ _ w hC=>Ld ht h3 (aR hr hx) w hC)
 | @Tq hd α A as d x v j o E z t ty ops i sl ms fr Γ Γx m h _ ih=>
  intro hv hx ht h1 B o' ho r0 w0 H Z ha hs hp
  obtain ⟨F,Hd,hL,hS,hG,hK⟩:=stay hs
  obtain ⟨_,⟨u,k,h2,h3,_⟩,_⟩:=h.sound hS
  refine ih hv hx ht h1 B o' ho r0 w0 H Z ha hs ⟨u,fun w hC=>?_⟩ hp
  have hb:(dc v 1 j).block ∉ H:=fun hm=>(h.AL hS).elim (fun h=>h.elim (fun h=>absurd h List.not_mem_nil) fun h=>(List.nodup_append.1 hG.nd).2.2 _ hm _ h rfl) fun h=>hG.apart _ (List.mem_append_left _ hm) h
  have hc:=hC.cell hb h2
  obtain ⟨_,⟨u',k',h4,h5,_⟩,_⟩:=h.sound (hK w hC)
  rw [hc] at h4
  cases h4
  exact ⟨hc,k',h5⟩
 | Tr h _ ih=>
  intro hv hx ht h1 B o ho r0 w0 H Z ha hs hp
  obtain ⟨F,_,_,hS,_,hK⟩:=stay hs
  exact ih h1.n B o ho r0 w0 H Z ha hs (hp.val hh ha h1 hv fun r hr _ _ _ w hC=>Ld ht (h.sound (hK w hC)) (aR hr hx) w (an.refl _ _))
 | LG h _ ih=>
  intro hv hx ht h1 B o ho r0 w0 H Z ha hs hp
  obtain ⟨F,_,_,hS,_,hK⟩:=stay hs
  refine ih h1.n B o ho r0 w0 H Z ha hs (hp.val hh ha h1 hv fun r hr _ _ _ w hC=>?_)
  obtain ⟨h2,h3⟩:=h.sound (hK w hC)
  exact Lg ht h2 (aR hr hx) h3 w (an.refl _ _)
 | Ts _ ih=>
  intro hv hx ht h1 B o ho r0 w0 H Z ha hs hu hp
  obtain ⟨u,hu⟩:=hu
  obtain ⟨_,_,h3,_⟩:=hu w0 (an.refl _ _)
  obtain rfl:u=_:=by simpa using h3
  exact ih h1.n B o ho r0 w0 H Z ha hs (hp.val hh ha h1 hv fun r hr _ _ _ w hC=>Ld ht (hu w hC).1 (aR hr hx) w (an.refl _ _))
 | Tt _ ih=>
  intro hv hx ht h1 B o ho r0 w0 H Z ha hs hu hp
  obtain ⟨u,hu⟩:=hu
  obtain ⟨_,_,h3,_⟩:=hu w0 (an.refl _ _)
  obtain rfl:u=_:=by simpa using h3
  exact ih h1.n B o ho r0 w0 H Z ha hs (hp.val hh ha h1 hv fun r hr _ _ _ w hC=>Ld ht (hu w hC).1 (aR hr hx) w (an.refl _ _))
 | @Tu hd α A as d x v j E z o' t ty ops i sl ms fr Γ Γ1 Γ' m h Dn _ ih=>
  intro hv hx ht h1 B o ho r0 w0 H Z ha hs hu hp
  obtain ⟨u,hu⟩:=hu
  obtain ⟨h2,_⟩:=hu w0 (an.refl _ _)
  obtain ⟨F,Hd,hL,hS,hG,hK⟩:=stay hs
  obtain ⟨dk,⟨u',k',h4,h5,h6⟩,tG⟩:=(h u).sound hS
  rw [h2] at h4
  cases h4
  exact ih u h1.n B o ho r0 w0 H Z ha ⟨F,Hd,hL,(Dn u).sound h2 (tG ⟨k',h5,h6⟩),hG⟩ (hp.val hh ha h1 hv fun r hr _ _ _ w hC=>Ld ht (hu w hC).1 (aR hr hx) w (an.refl _ _))
 | @Gm hd α A as d t e ty E z0 bt ops i sl ms Γ m hz _ ih=>
  intro h1 B o ho r0 w0 H Z ha hs hp
  exact ih h1.n B o ho r0 w0 H Z ha hs (R4 hz h1 hp)
 | LF hU _ ih=>exact fun h1=>ih hU h1
 | @call hd β V A as d f xs ak ty mo rt ps ops i sl ms fr Γ g hf hv hc hi fq hw _ ih=>
  intro _ h1 B o ho r0 w0 H Z ha hs hp
  obtain ⟨y,hy,ho⟩:=bind_some ho
  obtain ⟨pos,ab,h2⟩:=h1.o
  exact ih y h1.n (by unfold br; rw [h2]; rfl) B o ho r0 w0 H Z ha hs (OF hh hf hv hc hi fq hw h1 hy ha hs hp)
 | @Xt hd β V A as d f xs ak ty mo rt ps ops i sl ms fr Γ g hf hV hv hc hi fq hw _ ih=>
  intro hU h1 B o ho r0 w0 H Z ha hs hp
  obtain ⟨y,hy,ho⟩:=bind_some ho
  obtain ⟨pos,ab,h2⟩:=h1.o
  exact ih y h1.n (by unfold br; rw [h2]; rfl) B o ho r0 w0 H Z ha hs (Mc hh hf hv hU hV hc hi fq hw h1 hy ha hs hp)
 | @QZ hd β V A as d f xs ak ty mo rt ps ops i sl ms fr Γ g hf hv hc hi fq _ ih=>
  intro hU h1 B o ho r0 w0 H Z ha hs hp
  obtain ⟨y,hy,ho⟩:=bind_some ho
  obtain ⟨pos,ab,h2⟩:=h1.o
  exact ih y h1.n (by unfold br; rw [h2]; rfl) B o ho r0 w0 H Z ha hs (Mg hh hf hv hc hi fq h1 hy ha hs hp)
 | @L7 hd β V A as d f xs ak ty mo rt ps ops i sl ms fr Γ g hf hV hv hc hi fq _ ih=>
  intro hU h1 B o ho r0 w0 H Z ha hs hp
  obtain ⟨y,hy,ho⟩:=bind_some ho
  obtain ⟨pos,ab,h2⟩:=h1.o
  exact ih y h1.n (by unfold br; rw [h2]; rfl) B o ho r0 w0 H Z ha hs (Kj hh hf hv hU hV hc hi fq h1 hy ha hs hp)
 | @L8 hd β V j1 a1 fg A as d f xs ak ty mo rt ps ops i sl ms fr Γ g hf hg Ds h4 hv hc hi fq _ ih=>
  intro hU h1 B o ho r0 w0 H Z ha hs hp
  obtain ⟨y,hy,ho⟩:=bind_some ho
  obtain ⟨pos,ab,h2⟩:=h1.o
  exact ih y h1.n (by unfold br; rw [h2]; rfl) B o ho r0 w0 H Z ha hs (let ⟨S',e1,e2,e3⟩:=Kk hh hf hv hU hg Ds h4 hc hi fq h1 hy ha hs hp; ⟨S',e1,e2.re (j7 (by rw [← h1.A]; exact iv.1 h4)).1,e3⟩)
 | @Xu hd β V j1 a1 fg A as d f xs ak ty mo rt ps ops i sl ms fr Γ g hf hg Ds h4 hv hc hi fq hw _ ih=>
  intro hU h1 B o ho r0 w0 H Z ha hs hp
  obtain ⟨y,hy,ho⟩:=bind_some ho
  obtain ⟨pos,ab,h2⟩:=h1.o
  exact ih y h1.n (by unfold br; rw [h2]; rfl) B o ho r0 w0 H Z ha hs (let ⟨S',e1,e2,e3⟩:=Md hh hf hv hU hg Ds h4 hc hi fq hw h1 hy ha hs hp; ⟨S',e1,e2.re (j7 (by rw [← h1.A]; exact iv.1 h4)).1,e3⟩)
 | @crb hd u ps d as ops i sl ms Γ m _ ih=>
  intro h1 gp B o ho r0 w0 H Z ha hs ⟨S',hl,hR,hO,hL⟩
  subst hl
  refine ih h1 B o ho r0 w0 H Z ha hs ⟨S'++[⟨true,MV Z ⟨S'.length,d,[],Unit,fun _=>u,fun _=>ps⟩⟩],by simp,(hR.mem (b:=⟨S'.length,d,[],Unit,fun _=>u,fun _=>ps⟩) rfl gp (fun _ h=>nomatch h)).ZX (s:=⟨true,MV Z ⟨S'.length,d,[],Unit,fun _=>u,fun _=>ps⟩⟩) gp (by simp) rfl (fun f w r x ⟨v,h,_⟩=>h),fun j hj=>?_⟩
  by_cases h2:j < S'.length
  ·exact jo.more (hO j h2) h2
  ·obtain rfl:j=S'.length:=by omega
   exact hL _ fun f w r x h=>⟨f,fun _ h=>h,h⟩
 | @crv hd u d as ops i sl ms Γ m _ ih=>
  intro h1 gp B o ho r0 w0 H Z ha hs ⟨S',hl,hR,hO,hL⟩
  subst hl
  refine ih h1 B o ho r0 w0 H Z ha hs ⟨_,by simp,hR.val gp,fun j hj=>?_⟩
  by_cases h2:j < S'.length
  ·exact jo.more (hO j h2) h2
  ·obtain rfl:j=S'.length:=by omega
   exact hL (pl fun _ _ x=>x=_) fun f w r x ⟨v,h,_⟩=>⟨[],fun _ h=>absurd h List.not_mem_nil,h⟩
 | @crm hd V u ps d as ops i sl ms Γ m _ ih=>
  intro h1 gp B o ho r0 w0 H Z ha hs ⟨S',hl,hR,hO,hL⟩
  subst hl
  refine ih h1 B o ho r0 w0 H Z ha hs ⟨_,by simp,hR.mem rfl gp (fun _ h=>nomatch h),fun j hj=>?_⟩
  by_cases h2:j < S'.length
  ·exact jo.more (hO j h2) h2
  ·obtain rfl:j=S'.length:=by omega
   exact hL _ fun f w r x h=>⟨f,fun _ h=>h,h⟩
 | Tw hU _ ih=>exact fun h1=>ih hU h1
 | apL AZ hv db h2 h3 h5 h6 hl hz h1 hr hi hn hb _ ih=>
  rename_i hT _
  intro hU h B o ho r0 w0 H Z ha hs hp
  obtain ⟨u,hu,ho⟩:=bind_some ho
  obtain ⟨p1,p2⟩:=R7 hh ha hT hU AZ hv db h2 h3 h5 h6 hl hz h1 hr hi hn hb hu h hs hp
  exact ih h.n B o ho r0 w0 H Z ha p2 p1
 | apH AZ hv db h2 h5 hl hz h1 hr hy _ ih=>
  rename_i hT _
  intro hU h B o ho r0 w0 H Z ha hs hp
  obtain ⟨u,hu,ho⟩:=bind_some ho
  obtain ⟨p1,p2⟩:=R6 hh ha hT hU AZ hv db h2 h5 hl hz h1 hr hy hu h hs hp
  exact ih h.n B o ho r0 w0 H Z ha p2 p1
 | apM h1 h2 h3 uY hj kp h4 h5 h6 hi hn hb _ ih=>
  rename_i hT _
  intro hU h B o ho r0 w0 H Z ha hs hp
  obtain ⟨u,hu,ho⟩:=bind_some ho
  exact ih h.n B o ho r0 w0 H Z ha hs (R8 hT hU h1 h2 h3 uY hj kp h4 h5 h6 hi hn hb hu h hp)
 | ap1 h1 h2 h3 hw h4 h5 _ ih=>
  rename_i hz _
  intro h6 h B o ho r0 w0 H Z ha hs hp
  obtain ⟨u,hu,ho⟩:=bind_some ho
  exact ih h.n B o ho r0 w0 H Z ha hs (R0 hz h1 h2 h3 h4 h5 (h6.trans hw) hu h hp)
 | Q0 h1 h3 hw h4 hv hx hr _ ih=>
  rename_i hz _
  intro h6 h B o ho r0 w0 H Z ha hs hp
  obtain ⟨u,hu,ho⟩:=bind_some ho
  obtain ⟨F,_,_,_,_,hK⟩:=stay hs
  exact ih h.n B o ho r0 w0 H Z ha hs (OC hz h1 h3 h4 (h6.trans hw) hh ha hv hx hr hK hu h hp)
 | TS h1 h3 hw h4 h2 h7 h5 _ ih=>
  rename_i hz _
  intro h6 h B o ho r0 w0 H Z ha hs hp
  obtain ⟨u,hu,ho⟩:=bind_some ho
  exact ih h.n B o ho r0 w0 H Z ha hs (OD hz h1 h3 h4 (h6.trans hw) h2 h7 h5 hu h hp)
 | sw1 _ _ ih=>exact fun h1=>ih h1
 | sw2 _ _ ih=>exact fun h1=>ih h1
 | sw3 _ _ ih=>exact fun h1=>ih h1
 | sw4 _ _ ih=>exact fun h1=>ih h1
 | sw6 _ _ ih=>exact fun h1=>ih h1
 | wl0 _ ih=>exact fun h1=>ih h1
 | TO _ ih=>
  rename_i hz _
  intro h1 B o ho r0 w0 H Z ha hs hp
  exact ih h1.n B o ho r0 w0 H Z ha hs (R2 hz h1 hp)
 | sw5 _ _ ih=>exact fun h1=>ih h1
 | mln hi fq hx _ ih=>
  rename_i ht _
  intro h1 B o ho r0 w0 H Z ha hs hp
  exact ih h1.n B o ho r0 w0 H Z ha hs (TX hp h1 ht hi fq hx)
 | wv hv hq _ ih=>
  intro h1 B o ho r0 w0 H Z ha hs hp
  obtain ⟨F,_,_,_,_,hK⟩:=stay hs
  exact ih h1.n B o ho r0 w0 H Z ha hs (hp.val hh ha h1 hv fun r hr _ _ _ w hC=>hq.sound (hK w hC) hr _ _ _ _ _ w (an.refl _ _))
 | wlt hv hx ho _ ih=>
  rename_i hz _
  intro h1 B o bw r0 w0 H Z ha hs hp
  obtain ⟨F,_,_,_,_,hK⟩:=stay hs
  exact ih h1.n B o bw r0 w0 H Z ha hs (TZ hh ha hz hv hx ho hK h1 hp)
 | ltn hv gp hn hb _ ih=>
  rename_i hz _
  intro h1 B o bw r0 w0 H Z ha hs hp
  obtain ⟨F,_,_,_,_,hK⟩:=stay hs
  exact ih h1.n B o bw r0 w0 H Z ha hs (Jb hh ha hz hv gp hn hb hK h1 hp)
 | ltu hv gp hn hb _ ih=>
  rename_i hz _
  intro h1 B o bw r0 w0 H Z ha hs hp
  obtain ⟨F,_,_,_,_,hK⟩:=stay hs
  exact ih h1.n B o bw r0 w0 H Z ha hs (Jb hh ha ⟨hz.h⟩ hv gp hn hb hK h1 hp)
 | @tv hd A as op x y k k' a b t t' d ty ops i sl ms fr Γ f hv hx hy hk _ ih=>
  intro h1 B o ho r0 w0 H Z ha hs hp
  obtain ⟨z,hz,ho⟩:=bind_some ho
  have wX:LD op=true∨k=k':=by
   cases hk with
   | same=>exact .inr rfl
   | sh h=>exact .inl h
  exact ih z h1.n B o ho r0 w0 H Z ha hs (hp.val hh ha h1 hv fun r hr _ _ _ w hC=>LW (aR hr hx) (aR hr hy) wX hz)
 | mk hv hx _ ih=>
  rename_i hz _
  intro h1 B o ho r0 w0 H Z ha hs hp
  obtain ⟨n,hn,ho⟩:=bind_some ho
  exact ih n h1.n B o ho r0 w0 H Z ha hs (TY hh ha hz hv hx hn h1 hp)
 | mmv hi fq hj _ ih=>
  intro h1 B o ho r0 w0 H Z ha hs hp
  exact ih h1.n B o ho r0 w0 H Z ha hs (hp.dep (X:=fun u=>u) h1 hi fq hj fun r x hx w pos ab=>(Mv (W:=w) _ rfl) w (an.refl _ _))
 | @mex hd t k A as d ty ops i sl ms Γ m hi fq hj Ay _ ih=>
  intro h1 B o ho r0 w0 H Z ha hs hp
  refine ih h1.n B o ho r0 w0 H Z ha hs (hp.dep (X:=fun u=>Kf u _) h1 hi fq hj fun r x hx w pos ab=>?_)
  obtain ⟨yM,hc⟩:=Ay x
  have AW:=(qm hx wQ) _ _ (by rw [List.append_nil]; exact yM)
  have:=(Ex (W:=w) (P:=P) (r:=r) (d:=some d) (ty:=ty) (pos:=pos) (ab:=ab) (g:=none) _ (x:=.tmp t) AW (by simpa using hc)) w (an.refl _ _)
  rw [this,AW]
  simp [Kf,hc]
 | mfd hi fq hj Ay _ ih=>
  rename_i hf _
  intro h1 B o ho r0 w0 H Z ha hs hp
  refine ih h1.n B o ho r0 w0 H Z ha hs (hp.dep (X:=fun u=>Kg u _) h1 hi fq hj fun r x hx w pos ab=>?_)
  obtain ⟨yM,hc⟩:=Ay x
  obtain ⟨fs,f,ds,q1,q2,q3,q4,q5⟩:=hf.h
  have AW:=(qm hx wQ) _ _ (by rw [List.append_nil]; exact yM)
  rw [CH q1 q2 q3 q4 q5 (x:=.tmp _) AW (by simpa using hc),AW]
  simp [Kg,hc]
 | mif hi fq hj _ ih=>
  rename_i hf _
  intro h1 B o ho r0 w0 H Z ha hs hp
  obtain ⟨ds,q1,q2⟩:=hf.h
  exact ih h1.n B o ho r0 w0 H Z ha hs (hp.dep (X:=fun u=>.iface _ u) h1 hi fq hj fun r x hx w pos ab=>(If (W:=w) q1 q2 _ rfl) w (an.refl _ _))
 | mbl hi fq _ hj hv Ay _ ih=>
  rename_i hb _ _
  intro h1 B o ho r0 w0 H Z ha hs hp
  exact ih h1.n B o ho r0 w0 H Z ha hs (R3 hh hb hi fq hj hv Ay h1 ha hs hp)
 | mlt hi fq hj Ay _ ih=>
  rename_i hz _
  intro h1 B o ho r0 w0 H Z ha hs hp
  exact ih h1.n B o ho r0 w0 H Z ha hs (R5 hz hi fq hj Ay h1 hp)
 | val hv hq _ ih=>
  intro h1 B o ho r0 w0 H Z ha hs hp
  obtain ⟨F,_,_,_,_,hK⟩:=stay hs
  exact ih h1.n B o ho r0 w0 H Z ha hs (hp.val hh ha h1 hv fun r hr _ _ _ w hC=>hq.sound (hK w hC) hr _ _ _ _ _ w (an.refl _ _))
end
end Go.Dk
namespace Go.Dk
open Go Go.Li
section
variable {R S:Type} {P:Program} {cx:Cx R} {K:dh R S} {l tail:LO} {base fr:Fr} {w:World} {Z:Nat→Prop}
theorem Iu {n:Nat} {Q:Exit→(Nat→Value)→World→Prop} {r:NV} (hQ:∀ c,¬ Q (.panic c) r w):∀ gn,∀ c,¬ zt P n Q gn (.panic c) r w:=by
 intro gn
 induction gn with
 | nil=>exact hQ
 | cons a gn ih=>cases a <;> exact ih
theorem Iv {B:Bs} {b:Kb R S} {o:Out S R} {r:NV}:∀ c,¬ FU P cx B b o (.panic c) r w:=by
 intro c
 cases b <;> cases o <;> exact fun h=>h
theorem si {B:Bs} {K:dh R S} {o:Out S R} {r:NV}:∀ c,¬ ma P cx B K o (.panic c) r w:=Iu Iv _
def zM (g:Nat→List Nat):List ep→List Nat
 | []=>[]
 | a :: l=>g a.j++zM g l
theorem CL {g:Nat→List Nat}:∀ {ms:MM} {b:Nat},b∈zM g ms→∃ a∈ms,b∈g a.j:=by
 intro ms
 induction ms with
 | nil=>intro b h; exact absurd h List.not_mem_nil
 | cons a ms ih=>
  intro b h
  rcases List.mem_append.1 h with h | h
  ·exact ⟨a,by simp,h⟩
  ·obtain ⟨c,h1,h2⟩:=ih h
   exact ⟨c,List.mem_cons_of_mem _ h1,h2⟩
theorem Jg {Vo Vr A F:LN} (h:(Vo++Vr).Perm A):((Vo++F)++Vr).Perm (A++F):=by
 refine List.Perm.trans ?_ (h.append_right F)
 rw [List.append_assoc,List.append_assoc]
 exact List.Perm.append_left Vo List.perm_append_comm
theorem Q1 {g:Nat→List Nat} {r:NV}:∀ {ms:MM},CJ ms=true→(ms.map (·.j)).Nodup→(∀ a∈ms,∀ b∈ms,a.j≠b.j→sb (g a.j) (g b.j))→(∀ a∈ms,MV Z a (g a.j) w r (r a.d))→
  ∃ x:mq ms,(∀ p∈mF ms x,r p.1=p.2)∧(∃ Vo Vr,(Vo++Vr).Perm (zM g ms)∧(∀ b∈Vr,b < w.heap.size)∧HL (rO Z Vr) w (Ep ms x) Vo)∧(zM g ms).Nodup:=by
 intro ms
 induction ms with
 | nil=>intro _ _ _ _; exact ⟨(),fun p hp=>absurd hp List.not_mem_nil,⟨[],[],.refl _,fun b (h:b∈[])=>absurd h List.not_mem_nil,.nil⟩,List.nodup_nil⟩
 | cons a ms ih=>
  intro fq hd hi h
  unfold CJ at fq
  rw [Bool.and_eq_true] at fq
  rw [List.map_cons,List.nodup_cons] at hd
  obtain ⟨x,hx,hl,hn⟩:=ih fq.2 hd.2 (fun b hb c hc=>hi b (List.mem_cons_of_mem _ hb) c (List.mem_cons_of_mem _ hc)) fun b hb=>h b (List.mem_cons_of_mem _ hb)
  obtain ⟨v,e1,e2,e3⟩:=h a (by simp)
  have es:va a r=AP a (mF ms x):=by
   have h3:=fq.1
   rw [List.all_eq_true] at h3
   refine BY fun t ht=>?_
   unfold xS
   rw [Ov (h3 t ht) hx]
  rw [es] at e1 e2
  refine ⟨(v,x),?_,?_,tZ e3 hn ?_⟩
  rotate_left
  ·obtain ⟨Fo,Fr,hf,h1,h2⟩:=e2.all
   obtain ⟨Vo,Vr,k1,k2,k3⟩:=hl
   refine ⟨Fo++Vo,Fr++Vr,?_,fun b hb=>(List.mem_append.1 hb).elim (h1 b) (k2 b),(h2.mono fun b h=>h.imp id fun h=>List.mem_append_left _ h).app (k3.mono fun b h=>h.imp id fun h=>List.mem_append_right _ h)⟩
   show List.Perm _ (g a.j++zM g ms)
   rw [hf]
   refine List.Perm.trans ?_ (k1.append_left (Fo++Fr))
   rw [List.append_assoc,List.append_assoc]
   refine List.Perm.append_left Fo ?_
   rw [← List.append_assoc,← List.append_assoc]
   exact List.Perm.append_right Vr List.perm_append_comm
  rotate_right
  ·intro p hp
   rcases List.mem_cons.1 hp with rfl | hp
   ·exact e1
   ·exact hx p hp
  ·intro b hb hm
   obtain ⟨c,h1,h2⟩:=CL hm
   exact hi a (by simp) c (List.mem_cons_of_mem _ h1) (fun e=>hd.1 (by rw [e]; exact List.mem_map_of_mem h1)) b hb h2
theorem GK {r:NV} {f:Fr}:∀ {sl:LQ},(∀ p∈sl,r p.2.1=p.2.2)→(∀ p∈f,r p.1=p.2)→∀ p∈AQ sl f,r p.1=p.2:=by
 intro sl
 induction sl with
 | nil=>intro _ h; exact h
 | cons a sl ih=>
  intro h1 h2 p hp
  rcases List.mem_cons.1 hp with rfl | hp
  ·exact h1 a (by simp)
  ·exact ih (fun p hp=>h1 p (List.mem_cons_of_mem _ hp)) h2 p hp
theorem R9 {mt id:Nat} {U:LL} {Zl:LN} {Ua:QE} (hU:((List.range mt).all fun i=>(U.getD i []).all fun u=>Nat.beq u l.length || ((cj l).getD i []).contains u)=true) (hh:lz l mt base=true) (hd:df cx.n l=true) (hA:zN l mt Zl=true) (hZ:GL l mt Zl=true) (GM:mt≤l.length) (ht:tail=l.drop mt) {i:Nat} {sl:LQ} {ms:MM} {Γ:QE} {m:Option (Out S R)} (Ub:CJ ms=true) (sJ:Er U sl ms=true)
  (h:∀ x:mq ms,D P cx (.p (AQ sl (mF ms x)) (Ep ms x) base Γ fun fr Γ=>.tg false (CF tail) l tail K Γ fr m)):Kn P cx K l mt U Ua id base (.a [] [] i sl ms Γ m):=by
 rintro ⟨_,h2,h3⟩ B o ho r0 w0 H Z ha hs ⟨S',hl,hR,hO⟩
 have hi:i=mt:=by
  have:=congrArg List.length h2
  simp at this
  omega
 subst hl
 obtain ⟨F,Hd,⟨tY,wq,tk,wu⟩,hS,hG⟩:=hs
 refine Uc (N:=Z) (S:=S') (U:=U) (H:=H) hd hA hZ (fun c r w h=>si c h) GM hi tk hU (fun b hb=>⟨hG.ml b hb,fun h=>hG.apart b (List.mem_append_left _ h) hb⟩) (fun i s hs=>hR.s i s hs) (fun j hj=>hO j (by omega)) ?_
 intro g r w hI
 have Ko:∀ k j,j∈U.getD k []→∀ a∈ms,a.j≠j:=by
  intro k j hj
  unfold Er at sJ
  rw [List.getD_eq_getElem?_getD] at hj
  cases hk:U[k]? with
  | none=>rw [hk] at hj; exact absurd hj List.not_mem_nil
  | some us=>
   rw [hk] at hj
   have h1:=List.all_eq_true.1 (List.all_eq_true.1 sJ us (List.mem_of_getElem? hk)) j hj
   intro a ha he
   have:=List.all_eq_true.1 h1 a ha
   rw [he,Nat.beq_refl] at this
   cases this
 have hD:∀ j,j < mt→(∀ k,j ∉ U.getD k [])→w6 l S' j g r w:=fun j hj hn=>hI.done j hj fun k _=>hn k
 have bc:∀ a∈ms,a.j < mt:=fun a ha=>hi ▸ hR.lt ha
 obtain ⟨x,hx,tX,Ud⟩:=Q1 (g:=g) (r:=r) (w:=w) Ub hR.d (fun a ha b hb uE=>hI.wx _ _ (bc a ha) (bc b hb) uE) fun a ha=>by
  have:=hR.w5 (S2:=[]) ha (by rw [List.append_nil]; exact hD a.j (bc a ha) (fun k hk=>Ko k _ hk a ha rfl))
  exact this
 have Dy:=List.nodup_append.1 hG.nd
 have mz:∀ b∈zM g ms,w0.heap.size≤b∨b∈H:=fun b hb=>by
  obtain ⟨a,h1,h2⟩:=CL hb
  exact (hI.fresh a.j (bc a h1) b h2).1.imp (fun h=>h) (·.1)
 have ed:=rK.stay hS hG hI.iH
 obtain ⟨Vo,Vr,Ue,Uf,tX⟩:=tX
 obtain ⟨F',hp,fw⟩:=tX.build (ed.mono (fun _ h=>.inl h) fun _ h=>h)
 have vK:Gd B Z (zM g ms++F) w:=by
  refine ⟨tZ Ud Dy.2.1 fun b hb hF=>(mz b hb).elim (fun h=>Nat.lt_irrefl _ (Nat.lt_of_lt_of_le (hS.lt b hF) h)) (fun h=>Dy.2.2 b h b hF rfl),?_,fun b hb=>Nat.lt_of_lt_of_le (hG.ml b hb) hI.iH.size,?_,hG.tQ,hG.tj,hG.iH.then hI.iH fun b hb=>hG.low b (List.mem_append_left _ hb)⟩
  ·intro b hb hz
   rcases List.mem_append.1 hb with hb | hb
   ·exact (mz b hb).elim (fun h=>Nat.lt_irrefl _ (Nat.lt_of_lt_of_le (hG.ml b hz) h)) (fun h=>hG.apart b (List.mem_append_left _ h) hz)
   ·exact hG.apart b (List.mem_append_right _ hb) hz
  ·intro b hb
   rcases List.mem_append.1 hb with hb | hb
   ·exact (mz b hb).elim (fun h=>.inr (Nat.le_trans hG.iH.size h)) (fun h=>hG.low b (List.mem_append_left _ h))
   ·exact hG.low b (List.mem_append_right _ hb)
 have OL:cu r ((AQ sl (mF ms x)).reverse++base):=by
  refine qn (GK (fun p hp=>?_) hx) (jf hh ha hI.other)
  exact hR.xT (S2:=[]) hp fun j _ hj=>(by rw [List.append_nil]; exact hI.tw j (hi ▸ hj))
 have:=(h x).sound B o ho r w OL ⟨_,F',fw,((vK.perm (Jg Ue)).freeze Uf).perm hp⟩
 rw [ht] at this
 exact this
def Kq (q:Option (Bool×Nat×Value)) (f:Fr):Fr:=
 match q with
 | none=>f
 | some (_,d,u)=>(d,u) :: f
theorem Kp.lk {ws:LN} {q:Option (Bool×Nat×Value)} {f g:Fr} (h:Kp ws q f g):(∀ b d u,q=some (b,d,u)→b=dx d ws)→∀ t v,look g t=some v→dx t ws=false∧look (Kq q f) t=some v:=by
 induction h with
 | nil=>intro _ t v h; cases h
 | cons _ ih=>intro _ t v h; exact ih (by rintro b d u h; cases h; rfl) t v h
 | @drop ws d u f g _ ih=>
  intro hq t v h
  obtain ⟨h1,h2⟩:=ih (by rintro b d u h; cases h) t v h
  refine ⟨h1,?_⟩
  show look ((d,u) :: f) t=some v
  unfold look
  cases hb:Nat.beq t d with
  | true=>have:=hq true d u rfl; rw [Nat.eq_of_beq_eq_true hb,← this] at h1; cases h1
  | false=>exact h2
 | @ec ws d u f g _ ih=>
  intro hq t v h
  unfold look at h
  show dx t ws=false∧look ((d,u) :: f) t=some v
  unfold look
  cases hb:Nat.beq t d with
  | true=>rw [hb] at h; exact ⟨by rw [Nat.eq_of_beq_eq_true hb]; exact (hq false d u rfl).symm,h⟩
  | false=>
   rw [hb] at h
   obtain ⟨h1,h2⟩:=ih (by rintro b d u h; cases h) t v h
   unfold dx at h1
   rw [hb] at h1
   exact ⟨h1,h2⟩
theorem Kp.sound {ws:LN} {f g:Fr} {r:NV} (h:Kp ws none f g) (ha:cu r f):cu r g:=
 fun t v hl=>ha t v (h.lk (by rintro b d u h; cases h) t v hl).2
theorem Ug {id:Nat} (hd:QE) (mt:Nat) (Zl:LN) (U as:LL) {ops:LO} {Γ Γ1:QE} {fr:Fr} {m:Option (Out S R)}
  (hB:(P.follows .mixedOrders && df cx.n l && zN l mt Zl && GL l mt Zl && Nat.ble mt l.length && (rq l U mt == as) && ((List.range mt).all fun i=>(U.getD i []).all fun u=>Nat.beq u l.length || ((cj l).getD i []).contains u))=true)
  (ho:ops=l.take mt) (ht:tail=l.drop mt) (hf:Kp (zu ops) none fr base) (hh:lz l mt base=true) (he:EO Γ hd Γ1) (GN:OW Γ hd)
  (h:AD false P cx K l tail base U hd (.a as ops 0 [] [] Γ1 m)):∀ B o,m=some o→∀ r w,cu r fr→St B Γ w→mf P cx.n l (ma P cx B K o) r w:=by
 simp only [Bool.and_eq_true] at hB
 obtain ⟨⟨⟨⟨⟨⟨_,b2⟩,b3⟩,b4⟩,b5⟩,b6⟩,b7⟩:=hB
 intro B o hm r w ha hs
 obtain ⟨Z,F,hS,hG⟩:=hs
 obtain ⟨Fd,F',h1,h2,h3⟩:=he.sound hS
 have GO:SA Z w hd [] Fd:=by
  have:=(HO.hl GN hS h1).front (Γ:=[]) (F:=[]) rfl
  simpa using this
 have hX:rK B Z hd Γ1 Fd w:=⟨F',Fd,⟨GO,fun b hb=>⟨hb,GO.lt b hb⟩,GO.lt,(List.nodup_append.1 (hG.perm h3).nd).1⟩,h2,hG.perm h3⟩
 refine AD.sound (id:=id) hh (fun _ _ _ _ _ _ hs he h=>R9 b7 hh b2 b3 b4 (Nat.le_of_ble_eq_true b5) ht hs he h) h
  ⟨by rw [List.drop_zero]; exact (eq_of_beq b6).symm,by rw [List.drop_zero]; exact ho,Nat.zero_le _⟩ B o hm r w Fd Z (hf.sound ha) hX ⟨[],rfl,⟨fun _ h=>absurd h List.not_mem_nil,fun _ h=>absurd h List.not_mem_nil,fun i s h=>by simp at h,List.nodup_nil,fun _ _ _ h1 h2=>Dz l (Mn b3) h1 h2⟩,fun j hj=>absurd hj (Nat.not_lt_zero j)⟩
theorem w9 {id:Nat} (hd:QE) (mt:Nat) (Zl:LN) (U as:LL) {ops:LO} {Γ Γ1:QE} {fr:Fr} {m:Option (Out S R)}
  (hB:(P.follows .mixedOrders && df cx.n l && zN l mt Zl && GL l mt Zl && Nat.ble mt l.length && (rq l U mt == as) && ((List.range mt).all fun i=>(U.getD i []).all fun u=>Nat.beq u l.length || ((cj l).getD i []).contains u))=true)
  (ho:ops=l.take mt) (ht:tail=l.drop mt) (hf:Kp (zu ops) none fr base) (hh:lz l mt base=true) (he:EO Γ hd Γ1) (GN:OW Γ hd)
  (h:AD false P cx K l tail base U hd (.a as ops 0 [] [] Γ1 m)):Bx (mb P cx (.dr id l K Γ fr m)):=by
 have hm:P.follows .mixedOrders=true:=by
  simp only [Bool.and_eq_true] at hB
  exact hB.1.1.1.1.1.1
 rw [lg]
 intro B o uZ r w ha hs
 exact (Ug (id:=id) hd mt Zl U as hB ho ht hf hh he GN h B o uZ r w ha hs).W hm
theorem Z4 {id:Nat} {l0:LO} (σ π:LN) (hd:QE) (mt:Nat) (Zl:LN) (U as:LL) {ops:LO} {Γ Γ1:QE} {fr:Fr} {m:Option (Out S R)}
  (hB:(P.follows .mixedOrders && ON l0 σ π && df cx.n (qj l0 σ π) && zN (qj l0 σ π) mt Zl && GL (qj l0 σ π) mt Zl && Nat.ble mt (qj l0 σ π).length && (rq (qj l0 σ π) U mt == as) && ((List.range mt).all fun i=>(U.getD i []).all fun u=>Nat.beq u (qj l0 σ π).length || ((cj (qj l0 σ π)).getD i []).contains u))=true)
  (hl:l=qj l0 σ π) (ho:ops=l.take mt) (ht:tail=l.drop mt) (hf:Kp (zu ops) none fr base) (hh:lz l mt base=true) (he:EO Γ hd Γ1) (GN:OW Γ hd)
  (h:AD false P cx K l tail base U hd (.a as ops 0 [] [] Γ1 m)):Bx (mb P cx (.dr id l0 K Γ fr m)):=by
 subst hl
 simp only [Bool.and_eq_true] at hB
 obtain ⟨⟨⟨⟨⟨⟨⟨b0,b1⟩,b2⟩,b3⟩,b4⟩,b5⟩,b6⟩,b7⟩:=hB
 rw [lg]
 intro B o uZ r w ha hs
 refine ((Ug (id:=id) hd mt Zl U as ?_ ho ht hf hh he GN h B o uZ r w ha hs).prm b1).W b0
 simp only [Bool.and_eq_true]
 exact ⟨⟨⟨⟨⟨⟨b0,b2⟩,b3⟩,b4⟩,b5⟩,b6⟩,b7⟩
theorem any {id:Nat} (mt:Nat) (Zl:LN) (U as:LL) {ops:LO} {Γ:QE} {fr:Fr} {m:Option (Out S R)}
  (hB:(P.follows .mixedOrders && df cx.n l && zN l mt Zl && GL l mt Zl && Nat.ble mt l.length && (rq l U mt == as) && ((List.range mt).all fun i=>(U.getD i []).all fun u=>Nat.beq u l.length || ((cj l).getD i []).contains u))=true)
  (ho:ops=l.take mt) (ht:tail=l.drop mt) (hf:Kp (zu ops) none fr base) (hh:lz l mt base=true)
  (h:AD false P cx K l tail base U [] (.a as ops 0 [] [] Γ m)):Bx (mb P cx (.dr id l K Γ fr m)):=w9 [] mt Zl U as hB ho ht hf hh .nil .nil h
end
end Go.Dk
