/- A calculus of walks: regions that draw their order and make memory. No condition. -/
import Derived.Test.YtkcpiblgpnjanaaGreatDe
import Derived.Laws.Slices
namespace Go.Dk
open Go Go.Li
section
variable {w:World}
def qw {α:Type} (e:TI) (E:ah α) (j:Nat):ah (List α) where
 size:=1
 rep h cs xs f:=∃ b cap cur f1 f2 p c0 q,cs=[.slice (some ⟨b,0,none⟩) xs.length cap]∧h[b]? = some (.cells cur e (0,0))∧f=b :: (f1++f2)∧(xs.length≤cap∧cap≤maxLen∧cur.size=cap∧E.size=1)∧cur.toList.take xs.length=p++[c0]++q∧(p.length=j∧j < xs.length)∧
  (∀ i∈f1++f2,i < h.size)∧∀ h':Array Obj,(∀ i∈f1++f2,h'[i]? = h[i]?)→∀ u z k,E.rep h' [u] z k→du E h' (p++[u]++q) (xs.set j z) (f1++k++f2)
 len:=by rintro h cs x f ⟨b,cap,cur,f1,f2,p,c0,q,rfl,_⟩; rfl
 one:=by rintro h cs x f ⟨b,cap,cur,f1,f2,p,c0,q,rfl,_⟩ v hv; simp at hv; subst hv; rfl
 congr:=by
  rintro h h' cs x f ⟨b,cap,cur,f1,f2,p,c0,q,rfl,h1,rfl,h2,h3,h4,h5,h6⟩ hb
  refine ⟨b,cap,cur,f1,f2,p,c0,q,rfl,(hb b (by simp)).trans h1,rfl,h2,h3,h4,fun i hi=>?_,fun h'' ch=>h6 h'' fun i hi=>(ch i hi).trans (hb i (List.mem_cons_of_mem _ hi))⟩
  have:=hb i (List.mem_cons_of_mem _ hi)
  rw [Array.getElem?_eq_getElem (h5 i hi)] at this
  exact (Array.getElem?_eq_some_iff.1 this).1
 lt:=by
  rintro h cs x f ⟨b,cap,cur,f1,f2,p,c0,q,rfl,h1,rfl,h2,h3,h4,h5,h6⟩ i hi
  rcases List.mem_cons.1 hi with rfl | hi
  ·exact (Array.getElem?_eq_some_iff.1 h1).1
  ·exact h5 i hi
theorem CM {α:Type} {e:TI} {E:ah α} {v u:Value} {xs:List α} {f:LN} {j:Int} {z:α} (h1:E.size=1) (hO:(aK e E).rep w.heap [v] xs f) (hz:xs[j.toNat]? = some z) (hu:w.cell? (cw v 1 j)=some u) :
  ∃ k g,E.rep w.heap [u] z k∧(k++g).Perm f∧(qw e E j.toNat).rep w.heap [v] xs g:=by
 obtain ⟨base,cap,hv,hr⟩:=hO
 obtain rfl:v = .slice base xs.length cap:=by simpa using hv
 have bg:j.toNat < xs.length:=(List.getElem?_eq_some_iff.1 hz).1
 rcases hr with ⟨_,_,rfl,_⟩ | ⟨b,cur,f0,rfl,hg,rfl,xE,AO,xF,dk⟩
 ·simp at bg
 ·rw [h1,Nat.mul_one] at xF dk
  have wP:cw (.slice (some ⟨b,0,none⟩) xs.length cap) 1 j = ⟨b,j.toNat,none⟩:=by
   simp only [cw,iy,Nat.zero_add,Nat.mul_one]
  rw [wP,cell_of_row w b _ cur e _ hg] at hu
  have OA:∀ i∈f0,i < w.heap.size:=mc dk
  obtain ⟨c,g0,g1,g2,p,q,AP,hc,hp,As,tZ⟩:=zu j.toNat z dk hz
  subst AP
  rw [h1,Nat.mul_one] at hp
  have Dd:c.length=1:=by rw [E.len As,h1]
  obtain ⟨c0,rfl⟩ : ∃ c0,c=[c0]:=by match c,Dd with | [c0],_=>exact ⟨c0,rfl⟩
  have TA:c0=u:=by
   have h2:(cur.toList.take xs.length)[j.toNat]? = some c0:=by
    rw [hc,List.append_assoc,List.getElem?_append_right (by omega),hp,Nat.sub_self]; rfl
   rw [List.getElem?_take,if_pos bg,Array.getElem?_toList,hu] at h2
   exact (Option.some.inj h2).symm
  subst TA
  refine ⟨g1,b :: (g0++g2),As,?_,b,cap,cur,g0,g2,p,c0,q,rfl,hg,rfl,⟨xE,AO,xF,h1⟩,hc,⟨hp,bg⟩,fun i hi=>OA i (by rcases List.mem_append.1 hi with hi | hi <;> simp [hi]),fun h' ch u z' k' hr=>tZ h' [u] z' k' (fun i hi=>ch i (by simp [hi])) (fun i hi=>ch i (by simp [hi])) hr⟩
  refine (List.perm_append_comm (l₁:=g1) (l₂:=b :: (g0++g2))).trans ?_
  rw [List.cons_append]
  refine List.Perm.cons b ?_
  rw [List.append_assoc,List.append_assoc]
  exact List.Perm.append_left g0 List.perm_append_comm
end
structure ei where
 j:Nat
 d:Nat
 src:List Nat
 V:Type
 rt:Value→V→Value
 ps:Value→V→List ay
abbrev MM:=List ei
def mq:List ei→Type
 | []=>Unit
 | a :: l=>a.V×mq l
def zF (f:Nat→Value):List Nat→Value
 | []=>undef
 | [t]=>f t
 | ts=>.tuple (ts.map f).toArray
def xN (f:Fr) (t:Nat):Value:=match look f t with
 | some v=>v
 | none=>undef
def uZ (a:ei) (r:Nat→Value):Value:=zF r a.src
def AV (a:ei) (f:Fr):Value:=zF (xN f) a.src
theorem BZ {f g:Nat→Value}:∀ {ts:LN},(∀ t∈ts,f t=g t)→zF f ts=zF g ts:=by
 intro ts h
 match ts,h with
 | [],_=>rfl
 | [t],h=>exact h t (by simp)
 | t :: s :: ts,h=>
  show Value.tuple (List.map f (t :: s :: ts)).toArray=Value.tuple (List.map g (t :: s :: ts)).toArray
  rw [List.map_congr_left h]
def mF:(ms:MM)→mq ms→Fr
 | [],_=>[]
 | a :: l,x=>(a.d,a.rt (AV a (mF l x.2)) x.1) :: mF l x.2
def Eu:(ms:MM)→mq ms→List ay
 | [],_=>[]
 | a :: l,x=>a.ps (AV a (mF l x.2)) x.1++Eu l x.2
def kj (A:LN):(ms:MM)→mq ms→Fr
 | [],_=>[]
 | a :: l,x=>bif dv a.j A then (a.d,a.rt (AV a (mF l x.2)) x.1) :: kj A l x.2 else kj A l x.2
def r9 (A:LN):(ms:MM)→mq ms→List ay
 | [],_=>[]
 | a :: l,x=>bif dv a.j A then a.ps (AV a (mF l x.2)) x.1++r9 A l x.2 else r9 A l x.2
def px (t:Nat):List ei→Option Nat
 | []=>none
 | a :: l=>bif Nat.beq t a.d then some a.j else px t l
def zG (ms:MM):List (Nat×Operand)→List Nat
 | []=>[]
 | (_,.tmp s) :: l=>match px s ms with
  | some _=>s :: zG ms l
  | none=>zG ms l
 | _ :: l=>zG ms l
def Ys (s:Nat):List Nat→Option Nat
 | []=>none
 | t :: l=>bif Nat.beq s t then some 0 else (Ys s l).map (·+1)
def ZU (v:Value) (k:Nat):Value:=match v with
 | .tuple vs=>vs.toList.getD k undef
 | _=>undef
def ZV (f:Fr) (ts:LN) (u:Value):Operand→Value
 | .tmp s=>match Ys s ts with
  | some k=>(match ts with
   | [_]=>u
   | _=>ZU u k)
  | none=>xN f s
 | x=>match bj f x with
  | some v=>v
  | none=>undef
def Xp (k:Nat) (v:Value):List Value:=bif Nat.beq k 1 then [v] else match v with
 | .agg cs=>cs.toList
 | _=>[]
def Rc (pl:List (Nat×Nat)):List (Nat×Value)→List Value→List Value
 | [],cs=>cs
 | (i,v) :: l,cs=>match Gp pl i with
  | some (off,k)=>Rc pl l (cs.take off++Xp k v++cs.drop (off+k))
  | none=>cs
def T2 (pl:List (Nat×Nat)) (f:Fr) (ts:LN) (ps:List (Nat×Operand)) (zc:LV) (u:Value):List Value:=Rc pl (ps.map fun p=>(p.1,ZV f ts u p.2)) zc
def Yt (A:LN) (ms:MM) (ts:LN):Bool:=ts.all fun t=>match px t ms with
 | some j=>dv j A
 | none=>false
def me (A:LN):List ei→Bool
 | []=>true
 | a :: l=>(bif dv a.j A then a.src.all (fun t=>match px t l with
   | some j=>dv j A
   | none=>false) else true) && me A l
def CN:List ei→Bool
 | []=>true
 | a :: l=>a.src.all (fun t=>(px t l).isSome) && CN l
theorem GG {A:LN} {r:Nat→Value} {t:Nat}:∀ {ms:MM} {x:mq ms} {j:Nat},px t ms=some j→dv j A=true→(∀ p∈kj A ms x,r p.1=p.2)→look (mF ms x) t=some (r t):=by
 intro ms
 induction ms with
 | nil=>intro x j h; cases h
 | cons a l ih=>
  intro x j h hj hp
  unfold px at h
  unfold mF look
  cases hb:Nat.beq t a.d with
  | true=>
   rw [hb] at h
   cases h
   have:=hp (a.d,a.rt (AV a (mF l x.2)) x.1) (by unfold kj; rw [hj]; simp)
   simp only [cond_true]
   rw [Nat.eq_of_beq_eq_true hb,this]
  | false=>
   rw [hb] at h
   refine ih h hj fun p hm=>hp p ?_
   unfold kj
   cases dv a.j A with
   | true=>exact List.mem_cons_of_mem _ hm
   | false=>exact hm
theorem O1 {r:Nat→Value} {t:Nat}:∀ {ms:MM} {x:mq ms},(px t ms).isSome=true→(∀ p∈mF ms x,r p.1=p.2)→look (mF ms x) t=some (r t):=by
 intro ms
 induction ms with
 | nil=>intro x h; cases h
 | cons a l ih=>
  intro x h hp
  unfold px at h
  unfold mF at hp ⊢
  unfold look
  cases hb:Nat.beq t a.d with
  | true=>
   simp only [cond_true]
   rw [Nat.eq_of_beq_eq_true hb,hp (a.d,a.rt (AV a (mF l x.2)) x.1) (by simp)]
  | false=>
   rw [hb] at h
   exact ih h fun p hm=>hp p (List.mem_cons_of_mem _ hm)
def HN (N:Nat→Prop) (w:World) (Δ:QE) (f:LN):Prop:=HL (fun _=>False) w Δ f∨∃ Fo Fr,f=Fo++Fr∧(sk Δ=false∧∀ b∈Fr,b < w.heap.size)∧HL (fun b=>N b∨b∈Fr) w Δ Fo
def Mn (N:Nat→Prop) (a:ei):List Nat→World→(Nat→Value)→Value→Prop:=fun f w r _=>∃ v:a.V,r a.d=a.rt (uZ a r) v∧HN N w (a.ps (uZ a r) v) f∧f.Nodup
def MV (N:Nat→Prop) (a:ei):List Nat→World→(Nat→Value)→Value→Prop:=fun f w r x=>∃ v:a.V,x=a.rt (uZ a r) v∧HN N w (a.ps (uZ a r) v) f∧f.Nodup
def Re (N:Nat→Prop) (a:LN) (l:LO) (s:gx):Prop:=∀ f F (w w':World) (r r':Nat→Value) v,an F w w'→(∀ b∈f,b ∉ F)→(∀ b∈F,¬ N b)→(∀ j∈a,∀ t,bu l j=some t→r' t=r t)→s.V f w r v→s.V f w' r' v
theorem GH.n {N:Nat→Prop} {a:LN} {l:LO} {s:gx} (h:GH a l s):Re N a l s:=fun f F w w' r r' v hC hn _=>h f F w w' r r' v hC hn
section
variable {P:Program} {w w':World} {Z:Nat→Prop}
theorem HL.Xq {F H:LN} {Δ:QE} (h:HL (fun _=>False) w Δ F) (hC:an H w w') (hd:∀ b∈F,b ∉ H):HL (fun _=>False) w' Δ F:=by
 induction h with
 | nil=>exact .nil
 | @own e f F Δ h _ ih=>exact .own (h.dy hC (fun _ _ h=>h) fun b hb hm=>hd b (List.mem_append_left _ hm) hb) (ih fun b hb=>hd b (List.mem_append_right _ hb))
 | @fact e F Δ h _ ih=>
  refine .fact ?_ (ih hd)
  cases e with
  | rd o T v x=>
   obtain ⟨g,h1,h2⟩:=h
   have hg:g=[]:=by
    cases g with
    | nil=>rfl
    | cons b g=>exact absurd (h2 b (by simp)) (by cases o <;> simp [tY])
   subst hg
   exact ⟨[],T.dy h1 hC (fun _ h=>absurd h List.not_mem_nil),fun _ h=>absurd h List.not_mem_nil⟩
  | ad o1 o2 v j T x=>obtain ⟨_,_,u,g,_,_,h3,_⟩:=h; exact absurd h3 (by cases o1 <;> simp [tY])
  | au p cs=>
   have hc:cs=[]:=by
    cases cs with
    | nil=>rfl
    | cons c cs=>exact (h.2 (by simp)).elim
   subst hc
   exact ⟨fun j u hj=>by simp at hj,fun hn=>absurd rfl hn⟩
  | hd v j u=>exact absurd h.2.2.2 List.not_mem_nil
  | _=>exact h.elim
theorem HL.Rf {F H:LN} {Δ:QE} (h:HL Z w Δ F) (hC:an H w w') (hz:∀ b∈H,¬ Z b) (hd:∀ b∈F,b ∉ H):HL Z w' Δ F:=by
 induction h with
 | nil=>exact .nil
 | @own e f F Δ h _ ih=>exact .own (h.dy hC hz fun b hb hm=>hd b (List.mem_append_left _ hm) hb) (ih fun b hb=>hd b (List.mem_append_right _ hb))
 | @fact e F Δ h _ ih=>exact .fact (h.dy hC hz fun _ _ h=>nomatch h) (ih hd)
theorem HN.dy {N:Nat→Prop} {f H:LN} {Δ:QE} (h:HN N w Δ f) (hC:an H w w') (hd:∀ b∈f,b ∉ H) (hz:∀ b∈H,¬ N b):HN N w' Δ f:=by
 rcases h with h | ⟨Fo,Fr,rfl,h1,h2⟩
 ·exact .inl (h.Xq hC hd)
 ·exact .inr ⟨Fo,Fr,rfl,⟨h1.1,fun b hb=>Nat.lt_of_lt_of_le (h1.2 b hb) hC.size⟩,h2.Rf hC (fun b hb h=>h.elim (hz b hb) fun h=>hd b (List.mem_append_right _ h) hb) fun b hb=>hd b (List.mem_append_left _ hb)⟩
theorem HN.own {N:Nat→Prop} {f:LN} {Δ:QE} (h:HN N w Δ f) (ho:sk Δ=true):HL (fun _=>False) w Δ f:=by
 rcases h with h | ⟨_,_,_,h1,_⟩
 ·exact h
 ·rw [ho] at h1; cases h1.1
theorem HN.all {N:Nat→Prop} {f:LN} {Δ:QE} (h:HN N w Δ f):∃ Fo Fr,f=Fo++Fr∧(∀ b∈Fr,b < w.heap.size)∧HL (fun b=>N b∨b∈Fr) w Δ Fo:=by
 rcases h with h | ⟨Fo,Fr,rfl,h1,h2⟩
 ·exact ⟨f,[],by simp,fun b (h:b∈[])=>absurd h List.not_mem_nil,h.mono fun _ h=>h.elim⟩
 ·exact ⟨Fo,Fr,rfl,h1.2,h2⟩
theorem HL.up {F:LN} {Δ:QE} (h:HL (fun _=>False) w Δ F):HL Z w Δ F:=by
 induction h with
 | nil=>exact .nil
 | own h _ ih=>exact .own (h.mono fun _ h=>h.elim) ih
 | fact h _ ih=>exact .fact (h.mono (fun _ h=>h.elim) fun _ h=>h) ih
theorem HL.app {Δ Δ':QE} {F F':LN} (h:HL Z w Δ F) (k:HL Z w Δ' F'):HL Z w (Δ++Δ') (F++F'):=by
 induction h with
 | nil=>exact k
 | own h _ ih=>rw [List.append_assoc]; exact .own h ih
 | fact h _ ih=>exact .fact h ih
theorem Ji {a:ei} {r r':Nat→Value} (h:∀ t∈a.src,r' t=r t):uZ a r'=uZ a r:=BZ h
theorem Mo {l:LO} {a:LN} {b:Bool} {m:ei} (hs:∀ t∈m.src,∃ j∈a,bu l j=some t):Re Z a l ⟨b,MV Z m⟩:=by
 intro f F w w' r r' x hC hn hz hr ⟨v,h1,h2,h3⟩
 have e:=Ji (a:=m) (r:=r) (r':=r') fun t ht=>by
  obtain ⟨j,hj,hd⟩:=hs t ht
  exact hr j hj t hd
 refine ⟨v,by rw [e]; exact h1,by rw [e]; exact h2.dy hC hn hz,h3⟩
theorem Kd {l:LO} {a:LN} {b:Bool} {m:ei} (hd:∃ j∈a,bu l j=some m.d) (hs:∀ t∈m.src,∃ j∈a,bu l j=some t):Re Z a l ⟨b,Mn Z m⟩:=by
 intro f F w w' r r' x hC hn hz hr ⟨v,h1,h2,h3⟩
 have e:=Ji (a:=m) (r:=r) (r':=r') fun t ht=>by
  obtain ⟨j,hj,hd⟩:=hs t ht
  exact hr j hj t hd
 obtain ⟨j,hj,hjd⟩:=hd
 refine ⟨v,by rw [e,hr j hj _ hjd]; exact h1,by rw [e]; exact h2.dy hC hn hz,h3⟩
theorem jj.more {l:LO} {m i:Nat} {U:List (List Nat)} {S S':List gx} {r0:Nat→Value} {w0:World} {H:LN} (h:jj P l m S U r0 w0 H i) (hi:i < S.length):jj P l m (S++S') U r0 w0 H i:=by
 intro o s ho hs g r w hC hV hO hn iT hd hf
 rw [List.getElem?_append_left hi] at hs
 refine h o s ho hs g r w hC hV (fun j hj d ig s' cu=>hO j hj d ig s' (by rw [List.getElem?_append_left (List.getElem?_eq_some_iff.1 cu).1]; exact cu)) (fun j hj=>?_) iT hd hf
 have:=hn j hj
 refine ⟨fun d ig=>?_,fun ig s' cu ch=>?_⟩
 ·have h2:=this.1 d ig
  by_cases hl:j < S.length
  ·rw [List.getElem?_append_left hl] at h2; exact h2
  ·rw [List.getElem?_eq_none (by omega)]; trivial
 ·exact this.2 ig s' (by rw [List.getElem?_append_left (List.getElem?_eq_some_iff.1 cu).1]; exact cu) ch
end
inductive eQ (A:LN):Option (Bool×Nat×Value)→List (Nat×Nat×Value)→Fr→Fr→Prop
 | nil {base:Fr}:eQ A none [] base base
 | cons {j d:Nat} {u:Value} {l:List (Nat×Nat×Value)} {base fr:Fr} (h:eQ A (some (dv j A,d,u)) l base fr):eQ A none ((j,d,u) :: l) base fr
 | dy {d:Nat} {u:Value} {l:List (Nat×Nat×Value)} {base fr:Fr} (h:eQ A none l base fr):eQ A (some (true,d,u)) l base ((d,u) :: fr)
 | drop {d:Nat} {u:Value} {l:List (Nat×Nat×Value)} {base fr:Fr} (h:eQ A none l base fr):eQ A (some (false,d,u)) l base fr
theorem uc.AR {Γ Γ':QE} {v:Addr} {o:Bool} {α:Type} {E:ah α} {x:α} {e:ay} (h:uc Γ v o E x e Γ') {Z:Nat→Prop} {w:World}:∀ {cur F:LN},SA Z w Γ cur F→(v.block∈cur∨v.block∈F)∨Z v.block:=by
 induction h with
 | @ad o1 o2 α E v j x e Γ=>
  intro cur F hS
  obtain ⟨⟨j0,j1,u,g,h1,h2,h3,h4⟩,h5⟩:=hS
  cases o1 with
  | false=>exact .inr h3
  | true=>exact .inl (.inl h3)
 | @there o2 α E v x e a Γ Γ' h ih=>
  intro cur F hS
  cases a with
  | own T v x=>obtain ⟨f,F',rfl,h2,h3⟩:=hS; exact (ih h3).imp (fun h=>.inr (List.mem_append.2 h)) id
  | om e E v xs=>obtain ⟨f,F',rfl,h2,h3⟩:=hS; exact (ih h3).imp (fun h=>.inr (List.mem_append.2 h)) id
  | row b cs e=>obtain ⟨f,F',rfl,h2,h3⟩:=hS; exact (ih h3).imp (fun h=>h.imp id (List.mem_append_right _)) id
  | fk e E v xs j u=>obtain ⟨f,F',rfl,h2,h3⟩:=hS; exact (ih h3).imp (fun h=>.inr (List.mem_append.2 h)) id
  | _=>exact ih hS.2
inductive VQ (P:Program) (Γ:QE) (fr:Fr):Op→Value→Prop
 | mv {x:OO} {v:Value} (hx:bj fr x=some v):VQ P Γ fr (.move x) v
 | as {x:OO} {v:Value} (hx:bj fr x=some v):VQ P Γ fr (.assign x) v
 | add {x y:OO} {t t':TI} {a b:Int} (hx:bj fr x=some (.int .i64 a)) (hy:bj fr y=some (.int .i64 b)):VQ P Γ fr (.binOp .add t x y t') (.int .i64 (ak (a+b)))
 | sub {x y:OO} {t t':TI} {a b:Int} (hx:bj fr x=some (.int .i64 a)) (hy:bj fr y=some (.int .i64 b)):VQ P Γ fr (.binOp .sub t x y t') (.int .i64 (ak (a - b)))
 | lss {x y:OO} {t t':TI} {k:IntKind} {a b:Int} (hx:bj fr x=some (.int k a)) (hy:bj fr y=some (.int k b)):VQ P Γ fr (.binOp .lss t x y t') (.bool (decide (a < b)))
 | eql {x y:OO} {t t':TI} {k:IntKind} {a b:Int} (hx:bj fr x=some (.int k a)) (hy:bj fr y=some (.int k b)):VQ P Γ fr (.binOp .eql t x y t') (.bool (a == b))
 | neq {x y:OO} {t t':TI} {k:IntKind} {a b:Int} (hx:bj fr x=some (.int k a)) (hy:bj fr y=some (.int k b)):VQ P Γ fr (.binOp .neq t x y t') (.bool (a != b))
 | not {x:OO} {t:TI} {b:Bool} (hx:bj fr x=some (.bool b)):VQ P Γ fr (.unOp .not t x) (.bool (!b))
 | OJ {x:OO} {a:Addr} (hx:bj fr x=some (.pointer (some a))):VQ P Γ fr (.nilCheck x) (.pointer (some a))
 | ext {x:OO} {k:Nat} {vs:LV} {v:Value} (hx:bj fr x=some (.tuple vs.toArray)) (hv:vs[k]? = some v):VQ P Γ fr (.extract x k) v
 | TJ {s k off:Nat} {x:OO} {a a':Addr} [hf:rX P s k off] (hx:bj fr x=some (.pointer (some a))) (ha:CI a off a'):VQ P Γ fr (.fieldAddr s x k) (.pointer (some a'))
 | len {x:OO} {v:Value} {t:TI} {n:Nat} [ht:uL P t] (hx:bj fr x=some v) (hr:ug Γ v n):VQ P Γ fr (.call ⟨.builtin .len,#[x],#[t]⟩) (.int .i64 (n:Int))
 | Ra {t:TI} {ps:List (Nat×Operand)} {zc cs:LV} {pl:List (Nat×Nat)} [hb:AS P t zc pl] (hf:wq Γ fr pl ps zc cs):VQ P Γ fr (.build t ps.toArray) (.agg cs.toArray)
 | OL {x y:OO} {k k':IntKind} {a b:Int} {au:Array TypeId} (hx:bj fr x=some (.int k a)) (hy:bj fr y=some (.int k' b)):VQ P Γ fr (.call ⟨.builtin .max,#[x,y],au⟩) (.int k (if b > a then b else a))
 | ON {x y:OO} {k k':IntKind} {a b:Int} {au:Array TypeId} (hx:bj fr x=some (.int k a)) (hy:bj fr y=some (.int k' b)):VQ P Γ fr (.call ⟨.builtin .min,#[x,y],au⟩) (.int k (if b < a then b else a))
 | TS {x:OO} {k k2:IntKind} {n:Int} {s t:TI} [ht:Jf P s t k2] (hx:bj fr x=some (.int k n)):VQ P Γ fr (.convert s t x) (.int k2 (k2.wrap n))
 | mul {x y:OO} {t t':TI} {a b:Int} (hx:bj fr x=some (.int .i64 a)) (hy:bj fr y=some (.int .i64 b)):VQ P Γ fr (.binOp .mul t x y t') (.int .i64 (ak (a * b)))
 | gtr {x y:OO} {t t':TI} {k:IntKind} {a b:Int} (hx:bj fr x=some (.int k a)) (hy:bj fr y=some (.int k b)):VQ P Γ fr (.binOp .gtr t x y t') (.bool (decide (a > b)))
 | geq {x y:OO} {t t':TI} {k:IntKind} {a b:Int} (hx:bj fr x=some (.int k a)) (hy:bj fr y=some (.int k b)):VQ P Γ fr (.binOp .geq t x y t') (.bool (decide (a ≥ b)))
 | leq {x y:OO} {t t':TI} {k:IntKind} {a b:Int} (hx:bj fr x=some (.int k a)) (hy:bj fr y=some (.int k b)):VQ P Γ fr (.binOp .leq t x y t') (.bool (decide (a≤b)))
 | TP {s k off:Nat} {x:OO} {cs:LV} {v:Value} [hf:TF P s k off] (hx:bj fr x=some (.agg cs.toArray)) (hc:cs[off]? = some v):VQ P Γ fr (.field s x k) v
 | OK {x:OO} {v:Value} {t:TI} {n k:Nat} [ht:Gr P t k] (hx:bj fr x=some v) (hr:ug Γ v n):VQ P Γ fr (.call ⟨.builtin .len,#[x],#[t]⟩) (.int .i64 (n:Int))
theorem VQ.sound {P:Program} {Γ:QE} {fr:Fr} {op:Op} {u:Value} (h:VQ P Γ fr op u) {Z:Nat→Prop} {w:World} {cur F:LN} (hS:SA Z w Γ cur F) {r:Nat→Value} (ha:cj r fr) (d:Option Nat) (ty:TI) (pos:String) (ab:Array Edge) (g:Option (Nat×Bool)) :
  Rd P w r ⟨d,op,ty,pos,ab,g⟩ u:=by
 cases h with
 | mv hx=>exact Mv _ (aU ha hx)
 | as hx=>exact Av _ (aU ha hx)
 | add hx hy=>exact Ba (aU ha hx) (aU ha hy)
 | sub hx hy=>exact Go.Li.Bs (aU ha hx) (aU ha hy)
 | lss hx hy=>exact Bl (aU ha hx) (aU ha hy)
 | eql hx hy=>exact Be (aU ha hx) (aU ha hy)
 | neq hx hy=>exact Bn (aU ha hx) (aU ha hy)
 | not hx=>exact Nt (aU ha hx)
 | OJ hx=>exact Nk (aU ha hx)
 | ext hx hv=>exact Ex _ (aU ha hx) (by simpa using hv)
 | @TJ s k off x a a' hf hx hq=>rw [hq.eq]; exact Fp hf.h (aU ha hx)
 | OL hx hy=>exact fun _ _=>Mf (aU ha hx) (aU ha hy)
 | ON hx hy=>exact fun _ _=>Mg (aU ha hx) (aU ha hy)
 | @TS x k k2 n s t ht hx=>exact fun _ _=>Jh ht.h.1 ht.h.2 (aU ha hx)
 | mul hx hy=>exact Bm (aU ha hx) (aU ha hy)
 | gtr hx hy=>exact Bg (aU ha hx) (aU ha hy)
 | geq hx hy=>exact Bh (aU ha hx) (aU ha hy)
 | leq hx hy=>exact Go.Li.Bk (aU ha hx) (aU ha hy)
 | @TP s k off x cs v hf hx hc=>
  obtain ⟨fs,f,ds,h1,h2,h3,h4,h5⟩:=hf.h
  exact fun _ _=>CL h1 h2 h3 h4 h5 (aU ha hx) (by simpa using hc)
 | @len x v t n ht hx hr=>
  obtain ⟨b,c,rfl⟩:=hr.sound hS
  obtain ⟨e,i,h1,_,_⟩:=ht.h
  exact fun _ _=>vE h1 (aU ha hx)
 | @OK x v t n k ht hx hr=>
  obtain ⟨b,c,rfl⟩:=hr.sound hS
  obtain ⟨e,i,h1,_,_⟩:=ht.h
  exact fun _ _=>vE h1 (aU ha hx)
 | @Ra t ps zc cs pl hb hf=>
  obtain ⟨fs,i,z,h1,h2,h3,h4,h5⟩:=hb.h
  refine Bu ?_
  have:=hf.fill ha hS
  unfold Program.built
  rw [h3,h1]
  simp only [h4,h2]
  rw [show z.cells=zc.toArray by rw [← h5]]
  exact this
theorem eQ.sound {A:LN} {q:Option (Bool×Nat×Value)} {sl:List (Nat×Nat×Value)} {base fr:Fr} {r:Nat→Value} (h:eQ A q sl base fr) (hb:cj r base) :
  (∀ p∈sl,dv p.1 A=true→r p.2.1=p.2.2)→(∀ b d u,q=some (b,d,u)→b=true→r d=u)→cj r fr:=by
 induction h with
 | nil=>intro _ _; exact hb
 | @cons j d u l base fr _ ih=>
  intro h1 _
  refine ih hb (fun p hp=>h1 p (by simp [hp])) ?_
  rintro b d' u' he hbt
  cases he
  exact h1 (j,d,u) (by simp) hbt
 | @dy d u l base fr _ ih=>
  intro h1 h2
  intro s v hl
  unfold look at hl
  cases AW:Nat.beq s d with
  | true=>rw [AW] at hl; cases hl; rw [Nat.eq_of_beq_eq_true AW]; exact h2 true d _ rfl rfl
  | false=>rw [AW] at hl; exact ih hb h1 (fun _ _ _ h=>nomatch h) s v hl
 | drop _ ih=>intro h1 _; exact ih hb h1 (fun _ _ _ h=>nomatch h)
def AX:List (Nat×Nat×Value)→Fr→Fr
 | [],f=>f
 | (_,d,u) :: l,f=>(d,u) :: AX l f
inductive Ke (P:Program) (f:FuncId) (xs:List Operand) (fr:Fr) (Γ:QE) {β V:Type} (mo:Option β) (rt:β→V→List Value) (ps:β→V→List ay):Prop
 | mk {vs:LV} {Δ:QE} (hx:td fr xs=some vs) (hc:Ct P f true mo vs Δ rt ps) (hd:FO Δ) (hr:ER true Γ Δ):Ke P f xs fr Γ mo rt ps
inductive Kf {β V:Type} (P:Program) (f:FuncId) (xs:List Operand) (fr:Fr) (Γ:QE) (mo:Option β) (rt:β→V→List Value) (ps:β→V→List ay):Prop
 | mk {vs:LV} {Δ:QE} (hx:td fr xs=some vs) (hc:Ct P f false mo vs Δ rt ps) (hd:FO Δ) (hr:ER false Γ Δ):Kf P f xs fr Γ mo rt ps
inductive AY {β V:Type} (P:Program) (f:FuncId) (xs:List Operand) (fr:Fr) (hd Γ:QE) (mo:Option β) (rt:β→V→List Value) (ps:β→V→List ay):Prop
 | mk {vs:LV} {Δ Γ':QE} (hx:td fr xs=some vs) (hc:Ct P f false mo vs Δ rt ps) (ho:EO hd Δ Γ') (hr:ER false (Γ'++Γ) Δ):AY P f xs fr hd Γ mo rt ps
inductive Dq (P:Program) (f:FuncId) (xs:List Operand) (fr:Fr) (hd:QE) (Γ:QE) {β V:Type} (mo:Option β) (rt:β→V→List Value) (ps:β→V→List ay):Prop
 | mk {vs:LV} {Δ Γ':QE} (hx:td fr xs=some vs) (hc:Ct P f true mo vs Δ rt ps) (ho:EO hd Δ Γ') (hr:ER true Γ Δ):Dq P f xs fr hd Γ mo rt ps
inductive lg:List ei→Prop
 | nil:lg []
 | cons {a:ei} {l:MM} (h:Dh a.V) (k:lg l):lg (a :: l)
theorem lg.ne {ms:MM} (h:lg ms):Nonempty (mq ms):=by
 induction h with
 | nil=>exact ⟨()⟩
 | cons h _ ih=>obtain ⟨a⟩:=h.ne; obtain ⟨b⟩:=ih; exact ⟨(a,b)⟩
inductive Cr:List ei→Nat→Bool→Prop
 | here {a:ei} {l:MM}:Cr (a :: l) a.d true
 | there {a:ei} {l:MM} {t:Nat} {b:Bool} (h:Cr l t b):Cr (a :: l) t b
 | nil {t:Nat}:Cr [] t false
inductive T3 (fr:Fr) (t off:Nat):Prop
 | mk {cs:LV} {v:Value} (h:look fr t=some (.agg cs.toArray)) (hc:cs[off]? = some v):T3 fr t off
inductive T4 (fr:Fr) (t k:Nat):Prop
 | mk {cs:LV} {v:Value} (h:look fr t=some (.tuple cs.toArray)) (hc:cs[k]? = some v):T4 fr t k
inductive O2 (fr:Fr) (Γ:QE) (t:Nat):Prop
 | mk {v:Value} (h:look fr t=some v) (hc:One Γ v):O2 fr Γ t
inductive T5 (fr:Fr) (Γ:QE) (t n:Nat):Prop
 | mk {v:Value} (h:look fr t=some v) (hc:ug Γ v n):T5 fr Γ t n
inductive JA (R S:Type):Type 1
 | a (as:List (List Nat)) (ops:LO) (i:Nat) (sl:List (Nat×Nat×Value)) (ms:MM) (Γ:QE) (m:Option (Out S R))
 | o (A:LN) (op:Op) (d:Nat) (ty:TI) (as:List (List Nat)) (ops:LO) (i:Nat) (sl:List (Nat×Nat×Value)) (ms:MM) (Γ:QE) (m:Option (Out S R))
 | ow (b:Bool) (A:LN) (op:Op) (d:Nat) (ty:TI) (as:List (List Nat)) (ops:LO) (i:Nat) (sl:List (Nat×Nat×Value)) (ms:MM) (Γ:QE) (m:Option (Out S R))
 | ix (b:Bool) (v:Value) (fr:Fr) (x y:OO) (t:TI) (A:LN) (d:Nat) (ty:TI) (as:List (List Nat)) (ops:LO) (i:Nat) (sl:List (Nat×Nat×Value)) (ms:MM) (Γ:QE) (m:Option (Out S R))
 | lb (b:Bool) (v:Value) (j:Int) (fr:Fr) (t:TI) (x:OO) (A:LN) (d:Nat) (ty:TI) (as:List (List Nat)) (ops:LO) (i:Nat) (sl:List (Nat×Nat×Value)) (ms:MM) (Γ:QE) (m:Option (Out S R))
 | ap (us:LN) (t1 t2:Nat) (t:TI) (A:LN) (d:Nat) (ty:TI) (as:List (List Nat)) (ops:LO) (i:Nat) (sl:List (Nat×Nat×Value)) (ms:MM) (Γ:QE) (m:Option (Out S R))
 | la (fr:Fr) (ad:Addr) (lk:Option Nat) (t:TI) (x:OO) (A:LN) (d:Nat) (ty:TI) (as:List (List Nat)) (ops:LO) (i:Nat) (sl:List (Nat×Nat×Value)) (ms:MM) (Γ:QE) (m:Option (Out S R))
 | ld {α:Type} (E:ah α) (z:α) (fr:Fr) (ad:Addr) (t:TI) (x:OO) (A:LN) (d:Nat) (ty:TI) (as:List (List Nat)) (ops:LO) (i:Nat) (sl:List (Nat×Nat×Value)) (ms:MM) (Γ:QE) (m:Option (Out S R))
 | oc (us:LN) (f:FuncId) (xs:List Operand) (au:Array TypeId) (A:LN) (d:Nat) (ty:TI) (as:List (List Nat)) (ops:LO) (i:Nat) (sl:List (Nat×Nat×Value)) (ms:MM) (Γ:QE) (m:Option (Out S R))
 | os (A:LN) (op:Op) (ty:TI) (as:List (List Nat)) (ops:LO) (i:Nat) (sl:List (Nat×Nat×Value)) (ms:MM) (Γ:QE) (m:Option (Out S R))
 | cr {V:Type} (u:V→Value) (ps:V→List ay) (d:Nat) (as:List (List Nat)) (ops:LO) (i:Nat) (sl:List (Nat×Nat×Value)) (ms:MM) (Γ:QE) (m:Option (Out S R))
 | p (Δ:QE) (as:List (List Nat)) (ops:LO) (i:Nat) (sl:List (Nat×Nat×Value)) (ms:MM) (Γ:QE) (m:Option (Out S R))
inductive Jj:List ay→Value→Bool→Prop
 | here {α:Type} {T:ah α} {v:Value} {x:α} {Γ:QE}:Jj (.own T v x :: Γ) v true
 | there {e:ay} {v:Value} {b:Bool} {Γ:QE} (h:Jj Γ v b):Jj (e :: Γ) v b
 | nil {v:Value}:Jj [] v false
inductive lq:List ei→Nat→ei→List ei→Prop
 | here {a:ei} {l:MM}:lq (a :: l) a.d a l
 | there {a b:ei} {l l':MM} {t:Nat} (h:lq l t a l'):lq (b :: l) t a (b :: l')
inductive zH:List ei→Nat→ei→List ei→Prop
 | here {a:ei} {l:MM}:zH (a :: l) a.j a l
 | there {a b:ei} {l l':MM} {t:Nat} (h:zH l t a l'):zH (b :: l) t a (b :: l')
def Kg (j i:Nat) (sl:List (Nat×Nat×Value)):List (Nat×Nat×Value):=sl.map fun p=>bif Nat.beq p.1 j then (i,p.2) else p
def Ev (U:List (List Nat)) (_sl:List (Nat×Nat×Value)) (ms:MM):Bool:=U.all fun us=>us.all fun j=>ms.all fun a=>!Nat.beq a.j j
inductive AD {R S:Type} (tq:Bool) (P:Program) (cx:Cx R) (K:df R S) (l tail:LO) (base:Fr) (U:List (List Nat)):List ay→JA R S→Prop
 | nil {hd:QE} {i:Nat} {sl:List (Nat×Nat×Value)} {ms:MM} {Γ:QE} {m:Option (Out S R)} (u2:CN ms=true) (he:Ev U sl ms=true) (h:∀ x:mq ms,D P cx (.p (AX sl (mF ms x)) (Eu ms x) base Γ fun fr Γ=>.tg tq (CJ tail) l tail K Γ fr m)):AD tq P cx K l tail base U hd (.a [] [] i sl ms Γ m)
 | cons {hd:QE} {A:LN} {as:List (List Nat)} {op:Op} {d:Nat} {ty:TI} {pos:String} {ab:Array Edge} {ops:LO} {i:Nat} {sl:List (Nat×Nat×Value)} {ms:MM} {Γ:QE} {m:Option (Out S R)} (h:AD tq P cx K l tail base U hd (.o A op d ty as ops i sl ms Γ m)) :
   AD tq P cx K l tail base U hd (.a (A :: as) (⟨some d,op,ty,pos,ab,none⟩ :: ops) i sl ms Γ m)
 | Kh {hd:QE} {A:LN} {as:List (List Nat)} {op:Op} {ty:TI} {pos:String} {ab:Array Edge} {ops:LO} {i:Nat} {sl:List (Nat×Nat×Value)} {ms:MM} {Γ:QE} {m:Option (Out S R)} (h:AD tq P cx K l tail base U hd (.os A op ty as ops i sl ms Γ m)) :
   AD tq P cx K l tail base U hd (.a (A :: as) (⟨none,op,ty,pos,ab,none⟩ :: ops) i sl ms Γ m)
 | TR {hd:QE} {t e:TI} {t1 j1 n:Nat} {y:OO} {u:Value} {us cs ds:LV} {fg:MM} {fr:Fr} {A:LN} {as:List (List Nat)} {ty:TI} {ops:LO} {i:Nat} {sl:List (Nat×Nat×Value)} {ms:MM} {Γ:QE} {m:Option (Out S R)} [ht:vB P t n]
   (h1:lq ms t1 ⟨j1,t1,[],Nat,fun _ b=>.pointer (some ⟨b,0,none⟩),fun _ b=>[.row b cs e]⟩ fg) (hv:eQ A none sl base fr) (hy:bj fr y=some u) (hc:sr Γ u us) (hn:us.length=n) (hs:ba us 0 cs ds) (ho:bb Γ us) (h4:dv j1 A=true) (h6:U.getD i []=[j1])
   (h:AD tq P cx K l tail base U hd (.a as ops (i+1) sl (⟨i,t1,[],Nat,fun _ b=>.pointer (some ⟨b,0,none⟩),fun _ b=>[.row b ds e]⟩ :: fg) Γ m)):AD tq P cx K l tail base U hd (.os A (.store t (.tmp t1) y) ty as ops i sl ms Γ m)
 | Gw {hd:QE} {α:Type} {A:LN} {as:List (List Nat)} {d:Nat} {t e ty:TI} {E:ah α} {z0:α} {bt:Nat} {ops:LO} {i:Nat} {sl:List (Nat×Nat×Value)} {ms:MM} {Γ:QE} {m:Option (Out S R)} [hz:qc P t α e E z0 bt]
   (h:AD tq P cx K l tail base U hd (.a as ops (i+1) sl (⟨i,d,[],Value,fun _ v=>v,fun _ v=>[.own (aK e E) v []]⟩ :: ms) Γ m)):AD tq P cx K l tail base U hd (.o A (.buildSlice t 0 #[]) d ty as ops i sl ms Γ m)
 | sw4 {hd:QE} {t st e:Nat} {α:Type} {E:ah α} {z0:α} {bt:Nat} {b:Bool} {A:LN} {as:List (List Nat)} {d:Nat} {ty:TI} {ops:LO} {i:Nat} {sl:List (Nat×Nat×Value)} {ms:MM} {Γ:QE} {m:Option (Out S R)} [hz:qc P st α e E z0 bt] (hw:Cr ms t b) (h:AD tq P cx K l tail base U hd (.ow b A (.buildSlice st 1 #[(0,.tmp t)]) d ty as ops i sl ms Γ m)):AD tq P cx K l tail base U hd (.o A (.buildSlice st 1 #[(0,.tmp t)]) d ty as ops i sl ms Γ m)
 | ltn {hd:QE} {t e:TI} {n:Nat} {ps:List (Nat×Operand)} {us:LV} {fr:Fr} {A:LN} {as:List (List Nat)} {d:Nat} {ty:TI} {ops:LO} {i:Nat} {sl:List (Nat×Nat×Value)} {ms:MM} {Γ:QE} {m:Option (Out S R)} [hz:Gq P t e] (hv:eQ A none sl base fr) (hl:uV Γ fr 0 ps us) (hn:us.length=n) (hb:(Nat.ble 1 n && Nat.ble n 16777216)=true)
   (h:AD tq P cx K l tail base U hd (.a as ops (i+1) sl (⟨i,d,[],Nat,fun _ b=>.slice (some ⟨b,0,none⟩) n n,fun _ b=>[.row b us e]⟩ :: ms) Γ m)):AD tq P cx K l tail base U hd (.o A (.buildSlice t n ps.toArray) d ty as ops i sl ms Γ m)
 | ltu {hd:QE} {t e:TI} {n:Nat} {ps:List (Nat×Operand)} {us:LV} {fr:Fr} {A:LN} {as:List (List Nat)} {d:Nat} {ty:TI} {ops:LO} {i:Nat} {sl:List (Nat×Nat×Value)} {ms:MM} {Γ:QE} {m:Option (Out S R)} [hz:L7 P t e] (hv:eQ A none sl base fr) (hl:uV Γ fr 0 ps us) (hn:us.length=n) (hb:(Nat.ble 1 n && Nat.ble n 16777216)=true)
   (h:AD tq P cx K l tail base U hd (.a as ops (i+1) sl (⟨i,d,[],Nat,fun _ b=>.slice (some ⟨b,0,none⟩) n n,fun _ b=>[.row b us e]⟩ :: ms) Γ m)):AD tq P cx K l tail base U hd (.o A (.buildSlice t n ps.toArray) d ty as ops i sl ms Γ m)
 | sw1 {hd:QE} {t:Nat} {b:Bool} {A:LN} {as:List (List Nat)} {d:Nat} {ty:TI} {ops:LO} {i:Nat} {sl:List (Nat×Nat×Value)} {ms:MM} {Γ:QE} {m:Option (Out S R)} (hw:Cr ms t b) (h:AD tq P cx K l tail base U hd (.ow b A (.move (.tmp t)) d ty as ops i sl ms Γ m)):AD tq P cx K l tail base U hd (.o A (.move (.tmp t)) d ty as ops i sl ms Γ m)
 | sw2 {hd:QE} {t k:Nat} {b:Bool} {A:LN} {as:List (List Nat)} {d:Nat} {ty:TI} {ops:LO} {i:Nat} {sl:List (Nat×Nat×Value)} {ms:MM} {Γ:QE} {m:Option (Out S R)} (hw:Cr ms t b) (h:AD tq P cx K l tail base U hd (.ow b A (.extract (.tmp t) k) d ty as ops i sl ms Γ m)):AD tq P cx K l tail base U hd (.o A (.extract (.tmp t) k) d ty as ops i sl ms Γ m)
 | sw3 {hd:QE} {s t k:Nat} {b:Bool} {A:LN} {as:List (List Nat)} {d:Nat} {ty:TI} {ops:LO} {i:Nat} {sl:List (Nat×Nat×Value)} {ms:MM} {Γ:QE} {m:Option (Out S R)} (hw:Cr ms t b) (h:AD tq P cx K l tail base U hd (.ow b A (.field s (.tmp t) k) d ty as ops i sl ms Γ m)):AD tq P cx K l tail base U hd (.o A (.field s (.tmp t) k) d ty as ops i sl ms Γ m)
 | sw6 {hd:QE} {t:Nat} {it:TI} {b:Bool} {A:LN} {as:List (List Nat)} {d:Nat} {ty:TI} {ops:LO} {i:Nat} {sl:List (Nat×Nat×Value)} {ms:MM} {Γ:QE} {m:Option (Out S R)} (hw:Cr ms t b) (h:AD tq P cx K l tail base U hd (.ow b A (.makeInterface it (.tmp t)) d ty as ops i sl ms Γ m)):AD tq P cx K l tail base U hd (.o A (.makeInterface it (.tmp t)) d ty as ops i sl ms Γ m)
 | wlt {hd:QE} {t e:TI} {α:Type} {E:ah α} {z0:α} {bt:Nat} {u:Value} {x:OO} {fr:Fr} {A:LN} {as:List (List Nat)} {d:Nat} {ty:TI} {ops:LO} {i:Nat} {sl:List (Nat×Nat×Value)} {ms:MM} {Γ:QE} {m:Option (Out S R)} [hz:qc P t α e E z0 bt] (hv:eQ A none sl base fr) (hx:bj fr x=some u) (h1:One Γ u)
   (h:AD tq P cx K l tail base U hd (.a as ops (i+1) sl (⟨i,d,[],Nat,fun _ b=>.slice (some ⟨b,0,none⟩) 1 1,fun _ b=>[.row b [u] e]⟩ :: ms) Γ m)):AD tq P cx K l tail base U hd (.ow false A (.buildSlice t 1 #[(0,x)]) d ty as ops i sl ms Γ m)
 | sw5 {hd:QE} {t st:Nat} {b:Bool} {A:LN} {as:List (List Nat)} {d:Nat} {ty:TI} {ops:LO} {i:Nat} {sl:List (Nat×Nat×Value)} {ms:MM} {Γ:QE} {m:Option (Out S R)} (hw:Cr ms t b) (h:AD tq P cx K l tail base U hd (.ow b A (.call ⟨.builtin .len,#[.tmp t],#[st]⟩) d ty as ops i sl ms Γ m)):AD tq P cx K l tail base U hd (.o A (.call ⟨.builtin .len,#[.tmp t],#[st]⟩) d ty as ops i sl ms Γ m)
 | mln {hd:QE} {t n:Nat} {st:TI} {A:LN} {as:List (List Nat)} {d:Nat} {ty:TI} {ops:LO} {i:Nat} {sl:List (Nat×Nat×Value)} {ms:MM} {Γ:QE} {m:Option (Out S R)} [ht:uL P st] (hi:lg ms) (u2:me A ms=true) (hx:∀ x:mq ms,T5 (kj A ms x) (r9 A ms x) t n) (h:AD tq P cx K l tail base U hd (.a as ops (i+1) ((i,d,.int .i64 (n:Int)) :: sl) ms Γ m)):AD tq P cx K l tail base U hd (.ow true A (.call ⟨.builtin .len,#[.tmp t],#[st]⟩) d ty as ops i sl ms Γ m)
 | T6 {hd:QE} {t:TI} {cs:LV} {A:LN} {as:List (List Nat)} {d:Nat} {ty:TI} {ops:LO} {i:Nat} {sl:List (Nat×Nat×Value)} {ms:MM} {Γ:QE} {m:Option (Out S R)} [hz:yL P t cs] (h:AD tq P cx K l tail base U hd (.a as ops (i+1) sl (⟨i,d,[],Nat,fun _ b=>.pointer (some ⟨b,0,none⟩),fun _ b=>[.row b cs t]⟩ :: ms) Γ m)):AD tq P cx K l tail base U hd (.o A (.alloc t) d ty as ops i sl ms Γ m)
 | wl0 {hd:QE} {st:TI} {c:Value} {A:LN} {as:List (List Nat)} {d:Nat} {ty:TI} {ops:LO} {i:Nat} {sl:List (Nat×Nat×Value)} {ms:MM} {Γ:QE} {m:Option (Out S R)} (h:AD tq P cx K l tail base U hd (.ow false A (.buildSlice st 1 #[(0,.const c)]) d ty as ops i sl ms Γ m)):AD tq P cx K l tail base U hd (.o A (.buildSlice st 1 #[(0,.const c)]) d ty as ops i sl ms Γ m)
 | TQ {hd:QE} {us:LN} {t1 t2:Nat} {t:TI} {A:LN} {as:List (List Nat)} {d:Nat} {ty:TI} {ops:LO} {i:Nat} {sl:List (Nat×Nat×Value)} {ms:MM} {Γ:QE} {m:Option (Out S R)} (hU:U.getD i []=us) (h:AD tq P cx K l tail base U hd (.ap us t1 t2 t A d ty as ops i sl ms Γ m)):AD tq P cx K l tail base U hd (.o A (.call ⟨.builtin .append,#[.tmp t1,.tmp t2],#[t,t]⟩) d ty as ops i sl ms Γ m)
 | apH {hd ig:QE} {α:Type} {t e e' et:TI} {E E':ah α} {z0:α} {bt t1 t2 j2:Nat} {v u yv:Value} {j:Int} {y:α} {z:List α} {xs:List (List α)} {o1 o2:Bool} {Γx:QE} {sw:MM} {fr:Fr} {f:Unit→Option (Out S R)} {A:LN} {as:List (List Nat)} {d:Nat} {ty:TI} {ops:LO} {i:Nat} {sl:List (Nat×Nat×Value)} {ms:MM} {Γ:QE} [hT:qc P t α e E z0 bt]
   (hV:((U.set i []).all fun us=>!(us.contains l.length))=true) (hv:eQ A none sl base fr) (hs:look fr t1=some u) (h2:lq ms t2 ⟨j2,t2,[],Nat,fun _ b=>.slice (some ⟨b,0,none⟩) 1 1,fun _ b=>[.row b [yv] et]⟩ sw) (h5:dv j2 A=true) (hl:Loc hd u (.row v j)) (hz:lh hd u o1 o2 E' z ox Γx) (h1:dh hd (.own (aK e' (aK e E)) v xs) ig) (hr:RT (aK e E) (aD E')) (hy:Cn [] E yv y [])
   (h:AD tq P cx K l tail base U ig (.a as ops (i+1) sl (⟨i,d,[],Value,fun _ v'=>v',fun _ v'=>[.own (aK e E) v' (z++[y]),.own (qw e' (aK e E) j.toNat) v xs]⟩ :: ms) Γ (f ()))):AD tq P cx K l tail base U hd (.ap [l.length] t1 t2 t A d ty as ops i sl ms Γ (fits bt (z.length+1)>>=f))
 | apL {hd ig:QE} {t e e' e3 et:TI} {kk:IntKind} {E':ah (List Int)} {z0:List Int} {bt t1 t2 t3 j2 j3 n:Nat} {v u:Value} {us:LV} {j:Int} {ys:List Int} {z:List (List Int)} {xs:List (List (List Int))} {o1 o2:Bool} {Γx:QE} {sw AZ:MM} {fr:Fr} {f:Unit→Option (Out S R)} {A:LN} {as:List (List Nat)} {d:Nat} {ty:TI} {ops:LO} {i:Nat} {sl:List (Nat×Nat×Value)} {ms:MM} {Γ:QE} [hT:qc P t (List Int) e (aK e3 (aB kk)) z0 bt]
   (hV:((U.set i []).all fun us=>!(us.contains l.length))=true) (hv:eQ A none sl base fr) (hs:look fr t1=some u) (h2:lq ms t2 ⟨j2,t2,[t3],Nat,fun _ b=>.slice (some ⟨b,0,none⟩) 1 1,fun u b=>[.row b [u] et]⟩ sw) (h3:lq sw t3 ⟨j3,t3,[],Nat,fun _ b=>.slice (some ⟨b,0,none⟩) n n,fun _ b=>[.row b us e3]⟩ AZ) (h5:dv j2 A=true) (h6:dv j3 A=true) (hl:Loc hd u (.row v j)) (hz:lh hd u o1 o2 E' z ox Γx) (h1:dh hd (.own (aK e' (aK e (aK e3 (aB kk)))) v xs) ig) (hr:RT (aK e (aK e3 (aB kk))) (aD E')) (hi:yM kk us ys) (hn:us.length=n) (hb:Nat.ble n 16777216=true)
   (h:AD tq P cx K l tail base U ig (.a as ops (i+1) sl (⟨i,d,[],Value,fun _ v'=>v',fun _ v'=>[.own (aK e (aK e3 (aB kk))) v' (z++[ys]),.own (qw e' (aK e (aK e3 (aB kk))) j.toNat) v xs]⟩ :: AZ) Γ (f ()))):AD tq P cx K l tail base U hd (.ap [l.length,j3] t1 t2 t A d ty as ops i sl ms Γ (fits bt (z.length+1)>>=f))
 | apM {hd:QE} {t e e3 et:TI} {kk:IntKind} {z0:List Int} {bt t1 t2 t3 j1 j2 j3 n:Nat} {us:LV} {ys:List Int} {z:List (List Int)} {a1:ei} {fg sw AZ:MM} {f:Unit→Option (Out S R)} {A:LN} {as:List (List Nat)} {d:Nat} {ty:TI} {ops:LO} {i:Nat} {sl:List (Nat×Nat×Value)} {ms:MM} {Γ:QE} [hT:qc P t (List Int) e (aK e3 (aB kk)) z0 bt]
   (h1:lq ms t1 a1 fg) (h2:lq fg t2 ⟨j2,t2,[t3],Nat,fun _ b=>.slice (some ⟨b,0,none⟩) 1 1,fun u b=>[.row b [u] et]⟩ sw) (h3:lq sw t3 ⟨j3,t3,[],Nat,fun _ b=>.slice (some ⟨b,0,none⟩) n n,fun _ b=>[.row b us e3]⟩ AZ) (hp:∀ u v,a1.ps u v=[.own (aK e (aK e3 (aB kk))) (a1.rt u v) z]) (hj:a1.j=j1) (kh:Nat.beq j1 j3=false) (h4:dv j1 A=true) (h5:dv j2 A=true) (h6:dv j3 A=true) (hi:yM kk us ys) (hn:us.length=n) (hb:Nat.ble n 16777216=true)
   (h:AD tq P cx K l tail base U hd (.a as ops (i+1) sl (⟨i,d,[],Value,fun _ v'=>v',fun _ v'=>[.own (aK e (aK e3 (aB kk))) v' (z++[ys])]⟩ :: AZ) Γ (f ()))):AD tq P cx K l tail base U hd (.ap [j1,j3] t1 t2 t A d ty as ops i sl ms Γ (fits bt (z.length+1)>>=f))
 | ap1 {hd:QE} {us:LN} {t e et:TI} {E:ah Int} {z0:Int} {bt t1 t2 j2 d2:Nat} {k:IntKind} {y:Int} {xs:List Int} {a1:ei} {fg sw:MM} {f:Unit→Option (Out S R)} {A:LN} {as:List (List Nat)} {d:Nat} {ty:TI} {ops:LO} {i:Nat} {sl:List (Nat×Nat×Value)} {ms:MM} {Γ:QE} [hz:qc P t Int e E z0 bt] (h1:lq ms t1 a1 fg) (h2:lq fg t2 ⟨j2,d2,[],Nat,fun _ b=>.slice (some ⟨b,0,none⟩) 1 1,fun _ b=>[.row b [.int k y] et]⟩ sw) (h3:∀ u v,a1.ps u v=[.own (aK e (aB k)) (a1.rt u v) xs]) (hu:us=[a1.j]) (h4:dv a1.j A=true) (h5:dv j2 A=true)
   (h:AD tq P cx K l tail base U hd (.a as ops (i+1) sl (⟨i,d,[],Value,fun _ v=>v,fun _ v=>[.own (aK e (aB k)) v (xs++[y])]⟩ :: fg) Γ (f ()))):AD tq P cx K l tail base U hd (.ap us t1 t2 t A d ty as ops i sl ms Γ (fits bt (xs.length+1)>>=f))
 | wv {hd:QE} {op:Op} {u:Value} {fr:Fr} {A:LN} {as:List (List Nat)} {d:Nat} {ty:TI} {ops:LO} {i:Nat} {sl:List (Nat×Nat×Value)} {ms:MM} {Γ:QE} {m:Option (Out S R)} (hv:eQ A none sl base fr) (hq:VQ P Γ fr op u) (h:AD tq P cx K l tail base U hd (.a as ops (i+1) ((i,d,u) :: sl) ms Γ m)):AD tq P cx K l tail base U hd (.ow false A op d ty as ops i sl ms Γ m)
 | mmv {hd:QE} {t:Nat} {A:LN} {as:List (List Nat)} {d:Nat} {ty:TI} {ops:LO} {i:Nat} {sl:List (Nat×Nat×Value)} {ms:MM} {Γ:QE} {m:Option (Out S R)} (hi:lg ms) (u2:me A ms=true) (hj:∃ j,px t ms=some j∧dv j A=true) (h:AD tq P cx K l tail base U hd (.a as ops (i+1) sl (⟨i,d,[t],Unit,fun u _=>u,fun _ _=>[]⟩ :: ms) Γ m)):AD tq P cx K l tail base U hd (.ow true A (.move (.tmp t)) d ty as ops i sl ms Γ m)
 | mbl {hd:QE} {t:TI} {ps:List (Nat×Operand)} {zc:LV} {pl:List (Nat×Nat)} {fr:Fr} {A:LN} {as:List (List Nat)} {d:Nat} {ty:TI} {ops:LO} {i:Nat} {sl:List (Nat×Nat×Value)} {ms:MM} {Γ:QE} {m:Option (Out S R)} [hb:AS P t zc pl] (hi:lg ms) (u2:me A ms=true) (kh:(zG ms ps).isEmpty=false) (hj:Yt A ms (zG ms ps)=true) (hv:eQ A none sl base fr)
   (hx:∀ x:mq ms,wq (r9 A ms x++Γ) (kj A ms x++fr) pl ps zc (T2 pl fr (zG ms ps) ps zc (zF (xN (mF ms x)) (zG ms ps))))
   (h:AD tq P cx K l tail base U hd (.a as ops (i+1) sl (⟨i,d,zG ms ps,Unit,fun u _=>.agg (T2 pl fr (zG ms ps) ps zc u).toArray,fun _ _=>[]⟩ :: ms) Γ m)):AD tq P cx K l tail base U hd (.o A (.build t ps.toArray) d ty as ops i sl ms Γ m)
 | mex {hd:QE} {t k:Nat} {A:LN} {as:List (List Nat)} {d:Nat} {ty:TI} {ops:LO} {i:Nat} {sl:List (Nat×Nat×Value)} {ms:MM} {Γ:QE} {m:Option (Out S R)} (hi:lg ms) (u2:me A ms=true) (hj:∃ j,px t ms=some j∧dv j A=true) (hx:∀ x:mq ms,T4 (kj A ms x) t k) (h:AD tq P cx K l tail base U hd (.a as ops (i+1) sl (⟨i,d,[t],Unit,fun u _=>Ki u k,fun _ _=>[]⟩ :: ms) Γ m)):AD tq P cx K l tail base U hd (.ow true A (.extract (.tmp t) k) d ty as ops i sl ms Γ m)
 | mfd {hd:QE} {s t k off:Nat} {A:LN} {as:List (List Nat)} {d:Nat} {ty:TI} {ops:LO} {i:Nat} {sl:List (Nat×Nat×Value)} {ms:MM} {Γ:QE} {m:Option (Out S R)} [hf:TF P s k off] (hi:lg ms) (u2:me A ms=true) (hj:∃ j,px t ms=some j∧dv j A=true) (hx:∀ x:mq ms,T3 (kj A ms x) t off) (h:AD tq P cx K l tail base U hd (.a as ops (i+1) sl (⟨i,d,[t],Unit,fun u _=>Kj u off,fun _ _=>[]⟩ :: ms) Γ m)):AD tq P cx K l tail base U hd (.ow true A (.field s (.tmp t) k) d ty as ops i sl ms Γ m)
 | mif {hd:QE} {t:Nat} {it:TI} {A:LN} {as:List (List Nat)} {d:Nat} {ty:TI} {ops:LO} {i:Nat} {sl:List (Nat×Nat×Value)} {ms:MM} {Γ:QE} {m:Option (Out S R)} [hf:Yl P it] (hi:lg ms) (u2:me A ms=true) (hj:∃ j,px t ms=some j∧dv j A=true) (h:AD tq P cx K l tail base U hd (.a as ops (i+1) sl (⟨i,d,[t],Unit,fun u _=>.iface it u,fun _ _=>[]⟩ :: ms) Γ m)):AD tq P cx K l tail base U hd (.ow true A (.makeInterface it (.tmp t)) d ty as ops i sl ms Γ m)
 | mlt {hd:QE} {t:Nat} {Yu e:TI} {α:Type} {E:ah α} {z0:α} {bt:Nat} {A:LN} {as:List (List Nat)} {d:Nat} {ty:TI} {ops:LO} {i:Nat} {sl:List (Nat×Nat×Value)} {ms:MM} {Γ:QE} {m:Option (Out S R)} [hz:qc P Yu α e E z0 bt] (hi:lg ms) (u2:me A ms=true) (hj:∃ j,px t ms=some j∧dv j A=true) (hx:∀ x:mq ms,O2 (kj A ms x) (r9 A ms x) t)
   (h:AD tq P cx K l tail base U hd (.a as ops (i+1) sl (⟨i,d,[t],Nat,fun _ b=>.slice (some ⟨b,0,none⟩) 1 1,fun u b=>[.row b [u] e]⟩ :: ms) Γ m)):AD tq P cx K l tail base U hd (.ow true A (.buildSlice Yu 1 #[(0,.tmp t)]) d ty as ops i sl ms Γ m)
 | mk {hd:QE} {t e:TI} {α:Type} {E:ah α} {z0:α} {bt:Nat} {x:OO} {z:Int} {fr:Fr} {f:Nat→Option (Out S R)} {A:LN} {as:List (List Nat)} {d:Nat} {ty:TI} {ops:LO} {i:Nat} {sl:List (Nat×Nat×Value)} {ms:MM} {Γ:QE} [hz:qc P t α e E z0 bt] (hv:eQ A none sl base fr) (hx:bj fr x=some (.int .i64 z))
   (h:∀ n,AD tq P cx K l tail base U hd (.a as ops (i+1) sl (⟨i,d,[],Value,fun _ v=>v,fun _ v=>[.own (aK e E) v (List.replicate n z0)]⟩ :: ms) Γ (f n))):AD tq P cx K l tail base U hd (.o A (.makeSlice t x x) d ty as ops i sl ms Γ (mk bt z>>=f))
 | ixs {hd:QE} {b:Bool} {v:Value} {x y:OO} {t:TI} {fr:Fr} {A:LN} {as:List (List Nat)} {d:Nat} {ty:TI} {ops:LO} {i:Nat} {sl:List (Nat×Nat×Value)} {ms:MM} {Γ:QE} {m:Option (Out S R)} (hv:eQ A none sl base fr) (hx:bj fr x=some v) (hw:Jj hd v b) (h:AD tq P cx K l tail base U hd (.ix b v fr x y t A d ty as ops i sl ms Γ m)):AD tq P cx K l tail base U hd (.o A (.indexAddr t x y) d ty as ops i sl ms Γ m)
 | idx {hd:QE} {α:Type} {A:LN} {as:List (List Nat)} {d:Nat} {x y:OO} {v:Value} {k:IntKind} {j:Int} {t ty:TI} {o1 o2:Bool} {E:ah α} {xs:List α} {ops:LO} {i:Nat} {sl:List (Nat×Nat×Value)} {ms:MM} {fr:Fr} {Γ:QE} {Γ':α→List ay} {f:α→Option (Out S R)} [ht:uL P t]
   (hy:bj fr y=some (.int k j)) (hr:∀ z,lh Γ v o1 o2 E xs (.ad o1 o2 v j E z) (Γ' z)) (hE:E.size=1)
   (h:∀ z,AD tq P cx K l tail base U hd (.a as ops (i+1) ((i,d,.pointer (some (cw v 1 j))) :: sl) ms (Γ' z) (f z))):AD tq P cx K l tail base U hd (.ix false v fr x y t A d ty as ops i sl ms Γ (idx xs j>>=f))
 | ZW {hd:QE} {α:Type} {A:LN} {as:List (List Nat)} {d:Nat} {x y:OO} {v:Value} {k:IntKind} {j:Int} {t ty:TI} {o1 o2:Bool} {E:ah α} {xs:List α} {ops:LO} {i:Nat} {sl:List (Nat×Nat×Value)} {ms:MM} {fr:Fr} {Γ:QE} {ig:α→List ay} {f:α→Option (Out S R)} [ht:uL P t]
   (hy:bj fr y=some (.int k j)) (hr:∀ z,lh hd v o1 o2 E xs (.ad o1 o2 v j E z) (ig z)) (hE:E.size=1)
   (h:∀ z,AD tq P cx K l tail base U (ig z) (.a as ops (i+1) ((i,d,.pointer (some (cw v 1 j))) :: sl) ms Γ (f z))):AD tq P cx K l tail base U hd (.ix true v fr x y t A d ty as ops i sl ms Γ (idx xs j>>=f))
 | load {hd:QE} {A:LN} {as:List (List Nat)} {d:Nat} {x:OO} {a:Addr} {t ty:TI} {lk:Option Nat} {ops:LO} {i:Nat} {sl:List (Nat×Nat×Value)} {ms:MM} {fr:Fr} {Γ:QE} {m:Option (Out S R)} [ht:LK P t lk] (hv:eQ A none sl base fr) (hx:bj fr x=some (.pointer (some a)))
   (h:AD tq P cx K l tail base U hd (.la fr a lk t x A d ty as ops i sl ms Γ m)):AD tq P cx K l tail base U hd (.o A (.load t x) d ty as ops i sl ms Γ m)
 | lsw {hd:QE} {b:Bool} {v:Value} {j:Int} {x:OO} {t:TI} {fr:Fr} {A:LN} {as:List (List Nat)} {d:Nat} {ty:TI} {ops:LO} {i:Nat} {sl:List (Nat×Nat×Value)} {ms:MM} {Γ:QE} {m:Option (Out S R)} (hw:Jj hd v b) (h:AD tq P cx K l tail base U hd (.lb b v j fr t x A d ty as ops i sl ms Γ m)):AD tq P cx K l tail base U hd (.la fr (cw v 1 j) none t x A d ty as ops i sl ms Γ m)
 | TK {hd:QE} {α:Type} {A:LN} {as:List (List Nat)} {d:Nat} {x:OO} {v:Value} {j:Int} {o:Bool} {E:ah α} {z:α} {t ty:TI} {ops:LO} {i:Nat} {sl:List (Nat×Nat×Value)} {ms:MM} {fr:Fr} {Γ Γx:QE} {m:Option (Out S R)} (h:uc Γ (cw v 1 j) o E z ox Γx)
   (k:AD tq P cx K l tail base U hd (.ld E z fr (cw v 1 j) t x A d ty as ops i sl ms Γ m)):AD tq P cx K l tail base U hd (.lb false v j fr t x A d ty as ops i sl ms Γ m)
 | ZX {hd:QE} {α:Type} {A:LN} {as:List (List Nat)} {d:Nat} {x:OO} {v:Value} {j:Int} {E:ah α} {z:List α} {o:Bool} {t ty:TI} {ops:LO} {i:Nat} {sl:List (Nat×Nat×Value)} {ms:MM} {fr:Fr} {Γ:QE} {T8 ig:Value→List ay} {m:Option (Out S R)} (hV:((U.zipIdx.all fun p=>!(p.1.contains l.length) || ((cf l).getD p.2 []).contains i))=true) (h:∀ u,uc hd (cw v 1 j) o (aD E) z (.rd o (aD E) u z) (T8 u)) (h2:∀ u,yz (T8 u) v j u (ig u))
   (k:∀ u,AD tq P cx K l tail base U (ig u) (.a as ops (i+1) ((i,d,u) :: sl) ms Γ m)):AD tq P cx K l tail base U hd (.lb true v j fr t x A d ty as ops i sl ms Γ m)
 | TL {hd:QE} {A:LN} {as:List (List Nat)} {d:Nat} {x:OO} {a:Addr} {u:Value} {t ty:TI} {ops:LO} {i:Nat} {sl:List (Nat×Nat×Value)} {ms:MM} {fr:Fr} {Γ:QE} {m:Option (Out S R)} (h:ud Γ a u)
   (k:AD tq P cx K l tail base U hd (.a as ops (i+1) ((i,d,u) :: sl) ms Γ m)):AD tq P cx K l tail base U hd (.la fr a none t x A d ty as ops i sl ms Γ m)
 | Ma {hd:QE} {A:LN} {as:List (List Nat)} {d n:Nat} {x:OO} {a:Addr} {ds:LV} {t ty:TI} {ops:LO} {i:Nat} {sl:List (Nat×Nat×Value)} {ms:MM} {fr:Fr} {Γ:QE} {m:Option (Out S R)} (h:bc Γ a n ds)
   (k:AD tq P cx K l tail base U hd (.a as ops (i+1) ((i,d,.agg ds.toArray) :: sl) ms Γ m)):AD tq P cx K l tail base U hd (.la fr a (some n) t x A d ty as ops i sl ms Γ m)
 | TM {hd:QE} {A:LN} {as:List (List Nat)} {d:Nat} {x:OO} {a:Addr} {k:IntKind} {z:Int} {t ty:TI} {ops:LO} {i:Nat} {sl:List (Nat×Nat×Value)} {ms:MM} {fr:Fr} {Γ:QE} {m:Option (Out S R)}
   (h:AD tq P cx K l tail base U hd (.a as ops (i+1) ((i,d,.int k z) :: sl) ms Γ m)):AD tq P cx K l tail base U hd (.ld (aB k) z fr a t x A d ty as ops i sl ms Γ m)
 | TN {hd:QE} {A:LN} {as:List (List Nat)} {d:Nat} {x:OO} {a:Addr} {z:Bool} {t ty:TI} {ops:LO} {i:Nat} {sl:List (Nat×Nat×Value)} {ms:MM} {fr:Fr} {Γ:QE} {m:Option (Out S R)}
   (h:AD tq P cx K l tail base U hd (.a as ops (i+1) ((i,d,.bool z) :: sl) ms Γ m)):AD tq P cx K l tail base U hd (.ld jy z fr a t x A d ty as ops i sl ms Γ m)
 | TO {hd:QE} {α:Type} {A:LN} {as:List (List Nat)} {d:Nat} {x:OO} {v:Value} {j:Int} {E:ah α} {z:List α} {o:Bool} {t ty:TI} {ops:LO} {i:Nat} {sl:List (Nat×Nat×Value)} {ms:MM} {fr:Fr} {Γ:QE} {Γ1 Γ':Value→List ay} {m:Option (Out S R)} (h:∀ u,uc Γ (cw v 1 j) o (aD E) z (.rd o (aD E) u z) (Γ1 u)) (h2:∀ u,yz (Γ1 u) v j u (Γ' u))
   (k:∀ u,AD tq P cx K l tail base U hd (.a as ops (i+1) ((i,d,u) :: sl) ms (Γ' u) m)):AD tq P cx K l tail base U hd (.ld (aD E) z fr (cw v 1 j) t x A d ty as ops i sl ms Γ m)
 | L9 {hd:QE} {us:LN} {A:LN} {as:List (List Nat)} {d:Nat} {f:FuncId} {xs:List Operand} {au:Array TypeId} {ty:TI} {ops:LO} {i:Nat} {sl:List (Nat×Nat×Value)} {ms:MM} {Γ:QE} {m:Option (Out S R)} (hU:U.getD i []=us) (h:AD tq P cx K l tail base U hd (.oc us f xs au A d ty as ops i sl ms Γ m)):AD tq P cx K l tail base U hd (.o A (.call ⟨.value (.func f),xs.toArray,au⟩) d ty as ops i sl ms Γ m)
 | call {hd:QE} {β V:Type} {A:LN} {as:List (List Nat)} {d:Nat} {f:FuncId} {xs:List Operand} {au:Array TypeId} {ty:TI} {mo:Option β} {rt:β→V→List Value} {ps:β→V→List ay} {ops:LO} {i:Nat} {sl:List (Nat×Nat×Value)} {ms:MM} {fr:Fr} {Γ:QE} {g:β→Option (Out S R)} [hf:br P f]
   (hv:eQ A none sl base fr) (hc:∀ x:mq ms,Ke P f xs (kj A ms x++fr) (r9 A ms x++Γ) mo rt ps) (hi:lg ms) (u2:me A ms=true) (ho:∀ y v,sk (ps y v)=true)
   (h:∀ y,AD tq P cx K l tail base U hd (.cr (fun v=>nk (rt y v)) (ps y) d as ops i sl ms Γ (g y))):AD tq P cx K l tail base U hd (.oc [] f xs au A d ty as ops i sl ms Γ (mo>>=g))
 | Xr {hd:QE} {β V:Type} {A:LN} {as:List (List Nat)} {d:Nat} {f:FuncId} {xs:List Operand} {au:Array TypeId} {ty:TI} {mo:Option β} {rt:β→V→List Value} {ps:β→V→List ay} {ops:LO} {i:Nat} {sl:List (Nat×Nat×Value)} {ms:MM} {fr:Fr} {Γ:QE} {g:β→Option (Out S R)} [hf:br P f]
   (hV:((U.set i []).all fun us=>!(us.contains l.length))=true) (hv:eQ A none sl base fr) (hc:∀ x:mq ms,Dq P f xs (kj A ms x++fr) hd (r9 A ms x++Γ) mo rt ps) (hi:lg ms) (u2:me A ms=true) (ho:∀ y v,sk (ps y v)=true)
   (h:∀ y,AD tq P cx K l tail base U hd (.cr (fun v=>nk (rt y v)) (ps y) d as ops i sl ms Γ (g y))):AD tq P cx K l tail base U hd (.oc [l.length] f xs au A d ty as ops i sl ms Γ (mo>>=g))
 | Xs {hd:QE} {β V:Type} {j1:Nat} {a1:ei} {fg:MM} {A:LN} {as:List (List Nat)} {d:Nat} {f:FuncId} {xs:List Operand} {au:Array TypeId} {ty:TI} {mo:Option β} {rt:β→V→List Value} {ps:β→V→List ay} {ops:LO} {i:Nat} {sl:List (Nat×Nat×Value)} {ms:MM} {fr:Fr} {Γ:QE} {g:β→Option (Out S R)} [hf:br P f]
   (h1:zH ms j1 a1 fg) (Dr:a1.src=[]) (h4:dv j1 A=true) (hv:eQ A none sl base fr) (hc:∀ (q:a1.V) (x:mq fg),Dq P f xs (kj A fg x++fr) (a1.ps undef q) (r9 A fg x++Γ) mo rt ps) (hi:lg fg) (u2:me A fg=true) (ho:∀ y v,sk (ps y v)=true)
   (h:∀ y,AD tq P cx K l tail base U hd (.cr (fun v=>nk (rt y v)) (ps y) d as ops i (Kg j1 i sl) fg Γ (g y))):AD tq P cx K l tail base U hd (.oc [j1] f xs au A d ty as ops i sl ms Γ (mo>>=g))
 | crv {hd:QE} {u:Unit→Value} {d:Nat} {as:List (List Nat)} {ops:LO} {i:Nat} {sl:List (Nat×Nat×Value)} {ms:MM} {Γ:QE} {m:Option (Out S R)} (h:AD tq P cx K l tail base U hd (.a as ops (i+1) ((i,d,u ()) :: sl) ms Γ m)):AD tq P cx K l tail base U hd (.cr u (fun _=>[]) d as ops i sl ms Γ m)
 | crb {hd:QE} {u:Unit→Value} {ps:Unit→List ay} {d:Nat} {as:List (List Nat)} {ops:LO} {i:Nat} {sl:List (Nat×Nat×Value)} {ms:MM} {Γ:QE} {m:Option (Out S R)} (h:AD tq P cx K l tail base U hd (.a as ops (i+1) ((i,d,u ()) :: sl) (⟨i,d,[],Unit,fun _=>u,fun _=>ps⟩ :: ms) Γ m)):AD tq P cx K l tail base U hd (.cr u ps d as ops i sl ms Γ m)
 | crm {hd:QE} {V:Type} {u:V→Value} {ps:V→List ay} {d:Nat} {as:List (List Nat)} {ops:LO} {i:Nat} {sl:List (Nat×Nat×Value)} {ms:MM} {Γ:QE} {m:Option (Out S R)} (h:AD tq P cx K l tail base U hd (.a as ops (i+1) sl (⟨i,d,[],V,fun _=>u,fun _=>ps⟩ :: ms) Γ m)):AD tq P cx K l tail base U hd (.cr u ps d as ops i sl ms Γ m)
 | val {hd:QE} {A:LN} {as:List (List Nat)} {op:Op} {d:Nat} {ty:TI} {u:Value} {ops:LO} {i:Nat} {sl:List (Nat×Nat×Value)} {ms:MM} {fr:Fr} {Γ:QE} {m:Option (Out S R)} (hv:eQ A none sl base fr) (hq:VQ P Γ fr op u)
   (h:AD tq P cx K l tail base U hd (.a as ops (i+1) ((i,d,u) :: sl) ms Γ m)):AD tq P cx K l tail base U hd (.o A op d ty as ops i sl ms Γ m)
 | s6 {hd:QE} {A:LN} {as:List (List Nat)} {op:BinOp} {x y:OO} {k k':IntKind} {a b:Int} {t t':TI} {d:Nat} {ty:TI} {ops:LO} {i:Nat} {sl:List (Nat×Nat×Value)} {ms:MM} {fr:Fr} {Γ:QE} {f:Int→Option (Out S R)} (hv:eQ A none sl base fr) (hx:bj fr x=some (.int k a)) (hy:bj fr y=some (.int k' b)) (hk:Q9 op k k')
   (h:∀ z,AD tq P cx K l tail base U hd (.a as ops (i+1) ((i,d,.int k z) :: sl) ms Γ (f z))):AD tq P cx K l tail base U hd (.o A (.binOp op t x y t') d ty as ops i sl ms Γ (uM op k a b>>=f))
 | Yv {hd:QE} {α β:Type} {A:LN} {as:List (List Nat)} {d:Nat} {x y:OO} {v:Value} {k:IntKind} {j:Int} {t ty:TI} {o1 o2 p1 p2:Bool} {E:ah α} {E2:ah β} {z:β} {xs:List α} {ops:LO} {i:Nat} {sl:List (Nat×Nat×Value)} {ms:MM} {fr:Fr} {Γ Γx:QE} {m:Option (Out S R)} [ht:uL P t]
   (hy:bj fr y=some (.int k j)) (hr:lh Γ v o1 o2 E xs ox Γx) (hi:In (.ad p1 p2 v j E2 z) Γ) (hE:E.size=1)
   (h:AD tq P cx K l tail base U hd (.a as ops (i+1) ((i,d,.pointer (some (cw v 1 j))) :: sl) ms Γ m)):AD tq P cx K l tail base U hd (.ix false v fr x y t A d ty as ops i sl ms Γ m)
 | pz {hd:QE} {as:List (List Nat)} {ops:LO} {i:Nat} {sl:List (Nat×Nat×Value)} {ms:MM} {Γ:QE} {m:Option (Out S R)} (h:AD tq P cx K l tail base U hd (.a as ops i sl ms Γ m)):AD tq P cx K l tail base U hd (.p [] as ops i sl ms Γ m)
 | pe {hd:QE} {e:ay} {Δ:QE} {as:List (List Nat)} {ops:LO} {i:Nat} {sl:List (Nat×Nat×Value)} {ms:MM} {Γ:QE} {m:Option (Out S R)} (h:AD tq P cx K l tail base U hd (.p Δ as ops i sl ms (e :: Γ) m)):AD tq P cx K l tail base U hd (.p (e :: Δ) as ops i sl ms Γ m)
 | Gv {hd:QE} {α V:Type} {Sc:ah α} {cl:α→V→List Value} {en:α→V→List ay} {A:LN} {as:List (List Nat)} {d n:Nat} {x y:OO} {v:Value} {xs:List α} {k:IntKind} {j:Int} {t ty:TI} {ops:LO} {i:Nat} {sl:List (Nat×Nat×Value)} {ms:MM} {fr:Fr} {Γ Γx:QE} {f:α→Option (Out S R)} [ht:Gr P t n]
   (hy:bj fr y=some (.int k j)) (hr:lh Γ v false false (rP Sc) xs ox Γx) (hs:E0 Sc V cl en) (hn:Sc.size=n)
   (h:∀ z u,AD tq P cx K l tail base U hd (.p (.au (cw v n j) (cl z u) :: en z u) as ops (i+1) ((i,d,.pointer (some (cw v n j))) :: sl) ms Γ (f z))):AD tq P cx K l tail base U hd (.ix false v fr x y t A d ty as ops i sl ms Γ (idx xs j>>=f))
 | T9 {hd:QE} {α V:Type} {Sc:ah α} {cl:α→V→List Value} {en:α→V→List ay} {A:LN} {as:List (List Nat)} {d n e bt:Nat} {x y:OO} {v:Value} {us:List (List Value)} {xs:List α} {k:IntKind} {j:Int} {t ty:TI} {ops:LO} {i:Nat} {sl:List (Nat×Nat×Value)} {ms:MM} {fr:Fr} {Γ Γ1:QE} {f:α→Option (Out S R)} [ht:AT P t e n bt]
   (hy:bj fr y=some (.int k j)) (h1:dh Γ (.own (aK e (ji n)) v us) Γ1) (hg:In (.rd false (vz Sc) (.bool true) (us,xs)) Γ) (hs:E0 Sc V cl en)
   (h:∀ z u,AD tq P cx K l tail base U hd (.p (.rd false (Au us j) (.bool true) (cl z u) :: en z u) as ops (i+1) ((i,d,.pointer (some (cw v n j))) :: sl) ms Γ (f z))):AD tq P cx K l tail base U hd (.ix false v fr x y t A d ty as ops i sl ms Γ (idx xs j>>=f))
 | Yw {hd:QE} {A:LN} {as:List (List Nat)} {d n e off:Nat} {x:OO} {v u:Value} {us:List (List Value)} {j:Int} {cs:LV} {t ty:TI} {ops:LO} {i:Nat} {sl:List (Nat×Nat×Value)} {ms:MM} {fr:Fr} {Γ Γ1:QE} {m:Option (Out S R)} (h1:dh Γ (.own (aK e (ji n)) v us) Γ1) (hp:In (.rd false (Au us j) (.bool true) cs) Γ) (hc:cs[off]? = some u)
   (k:AD tq P cx K l tail base U hd (.a as ops (i+1) ((i,d,u) :: sl) ms Γ m)):AD tq P cx K l tail base U hd (.la fr ((cw v n j).add off) none t x A d ty as ops i sl ms Γ m)
 | Ua {hd:QE} {A:LN} {as:List (List Nat)} {d n e:Nat} {x:OO} {v u:Value} {us:List (List Value)} {j:Int} {cs:LV} {t ty:TI} {ops:LO} {i:Nat} {sl:List (Nat×Nat×Value)} {ms:MM} {fr:Fr} {Γ Γ1:QE} {m:Option (Out S R)} (h1:dh Γ (.own (aK e (ji n)) v us) Γ1) (hp:In (.rd false (Au us j) (.bool true) cs) Γ) (hc:cs[0]? = some u)
   (k:AD tq P cx K l tail base U hd (.a as ops (i+1) ((i,d,u) :: sl) ms Γ m)):AD tq P cx K l tail base U hd (.la fr (cw v n j) none t x A d ty as ops i sl ms Γ m)
 | Kk {hd:QE} {β V:Type} {A:LN} {as:List (List Nat)} {d:Nat} {f:FuncId} {xs:List Operand} {au:Array TypeId} {ty:TI} {mo:Option β} {rt:β→V→List Value} {ps:β→V→List ay} {ops:LO} {i:Nat} {sl:List (Nat×Nat×Value)} {ms:MM} {fr:Fr} {Γ:QE} {g:β→Option (Out S R)} [hf:br P f]
   (hv:eQ A none sl base fr) (hc:∀ x:mq ms,Kf P f xs (kj A ms x++fr) Γ mo rt ps) (hi:lg ms) (u2:me A ms=true)
   (h:∀ y,AD tq P cx K l tail base U hd (.cr (fun v=>nk (rt y v)) (ps y) d as ops i sl ms Γ (g y))):AD tq P cx K l tail base U hd (.oc [] f xs au A d ty as ops i sl ms Γ (mo>>=g))
 | GI {hd:QE} {β V:Type} {A:LN} {as:List (List Nat)} {d:Nat} {f:FuncId} {xs:List Operand} {au:Array TypeId} {ty:TI} {mo:Option β} {rt:β→V→List Value} {ps:β→V→List ay} {ops:LO} {i:Nat} {sl:List (Nat×Nat×Value)} {ms:MM} {fr:Fr} {Γ:QE} {g:β→Option (Out S R)} [hf:br P f]
   (hV:((U.set i []).all fun us=>!(us.contains l.length))=true) (hv:eQ A none sl base fr) (hc:∀ x:mq ms,AY P f xs (kj A ms x++fr) hd Γ mo rt ps) (hi:lg ms) (u2:me A ms=true)
   (h:∀ y,AD tq P cx K l tail base U hd (.cr (fun v=>nk (rt y v)) (ps y) d as ops i sl ms Γ (g y))):AD tq P cx K l tail base U hd (.oc [l.length] f xs au A d ty as ops i sl ms Γ (mo>>=g))
 | GJ {hd:QE} {β V:Type} {j1:Nat} {a1:ei} {fg:MM} {A:LN} {as:List (List Nat)} {d:Nat} {f:FuncId} {xs:List Operand} {au:Array TypeId} {ty:TI} {mo:Option β} {rt:β→V→List Value} {ps:β→V→List ay} {ops:LO} {i:Nat} {sl:List (Nat×Nat×Value)} {ms:MM} {fr:Fr} {Γ:QE} {g:β→Option (Out S R)} [hf:br P f]
   (h1:zH ms j1 a1 fg) (Dr:a1.src=[]) (h4:dv j1 A=true) (hv:eQ A none sl base fr) (hc:∀ (q:a1.V) (x:mq fg),AY P f xs ((a1.d,a1.rt undef q) :: (kj A fg x++fr)) (a1.ps undef q) Γ mo rt ps) (hi:lg fg) (u2:me A fg=true)
   (h:∀ y,AD tq P cx K l tail base U hd (.cr (fun v=>nk (rt y v)) (ps y) d as ops i (Kg j1 i sl) fg Γ (g y))):AD tq P cx K l tail base U hd (.oc [j1] f xs au A d ty as ops i sl ms Γ (mo>>=g))
 | slH {hd:QE} {α:Type} {o:Bool} {A:LN} {as:List (List Nat)} {d:Nat} {x lo hi:OO} {v:Value} {k1 k2:IntKind} {a b:Int} {E T:ah α} {xs:List α} {t e ty:TI} {ops:LO} {i:Nat} {sl:List (Nat×Nat×Value)} {ms:MM} {fr:Fr} {Γ Γ1:QE} {Γ':Value→List α→List ay} {f:List α→Option (Out S R)} [ht:uL P t]
   (hv:eQ A none sl base fr) (hx:bj fr x=some v) (Yx:bj fr lo=some (.int k1 a)) (Yy:bj fr hi=some (.int k2 b)) (hc:dh Γ (.own (aK e T) v xs) Γ1) (hr:∀ v' ys,lh Γ v o o E xs (.rd o (aD E) v' ys) (Γ' v' ys)) (hE:E.size=1)
   (h:∀ v' ys,AD tq P cx K l tail base U hd (.a as ops (i+1) ((i,d,v') :: sl) ms (Γ' v' ys) (f ys))):AD tq P cx K l tail base U hd (.o A (.slice t x (some lo) (some hi) none) d ty as ops i sl ms Γ (O3 xs a b>>=f))
 | Rh {o1 o2:Bool} {yv:Value} {fr:Fr} {Γx:QE} {hd:QE} {us:LN} {t e:TI} {E:ah Int} {z0:Int} {bt t1 t2:Nat} {k:IntKind} {xs ys:List Int} {a1:ei} {fg:MM} {f:Unit→Option (Out S R)} {A:LN} {as:List (List Nat)} {d:Nat} {ty:TI} {ops:LO} {i:Nat} {sl:List (Nat×Nat×Value)} {ms:MM} {Γ:QE} [hz:qc P t Int e E z0 bt] (h1:lq ms t1 a1 fg) (h3:∀ u v,a1.ps u v=[.own (aK e (aB k)) (a1.rt u v) xs]) (hu:us=[a1.j]) (h4:dv a1.j A=true) (hv:eQ A none sl base fr) (hx:look fr t2=some yv) (hr:lh Γ yv o1 o2 (aB k) ys ox Γx)
   (h:AD tq P cx K l tail base U hd (.a as ops (i+1) sl (⟨i,d,[],Value,fun _ v=>v,fun _ v=>[.own (aK e (aB k)) v (xs++ys)]⟩ :: fg) Γ (f ()))):AD tq P cx K l tail base U hd (.ap us t1 t2 t A d ty as ops i sl ms Γ (fits bt (xs.length+ys.length)>>=f))
 | Ub {e2:TI} {a2:ei} {sw:MM} {hd:QE} {us:LN} {t e:TI} {E:ah Int} {z0:Int} {bt t1 t2:Nat} {k:IntKind} {xs ys:List Int} {a1:ei} {fg:MM} {f:Unit→Option (Out S R)} {A:LN} {as:List (List Nat)} {d:Nat} {ty:TI} {ops:LO} {i:Nat} {sl:List (Nat×Nat×Value)} {ms:MM} {Γ:QE} [hz:qc P t Int e E z0 bt] (h1:lq ms t1 a1 fg) (h3:∀ u v,a1.ps u v=[.own (aK e (aB k)) (a1.rt u v) xs]) (hu:us=[a1.j]) (h4:dv a1.j A=true) (h2:lq fg t2 a2 sw) (h7:∀ u v,a2.ps u v=[.own (aK e2 (aB k)) (a2.rt u v) ys]) (h5:dv a2.j A=true)
   (h:AD tq P cx K l tail base U hd (.a as ops (i+1) sl (⟨i,d,[],Value,fun _ v=>v,fun _ v=>[.own (aK e (aB k)) v (xs++ys)]⟩ :: fg) Γ (f ()))):AD tq P cx K l tail base U hd (.ap us t1 t2 t A d ty as ops i sl ms Γ (fits bt (xs.length+ys.length)>>=f))
end Go.Dk
namespace Go.Dk
open Go Go.Li
theorem iz {t:Nat} {l:LN}:dv t l=true↔t∈l:=by
 induction l with
 | nil=>simp [dv]
 | cons a l ih=>
  unfold dv
  cases hb:Nat.beq t a with
  | true=>simp [Nat.eq_of_beq_eq_true hb]
  | false=>simp only [cond_false,ih,List.mem_cons]; exact ⟨.inr,fun h=>h.resolve_left fun e=>by rw [e,Nat.beq_refl] at hb; cases hb⟩
def qn (l:LO) (U:List (List Nat)) (mt:Nat):List (List Nat):=(List.range mt).map fun i=>((cf l).getD i []).filter (uj l U mt i)
theorem j5 {l:LO} {U:List (List Nat)} {mt i j:Nat} (h:j∈(qn l U mt).getD i []):j∈(cf l).getD i []∧uj l U mt i j=true:=by
 unfold qn at h
 rw [List.getD_eq_getElem?_getD,List.getElem?_map] at h
 by_cases hi:i < mt
 ·rw [List.getElem?_range hi] at h
  exact List.mem_filter.1 h
 ·rw [List.getElem?_eq_none (by simpa using hi)] at h
  exact absurd h List.not_mem_nil
variable {Z:Nat→Prop}
structure ja (Z:Nat→Prop) (l:LO) (S:List gx) (sl:List (Nat×Nat×Value)) (ms:MM):Prop where
 v:∀ p∈sl,∃ j,(j=p.1∨j∈(cf l).getD p.1 [])∧bu l j=some p.2.1∧∃ s,S[j]? = some s∧s.b=true∧∀ f w r x,s.V f w r x→x=p.2.2
 m:∀ a∈ms,(S[a.j]? = some ⟨true,MV Z a⟩∧bu l a.j=some a.d)∨(S[a.j]? = some ⟨true,Mn Z a⟩∧bu l a.j=none∧∃ k∈(cf l).getD a.j [],bu l k=some a.d)
 s:∀ i s,S[i]? = some s→Re Z ((cf l).getD i []) l s
 d:(ms.map (·.j)).Nodup
 t:∀ i j k,j∈(cf l).getD k []→k∈(cf l).getD i []→j∈(cf l).getD i []
theorem ja.lt {l:LO} {S:List gx} {sl:List (Nat×Nat×Value)} {ms:MM} (h:ja Z l S sl ms) {a:ei} (ha:a∈ms):a.j < S.length:=by
 rcases h.m a ha with h | h <;> exact (List.getElem?_eq_some_iff.1 h.1).1
theorem ja.wV {l:LO} {S S2:List gx} {sl:List (Nat×Nat×Value)} {ms:MM} (h:ja Z l S sl ms) {a:ei} (ha:a∈ms) {g:Nat→List Nat} {r:Nat→Value} {w:World} (hd:wW l (S++S2) a.j g r w):MV Z a (g a.j) w r (r a.d):=by
 rcases h.m a ha with h1 | h1
 ·have h2:=hd.1 a.d h1.2
  rw [List.getElem?_append_left (List.getElem?_eq_some_iff.1 h1.1).1,h1.1] at h2
  exact h2
 ·obtain ⟨x,hx⟩:=hd.2 h1.2.1 _ (by rw [List.getElem?_append_left (List.getElem?_eq_some_iff.1 h1.1).1]; exact h1.1) rfl
  exact hx
theorem ja.slot {l:LO} {S:List gx} {sl:List (Nat×Nat×Value)} {ms:MM} (h:ja Z l S sl ms) {a:ei} (ha:a∈ms) {i:Nat} (hi:a.j∈(cf l).getD i []):∃ k∈(cf l).getD i [],bu l k=some a.d:=by
 rcases h.m a ha with h1 | ⟨_,_,k,hk,hd⟩
 ·exact ⟨a.j,hi,h1.2⟩
 ·exact ⟨k,h.t i k a.j hk hi,hd⟩
theorem ja.s7 {l:LO} {S S2:List gx} {sl:List (Nat×Nat×Value)} {ms:MM} (h:ja Z l S sl ms) {a:ei} (ha:a∈ms):((S++S2)[a.j]? = some ⟨true,MV Z a⟩∧bu l a.j=some a.d)∨((S++S2)[a.j]? = some ⟨true,Mn Z a⟩∧bu l a.j=none∧∃ k∈(cf l).getD a.j [],bu l k=some a.d):=by
 rw [List.getElem?_append_left (h.lt ha)]
 exact h.m a ha
theorem ja.O4 {l:LO} {S S2:List gx} {sl:List (Nat×Nat×Value)} {ms:MM} (h:ja Z l S sl ms) {p:Nat×Nat×Value} (hp:p∈sl):∃ j,(j=p.1∨j∈(cf l).getD p.1 [])∧bu l j=some p.2.1∧∃ s,(S++S2)[j]? = some s∧s.b=true∧∀ f w r x,s.V f w r x→x=p.2.2:=by
 obtain ⟨j,hj,h1,s,h2,h3⟩:=h.v p hp
 exact ⟨j,hj,h1,s,by rw [List.getElem?_append_left (List.getElem?_eq_some_iff.1 h2).1]; exact h2,h3⟩
theorem ja.xO {l:LO} {S S2:List gx} {sl:List (Nat×Nat×Value)} {ms:MM} (h:ja Z l S sl ms) {p:Nat×Nat×Value} (hp:p∈sl) {r:Nat→Value} (ho:∀ j,(j=p.1∨j∈(cf l).getD p.1 [])→j < S.length→Old l (S++S2) j r):r p.2.1=p.2.2:=by
 obtain ⟨j,hj,h1,s,h2,h3,h4⟩:=h.v p hp
 have hl:=(List.getElem?_eq_some_iff.1 h2).1
 have:=ho j hj hl _ h1 s (by rw [List.getElem?_append_left hl]; exact h2)
 rw [if_pos h3] at this
 obtain ⟨f,w,hV⟩:=this
 exact h4 f w r _ hV
theorem ja.val {l:LO} {S:List gx} {sl:List (Nat×Nat×Value)} {ms:MM} (h:ja Z l S sl ms) {d:Nat} {u:Value} (hd:bu l S.length=some d):ja Z l (S++[sV u]) ((S.length,d,u) :: sl) ms:=by
 refine ⟨?_,fun a ha=>h.s7 ha,?_,h.d,h.t⟩
 ·intro p hp
  rcases List.mem_cons.1 hp with rfl | hp
  ·exact ⟨S.length,.inl rfl,hd,sV u,by simp,rfl,fun _ _ _ _ h=>h⟩
  ·exact h.O4 hp
 ·intro i s hs
  by_cases hi:i < S.length
  ·rw [List.getElem?_append_left hi] at hs; exact h.s i s hs
  ·rw [List.getElem?_append_right (by omega)] at hs
   have wX:i - S.length=0:=by
    have:=(List.getElem?_eq_some_iff.1 hs).1
    simp at this; omega
   rw [wX] at hs
   cases hs
   exact GH.n Kl
theorem ja.mem {l:LO} {S:List gx} {sl:List (Nat×Nat×Value)} {ms:MM} (h:ja Z l S sl ms) {b:ei} (hj:b.j=S.length) (hd:bu l S.length=some b.d) (fq:∀ t∈b.src,∃ j∈(cf l).getD S.length [],bu l j=some t):ja Z l (S++[⟨true,MV Z b⟩]) sl (b :: ms):=by
 have bg:∀ a∈ms,a.j < S.length:=fun a ha=>h.lt ha
 refine ⟨fun p hp=>?_,?_,?_,?_,h.t⟩
 ·exact h.O4 hp
 ·intro a ha
  rcases List.mem_cons.1 ha with rfl | ha
  ·exact .inl ⟨by rw [hj]; simp,by rw [hj]; exact hd⟩
  ·exact h.s7 ha
 ·intro i s hs
  by_cases hi:i < S.length
  ·rw [List.getElem?_append_left hi] at hs; exact h.s i s hs
  ·rw [List.getElem?_append_right (by omega)] at hs
   have wX:i - S.length=0:=by
    have:=(List.getElem?_eq_some_iff.1 hs).1
    simp at this; omega
   have Uc:i=S.length:=by omega
   rw [wX] at hs
   cases hs
   rw [Uc]
   exact Mo fq
 ·rw [List.map_cons,List.nodup_cons]
  refine ⟨fun hm=>?_,h.d⟩
  obtain ⟨a,ha,he⟩:=List.mem_map.1 hm
  have:=bg a ha
  omega
theorem ja.ZY {l:LO} {S:List gx} {sl:List (Nat×Nat×Value)} {ms:MM} (h:ja Z l S sl ms) {j d:Nat} {u:Value} (hd:bu l j=some d) {s:gx} (hs:S[j]? = some s) (hb:s.b=true) (hV:∀ f w r x,s.V f w r x→x=u):ja Z l S ((j,d,u) :: sl) ms:=
 ⟨fun p hp=>by
  rcases List.mem_cons.1 hp with rfl | hp
  ·exact ⟨j,.inl rfl,hd,s,hs,hb,hV⟩
  ·exact h.v p hp,h.m,h.s,h.d,h.t⟩
theorem ja.re {l:LO} {S:List gx} {sl:List (Nat×Nat×Value)} {ms:MM} (h:ja Z l S sl ms) {j i:Nat} (hj:j∈(cf l).getD i []):ja Z l S (Kg j i sl) ms:=by
 refine ⟨fun p hp=>?_,h.m,h.s,h.d,h.t⟩
 obtain ⟨q,hq,rfl⟩:=List.mem_map.1 hp
 obtain ⟨k,hk,h1⟩:=h.v q hq
 cases hb:Nat.beq q.1 j with
 | false=>exact ⟨k,hk,h1⟩
 | true=>
  refine ⟨k,.inr ?_,h1⟩
  have Mp:=Nat.eq_of_beq_eq_true hb
  show k∈(cf l).getD i []
  rcases hk with rfl | hk
  ·rw [Mp]; exact hj
  ·rw [Mp] at hk; exact h.t i k j hk hj
theorem ja.ZZ {l:LO} {S:List gx} {sl:List (Nat×Nat×Value)} {ms:MM} (h:ja Z l S sl ms) {b:ei} (hj:b.j=S.length) (hd:bu l S.length=none) (hk:∃ k∈(cf l).getD S.length [],bu l k=some b.d) (fq:b.src=[]):ja Z l (S++[⟨true,Mn Z b⟩]) sl (b :: ms):=by
 have bg:∀ a∈ms,a.j < S.length:=fun a ha=>h.lt ha
 refine ⟨fun p hp=>?_,?_,?_,?_,h.t⟩
 ·exact h.O4 hp
 ·intro a ha
  rcases List.mem_cons.1 ha with rfl | ha
  ·exact .inr ⟨by rw [hj]; simp,by rw [hj]; exact hd,by rw [hj]; exact hk⟩
  ·exact h.s7 ha
 ·intro i s hs
  by_cases hi:i < S.length
  ·rw [List.getElem?_append_left hi] at hs; exact h.s i s hs
  ·rw [List.getElem?_append_right (by omega)] at hs
   have wX:i - S.length=0:=by
    have:=(List.getElem?_eq_some_iff.1 hs).1
    simp at this; omega
   have Uc:i=S.length:=by omega
   rw [wX] at hs
   cases hs
   rw [Uc]
   exact Kd hk fun t ht=>by rw [fq] at ht; cases ht
 ·rw [List.map_cons,List.nodup_cons]
  refine ⟨fun hm=>?_,h.d⟩
  obtain ⟨a,ha,he⟩:=List.mem_map.1 hm
  have:=bg a ha
  omega
theorem jc {l:LO} {m:Nat} {base:Fr} {r r0:Nat→Value} (hh:lr l m base=true) (ha:cj r0 base) (ho:∀ t,(∀ j,j < m→bu l j≠some t)→r t=r0 t):cj r base:=by
 intro t v hl
 have hm:∃ u,(t,u)∈base:=by
  clear hh ha
  induction base with
  | nil=>cases hl
  | cons p base ih=>
   obtain ⟨a,u⟩:=p
   unfold look at hl
   cases hb:Nat.beq t a with
   | true=>exact ⟨u,by rw [Nat.eq_of_beq_eq_true hb]; simp⟩
   | false=>rw [hb] at hl; obtain ⟨u',h⟩:=ih hl; exact ⟨u',by simp [h]⟩
 obtain ⟨u,hu⟩:=hm
 rw [ho t fun j hj=>Mq hh (t,u) hu j hj]
 exact ha t v hl
section
variable {P:Program} {l:LO} {mt:Nat} {S:List gx} {sl:List (Nat×Nat×Value)} {ms:MM} {base fr:Fr} {r r0:Nat→Value} {w w0:World} {g:Nat→List Nat} {i:Nat} {A:LN} {U:List (List Nat)}
theorem l4 (hR:ja Z l S sl ms) (hA:A=(qn l U mt).getD i []) (hv:eQ A none sl base fr) (hb:cj r base) {S':List gx} (hO:∀ j∈(cf l).getD i [],Old l (S++S') j r):cj r fr:=by
 refine hv.sound hb ?_ (fun _ _ _ h=>nomatch h)
 intro p hp hm
 have hi:=(j5 (by rw [← hA]; exact iz.1 hm)).1
 exact hR.xO hp fun j hj _=>hO j (hj.elim (fun e=>e ▸ hi) fun hj=>hR.t i j p.1 hj hi)
theorem O5 {H:LN} {o:Oper} {u:Value} (hh:lr l mt base=true) (ha:cj r0 base) (hR:ja Z l S sl ms) (ho:l[S.length]? = some o) (hg:o.guard=none) (hA:A=(qn l U mt).getD S.length []) (hv:eQ A none sl base fr)
  (h:∀ r,cj r fr→∀ w,an H w0 w→(execOp (ev r) o).run P w = .ok (.value u) w):jj P l mt (S++[sV u]) U r0 w0 H S.length:=
 jj.val ho (by simp) hg fun g r w hC hO hn iT=>h r (l4 hR hA hv (jc hh ha iT) hO) w hC
end
end Go.Dk
namespace Go.Dk
open Go Go.Li
section
variable {R S:Type} {P:Program} {cx:Cx R} {K:df R S} {l tail:LO} {base fr:Fr} {w:World} {Z:Nat→Prop} {U:List (List Nat)}
def iv (P:Program) (Z:Nat→Prop) (l:LO) (mt:Nat) (U:List (List Nat)) (r0:Nat→Value) (w0:World) (H:LN) (i:Nat) (sl:List (Nat×Nat×Value)) (ms:MM):Prop:=
 ∃ S:List gx,S.length=i∧ja Z l S sl ms∧∀ j,j < i→jj P l mt S U r0 w0 H j
def qv (B:Bs) (Z:Nat→Prop) (hd Γ:QE) (H:LN) (w:World):Prop:=∃ F Hd,(SA Z w hd [] Hd∧(∀ b∈Hd,b∈H∧b < w.heap.size)∧(∀ b∈H,b < w.heap.size)∧Hd.Nodup)∧SA Z w Γ [] F∧Gd B Z (H++F) w
theorem qv.stay {B:Bs} {Γ:QE} {F H:LN} {w w':World} (hS:SA Z w Γ [] F) (hG:Gd B Z (H++F) w) (hC:an H w w'):SA Z w' Γ [] F:=
 hS.dy hC (fun b hb=>hG.apart b (List.mem_append_left _ hb)) (fun _ _=>List.not_mem_nil) (fun b hb hf=>(List.nodup_append.1 hG.nd).2.2 b hb b hf rfl)
def Fin (P:Program) (cx:Cx R) (K:df R S) (l:LO) (mt:Nat) (U:List (List Nat)) (hd:QE) (_id:Nat) (base:Fr) (i:Nat) (sl:List (Nat×Nat×Value)) (ms:MM) (Γ:QE) (m:Option (Out S R)):Prop:=
 ∀ B o,m=some o→∀ r0 w0 H Z,cj r0 base→qv B Z hd Γ H w0→iv P Z l mt U r0 w0 H i sl ms→mf P cx.n l (l9 P cx B K o) r0 w0
theorem iv.re {mt:Nat} {r0:Nat→Value} {w0:World} {H:LN} {i k j:Nat} {sl:List (Nat×Nat×Value)} {ms:MM} (h:iv P Z l mt U r0 w0 H k sl ms) (hj:j∈(cf l).getD i []):iv P Z l mt U r0 w0 H k (Kg j i sl) ms:=by
 obtain ⟨S,h1,h2,h3⟩:=h
 exact ⟨S,h1,h2.re hj,h3⟩
structure zI (l:LO) (mt:Nat) (U:List (List Nat)) (as:List (List Nat)) (ops:LO) (i:Nat):Prop where
 a:as=(qn l U mt).drop i
 o:ops=(l.take mt).drop i
 le:i≤mt
structure Ud (l:LO) (mt:Nat) (U:List (List Nat)) (A:LN) (op:Op) (ty:TI) (as:List (List Nat)) (ops:LO) (i:Nat):Prop where
 A:A=(qn l U mt).getD i []
 o:∃ pos ab,l[i]? = some ⟨none,op,ty,pos,ab,none⟩
 n:zI l mt U as ops (i+1)
theorem zI.Kh {mt:Nat} {A:LN} {as:List (List Nat)} {op:Op} {ty:TI} {pos:String} {ab:Array Edge} {ops:LO} {i:Nat} (h:zI l mt U (A :: as) (⟨none,op,ty,pos,ab,none⟩ :: ops) i):Ud l mt U A op ty as ops i:=by
 obtain ⟨h1,h2,h3⟩:=h
 have e1:(qn l U mt)[i]? = some A:=by
  have:=congrArg (fun x=>x[0]?) h1
  simpa using this.symm
 have e2:(l.take mt)[i]? = some ⟨none,op,ty,pos,ab,none⟩:=by
  have:=congrArg (fun x=>x[0]?) h2
  simpa using this.symm
 have t1:as=(qn l U mt).drop (i+1):=by
  have:=congrArg List.tail h1
  simpa [List.tail_drop] using this
 have t2:ops=(l.take mt).drop (i+1):=by
  have:=congrArg List.tail h2
  simpa [List.tail_drop] using this
 have hi:i < mt:=by
  have:=(List.getElem?_eq_some_iff.1 e1).1
  simpa [qn] using this
 rw [List.getElem?_take,if_pos hi] at e2
 exact ⟨by rw [List.getD_eq_getElem?_getD,e1]; rfl,⟨pos,ab,e2⟩,t1,t2,hi⟩
structure nw (l:LO) (mt:Nat) (U:List (List Nat)) (A:LN) (op:Op) (d:Nat) (ty:TI) (as:List (List Nat)) (ops:LO) (i:Nat):Prop where
 A:A=(qn l U mt).getD i []
 o:∃ pos ab,l[i]? = some ⟨some d,op,ty,pos,ab,none⟩
 n:zI l mt U as ops (i+1)
theorem zI.cons {mt:Nat} {A:LN} {as:List (List Nat)} {op:Op} {d:Nat} {ty:TI} {pos:String} {ab:Array Edge} {ops:LO} {i:Nat} (h:zI l mt U (A :: as) (⟨some d,op,ty,pos,ab,none⟩ :: ops) i):nw l mt U A op d ty as ops i:=by
 obtain ⟨h1,h2,h3⟩:=h
 have e1:(qn l U mt)[i]? = some A:=by
  have:=congrArg (fun x=>x[0]?) h1
  simpa using this.symm
 have e2:(l.take mt)[i]? = some ⟨some d,op,ty,pos,ab,none⟩:=by
  have:=congrArg (fun x=>x[0]?) h2
  simpa using this.symm
 have t1:as=(qn l U mt).drop (i+1):=by
  have:=congrArg List.tail h1
  simpa [List.tail_drop] using this
 have t2:ops=(l.take mt).drop (i+1):=by
  have:=congrArg List.tail h2
  simpa [List.tail_drop] using this
 have hi:i < mt:=by
  have:=(List.getElem?_eq_some_iff.1 e1).1
  simpa [qn] using this
 rw [List.getElem?_take,if_pos hi] at e2
 exact ⟨by rw [List.getD_eq_getElem?_getD,e1]; rfl,⟨pos,ab,e2⟩,t1,t2,hi⟩
theorem iv.val {mt:Nat} {A:LN} {op:Op} {d:Nat} {ty:TI} {as:List (List Nat)} {ops:LO} {i:Nat} {sl:List (Nat×Nat×Value)} {ms:MM} {r0:Nat→Value} {w0:World} {H:LN} {u:Value} (h:iv P Z l mt U r0 w0 H i sl ms) (hh:lr l mt base=true) (ha:cj r0 base) (h1:nw l mt U A op d ty as ops i)
  (hv:eQ A none sl base fr) (hq:∀ r,cj r fr→∀ pos ab g w,an H w0 w→(execOp (ev r) ⟨some d,op,ty,pos,ab,g⟩).run P w = .ok (.value u) w):iv P Z l mt U r0 w0 H (i+1) ((i,d,u) :: sl) ms:=by
 obtain ⟨S',hl,hR,hO⟩:=h
 subst hl
 obtain ⟨hA,⟨pos,ab,ho⟩,_⟩:=h1
 refine ⟨S'++[sV u],by simp,hR.val (by unfold bu; rw [ho]; rfl),fun j hj=>?_⟩
 by_cases h2:j < S'.length
 ·exact jj.more (hO j h2) h2
 ·obtain rfl:j=S'.length:=by omega
  exact O5 hh ha hR ho rfl hA hv fun r hr=>hq r hr _ _ _
def CO (P:Program) (Z:Nat→Prop) (l:LO) (mt:Nat) (U:List (List Nat)) (r0:Nat→Value) (w0:World) (H:LN) (i:Nat) (sl:List (Nat×Nat×Value)) (ms:MM) (a:ei):Prop:=
 ∃ S:List gx,S.length=i∧ja Z l S sl ms∧(∀ j,j < i→jj P l mt S U r0 w0 H j)∧
  ∀ V:List Nat→World→(Nat→Value)→Value→Prop,(∀ f w r x,MV Z a f w r x→∃ f',(∀ b∈f',b∈f)∧V f' w r x)→jj P l mt (S++[⟨true,V⟩]) U r0 w0 H i
theorem HL.front {Δ Γ:QE} {Fd F:LN} (h:HL Z w Δ Fd) (hs:SA Z w Γ [] F):SA Z w (Δ++Γ) [] (Fd++F):=by
 induction h with
 | nil=>exact hs
 | own h _ ih=>rw [List.append_assoc]; exact SA.cons ih h
 | fact h _ ih=>exact SA.fact ih h
def A3 (A:LN) (g:Nat→List Nat):List ei→List Nat
 | []=>[]
 | a :: l=>bif dv a.j A then g a.j++A3 A g l else A3 A g l
def HV (Z:Nat→Prop) (w:World) (Δ:QE) (B:LN):Prop:=∃ Vo Vr,(∀ b∈Vo++Vr,b∈B)∧(∀ b∈Vr,b < w.heap.size)∧HL (fun b=>Z b∨b∈Vr) w Δ Vo
theorem HV.front {Δ Γ:QE} {B F:LN} (h:HV Z w Δ B) (hs:SA Z w Γ [] F):∃ G:List Nat,(∀ b∈G,b∈B++F∧b < w.heap.size)∧∃ F':List Nat,(∀ b∈F',b∈G)∧SA (fun b=>Z b∨b∈G) w (Δ++Γ) [] F':=by
 obtain ⟨Vo,Vr,h1,h2,h3⟩:=h
 have hS:=h3.front (hs.mono (Z':=fun b=>Z b∨b∈Vr) (fun _ h=>.inl h) fun _ h=>h)
 refine ⟨Vr++(Vo++F),fun b hb=>?_,Vo++F,fun b hb=>List.mem_append_right _ hb,hS.mono (fun b h=>h.imp id fun h=>List.mem_append_left _ h) fun _ h=>h⟩
 rcases List.mem_append.1 hb with hb | hb
 ·exact ⟨List.mem_append_left _ (h1 b (List.mem_append_right _ hb)),h2 b hb⟩
 ·refine ⟨?_,hS.lt b hb⟩
  rcases List.mem_append.1 hb with hb | hb
  ·exact List.mem_append_left _ (h1 b (List.mem_append_left _ hb))
  ·exact List.mem_append_right _ hb
theorem HV.app {Δ Δ':QE} {f B:LN} (h:HN Z w Δ f) (k:HV Z w Δ' B):HV Z w (Δ++Δ') (f++B):=by
 obtain ⟨Fo,Fr,rfl,h1,h2⟩:=h.all
 obtain ⟨Vo,Vr,k1,k2,k3⟩:=k
 refine ⟨Fo++Vo,Fr++Vr,fun b hb=>?_,fun b hb=>(List.mem_append.1 hb).elim (h1 b) (k2 b),(h2.mono fun b h=>h.imp id fun h=>List.mem_append_left _ h).app (k3.mono fun b h=>h.imp id fun h=>List.mem_append_right _ h)⟩
 have:=fun h=>k1 b h
 simp only [List.mem_append] at hb this ⊢
 rcases hb with (h | h) | h | h
 ·exact .inl (.inl h)
 ·exact .inr (this (.inl h))
 ·exact .inl (.inr h)
 ·exact .inr (this (.inr h))
theorem Xt {A:LN} {g:Nat→List Nat} {r:Nat→Value}:∀ {ms:MM},lg ms→me A ms=true→(∀ a∈ms,dv a.j A=true→MV Z a (g a.j) w r (r a.d))→
  ∃ x:mq ms,(∀ p∈kj A ms x,r p.1=p.2)∧HV Z w (r9 A ms x) (A3 A g ms):=by
 intro ms
 induction ms with
 | nil=>intro _ _ _; exact ⟨(),fun p hp=>absurd hp List.not_mem_nil,[],[],fun b (h:b∈[])=>absurd h List.not_mem_nil,fun b (h:b∈[])=>absurd h List.not_mem_nil,.nil⟩
 | cons a ms ih=>
  intro hi fq h
  unfold me at fq
  rw [Bool.and_eq_true] at fq
  cases hi with
  | cons h1 h2=>
   obtain ⟨x,hx,hl⟩:=ih h2 fq.2 fun b hb=>h b (List.mem_cons_of_mem _ hb)
   cases hb:dv a.j A with
   | false=>
    obtain ⟨v⟩:=h1.ne
    refine ⟨(v,x),?_,?_⟩
    ·simp only [kj,hb,cond_false]; exact hx
    ·simp only [r9,A3,hb,cond_false]; exact hl
   | true=>
    obtain ⟨v,e1,e2,_⟩:=h a (by simp) hb
    have es:uZ a r=AV a (mF ms x):=by
     have h3:=fq.1
     rw [hb,cond_true,List.all_eq_true] at h3
     refine BZ fun t ht=>?_
     have h4:=h3 t ht
     cases hj:px t ms with
     | none=>rw [hj] at h4; cases h4
     | some j=>rw [hj] at h4; unfold xN; rw [GG hj h4 hx]
    rw [es] at e1 e2
    refine ⟨(v,x),?_,?_⟩
    ·simp only [kj,hb,cond_true]
     intro p hp
     rcases List.mem_cons.1 hp with rfl | hp
     ·exact e1
     ·exact hx p hp
    ·simp only [r9,A3,hb,cond_true]; exact HV.app e2 hl
theorem O6 {t j:Nat}:∀ {ms:MM},px t ms=some j→∃ a∈ms,a.j=j∧a.d=t:=by
 intro ms
 induction ms with
 | nil=>intro h; cases h
 | cons a l ih=>
  intro h
  unfold px at h
  cases hb:Nat.beq t a.d with
  | true=>rw [hb] at h; cases h; exact ⟨a,by simp,rfl,(Nat.eq_of_beq_eq_true hb).symm⟩
  | false=>rw [hb] at h; obtain ⟨b,h1,h2⟩:=ih h; exact ⟨b,List.mem_cons_of_mem _ h1,h2⟩
theorem Ew {mt i:Nat} {A:LN} (hA:A=(qn l U mt).getD i []) {S':List gx} {sl:List (Nat×Nat×Value)} {ms:MM} {t:Nat} (hR:ja Z l S' sl ms) (hj:∃ j,px t ms=some j∧dv j A=true):∃ j∈(cf l).getD i [],bu l j=some t:=by
 obtain ⟨j,h1,h2⟩:=hj
 obtain ⟨a,ha,rfl,rfl⟩:=O6 h1
 exact hR.slot ha (j5 (by rw [← hA]; exact iz.1 h2)).1
theorem xO {mt:Nat} {A:LN} {S' S2:List gx} {sl:List (Nat×Nat×Value)} {ms:MM} {g:Nat→List Nat} {r:Nat→Value} (hR:ja Z l S' sl ms) (hA:A=(qn l U mt).getD S'.length []) (hi:lg ms) (fq:me A ms=true) (hn:∀ j,uj l U mt S'.length j=true→wW l (S'++S2) j g r w) :
  ∃ x:mq ms,(∀ p∈kj A ms x,r p.1=p.2)∧HV Z w (r9 A ms x) (A3 A g ms):=
 Xt hi fq fun a hm hb=>by
  exact hR.wV hm (hn a.j (j5 (by rw [← hA]; exact iz.1 hb)).2)
theorem iv.mem {mt:Nat} {A:LN} {op:Op} {d:Nat} {ty:TI} {as:List (List Nat)} {ops:LO} {i:Nat} {sl:List (Nat×Nat×Value)} {ms:MM} {r0:Nat→Value} {w0:World} {H:LN} {a:ei} (h:iv P Z l mt U r0 w0 H i sl ms) (h1:nw l mt U A op d ty as ops i) (haj:a.j=i) (had:a.d=d)
  (fq:∀ S',ja Z l S' sl ms→∀ t∈a.src,∃ j∈(cf l).getD i [],bu l j=some t)
  (hq:∀ S' S2,S'.length=i→ja Z l S' sl ms→∀ (g:Nat→List Nat) (r:Nat→Value) (w:World),an H w0 w→(∀ j∈(cf l).getD S'.length [],Old l (S'++S2) j r)→(∀ j,uj l U mt S'.length j=true→wW l (S'++S2) j g r w)→(∀ t,(∀ j,j < mt→bu l j≠some t)→r t=r0 t)→∀ pos ab,
   ez P ⟨some d,op,ty,pos,ab,none⟩ r w fun v w'=>an [] w w'∧∃ f,(∀ b∈f,w.heap.size≤b∧b < w'.heap.size)∧MV Z a f w' r v):iv P Z l mt U r0 w0 H (i+1) sl (a :: ms):=by
 obtain ⟨S',hl,hR,hO⟩:=h
 subst hl
 subst had
 obtain ⟨hA,⟨pos,ab,ho⟩,_⟩:=h1
 refine ⟨S'++[⟨true,MV Z a⟩],by simp,hR.mem haj (by unfold bu; rw [ho]; rfl) (fq S' hR),fun j hj=>?_⟩
 by_cases h2:j < S'.length
 ·exact jj.more (hO j h2) h2
 ·obtain rfl:j=S'.length:=by omega
  exact jj.O7 (V:=MV Z a) ho (by simp) rfl fun g r w hC hO hn iT=>hq S' _ rfl hR g r w hC hO hn iT pos ab
theorem lq.sub {ms Az:MM} {a:ei} {t:Nat} (h:lq ms t a Az):a∈ms∧a.d=t∧(∀ b∈Az,b∈ms)∧(Az.map (·.j)).Sublist (ms.map (·.j)):=by
 induction h with
 | here=>exact ⟨by simp,rfl,fun b hb=>List.mem_cons_of_mem _ hb,by simp⟩
 | there _ ih=>
  obtain ⟨h1,h2,h3,h4⟩:=ih
  refine ⟨List.mem_cons_of_mem _ h1,h2,fun b hb=>?_,by simpa using h4⟩
  rcases List.mem_cons.1 hb with rfl | hb
  ·simp
  ·exact List.mem_cons_of_mem _ (h3 b hb)
theorem ja.sub {S':List gx} {sl:List (Nat×Nat×Value)} {ms Az:MM} (h:ja Z l S' sl ms) (hm:∀ b∈Az,b∈ms) (hn:(Az.map (·.j)).Sublist (ms.map (·.j))):ja Z l S' sl Az:=⟨h.v,fun a ha=>h.m a (hm a ha),h.s,h.d.sublist hn,h.t⟩
theorem Sn {mt:Nat} {t e et:TI} {E:ah Int} {z0:Int} {bt t1 t2 j2 d2 i d:Nat} {k:IntKind} {y:Int} {xs:List Int} {a1:ei} {ms fg sw:MM} {sl:List (Nat×Nat×Value)} {A:LN} {ty:TI} {as:List (List Nat)} {ops:LO} {r0:Nat→Value} {w0:World} {H:LN} (hz:qc P t Int e E z0 bt) (h1:lq ms t1 a1 fg) (h2:lq fg t2 ⟨j2,d2,[],Nat,fun _ b=>.slice (some ⟨b,0,none⟩) 1 1,fun _ b=>[.row b [.int k y] et]⟩ sw) (h3:∀ u v,a1.ps u v=[.own (aK e (aB k)) (a1.rt u v) xs]) (h4:dv a1.j A=true) (h5:dv j2 A=true) (h6:U.getD i []=[a1.j])
  (hf:fits bt (xs.length+1)=some ()) (wS:nw l mt U A (.call ⟨.builtin .append,#[.tmp t1,.tmp t2],#[t,t]⟩) d ty as ops i) (h:iv P Z l mt U r0 w0 H i sl ms) :
  iv P Z l mt U r0 w0 H (i+1) sl (⟨i,d,[],Value,fun _ v=>v,fun _ v=>[.own (aK e (aB k)) v (xs++[y])]⟩ :: fg):=by
 obtain ⟨S',hl,hR,hO⟩:=h
 subst hl
 obtain ⟨hA,⟨pos,ab,ho⟩,_⟩:=wS
 obtain ⟨b1,b2⟩:=iu hf
 obtain ⟨q1,hE,i',z,q3,q4,q5,q6,q7,q8⟩:=hz.h
 obtain ⟨m1,m2,m3,m4⟩:=h1.sub
 obtain ⟨n1,n2,_,_⟩:=h2.sub
 refine ⟨S'++[⟨true,MV Z ⟨S'.length,d,[],Value,fun _ v=>v,fun _ v=>[.own (aK e (aB k)) v (xs++[y])]⟩⟩],by simp,(hR.sub m3 m4).mem rfl (by unfold bu; rw [ho]; rfl) (by intro t h; cases h),fun j hj=>?_⟩
 by_cases bg:j < S'.length
 ·exact jj.more (hO j bg) bg
 ·obtain rfl:j=S'.length:=by omega
  intro o' s' bw cu g r w hC wc jd hn iT sx my
  rw [ho] at bw
  cases bw
  rw [List.getElem?_append_right (Nat.le_refl _),Nat.sub_self] at cu
  cases cu
  rw [if_pos rfl]
  refine ⟨rfl,?_⟩
  have get:∀ a∈ms,dv a.j A=true→MV Z a (g a.j) w r (r a.d):=fun a hm hb=>by
   exact hR.wV hm (hn a.j (j5 (by rw [← hA]; exact iz.1 hb)).2)
  obtain ⟨v1,c1,c2,c3⟩:=get a1 m1 h4
  obtain ⟨v2,f1,f2,f3⟩:=get _ (m3 _ n1) h5
  rw [h3,← c1,m2] at c2
  rw [m2] at c1
  simp only at f1 f2
  subst n2
  replace c2:=c2.own rfl
  replace f2:=f2.own rfl
  generalize wb:g a1.j=G1 at c2 c3
  generalize gp:g j2=G2 at f2 f3
  cases c2 with
  | fact h _=>exact h.elim
  | @own _ ff F0 _ wY sa=>
   cases sa
   rw [List.append_nil] at c3
   cases f2 with
   | fact h _=>exact h.elim
   | @own _ gg F0 _ bd sa=>
    cases sa
    obtain ⟨rfl,bd⟩:=bd
    have hb:j9 g (U.getD S'.length [])=ff:=by rw [h6]; simp [j9,wb]
    refine nn (ez.sL (E:=aB k) (F:=ff) q1 q3 q4 q5 rfl q6 (s:=.tmp t1) (x:=.tmp d2) rfl ⟨wY,c3⟩ (fun b hb=>hb) f1 bd ⟨rfl,rfl⟩ (by rw [q7]; exact b1) b2) ?_
    rintro v w' ⟨we,f',s8,hV⟩
    rw [hb]
    refine ⟨we,f',s8,v,rfl,?_,hV.2⟩
    have:=HL.own (Z:=fun _=>False) (e:=.own (aK e (aB k)) v (xs++[y])) (f:=f') hV.1 .nil
    exact .inl (by simpa using this)
theorem ez.tJ {α:Type} {E:ah α} {F f k:LN} {t e:TI} {s x:OO} {i:TypeInfo} {z:Value} {sv yv:Value} {xs ys:List α} {r:Nat→Value} {w:World} {d:Option Nat} {ty:TI} {pos:String} {ab:Array Edge} (Ue:∀ {h cs x f},E.rep h cs x f→f=[])
  (ht:P.underlying t=some (.slice e)) (hi:P.info? e=some i) (hz:i.zero=some z) (hs:i.size=1) (hE:E.size=1) (yQ:z.oneCell'=true)
  (tL:ev r s=sv) (hO:Ey (aK e E) xs f w sv) (hF:∀ b∈f,b∈F) (hx:ev r x=yv) (hy:(aD E).rep w.heap [yv] ys k)
  (hb:(xs.length+ys.length) * i.bytes≤140737488355328) (xP:xs.length+ys.length≤maxLen) :
  ez P ⟨d,.call ⟨.builtin .append,#[s,x],#[t,t]⟩,ty,pos,ab,none⟩ r w fun v w'=>an F w w'∧∃ f',(∀ b∈f',(b∈F∨w.heap.size≤b)∧b < w'.heap.size)∧Ey (aK e E) (xs++ys) f' w' v:=by
 have rY:=E9 hy
 rcases Nat.eq_zero_or_pos ys.length with AA | AA
 ·obtain rfl:ys=[]:=List.eq_nil_of_length_eq_zero AA
  obtain ⟨b0,c0,A4⟩:=sJ hy
  obtain ⟨base,cap,hv,hr⟩:=hO.1
  obtain rfl:sv = .slice base xs.length cap:=by simpa using hv
  have GK:xs.length≤cap:=by
   rcases hr with ⟨_,rfl,rfl,_⟩ | ⟨_,_,_,_,_,_,h,_⟩
   ·simp
   ·exact h
  have je:=yR (P:=P) (w:=w) (ty:=ty) ht hi (b:=base) (a:=b0) (c:=c0) GK
  subst A4
  have zJ:(execOp (ev r) ⟨d,.call ⟨.builtin .append,#[s,x],#[t,t]⟩,ty,pos,ab,none⟩).run P w = .ok (.value (.slice base xs.length cap)) w:=by
   simp only [execOp,resolve,invoke,builtin,Sem.run_bind,Sem.run_pure,Result.andThen_ok,List.map_toArray,List.map_cons,List.map_nil,tL,hx,List.length_nil,je]
  unfold ez
  rw [zJ]
  exact ⟨an.refl _ _,f,fun b hb=>⟨.inl (hF b hb),ah.lt _ hO.1 b hb⟩,by rw [List.append_nil]; exact hO⟩
 ·rcases rY with rfl | ⟨a,c,news,g1,A4,zK,dk,_⟩
  ·simp at AA
  ·obtain ⟨rfl,_⟩:=A5 (h':=w.heap) Ue dk
   obtain ⟨v,w',f',h,hC,F7,cb,cg⟩:=mw (d:=d) (ty:=ty) (pos:=pos) (ab:=ab) (g:=none) ht hi hz (by rw [hs,hE]) (by rw [cells_one yQ,hE]; rfl) tL hO.1 hO.2 (hx.trans A4) zK dk (fun _ h=>nomatch h) AA hb xP
   unfold ez
   rw [h]
   refine ⟨hC.mono hF,f',fun b hb=>⟨?_,ah.lt _ F7 b hb⟩,F7,cg List.nodup_nil⟩
   rcases cb b hb with h | h | h
   ·exact .inl (hF b h)
   ·cases h
   ·exact .inr h
theorem O8 {mt:Nat} {t e:TI} {E:ah Int} {z0:Int} {bt t1 t2 i d:Nat} {k:IntKind} {xs ys:List Int} {a1:ei} {ms fg:MM} {sl:List (Nat×Nat×Value)} {A:LN} {ty:TI} {as:List (List Nat)} {ops:LO} {r0:Nat→Value} {w0:World} {H:LN} {o1 o2:Bool} {yv:Value} {Γ Γx:QE} {F:LN} (hz:qc P t Int e E z0 bt) (h1:lq ms t1 a1 fg) (h3:∀ u v,a1.ps u v=[.own (aK e (aB k)) (a1.rt u v) xs]) (h4:dv a1.j A=true) (h6:U.getD i []=[a1.j]) (hh:lr l mt base=true) (ha:cj r0 base) (hv:eQ A none sl base fr) (hx:look fr t2=some yv) (hr:lh Γ yv o1 o2 (aB k) ys ox Γx) (hS:∀ w,an H w0 w→SA Z w Γ [] F)
  (hf:fits bt (xs.length+ys.length)=some ()) (wS:nw l mt U A (.call ⟨.builtin .append,#[.tmp t1,.tmp t2],#[t,t]⟩) d ty as ops i) (h:iv P Z l mt U r0 w0 H i sl ms) :
  iv P Z l mt U r0 w0 H (i+1) sl (⟨i,d,[],Value,fun _ v=>v,fun _ v=>[.own (aK e (aB k)) v (xs++ys)]⟩ :: fg):=by
 obtain ⟨S',hl,hR,hO⟩:=h
 subst hl
 obtain ⟨hA,⟨pos,ab,ho⟩,_⟩:=wS
 obtain ⟨b1,b2⟩:=iu hf
 obtain ⟨q1,hE,i',z,q3,q4,q5,q6,q7,q8⟩:=hz.h
 obtain ⟨m1,m2,m3,m4⟩:=h1.sub
 refine ⟨S'++[⟨true,MV Z ⟨S'.length,d,[],Value,fun _ v=>v,fun _ v=>[.own (aK e (aB k)) v (xs++ys)]⟩⟩],by simp,(hR.sub m3 m4).mem rfl (by unfold bu; rw [ho]; rfl) (by intro t h; cases h),fun j hj=>?_⟩
 by_cases bg:j < S'.length
 ·exact jj.more (hO j bg) bg
 ·obtain rfl:j=S'.length:=by omega
  intro o' s' bw cu g r w hC wc jd hn iT sx my
  rw [ho] at bw
  cases bw
  rw [List.getElem?_append_right (Nat.le_refl _),Nat.sub_self] at cu
  cases cu
  rw [if_pos rfl]
  refine ⟨rfl,?_⟩
  have get:∀ a∈ms,dv a.j A=true→MV Z a (g a.j) w r (r a.d):=fun a hm hb=>by
   exact hR.wV hm (hn a.j (j5 (by rw [← hA]; exact iz.1 hb)).2)
  obtain ⟨v1,c1,c2,c3⟩:=get a1 m1 h4
  rw [h3,← c1,m2] at c2
  rw [m2] at c1
  replace c2:=c2.own rfl
  have A4:ev r (.tmp t2)=yv:=l4 hR hA hv (jc hh ha iT) jd t2 yv hx
  obtain ⟨_,_,⟨⟨kk,Km,_⟩,_⟩,_⟩:=hr.sound (hS w hC)
  generalize wb:g a1.j=G1 at c2 c3
  cases c2 with
  | fact h _=>exact h.elim
  | @own _ ff F0 _ wY sa=>
   cases sa
   rw [List.append_nil] at c3
   have hb:j9 g (U.getD S'.length [])=ff:=by rw [h6]; simp [j9,wb]
   refine nn (ez.tJ (E:=aB k) (F:=ff) tK q1 q3 q4 q5 rfl q6 (s:=.tmp t1) (x:=.tmp t2) rfl ⟨wY,c3⟩ (fun b hb=>hb) A4 Km (by rw [q7]; exact b1) b2) ?_
   rintro v w' ⟨we,f',s8,hV⟩
   rw [hb]
   refine ⟨we,f',s8,v,rfl,?_,hV.2⟩
   have:=HL.own (Z:=fun _=>False) (e:=.own (aK e (aB k)) v (xs++ys)) (f:=f') hV.1 .nil
   exact .inl (by simpa using this)
theorem O9 {mt:Nat} {t e:TI} {E:ah Int} {z0:Int} {bt t1 t2 i d:Nat} {k:IntKind} {xs ys:List Int} {a1:ei} {ms fg:MM} {sl:List (Nat×Nat×Value)} {A:LN} {ty:TI} {as:List (List Nat)} {ops:LO} {r0:Nat→Value} {w0:World} {H:LN} {e2:TI} {a2:ei} {sw:MM} (hz:qc P t Int e E z0 bt) (h1:lq ms t1 a1 fg) (h3:∀ u v,a1.ps u v=[.own (aK e (aB k)) (a1.rt u v) xs]) (h4:dv a1.j A=true) (h6:U.getD i []=[a1.j]) (h2:lq fg t2 a2 sw) (h7:∀ u v,a2.ps u v=[.own (aK e2 (aB k)) (a2.rt u v) ys]) (h5:dv a2.j A=true)
  (hf:fits bt (xs.length+ys.length)=some ()) (wS:nw l mt U A (.call ⟨.builtin .append,#[.tmp t1,.tmp t2],#[t,t]⟩) d ty as ops i) (h:iv P Z l mt U r0 w0 H i sl ms) :
  iv P Z l mt U r0 w0 H (i+1) sl (⟨i,d,[],Value,fun _ v=>v,fun _ v=>[.own (aK e (aB k)) v (xs++ys)]⟩ :: fg):=by
 obtain ⟨S',hl,hR,hO⟩:=h
 subst hl
 obtain ⟨hA,⟨pos,ab,ho⟩,_⟩:=wS
 obtain ⟨b1,b2⟩:=iu hf
 obtain ⟨q1,hE,i',z,q3,q4,q5,q6,q7,q8⟩:=hz.h
 obtain ⟨m1,m2,m3,m4⟩:=h1.sub
 obtain ⟨n1,n2,_,_⟩:=h2.sub
 refine ⟨S'++[⟨true,MV Z ⟨S'.length,d,[],Value,fun _ v=>v,fun _ v=>[.own (aK e (aB k)) v (xs++ys)]⟩⟩],by simp,(hR.sub m3 m4).mem rfl (by unfold bu; rw [ho]; rfl) (by intro t h; cases h),fun j hj=>?_⟩
 by_cases bg:j < S'.length
 ·exact jj.more (hO j bg) bg
 ·obtain rfl:j=S'.length:=by omega
  intro o' s' bw cu g r w hC wc jd hn iT sx my
  rw [ho] at bw
  cases bw
  rw [List.getElem?_append_right (Nat.le_refl _),Nat.sub_self] at cu
  cases cu
  rw [if_pos rfl]
  refine ⟨rfl,?_⟩
  have get:∀ a∈ms,dv a.j A=true→MV Z a (g a.j) w r (r a.d):=fun a hm hb=>by
   exact hR.wV hm (hn a.j (j5 (by rw [← hA]; exact iz.1 hb)).2)
  obtain ⟨v1,c1,c2,c3⟩:=get a1 m1 h4
  rw [h3,← c1,m2] at c2
  rw [m2] at c1
  replace c2:=c2.own rfl
  obtain ⟨v2,f1,f2,f3⟩:=get a2 (m3 _ n1) h5
  rw [h7,← f1,n2] at f2
  replace f2:=f2.own rfl
  have A4:ev r (.tmp t2)=r t2:=rfl
  obtain ⟨kk,Km⟩ : ∃ kk,(aD (aB k)).rep w.heap [r t2] ys kk:=by
   generalize g a2.j=G2 at f2
   cases f2 with
   | fact h _=>exact h.elim
   | @own _ gg F0 _ wY sa=>exact ⟨_,(Le.own (Le.refl (aB k)) e2).le wY⟩
  generalize wb:g a1.j=G1 at c2 c3
  cases c2 with
  | fact h _=>exact h.elim
  | @own _ ff F0 _ wY sa=>
   cases sa
   rw [List.append_nil] at c3
   have hb:j9 g (U.getD S'.length [])=ff:=by rw [h6]; simp [j9,wb]
   refine nn (ez.tJ (E:=aB k) (F:=ff) tK q1 q3 q4 q5 rfl q6 (s:=.tmp t1) (x:=.tmp t2) rfl ⟨wY,c3⟩ (fun b hb=>hb) A4 Km (by rw [q7]; exact b1) b2) ?_
   rintro v w' ⟨we,f',s8,hV⟩
   rw [hb]
   refine ⟨we,f',s8,v,rfl,?_,hV.2⟩
   have:=HL.own (Z:=fun _=>False) (e:=.own (aK e (aB k)) v (xs++ys)) (f:=f') hV.1 .nil
   exact .inl (by simpa using this)
theorem vh {t:TI} {x y:OO} {i:TypeInfo} {b off:Nat} {cs us:LV} {e:TI} {r:Nat→Value} {d:Option Nat} {ty:TI} {pos:String} {ab:Array Edge} {gg:Option (Nat×Bool)}
  (hi:P.info? t=some i) (hs:us.length=i.size) (bd:Row w b cs e) (hl:off+us.length≤cs.length) (hx:ev r x = .pointer (some ⟨b,off,none⟩)) (hy:(ev r y).cells.toList=us) (hu:∀ u∈us,u.oneCell'=true) :
  (execOp (ev r) ⟨d,.store t x y,ty,pos,ab,gg⟩).run P w = .ok .skip (w.setRow b (cs.take off++us++cs.drop (off+us.length)).toArray):=by
 have h:=run_storeCells_at P b off e us 0 cs.toArray w bd (by simpa using hl) hu
 simp only [Nat.add_zero] at h
 have sy:(ev r y).cells=us.toArray:=by rw [← hy]
 simp only [execOp,Instr.storeAt,Instr.sureAddr,hx,storeVar]
 simp [sy,sizeOf,typeInfo,hi,hs,h]
theorem Sp {mt:Nat} {t e:TI} {t1 j1 n i:Nat} {y:OO} {u:Value} {us cs ds:LV} {ms fg:MM} {sl:List (Nat×Nat×Value)} {A:LN} {ty:TI} {as:List (List Nat)} {ops:LO} {r0:Nat→Value} {w0:World} {H:LN} {Γ:QE} {F:LN} (hh:lr l mt base=true) (ha:cj r0 base) (ht:vB P t n)
  (h1:lq ms t1 ⟨j1,t1,[],Nat,fun _ b=>.pointer (some ⟨b,0,none⟩),fun _ b=>[.row b cs e]⟩ fg) (hv:eQ A none sl base fr) (hy:bj fr y=some u) (hc:sr Γ u us) (nu:us.length=n) (hs:ba us 0 cs ds) (ho:bb Γ us) (h4:dv j1 A=true) (h6:U.getD i []=[j1])
  (hS:∀ w,an H w0 w→SA Z w Γ [] F) (wS:Ud l mt U A (.store t (.tmp t1) y) ty as ops i) (h:iv P Z l mt U r0 w0 H i sl ms) :
  iv P Z l mt U r0 w0 H (i+1) sl (⟨i,t1,[],Nat,fun _ b=>.pointer (some ⟨b,0,none⟩),fun _ b=>[.row b ds e]⟩ :: fg):=by
 obtain ⟨S',hl,hR,hO⟩:=h
 subst hl
 obtain ⟨hA,⟨pos,ab,Yz⟩,_⟩:=wS
 obtain ⟨ti,q1,q2⟩:=ht.h
 obtain ⟨m1,_,m3,m4⟩:=h1.sub
 have zL:=j5 (by rw [← hA]; exact iz.1 h4)
 refine ⟨S'++[⟨true,Mn Z ⟨S'.length,t1,[],Nat,fun _ b=>.pointer (some ⟨b,0,none⟩),fun _ b=>[.row b ds e]⟩⟩],by simp,(hR.sub m3 m4).ZZ (b:=⟨S'.length,t1,[],Nat,fun _ b=>.pointer (some ⟨b,0,none⟩),fun _ b=>[.row b ds e]⟩) rfl (by unfold bu; rw [Yz]; rfl) (hR.slot m1 zL.1) rfl,fun j hj=>?_⟩
 by_cases bg:j < S'.length
 ·exact jj.more (hO j bg) bg
 ·obtain rfl:j=S'.length:=by omega
  intro o' s' bw cu g r w hC wc jd hn iT sx my
  rw [Yz] at bw
  cases bw
  rw [List.getElem?_append_right (Nat.le_refl _),Nat.sub_self] at cu
  cases cu
  rw [if_pos rfl]
  refine ⟨rfl,?_⟩
  obtain ⟨b,c1,c2,c3⟩:=hR.wV m1 (hn j1 zL.2)
  simp only at c1 c2
  replace c2:=c2.own rfl
  generalize wb:g j1=G1 at c2 c3
  cases c2 with
  | fact h _=>exact h.elim
  | @own _ ff F0 _ wY sa=>
   cases sa
   obtain ⟨rfl,bd⟩:=wY
   have hb:j9 g (U.getD S'.length [])=[b]:=by rw [h6]; simp [j9,wb]
   have hr:=l4 hR hA hv (jc hh ha iT) jd
   obtain ⟨e1,e2⟩:=hs.eq
   have GF:=hS w hC
   have je:=vh (P:=P) (d:=none) (ty:=ty) (pos:=pos) (ab:=ab) (gg:=none) q1 (by rw [nu,q2]) bd e1 (x:=.tmp t1) c1 (y:=y) (by rw [aU hr hy]; exact hc.eq GF) (ho.one GF)
   unfold ez
   rw [je,hb]
   have o7:=setRow_heap w b cs.toArray (cs.take 0++us++cs.drop (0+us.length)).toArray e _ bd
   have Z1:b < w.heap.size:=bd.lt
   refine ⟨⟨rfl,rfl,rfl,Nat.le_refl _,by simp,fun j _ hj=>setRow_other w b j _ fun h=>hj (by simp [h])⟩,[b],fun b' ch=>?_,b,c1,?_,by simp⟩
   ·rw [List.mem_singleton.1 ch]
    exact ⟨.inl (by simp),by simpa using Z1⟩
   ·refine .inl (HL.own (f:=[b]) ⟨rfl,?_⟩ .nil)
    rw [e2]
    exact o7
theorem Sr {mt:Nat} {t i d:Nat} {cs:LV} {sl:List (Nat×Nat×Value)} {ms:MM} {A:LN} {ty:TI} {as:List (List Nat)} {ops:LO} {r0:Nat→Value} {w0:World} {H:LN} (hz:yL P t cs) (h1:nw l mt U A (.alloc t) d ty as ops i) (h:iv P Z l mt U r0 w0 H i sl ms) :
   iv P Z l mt U r0 w0 H (i+1) sl (⟨i,d,[],Nat,fun _ b=>.pointer (some ⟨b,0,none⟩),fun _ b=>[.row b cs t]⟩ :: ms):=by
 obtain ⟨i',z,t1,t2,t3⟩:=hz.h
 refine h.mem h1 rfl rfl (fun _ _ _ h=>nomatch h) fun S' S2 hl hR g r w hC jd hn iT pos ab=>nn (ez.T6 (cs:=cs) t1 t2 (by rw [← t3])) ?_
 rintro v w' ⟨hC,f,hf,b,e1,e2,bd⟩
 refine ⟨hC,f,hf,b,e2,?_,by rw [e1]; simp⟩
 have:=HL.own (Z:=fun _=>False) (e:=.row b cs t) (f:=[b]) ⟨rfl,bd⟩ .nil
 rw [e1]
 exact .inl (by simpa using this)
theorem Uf {mt t n:Nat} {A:LN} {st:TI} {d:Nat} {ty:TI} {as:List (List Nat)} {ops:LO} {i:Nat} {sl:List (Nat×Nat×Value)} {ms:MM} {r0:Nat→Value} {w0:World} {H:LN} (h:iv P Z l mt U r0 w0 H i sl ms) (h1:nw l mt U A (.call ⟨.builtin .len,#[.tmp t],#[st]⟩) d ty as ops i) (ht:uL P st) (hi:lg ms) (fq:me A ms=true) (hx:∀ x:mq ms,T5 (kj A ms x) (r9 A ms x) t n):iv P Z l mt U r0 w0 H (i+1) ((i,d,.int .i64 (n:Int)) :: sl) ms:=by
 obtain ⟨S',hl,hR,hO⟩:=h
 subst hl
 obtain ⟨hA,⟨pos,ab,ho⟩,_⟩:=h1
 obtain ⟨e,i',q1,_,_⟩:=ht.h
 refine ⟨S'++[sV (.int .i64 (n:Int))],by simp,hR.val (by unfold bu; rw [ho]; rfl),fun j hj=>?_⟩
 by_cases h2:j < S'.length
 ·exact jj.more (hO j h2) h2
 ·obtain rfl:j=S'.length:=by omega
  refine jj.val (v:=.int .i64 (n:Int)) ho (by simp) rfl fun g r w hC jd hn iT=>?_
  obtain ⟨x,hv,hE⟩:=xO hR hA hi fq hn
  obtain ⟨yS,TZ⟩:=hx x
  have A6:=(p8 hv wI) t _ (by rw [List.append_nil]; exact yS)
  obtain ⟨_,_,_,_,hS⟩:=hE.front (Γ:=[]) (F:=[]) rfl
  rw [List.append_nil] at hS
  obtain ⟨b,c,rfl⟩:=TZ.sound hS
  exact vE q1 (x:=.tmp t) A6
theorem iv.dep {mt t:Nat} {A:LN} {op:Op} {d:Nat} {ty:TI} {as:List (List Nat)} {ops:LO} {i:Nat} {sl:List (Nat×Nat×Value)} {ms:MM} {r0:Nat→Value} {w0:World} {H:LN} {X:Value→Value} (h:iv P Z l mt U r0 w0 H i sl ms) (h1:nw l mt U A op d ty as ops i) (hi:lg ms) (fq:me A ms=true) (hj:∃ j,px t ms=some j∧dv j A=true)
  (hq:∀ (r:Nat→Value) (x:mq ms),(∀ p∈kj A ms x,r p.1=p.2)→∀ w pos ab,(execOp (ev r) ⟨some d,op,ty,pos,ab,none⟩).run P w = .ok (.value (X (r t))) w):iv P Z l mt U r0 w0 H (i+1) sl (⟨i,d,[t],Unit,fun u _=>X u,fun _ _=>[]⟩ :: ms):=by
 refine h.mem h1 rfl rfl (fun S' hR t' ht=>by rw [List.mem_singleton.1 ht]; exact Ew h1.A hR hj) ?_
 intro S' S2 hl hR g r w hC jd hn iT pos ab
 obtain ⟨x,hx,_⟩:=xO hR (by rw [hl]; exact h1.A) hi fq hn
 unfold ez
 rw [hq r x hx]
 exact ⟨an.refl _ _,[],fun b hb=>absurd hb List.not_mem_nil,(),rfl,.inl .nil,List.nodup_nil⟩
theorem Ss {mt:Nat} {t:TI} {ps:List (Nat×Operand)} {zc:LV} {pl:List (Nat×Nat)} {A:LN} {as:List (List Nat)} {d:Nat} {ty:TI} {ops:LO} {i:Nat} {sl:List (Nat×Nat×Value)} {ms:MM} {fr:Fr} {hd Γ:QE} {B:Bs} {r0:Nat→Value} {w0:World} {H:LN} {X:Value→List Value} {ts:LN} (hh:lr l mt base=true) (hb:AS P t zc pl) (hi:lg ms) (fq:me A ms=true) (hj:Yt A ms ts=true) (hv:eQ A none sl base fr)
   (hx:∀ x:mq ms,wq (r9 A ms x++Γ) (kj A ms x++fr) pl ps zc (X (zF (xN (mF ms x)) ts))) (h1:nw l mt U A (.build t ps.toArray) d ty as ops i) (ha:cj r0 base) (hs:qv B Z hd Γ H w0) (h:iv P Z l mt U r0 w0 H i sl ms) :
   iv P Z l mt U r0 w0 H (i+1) sl (⟨i,d,ts,Unit,fun u _=>.agg (X u).toArray,fun _ _=>[]⟩ :: ms):=by
 have YA:∀ t∈ts,∃ j,px t ms=some j∧dv j A=true:=fun t ht=>by
  have:=List.all_eq_true.1 hj t ht
  cases hf:px t ms with
  | none=>rw [hf] at this; cases this
  | some j=>rw [hf] at this; exact ⟨j,rfl,this⟩
 refine h.mem h1 rfl rfl (fun S' hR t' ht=>Ew h1.A hR (YA t' ht)) ?_
 intro S' S2 hl hR g r w hC jd hn iT pos ab
 have hA:=h1.A
 rw [← hl] at hA
 have hbs:=l4 hR hA hv (jc hh ha iT) jd
 obtain ⟨x,YB,uO⟩:=xO hR hA hi fq hn
 obtain ⟨F,Hd,⟨tM,wg,sX,wh⟩,hS,hG⟩:=hs
 obtain ⟨G,_,_,_,fw⟩:=uO.front (qv.stay hS hG hC)
 have e:zF (xN (mF ms x)) ts=zF r ts:=BZ fun t ht=>by
  obtain ⟨j,h2,h3⟩:=YA t ht
  unfold xN
  rw [GG h2 h3 YB]
 have hF:=hx x
 rw [e] at hF
 have je:=(VQ.Ra (P:=P) (hb:=hb) hF).sound fw (p8 YB hbs) (some d) ty pos ab none w (an.refl _ _)
 unfold ez
 rw [je]
 exact ⟨an.refl _ _,[],fun b hb=>absurd hb List.not_mem_nil,(),rfl,.inl .nil,List.nodup_nil⟩
theorem Su {mt:Nat} {α:Type} {t e:TI} {E:ah α} {z0:α} {bt i d:Nat} {sl:List (Nat×Nat×Value)} {ms:MM} {A:LN} {ty:TI} {as:List (List Nat)} {ops:LO} {r0:Nat→Value} {w0:World} {H:LN} (hz:qc P t α e E z0 bt) (h1:nw l mt U A (.buildSlice t 0 #[]) d ty as ops i) (h:iv P Z l mt U r0 w0 H i sl ms) :
   iv P Z l mt U r0 w0 H (i+1) sl (⟨i,d,[],Value,fun _ v=>v,fun _ v=>[.own (aK e E) v []]⟩ :: ms):=by
 obtain ⟨t1,_,i',z,t2,_⟩:=hz.h
 refine h.mem h1 rfl rfl (fun _ _ _ h=>nomatch h) fun S' S2 hl hR g r w hC jd hn iT pos ab=>nn (ez.made (zM (E:=E) t1 t2)) ?_
 rintro v w' ⟨hC,f,hf,hV⟩
 refine ⟨hC,f,hf,v,rfl,?_,hV.2⟩
 have:=HL.own (Z:=fun _=>False) (e:=.own (aK e E) v []) (f:=f) hV.1 .nil
 exact .inl (by simpa using this)
theorem Ug {mt n:Nat} {α:Type} {t e:TI} {E:ah α} {z0:α} {bt i d:Nat} {sl:List (Nat×Nat×Value)} {ms:MM} {A:LN} {ty:TI} {as:List (List Nat)} {ops:LO} {r0:Nat→Value} {w0:World} {H:LN} {x:OO} {z:Int} (hh:lr l mt base=true) (ha:cj r0 base) (hz:qc P t α e E z0 bt) (hv:eQ A none sl base fr) (hx:bj fr x=some (.int .i64 z)) (hn:mk bt z=some n) (h1:nw l mt U A (.makeSlice t x x) d ty as ops i) (h:iv P Z l mt U r0 w0 H i sl ms) :
   iv P Z l mt U r0 w0 H (i+1) sl (⟨i,d,[],Value,fun _ v=>v,fun _ v=>[.own (aK e E) v (List.replicate n z0)]⟩ :: ms):=by
 obtain ⟨e1,e2,e3⟩:=Es hn
 obtain ⟨t1,hE,i',z',t2,t3,t4,t5,t6,t7⟩:=hz.h
 subst e1
 refine h.mem h1 rfl rfl (fun _ _ _ h=>nomatch h) fun S' S2 hl hR g r w hC jd hn iT pos ab=>?_
 have hb:=l4 hR (by rw [hl]; exact h1.A) hv (jc hh ha iT) jd
 refine nn (ez.made (GL (E:=E) (z0:=z0) t1 t2 t3 t4 hE t5 t7 (aU hb hx) (aU hb hx) (by rw [t6]; exact e2) e3)) ?_
 rintro v w' ⟨hC,f,hf,hV⟩
 refine ⟨hC,f,hf,v,rfl,?_,hV.2⟩
 have:=HL.own (Z:=fun _=>False) (e:=.own (aK e E) v (List.replicate n z0)) (f:=f) hV.1 .nil
 exact .inl (by simpa using this)
theorem Uh {mt:Nat} {α:Type} {t e:TI} {E:ah α} {z0:α} {bt i d:Nat} {sl:List (Nat×Nat×Value)} {ms:MM} {A:LN} {ty:TI} {as:List (List Nat)} {ops:LO} {r0:Nat→Value} {w0:World} {H:LN} {x:OO} {u:Value} {Γ:QE} {F:LN} (hh:lr l mt base=true) (ha:cj r0 base) (hz:qc P t α e E z0 bt) (hv:eQ A none sl base fr) (hx:bj fr x=some u) (ho:One Γ u) (hS:∀ w,an H w0 w→SA Z w Γ [] F) (h1:nw l mt U A (.buildSlice t 1 #[(0,x)]) d ty as ops i) (h:iv P Z l mt U r0 w0 H i sl ms) :
   iv P Z l mt U r0 w0 H (i+1) sl (⟨i,d,[],Nat,fun _ b=>.slice (some ⟨b,0,none⟩) 1 1,fun _ b=>[.row b [u] e]⟩ :: ms):=by
 obtain ⟨t1,hE,i',z',t2,t3,t4,t5,t6,t7⟩:=hz.h
 refine h.mem h1 rfl rfl (fun _ _ _ h=>nomatch h) fun S' S2 hl hR g r w hC jd hn iT pos ab=>?_
 have hb:=l4 hR (by rw [hl]; exact h1.A) hv (jc hh ha iT) jd
 refine nn (ez.Er t1 t2 t3 t4 (aU hb hx) (ho.one (hS w hC))) ?_
 rintro v w' ⟨hC,f,hf,b,e1,e2,bd⟩
 refine ⟨hC,f,hf,b,e2,?_,by rw [e1]; simp⟩
 have:=HL.own (Z:=fun _=>False) (e:=.row b [u] e) (f:=[b]) ⟨rfl,bd⟩ .nil
 rw [e1]
 exact .inl (by simpa using this)
theorem Jk {mt n:Nat} {t e:TI} {i d:Nat} {sl:List (Nat×Nat×Value)} {ms:MM} {A:LN} {ty:TI} {as:List (List Nat)} {ops:LO} {r0:Nat→Value} {w0:World} {H:LN} {ps:List (Nat×Operand)} {us:LV} {Γ:QE} {F:LN} (hh:lr l mt base=true) (ha:cj r0 base) (hz:Gq P t e) (hv:eQ A none sl base fr) (hd:uV Γ fr 0 ps us) (hn:us.length=n) (hb:(Nat.ble 1 n && Nat.ble n 16777216)=true) (hS:∀ w,an H w0 w→SA Z w Γ [] F) (h1:nw l mt U A (.buildSlice t n ps.toArray) d ty as ops i) (h:iv P Z l mt U r0 w0 H i sl ms) :
   iv P Z l mt U r0 w0 H (i+1) sl (⟨i,d,[],Nat,fun _ b=>.slice (some ⟨b,0,none⟩) n n,fun _ b=>[.row b us e]⟩ :: ms):=by
 refine h.mem h1 rfl rfl (fun _ _ _ h=>nomatch h) fun S' S2 hl hR g r w hC jd hnn iT pos ab=>?_
 have ch:=l4 hR (by rw [hl]; exact h1.A) hv (jc hh ha iT) jd
 unfold ez
 rw [hd.op ch (hS w hC) hz hn hb]
 refine ⟨an.alloc _ _ _,[w.heap.size],fun b hb=>by rw [List.mem_singleton.1 hb]; simp,w.heap.size,rfl,?_,by simp⟩
 have:=HL.own (Z:=fun _=>False) (e:=.row w.heap.size us e) (f:=[w.heap.size]) ⟨rfl,heap_alloc_new w _⟩ .nil
 exact .inl (by simpa using this)
theorem Sw {mt t:Nat} {α:Type} {s e:TI} {E:ah α} {z0:α} {bt i d:Nat} {sl:List (Nat×Nat×Value)} {ms:MM} {A:LN} {ty:TI} {as:List (List Nat)} {ops:LO} {r0:Nat→Value} {w0:World} {H:LN} (hz:qc P s α e E z0 bt) (hi:lg ms) (fq:me A ms=true) (hj:∃ j,px t ms=some j∧dv j A=true) (hx:∀ x:mq ms,O2 (kj A ms x) (r9 A ms x) t) (h1:nw l mt U A (.buildSlice s 1 #[(0,.tmp t)]) d ty as ops i) (h:iv P Z l mt U r0 w0 H i sl ms) :
   iv P Z l mt U r0 w0 H (i+1) sl (⟨i,d,[t],Nat,fun _ b=>.slice (some ⟨b,0,none⟩) 1 1,fun u b=>[.row b [u] e]⟩ :: ms):=by
 obtain ⟨t1,hE,i',z',t2,t3,t4,t5,t6,t7⟩:=hz.h
 refine h.mem h1 rfl rfl (fun S' hR t' ht=>by rw [List.mem_singleton.1 ht]; exact Ew h1.A hR hj) ?_
 intro S' S2 hl hR g r w hC jd hn iT pos ab
 obtain ⟨x,hv,hE⟩:=xO hR (by rw [hl]; exact h1.A) hi fq hn
 obtain ⟨yS,th⟩:=hx x
 have A6:r t=_:=(p8 hv wI) t _ (by rw [List.append_nil]; exact yS)
 obtain ⟨_,_,_,_,hS⟩:=hE.front (Γ:=[]) (F:=[]) rfl
 rw [List.append_nil] at hS
 refine nn (ez.Er t1 t2 t3 t4 (x:=.tmp t) rfl (by show (r t).oneCell'=true; rw [A6]; exact th.one hS)) ?_
 rintro v w' ⟨hC,f,hf,b,e1,e2,bd⟩
 refine ⟨hC,f,hf,b,e2,?_,by rw [e1]; simp⟩
 have:=HL.own (Z:=fun _=>False) (e:=.row b [r t] e) (f:=[b]) ⟨rfl,bd⟩ .nil
 rw [e1]
 exact .inl (by simpa [uZ,zF] using this)
theorem Pa {mt:Nat} {β V:Type} {A:LN} {as:List (List Nat)} {d:Nat} {f:FuncId} {xs:List Operand} {au:Array TypeId} {ty:TI} {mo:Option β} {rt:β→V→List Value} {ps:β→V→List ay} {ops:LO} {i:Nat} {sl:List (Nat×Nat×Value)} {ms:MM} {fr:Fr} {hd Γ:QE} {B:Bs} {r0:Nat→Value} {w0:World} {H:LN} {y:β} (hh:lr l mt base=true) (hf:br P f) (hv:eQ A none sl base fr)
   (hc:∀ x:mq ms,Ke P f xs (kj A ms x++fr) (r9 A ms x++Γ) mo rt ps) (hi:lg ms) (fq:me A ms=true) (hw:∀ y v,sk (ps y v)=true) (h1:nw l mt U A (.call ⟨.value (.func f),xs.toArray,au⟩) d ty as ops i) (hy:mo=some y) (ha:cj r0 base) (hs:qv B Z hd Γ H w0) (h:iv P Z l mt U r0 w0 H i sl ms) :
   CO P Z l mt U r0 w0 H i sl ms ⟨i,d,[],V,fun _ v=>nk (rt y v),fun _=>ps y⟩:=by
 obtain ⟨S',hl,hR,hO⟩:=h
 subst hl
 refine ⟨S',rfl,hR,hO,fun V' hV=>?_⟩
 obtain ⟨hA,⟨pos,ab,ho⟩,_⟩:=h1
 refine jj.O7 (V:=V') ho (by simp) rfl fun g r w hC jd hn iT=>?_
 have hb:=l4 hR hA hv (jc hh ha iT) jd
 obtain ⟨x,hx,uO⟩:=xO hR hA hi fq hn
 obtain ⟨A7,sA,hd,hr⟩:=hc x
 obtain ⟨fn,c,f1,f2,f3⟩:=hf.h
 refine Calls.BX f1 f2 f3 ?_
 rw [p6 (p8 hx hb) A7]
 obtain ⟨F,Hd,⟨tM,wg,sX,wh⟩,hS,hG⟩:=hs
 obtain ⟨G,jo,FV,Ds,fw⟩:=uO.front (qv.stay hS hG hC)
 rw [qa] at sA
 refine (sA.2 w (fun b=>Z b∨b∈G) [] (hr.sound (fun _ h=>h) (fun _ b hb=>.inr (Ds b hb)) fw hd.ho) List.nodup_nil (fun b hb=>absurd hb List.not_mem_nil)
  (fun b hb=>hb.elim (fun h=>Nat.lt_of_lt_of_le (hG.ml b h) hC.size) fun h=>(jo b h).2) y hy).mono ?_
 rintro e w' ⟨v,he,Z2,F2,qd,gp⟩
 have Fb:HL (fun _=>False) w' (ps y v) F2:=yN (hw y v) qd
 have bg:=(Fb.front (Γ:=[]) (F:=[]) rfl).lt
 obtain ⟨f',cb,A8⟩:=hV F2 w' r _ ⟨v,rfl,.inl Fb,gp.nd⟩
 refine ⟨_,he,gp.iH,f',fun b hb=>⟨(gp.low b (cb b hb)).resolve_left List.not_mem_nil,bg b (by simpa using cb b hb)⟩,A8⟩
theorem GM {A:LN} {g:Nat→List Nat} {b:Nat}:∀ {ms:MM},b∈A3 A g ms→∃ a∈ms,dv a.j A=true∧b∈g a.j:=by
 intro ms
 induction ms with
 | nil=>intro h; exact absurd h List.not_mem_nil
 | cons a l ih=>
  intro h
  unfold A3 at h
  cases hb:dv a.j A with
  | true=>
   rw [hb] at h
   rcases List.mem_append.1 h with h | h
   ·exact ⟨a,by simp,hb,h⟩
   ·obtain ⟨c,h1,h2⟩:=ih h; exact ⟨c,List.mem_cons_of_mem _ h1,h2⟩
  | false=>rw [hb] at h; obtain ⟨c,h1,h2⟩:=ih h; exact ⟨c,List.mem_cons_of_mem _ h1,h2⟩
theorem zN {mt i:Nat} (h:((U.set i []).all fun us=>!(us.contains l.length))=true):zO l U mt i=true:=by
 unfold zO
 simp only [List.all_eq_true,List.mem_range,Bool.or_eq_true,Bool.not_eq_true'] at h ⊢
 intro k _
 by_cases hk:k=i
 ·exact .inl (.inr (by rw [hk]; exact Nat.beq_refl i))
 ·refine .inl (.inl ?_)
  rw [List.getD_eq_getElem?_getD]
  cases hu:U[k]? with
  | none=>rfl
  | some us=>exact h us (List.mem_of_getElem? (i:=k) (by rw [List.getElem?_set_ne (fun e=>hk e.symm)]; exact hu))
theorem HO.mono {Z':Nat→Prop} (hz:∀ b,Z b→Z' b) {Δ:QE} {F:LN} (h:HO Z w Δ F):HO Z' w Δ F:=by
 induction h with
 | nil=>exact .nil
 | own h _ ih=>exact .own (h.mono hz) ih
 | rd _ ih=>exact .rd ih
 | au _ ih=>exact .au ih
theorem Mr {mt:Nat} {β V:Type} {A:LN} {as:List (List Nat)} {d:Nat} {f:FuncId} {xs:List Operand} {au:Array TypeId} {ty:TI} {mo:Option β} {rt:β→V→List Value} {ps:β→V→List ay} {ops:LO} {i:Nat} {sl:List (Nat×Nat×Value)} {ms:MM} {fr:Fr} {hd Γ:QE} {B:Bs} {r0:Nat→Value} {w0:World} {H:LN} {y:β} (hh:lr l mt base=true) (hf:br P f) (hv:eQ A none sl base fr)
   (hU:U.getD i []=[l.length]) (A9:((U.set i []).all fun us=>!(us.contains l.length))=true)
   (hc:∀ x:mq ms,Dq P f xs (kj A ms x++fr) hd (r9 A ms x++Γ) mo rt ps) (hi:lg ms) (fq:me A ms=true) (hw:∀ y v,sk (ps y v)=true) (h1:nw l mt U A (.call ⟨.value (.func f),xs.toArray,au⟩) d ty as ops i) (hy:mo=some y) (ha:cj r0 base) (hs:qv B Z hd Γ H w0) (h:iv P Z l mt U r0 w0 H i sl ms) :
   CO P Z l mt U r0 w0 H i sl ms ⟨i,d,[],V,fun _ v=>nk (rt y v),fun _=>ps y⟩:=by
 obtain ⟨S',hl,hR,hO⟩:=h
 subst hl
 refine ⟨S',rfl,hR,hO,fun V' hV=>?_⟩
 obtain ⟨hA,⟨pos,ab,ho⟩,_⟩:=h1
 intro o' s' bw cu g r w hC wc jd hn iT sx my
 rw [ho] at bw
 cases bw
 rw [List.getElem?_append_right (Nat.le_refl _),Nat.sub_self] at cu
 cases cu
 rw [if_pos rfl]
 refine ⟨rfl,?_⟩
 obtain ⟨GN,GO,GP⟩:=wc (zN A9)
 have hb:=l4 hR hA hv (jc hh ha iT) jd
 obtain ⟨x,hx,uO⟩:=xO hR hA hi fq hn
 obtain ⟨A7,sA,GQ,hr⟩:=hc x
 obtain ⟨fn,c,f1,f2,f3⟩:=hf.h
 refine Calls.BX f1 f2 f3 ?_
 rw [p6 (p8 hx hb) A7]
 obtain ⟨F,Hd,⟨tM,wg,sX,wh⟩,hS,hG⟩:=hs
 obtain ⟨G,jo,FV,Ds,fw⟩:=uO.front (qv.stay hS hG hC)
 obtain ⟨Fd,F',GR,_,yT⟩:=GQ.sound (tM.gf GN)
 have cb:∀ b∈Fd,b∈H:=fun b hb=>(wg b (yT.mem_iff.1 (List.mem_append_left _ hb))).1
 have cg:=List.nodup_append.1 hG.nd
 have hblk:j9 g (U.getD S'.length [])=H:=by rw [hU]; simp [j9,GO]
 rw [hblk]
 rw [qa] at sA
 refine (sA.2 w (fun b=>Z b∨b∈G) Fd (hr.sound (fun _ h=>h) (fun _ b hb=>.inr (Ds b hb)) fw (GR.mono fun _ h=>.inl h)) ((yT.nodup_iff.2 wh).sublist (List.sublist_append_left _ _)) (fun b hb=>?_)
  (fun b hb=>hb.elim (fun h=>Nat.lt_of_lt_of_le (hG.ml b h) hC.size) fun h=>(jo b h).2) y hy).mono ?_
 ·rintro (hz | hz)
  ·exact hG.apart b (List.mem_append_left _ (cb b hb)) hz
  ·rcases List.mem_append.1 (jo b hz).1 with hz | hz
   ·obtain ⟨a,YC,uk,qe⟩:=GM hz
    have h2:=GP a.j (j5 (by rw [← hA]; exact iz.1 uk)).1 b qe
    have h3:=sX b (cb b hb)
    omega
   ·exact cg.2.2 b (cb b hb) b hz rfl
 ·rintro e w' ⟨v,he,Z2,F2,qd,gp⟩
  have Fb:HL (fun _=>False) w' (ps y v) F2:=yN (hw y v) qd
  have bg:=(Fb.front (Γ:=[]) (F:=[]) rfl).lt
  obtain ⟨f',Du,A8⟩:=hV F2 w' r _ ⟨v,rfl,.inl Fb,gp.nd⟩
  exact ⟨_,he,gp.iH.mono cb,f',fun b hb=>⟨(gp.low b (Du b hb)).imp (cb b) id,bg b (by simpa using Du b hb)⟩,A8⟩
theorem zH.sub {ms Az:MM} {a:ei} {t:Nat} (h:zH ms t a Az):a∈ms∧a.j=t∧(∀ b∈Az,b∈ms)∧(Az.map (·.j)).Sublist (ms.map (·.j))∧((ms.map (·.j)).Nodup→∀ b∈Az,b.j≠t):=by
 induction h with
 | here=>exact ⟨by simp,rfl,fun b hb=>List.mem_cons_of_mem _ hb,by simp,fun hn b hb he=>by rw [List.map_cons,List.nodup_cons] at hn; exact hn.1 (by rw [← he]; exact List.mem_map_of_mem hb)⟩
 | there _ ih=>
  obtain ⟨h1,h2,h3,h4,h5⟩:=ih
  refine ⟨List.mem_cons_of_mem _ h1,h2,fun b hb=>?_,by simpa using h4,fun hn b hb=>?_⟩
  ·rcases List.mem_cons.1 hb with rfl | hb
   ·simp
   ·exact List.mem_cons_of_mem _ (h3 b hb)
  ·rw [List.map_cons,List.nodup_cons] at hn
   rcases List.mem_cons.1 hb with rfl | hb
   ·intro he
    exact hn.1 (by rw [he,← h2]; exact List.mem_map_of_mem h1)
   ·exact h5 hn.2 b hb
theorem Ms {mt:Nat} {β V:Type} {j1:Nat} {a1:ei} {A:LN} {as:List (List Nat)} {d:Nat} {f:FuncId} {xs:List Operand} {au:Array TypeId} {ty:TI} {mo:Option β} {rt:β→V→List Value} {ps:β→V→List ay} {ops:LO} {i:Nat} {sl:List (Nat×Nat×Value)} {ms fg:MM} {fr:Fr} {hd Γ:QE} {B:Bs} {r0:Nat→Value} {w0:World} {H:LN} {y:β} (hh:lr l mt base=true) (hf:br P f) (hv:eQ A none sl base fr)
   (hU:U.getD i []=[j1]) (wb:zH ms j1 a1 fg) (Dr:a1.src=[]) (h4:dv j1 A=true)
   (hc:∀ (q:a1.V) (x:mq fg),Dq P f xs (kj A fg x++fr) (a1.ps undef q) (r9 A fg x++Γ) mo rt ps) (hi:lg fg) (fq:me A fg=true) (hw:∀ y v,sk (ps y v)=true) (h1:nw l mt U A (.call ⟨.value (.func f),xs.toArray,au⟩) d ty as ops i) (hy:mo=some y) (ha:cj r0 base) (hs:qv B Z hd Γ H w0) (h:iv P Z l mt U r0 w0 H i sl ms) :
   CO P Z l mt U r0 w0 H i sl fg ⟨i,d,[],V,fun _ v=>nk (rt y v),fun _=>ps y⟩:=by
 obtain ⟨S',hl,Jl,hO⟩:=h
 subst hl
 obtain ⟨m1,m2,m3,m4,m5⟩:=wb.sub
 have hR:=Jl.sub m3 m4
 refine ⟨S',rfl,hR,hO,fun V' hV=>?_⟩
 obtain ⟨hA,⟨pos,ab,ho⟩,_⟩:=h1
 intro o' s' bw cu g r w hC wc jd hn iT sx my
 rw [ho] at bw
 cases bw
 rw [List.getElem?_append_right (Nat.le_refl _),Nat.sub_self] at cu
 cases cu
 rw [if_pos rfl]
 refine ⟨rfl,?_⟩
 have zL:=j5 (by rw [← hA]; exact iz.1 h4)
 have hb:=l4 hR hA hv (jc hh ha iT) jd
 obtain ⟨x,hx,uO⟩:=xO hR hA hi fq hn
 obtain ⟨q,_,yU,Mt⟩:=Jl.wV m1 (hn a1.j (by rw [m2]; exact zL.2))
 have tL:uZ a1 r=undef:=by unfold uZ; rw [Dr]; rfl
 rw [tL,m2] at yU
 rw [m2] at Mt
 obtain ⟨A7,sA,GQ,hr⟩:=hc q x
 obtain ⟨fn,c,f1,f2,f3⟩:=hf.h
 refine Calls.BX f1 f2 f3 ?_
 rw [p6 (p8 hx hb) A7]
 obtain ⟨F,Hd,⟨tM,wg,sX,wh⟩,hS,hG⟩:=hs
 have GU:=qv.stay hS hG hC
 obtain ⟨G,jo,FV,Ds,fw⟩:=uO.front GU
 obtain ⟨Fo,Fr,Jm,Bb,Ui⟩:=yU.all
 have Uj:SA (fun b=>Z b∨b∈Fr) w (a1.ps undef q) [] Fo:=by
  have:=Ui.front (Γ:=[]) (F:=[]) rfl
  simpa using this
 have Mu:=List.nodup_append.1 (Jm ▸ Mt)
 obtain ⟨Fd,F',GR,_,yT⟩:=GQ.sound Uj
 have Dv:∀ b∈Fd,b∈Fo:=fun b hb=>yT.mem_iff.1 (List.mem_append_left _ hb)
 have cb:∀ b∈Fd,b∈g j1:=fun b hb=>by rw [Jm]; exact List.mem_append_left _ (Dv b hb)
 have cg:=List.nodup_append.1 hG.nd
 have hblk:j9 g (U.getD S'.length [])=g j1:=by rw [hU]; simp [j9]
 rw [hblk]
 rw [qa] at sA
 have Fc:∀ b∈g j1,w0.heap.size≤b∨b∈H:=fun b hb=>(my j1 zL.1 b hb).1
 refine (sA.2 w (fun b=>Z b∨b∈Fr++G) Fd (hr.sound (fun _ h=>h) (fun _ b hb=>.inr (List.mem_append_right _ (Ds b hb))) (fw.mono (fun _ h=>h.imp id fun h=>List.mem_append_right _ h) fun _ h=>h) (GR.mono fun _ h=>h.imp id fun h=>List.mem_append_left _ h)) ((yT.nodup_iff.2 Mu.1).sublist (List.sublist_append_left _ _)) (fun b hb=>?_)
  (fun b hb=>hb.elim (fun h=>Nat.lt_of_lt_of_le (hG.ml b h) hC.size) fun h=>(List.mem_append.1 h).elim (Bb b) fun h=>(jo b h).2) y hy).mono ?_
 ·rintro (hz | hz)
  ·rcases Fc b (cb b hb) with h | h
   ·have:=hG.ml b hz; omega
   ·exact hG.apart b (List.mem_append_left _ h) hz
  ·rcases List.mem_append.1 hz with hz | hz
   ·exact Mu.2.2 b (Dv b hb) b hz rfl
   rcases List.mem_append.1 (jo b hz).1 with hz | hz
   ·obtain ⟨a,YC,uk,qe⟩:=GM hz
    exact sx a.j (j5 (by rw [← hA]; exact iz.1 uk)).1 j1 zL.1 (m5 Jl.d a YC) b qe (cb b hb)
   ·rcases Fc b (cb b hb) with h | h
    ·have:=hS.lt b hz; omega
    ·exact cg.2.2 b h b hz rfl
 ·rintro e w' ⟨v,he,Z2,F2,qd,gp⟩
  have Fb:HL (fun _=>False) w' (ps y v) F2:=yN (hw y v) qd
  have bg:=(Fb.front (Γ:=[]) (F:=[]) rfl).lt
  obtain ⟨f',Du,A8⟩:=hV F2 w' r _ ⟨v,rfl,.inl Fb,gp.nd⟩
  exact ⟨_,he,gp.iH.mono cb,f',fun b hb=>⟨(gp.low b (Du b hb)).imp (cb b) id,bg b (by simpa using Du b hb)⟩,A8⟩
theorem SA.app {Γ Γ':QE} {F F':LN}:∀ {cur:LN},SA Z w Γ' cur F'→SA Z w Γ [] F→SA Z w (Γ'++Γ) cur (F'++F):=by
 induction Γ' generalizing F' with
 | nil=>intro cur h hs; cases h; exact hs.any
 | cons e Γ' ih=>
  intro cur h hs
  cases e with
  | own T v x=>obtain ⟨f,F1,rfl,h1,h2⟩:=h; exact ⟨f,F1++F,by rw [List.append_assoc],h1,ih h2 hs⟩
  | om e E v xs=>obtain ⟨f,F1,rfl,h1,h2⟩:=h; exact ⟨f,F1++F,by rw [List.append_assoc],h1,ih h2 hs⟩
  | row b cs e=>obtain ⟨f,F1,rfl,h1,h2⟩:=h; exact ⟨f,F1++F,by rw [List.append_assoc],h1,ih h2 hs⟩
  | fk e E v xs j u=>obtain ⟨f,F1,rfl,h1,h2⟩:=h; exact ⟨f,F1++F,by rw [List.append_assoc],h1,ih h2 hs⟩
  | rd o T v x=>exact ⟨h.1,ih h.2 hs⟩
  | ad o1 o2 v j T x=>exact ⟨h.1,ih h.2 hs⟩
  | au p cs=>exact ⟨h.1,ih h.2 hs⟩
  | hd v j u=>exact ⟨h.1,ih h.2 hs⟩
open Classical in
theorem Uk {w':World} {Zc Z2:Nat→Prop} {Fd F2 K:LN} {Δ:QE} (hl:HL Z2 w' Δ F2) (hg:Gd ⟨w,Zc,Fd⟩ Z2 F2 w') (hz:∀ b,Zc b→Z b∨b∈K) (hK:∀ b∈Fd,b∈K) :
  ∃ f,(∀ b∈f,(b∈K∨w.heap.size≤b)∧b < w'.heap.size)∧HN Z w' Δ f∧f.Nodup:=by
 have bg:=(hl.front (Γ:=[]) (F:=[]) rfl).lt
 by_cases ho:sk Δ=true
 ·exact ⟨F2,fun b hb=>⟨(hg.low b hb).imp (hK b) id,bg b (by simpa using hb)⟩,.inl (yN ho hl),hg.nd⟩
 ·let Fr:=(List.range w'.heap.size).filter fun b=>decide (Z2 b∧(b∈K∨w.heap.size≤b))
  have Bb:∀ b,b∈Fr↔b < w'.heap.size∧Z2 b∧(b∈K∨w.heap.size≤b):=fun b=>by simp [Fr]
  refine ⟨F2++Fr,fun b hb=>?_,.inr ⟨F2,Fr,rfl,⟨by simpa using ho,fun b hb=>((Bb b).1 hb).1⟩,hl.mono fun b hb=>?_⟩,?_⟩
  ·rcases List.mem_append.1 hb with hb | hb
   ·exact ⟨(hg.low b hb).imp (hK b) id,bg b (by simpa using hb)⟩
   ·exact ⟨((Bb b).1 hb).2.2,((Bb b).1 hb).1⟩
  ·rcases hg.sW b hb with h | h | h
   ·rcases hz b h with h | h
    ·exact .inl h
    ·exact .inr ((Bb b).2 ⟨hg.ml b hb,hb,.inl h⟩)
   ·exact .inr ((Bb b).2 ⟨hg.ml b hb,hb,.inl (hK b h)⟩)
   ·exact .inr ((Bb b).2 ⟨hg.ml b hb,hb,.inr h⟩)
  ·refine tN hg.nd (List.nodup_range.filter _) fun b hb hf=>hg.apart b hb ((Bb b).1 hf).2.1
theorem Mw {mt:Nat} {β V:Type} {A:LN} {as:List (List Nat)} {d:Nat} {f:FuncId} {xs:List Operand} {au:Array TypeId} {ty:TI} {mo:Option β} {rt:β→V→List Value} {ps:β→V→List ay} {ops:LO} {i:Nat} {sl:List (Nat×Nat×Value)} {ms:MM} {fr:Fr} {hd Γ:QE} {B:Bs} {r0:Nat→Value} {w0:World} {H:LN} {y:β} (hh:lr l mt base=true) (hf:br P f) (hv:eQ A none sl base fr)
   (hc:∀ x:mq ms,Kf P f xs (kj A ms x++fr) Γ mo rt ps) (hi:lg ms) (fq:me A ms=true) (h1:nw l mt U A (.call ⟨.value (.func f),xs.toArray,au⟩) d ty as ops i) (hy:mo=some y) (ha:cj r0 base) (hs:qv B Z hd Γ H w0) (h:iv P Z l mt U r0 w0 H i sl ms) :
   CO P Z l mt U r0 w0 H i sl ms ⟨i,d,[],V,fun _ v=>nk (rt y v),fun _=>ps y⟩:=by
 obtain ⟨S',hl,hR,hO⟩:=h
 subst hl
 refine ⟨S',rfl,hR,hO,fun V' hV=>?_⟩
 obtain ⟨hA,⟨pos,ab,ho⟩,_⟩:=h1
 refine jj.O7 (V:=V') ho (by simp) rfl fun g r w hC jd hn iT=>?_
 have hb:=l4 hR hA hv (jc hh ha iT) jd
 obtain ⟨x,hx,uO⟩:=xO hR hA hi fq hn
 obtain ⟨A7,sA,hd,hr⟩:=hc x
 obtain ⟨fn,c,f1,f2,f3⟩:=hf.h
 refine Calls.BX f1 f2 f3 ?_
 rw [p6 (p8 hx hb) A7]
 obtain ⟨F,Hd,⟨tM,wg,sX,wh⟩,hS,hG⟩:=hs
 have GU:=qv.stay hS hG hC
 rw [qa] at sA
 refine (sA.2 w Z [] (hr.sound (fun _ h=>h) (fun h=>nomatch h) GU hd.ho) List.nodup_nil (fun b hb=>absurd hb List.not_mem_nil)
  (fun b h=>Nat.lt_of_lt_of_le (hG.ml b h) hC.size) y hy).mono ?_
 rintro e w' ⟨v,he,Z2,F2,qd,gp⟩
 obtain ⟨f2,k1,k2,k3⟩:=Uk (Z:=Z) (K:=[]) qd gp (fun _ h=>.inl h) fun _ h=>h
 obtain ⟨f',cb,A8⟩:=hV f2 w' r _ ⟨v,rfl,k2,k3⟩
 exact ⟨_,he,gp.iH,f',fun b hb=>⟨(k1 b (cb b hb)).1.resolve_left List.not_mem_nil,(k1 b (cb b hb)).2⟩,A8⟩
theorem Kn {mt:Nat} {β V:Type} {A:LN} {as:List (List Nat)} {d:Nat} {f:FuncId} {xs:List Operand} {au:Array TypeId} {ty:TI} {mo:Option β} {rt:β→V→List Value} {ps:β→V→List ay} {ops:LO} {i:Nat} {sl:List (Nat×Nat×Value)} {ms:MM} {fr:Fr} {hd Γ:QE} {B:Bs} {r0:Nat→Value} {w0:World} {H:LN} {y:β} (hh:lr l mt base=true) (hf:br P f) (hv:eQ A none sl base fr)
   (hU:U.getD i []=[l.length]) (A9:((U.set i []).all fun us=>!(us.contains l.length))=true)
   (hc:∀ x:mq ms,AY P f xs (kj A ms x++fr) hd Γ mo rt ps) (hi:lg ms) (fq:me A ms=true) (h1:nw l mt U A (.call ⟨.value (.func f),xs.toArray,au⟩) d ty as ops i) (hy:mo=some y) (ha:cj r0 base) (hs:qv B Z hd Γ H w0) (h:iv P Z l mt U r0 w0 H i sl ms) :
   CO P Z l mt U r0 w0 H i sl ms ⟨i,d,[],V,fun _ v=>nk (rt y v),fun _=>ps y⟩:=by
 obtain ⟨S',hl,hR,hO⟩:=h
 subst hl
 refine ⟨S',rfl,hR,hO,fun V' hV=>?_⟩
 obtain ⟨hA,⟨pos,ab,ho⟩,_⟩:=h1
 intro o' s' bw cu g r w hC wc jd hn iT sx my
 rw [ho] at bw
 cases bw
 rw [List.getElem?_append_right (Nat.le_refl _),Nat.sub_self] at cu
 cases cu
 rw [if_pos rfl]
 refine ⟨rfl,?_⟩
 obtain ⟨GN,GO,GP⟩:=wc (zN A9)
 have hb:=l4 hR hA hv (jc hh ha iT) jd
 obtain ⟨x,hx,uO⟩:=xO hR hA hi fq hn
 obtain ⟨A7,sA,GQ,hr⟩:=hc x
 obtain ⟨fn,c,f1,f2,f3⟩:=hf.h
 refine Calls.BX f1 f2 f3 ?_
 rw [p6 (p8 hx hb) A7]
 obtain ⟨F,Hd,⟨tM,wg,sX,wh⟩,hS,hG⟩:=hs
 have GU:=qv.stay hS hG hC
 obtain ⟨Fd,F',GR,Ul,yT⟩:=GQ.sound (tM.gf GN)
 have cb:∀ b∈Fd,b∈H:=fun b hb=>(wg b (yT.mem_iff.1 (List.mem_append_left _ hb))).1
 have cg:=List.nodup_append.1 hG.nd
 have hblk:j9 g (U.getD S'.length [])=H:=by rw [hU]; simp [j9,GO]
 rw [hblk]
 rw [qa] at sA
 refine (sA.2 w Z Fd (hr.sound (fun _ h=>h) (fun h=>nomatch h) (Ul.app GU) GR) ((yT.nodup_iff.2 wh).sublist (List.sublist_append_left _ _)) (fun b hb=>hG.apart b (List.mem_append_left _ (cb b hb)))
  (fun b h=>Nat.lt_of_lt_of_le (hG.ml b h) hC.size) y hy).mono ?_
 rintro e w' ⟨v,he,Z2,F2,qd,gp⟩
 obtain ⟨f2,k1,k2,k3⟩:=Uk (Z:=Z) (K:=H) qd gp (fun _ h=>.inl h) cb
 obtain ⟨f',Du,A8⟩:=hV f2 w' r _ ⟨v,rfl,k2,k3⟩
 exact ⟨_,he,gp.iH.mono cb,f',fun b hb=>k1 b (Du b hb),A8⟩
theorem Ko {mt:Nat} {β V:Type} {j1:Nat} {a1:ei} {A:LN} {as:List (List Nat)} {d:Nat} {f:FuncId} {xs:List Operand} {au:Array TypeId} {ty:TI} {mo:Option β} {rt:β→V→List Value} {ps:β→V→List ay} {ops:LO} {i:Nat} {sl:List (Nat×Nat×Value)} {ms fg:MM} {fr:Fr} {hd Γ:QE} {B:Bs} {r0:Nat→Value} {w0:World} {H:LN} {y:β} (hh:lr l mt base=true) (hf:br P f) (hv:eQ A none sl base fr)
   (hU:U.getD i []=[j1]) (wb:zH ms j1 a1 fg) (Dr:a1.src=[]) (h4:dv j1 A=true)
   (hc:∀ (q:a1.V) (x:mq fg),AY P f xs ((a1.d,a1.rt undef q) :: (kj A fg x++fr)) (a1.ps undef q) Γ mo rt ps) (hi:lg fg) (fq:me A fg=true) (h1:nw l mt U A (.call ⟨.value (.func f),xs.toArray,au⟩) d ty as ops i) (hy:mo=some y) (ha:cj r0 base) (hs:qv B Z hd Γ H w0) (h:iv P Z l mt U r0 w0 H i sl ms) :
   CO P Z l mt U r0 w0 H i sl fg ⟨i,d,[],V,fun _ v=>nk (rt y v),fun _=>ps y⟩:=by
 obtain ⟨S',hl,Jl,hO⟩:=h
 subst hl
 obtain ⟨m1,m2,m3,m4,m5⟩:=wb.sub
 have hR:=Jl.sub m3 m4
 refine ⟨S',rfl,hR,hO,fun V' hV=>?_⟩
 obtain ⟨hA,⟨pos,ab,ho⟩,_⟩:=h1
 intro o' s' bw cu g r w hC wc jd hn iT sx my
 rw [ho] at bw
 cases bw
 rw [List.getElem?_append_right (Nat.le_refl _),Nat.sub_self] at cu
 cases cu
 rw [if_pos rfl]
 refine ⟨rfl,?_⟩
 have zL:=j5 (by rw [← hA]; exact iz.1 h4)
 have hb:=l4 hR hA hv (jc hh ha iT) jd
 obtain ⟨x,hx,uO⟩:=xO hR hA hi fq hn
 obtain ⟨q,Mp,yU,Mt⟩:=Jl.wV m1 (hn a1.j (by rw [m2]; exact zL.2))
 have tL:uZ a1 r=undef:=by unfold uZ; rw [Dr]; rfl
 rw [tL,m2] at yU
 rw [tL] at Mp
 rw [m2] at Mt
 obtain ⟨A7,sA,GQ,hr⟩:=hc q x
 obtain ⟨fn,c,f1,f2,f3⟩:=hf.h
 refine Calls.BX f1 f2 f3 ?_
 rw [p6 (p8 (g:=(a1.d,a1.rt undef q) :: kj A fg x) (fun p hp=>(List.mem_cons.1 hp).elim (fun e=>e ▸ Mp) (hx p)) hb) A7]
 obtain ⟨F,Hd,⟨tM,wg,sX,wh⟩,hS,hG⟩:=hs
 have GU:=qv.stay hS hG hC
 obtain ⟨Fo,Fr,Jm,Bb,Ui⟩:=yU.all
 have Uj:SA (fun b=>Z b∨b∈Fr) w (a1.ps undef q) [] Fo:=by
  have:=Ui.front (Γ:=[]) (F:=[]) rfl
  simpa using this
 have Mu:=List.nodup_append.1 (Jm ▸ Mt)
 obtain ⟨Fd,F',GR,Ul,yT⟩:=GQ.sound Uj
 have Dv:∀ b∈Fd,b∈Fo:=fun b hb=>yT.mem_iff.1 (List.mem_append_left _ hb)
 have cb:∀ b∈Fd,b∈g j1:=fun b hb=>by rw [Jm]; exact List.mem_append_left _ (Dv b hb)
 have cg:=List.nodup_append.1 hG.nd
 have hblk:j9 g (U.getD S'.length [])=g j1:=by rw [hU]; simp [j9]
 rw [hblk]
 rw [qa] at sA
 have Fc:∀ b∈g j1,w0.heap.size≤b∨b∈H:=fun b hb=>(my j1 zL.1 b hb).1
 refine (sA.2 w (fun b=>Z b∨b∈Fr) Fd (hr.sound (fun _ h=>h) (fun h=>nomatch h) (Ul.app (GU.mono (fun _ h=>.inl h) fun _ h=>h)) GR) ((yT.nodup_iff.2 Mu.1).sublist (List.sublist_append_left _ _)) (fun b hb=>?_)
  (fun b hb=>hb.elim (fun h=>Nat.lt_of_lt_of_le (hG.ml b h) hC.size) (Bb b)) y hy).mono ?_
 ·rintro (hz | hz)
  ·rcases Fc b (cb b hb) with h | h
   ·have:=hG.ml b hz; omega
   ·exact hG.apart b (List.mem_append_left _ h) hz
  ·exact Mu.2.2 b (Dv b hb) b hz rfl
 ·rintro e w' ⟨v,he,Z2,F2,qd,gp⟩
  obtain ⟨f2,k1,k2,k3⟩:=Uk (Z:=Z) (K:=g j1) qd gp (fun b h=>h.imp id fun h=>by rw [Jm]; exact List.mem_append_right _ h) cb
  obtain ⟨f',Du,A8⟩:=hV f2 w' r _ ⟨v,rfl,k2,k3⟩
  exact ⟨_,he,gp.iH.mono cb,f',fun b hb=>k1 b (Du b hb),A8⟩
theorem iv.Z4 {mt:Nat} {A:LN} {op:Op} {d:Nat} {ty:TI} {as:List (List Nat)} {ops:LO} {i:Nat} {sl:List (Nat×Nat×Value)} {ms:MM} {r0:Nat→Value} {w0:World} {H:LN} {u:Value} (h:iv P Z l mt U r0 w0 H i sl ms) (hh:lr l mt base=true) (ha:cj r0 base) (h1:nw l mt U A op d ty as ops i)
  (hV:(U.zipIdx.all fun p=>!(p.1.contains l.length) || ((cf l).getD p.2 []).contains i)=true) (hv:eQ A none sl base fr) (hq:∀ r,cj r fr→∀ pos ab g w,an [] w0 w→(execOp (ev r) ⟨some d,op,ty,pos,ab,g⟩).run P w = .ok (.value u) w):iv P Z l mt U r0 w0 H (i+1) ((i,d,u) :: sl) ms:=by
 obtain ⟨S',hl,hR,hO⟩:=h
 subst hl
 obtain ⟨hA,⟨pos,ab,ho⟩,_⟩:=h1
 refine ⟨S'++[sV u],by simp,hR.val (by unfold bu; rw [ho]; rfl),fun j hj=>?_⟩
 by_cases h2:j < S'.length
 ·exact jj.more (hO j h2) h2
 ·obtain rfl:j=S'.length:=by omega
  have hN:zO l U mt S'.length=true:=by
   unfold zO
   simp only [List.all_eq_true,List.mem_range,Bool.or_eq_true,Bool.not_eq_true'] at hV ⊢
   intro k _
   rw [List.getD_eq_getElem?_getD]
   cases hu:U[k]? with
   | none=>exact .inl (.inl rfl)
   | some us=>
    have hm:(us,k)∈U.zipIdx:=by rw [List.mem_zipIdx_iff_getElem?]; exact hu
    exact (hV _ hm).imp .inl id
  intro o' s' bw cu g r w hC wc jd hn iT sx my
  rw [ho] at bw
  cases bw
  rw [List.getElem?_append_right (Nat.le_refl _),Nat.sub_self] at cu
  cases cu
  rw [if_pos rfl]
  refine ⟨rfl,?_⟩
  unfold ez
  rw [hq r (l4 hR hA hv (jc hh ha iT) jd) _ _ _ w (wc hN).1]
  exact ⟨an.refl _ _,[],fun b hb=>absurd hb List.not_mem_nil,rfl⟩
theorem Sx {mt:Nat} {hd ig:QE} {α:Type} {t e e' et:TI} {E E':ah α} {z0:α} {bt t1 t2 j2:Nat} {v u yv:Value} {j:Int} {y:α} {z:List α} {xs:List (List α)} {o1 o2:Bool} {Γx:QE} {sw:MM} {A:LN} {as:List (List Nat)} {d:Nat} {ty:TI} {ops:LO} {i:Nat} {sl:List (Nat×Nat×Value)} {ms:MM} {Γ:QE} {B:Bs} {r0:Nat→Value} {w0:World} {H:LN} (hh:lr l mt base=true) (ha:cj r0 base) (hT:qc P t α e E z0 bt) (hU:U.getD i []=[l.length])
   (A9:((U.set i []).all fun us=>!(us.contains l.length))=true) (hv:eQ A none sl base fr) (hs:look fr t1=some u) (h2:lq ms t2 ⟨j2,t2,[],Nat,fun _ b=>.slice (some ⟨b,0,none⟩) 1 1,fun _ b=>[.row b [yv] et]⟩ sw) (h5:dv j2 A=true) (hl:Loc hd u (.row v j)) (hz:lh hd u o1 o2 E' z ox Γx) (h1:dh hd (.own (aK e' (aK e E)) v xs) ig) (hr:RT (aK e E) (aD E')) (hy:Cn [] E yv y [])
   (hf:fits bt (z.length+1)=some ()) (wS:nw l mt U A (.call ⟨.builtin .append,#[.tmp t1,.tmp t2],#[t,t]⟩) d ty as ops i) (l7:qv B Z hd Γ H w0) (h:iv P Z l mt U r0 w0 H i sl ms) :
  iv P Z l mt U r0 w0 H (i+1) sl (⟨i,d,[],Value,fun _ v'=>v',fun _ v'=>[.own (aK e E) v' (z++[y]),.own (qw e' (aK e E) j.toNat) v xs]⟩ :: ms)∧qv B Z ig Γ H w0:=by
 obtain ⟨F,Hd,⟨tM,wg,sX,wh⟩,hS,hG⟩:=l7
 obtain ⟨fm0,Um,GV,_,Pb⟩:=h1.sound tM
 refine ⟨?_,F,Um,⟨Pb,fun b hb=>wg b (GV.mem_iff.1 (List.mem_append_right _ hb)),sX,(GV.nodup_iff.2 wh).sublist (List.sublist_append_right _ _)⟩,hS,hG⟩
 obtain ⟨S',yO,hR,hO⟩:=h
 subst yO
 obtain ⟨hA,⟨pos,ab,ho⟩,_⟩:=wS
 obtain ⟨b1,b2⟩:=iu hf
 obtain ⟨q1,q2,ii,zz,q3,q4,q5,q6,q7,_⟩:=hT.h
 obtain ⟨n1,_,_,_⟩:=h2.sub
 refine ⟨S'++[⟨true,MV Z ⟨S'.length,d,[],Value,fun _ v'=>v',fun _ v'=>[.own (aK e E) v' (z++[y]),.own (qw e' (aK e E) j.toNat) v xs]⟩⟩],by simp,hR.mem rfl (by unfold bu; rw [ho]; rfl) (by intro t h; cases h),fun k hk=>?_⟩
 by_cases bg:k < S'.length
 ·exact jj.more (hO k bg) bg
 ·obtain rfl:k=S'.length:=by omega
  intro o' s' bw cu g r w hC wc jd hn iT sx my
  rw [ho] at bw
  cases bw
  rw [List.getElem?_append_right (Nat.le_refl _),Nat.sub_self] at cu
  cases cu
  rw [if_pos rfl]
  refine ⟨rfl,?_⟩
  obtain ⟨GN,GO,GP⟩:=wc (zN A9)
  have GW:=tM.gf GN
  obtain ⟨j0,j1,jf⟩:=Loc.row hl rfl GW
  obtain ⟨di,_,⟨⟨gz,nv,_⟩,_⟩,_⟩:=hz.sound GW
  obtain ⟨fm,F1,qg,Mx,_⟩:=h1.sound GW
  obtain ⟨ky,F2,l6,Un,_⟩:=hy.sound (Z:=Z) (w:=w) (F:=[]) rfl
  have Uo:ky=[]:=by
   cases ky with
   | nil=>rfl
   | cons a l=>exact absurd (l6.mem_iff.1 (List.mem_append_left _ List.mem_cons_self)) List.not_mem_nil
  subst Uo
  rw [qk Mx] at j1
  obtain ⟨k,gm,a1,a2,a3⟩:=CM rfl Mx (List.getElem?_eq_getElem j1) jf
  have My:xs[j.toNat]=z:=hr.ub (hr.le.le a1) nv
  rw [My] at a1
  have Pc:(k++gm).Nodup:=a2.nodup_iff.2 ((qg.nodup_iff.2 wh).sublist (List.sublist_append_left _ _))
  have Ax:=List.nodup_append.1 Pc
  have xQ:∀ b∈k++gm,b∈H:=fun b hb=>(wg b (qg.mem_iff.1 (List.mem_append_left _ (a2.mem_iff.1 hb)))).1
  obtain ⟨b,c1,c2,c3⟩:=hR.wV n1 (hn j2 (j5 (by rw [← hA]; exact iz.1 h5)).2)
  simp only at c1 c2
  replace c2:=c2.own rfl
  generalize wb:g j2=G1 at c2 c3
  cases c2 with
  | fact h _=>exact h.elim
  | @own _ ff F0 _ Dw sa=>
   cases sa
   obtain ⟨rfl,bd⟩:=Dw
   have hb:=l4 hR hA hv (jc hh ha iT) jd
   obtain ⟨v',w',f',je,we,dk,cb,zP⟩:=mw (E:=E) (d:=some d) (ty:=ty) (pos:=pos) (ab:=ab) (g:=none) (r:=r) (s:=.tmp t1) (x:=.tmp t2) (k:=[]) (ys:=[y]) (news:=[yv]) q1 q3 q4 (by rw [q5,q2]) (by rw [cells_one q6,q2]; rfl) (hb _ _ hs) a1 Ax.1 c1 (fun i u hi=>bd.at i u hi) (oh Un) (fun _ h=>absurd h List.not_mem_nil) (by simp) (by rw [q7]; exact b1) b2
   unfold ez
   rw [je]
   have hblk:j9 g (U.getD S'.length [])=H:=by rw [hU]; simp [j9,GO]
   rw [hblk]
   have Mz:(qw e' (aK e E) j.toNat).rep w'.heap [v] xs gm:=ah.dy _ a3 we fun b hb hk=>Ax.2.2 b hk b hb rfl
   refine ⟨we.mono fun b hb=>xQ b (List.mem_append_left _ hb),f'++gm,fun b hb=>?_,v',rfl,?_,?_⟩
   ·rcases List.mem_append.1 hb with hb | hb
    ·refine ⟨?_,ah.lt _ dk b hb⟩
     rcases cb b hb with h | h | h
     ·exact .inl (xQ b (List.mem_append_left _ h))
     ·exact absurd h List.not_mem_nil
     ·exact .inr h
    ·exact ⟨.inl (xQ b (List.mem_append_right _ hb)),ah.lt _ Mz b hb⟩
   ·have:=HL.own (Z:=fun _=>False) (e:=.own (aK e E) v' (z++[y])) (f:=f') dk (HL.own (e:=.own (qw e' (aK e E) j.toNat) v xs) (f:=gm) Mz .nil)
    exact .inl (by simpa using this)
   ·refine tN (zP List.nodup_nil) Ax.2.1 fun b hb hm=>?_
    rcases cb b hb with h | h | h
    ·exact Ax.2.2 b h b hm rfl
    ·exact absurd h List.not_mem_nil
    ·have:=ah.lt _ a3 b hm; omega
theorem Sy {mt:Nat} {hd ig:QE} {t e e' e3 et:TI} {kk:IntKind} {E':ah (List Int)} {z0:List Int} {bt t1 t2 t3 j2 j3 n:Nat} {v u:Value} {us:LV} {j:Int} {ys:List Int} {z:List (List Int)} {xs:List (List (List Int))} {o1 o2:Bool} {Γx:QE} {sw AZ:MM} {A:LN} {as:List (List Nat)} {d:Nat} {ty:TI} {ops:LO} {i:Nat} {sl:List (Nat×Nat×Value)} {ms:MM} {Γ:QE} {B:Bs} {r0:Nat→Value} {w0:World} {H:LN} (hh:lr l mt base=true) (ha:cj r0 base) (hT:qc P t (List Int) e (aK e3 (aB kk)) z0 bt) (hU:U.getD i []=[l.length,j3])
   (A9:((U.set i []).all fun us=>!(us.contains l.length))=true) (hv:eQ A none sl base fr) (hs:look fr t1=some u) (h2:lq ms t2 ⟨j2,t2,[t3],Nat,fun _ b=>.slice (some ⟨b,0,none⟩) 1 1,fun u b=>[.row b [u] et]⟩ sw) (h3:lq sw t3 ⟨j3,t3,[],Nat,fun _ b=>.slice (some ⟨b,0,none⟩) n n,fun _ b=>[.row b us e3]⟩ AZ) (h5:dv j2 A=true) (h6:dv j3 A=true) (hl:Loc hd u (.row v j)) (hz:lh hd u o1 o2 E' z ox Γx) (h1:dh hd (.own (aK e' (aK e (aK e3 (aB kk)))) v xs) ig) (hr:RT (aK e (aK e3 (aB kk))) (aD E')) (hi:yM kk us ys) (nu:us.length=n) (ch:Nat.ble n 16777216=true)
   (hf:fits bt (z.length+1)=some ()) (wS:nw l mt U A (.call ⟨.builtin .append,#[.tmp t1,.tmp t2],#[t,t]⟩) d ty as ops i) (l7:qv B Z hd Γ H w0) (h:iv P Z l mt U r0 w0 H i sl ms) :
  iv P Z l mt U r0 w0 H (i+1) sl (⟨i,d,[],Value,fun _ v'=>v',fun _ v'=>[.own (aK e (aK e3 (aB kk))) v' (z++[ys]),.own (qw e' (aK e (aK e3 (aB kk))) j.toNat) v xs]⟩ :: AZ)∧qv B Z ig Γ H w0:=by
 obtain ⟨F,Hd,⟨tM,wg,sX,wh⟩,hS,hG⟩:=l7
 obtain ⟨fm0,Um,GV,_,Pb⟩:=h1.sound tM
 refine ⟨?_,F,Um,⟨Pb,fun b hb=>wg b (GV.mem_iff.1 (List.mem_append_right _ hb)),sX,(GV.nodup_iff.2 wh).sublist (List.sublist_append_right _ _)⟩,hS,hG⟩
 obtain ⟨S',yO,hR,hO⟩:=h
 subst yO
 obtain ⟨hA,⟨pos,ab,ho⟩,_⟩:=wS
 obtain ⟨b1,b2⟩:=iu hf
 obtain ⟨q1,q2,ii,zz,q3,q4,q5,q6,q7,_⟩:=hT.h
 obtain ⟨n1,_,m3,m4⟩:=h2.sub
 obtain ⟨n3,_,m5,m6⟩:=h3.sub
 refine ⟨S'++[⟨true,MV Z ⟨S'.length,d,[],Value,fun _ v'=>v',fun _ v'=>[.own (aK e (aK e3 (aB kk))) v' (z++[ys]),.own (qw e' (aK e (aK e3 (aB kk))) j.toNat) v xs]⟩⟩],by simp,(hR.sub (fun b hb=>m3 b (m5 b hb)) (m6.trans m4)).mem rfl (by unfold bu; rw [ho]; rfl) (by intro t h; cases h),fun k hk=>?_⟩
 by_cases bg:k < S'.length
 ·exact jj.more (hO k bg) bg
 ·obtain rfl:k=S'.length:=by omega
  intro o' s' bw cu g r w hC wc jd hn iT sx my
  rw [ho] at bw
  cases bw
  rw [List.getElem?_append_right (Nat.le_refl _),Nat.sub_self] at cu
  cases cu
  rw [if_pos rfl]
  refine ⟨rfl,?_⟩
  obtain ⟨GN,GO,GP⟩:=wc (zN A9)
  have GW:=tM.gf GN
  obtain ⟨j0,j1,jf⟩:=Loc.row hl rfl GW
  obtain ⟨di,_,⟨⟨gz,nv,_⟩,_⟩,_⟩:=hz.sound GW
  obtain ⟨fm,F1,qg,Mx,_⟩:=h1.sound GW
  rw [qk Mx] at j1
  obtain ⟨k,gm,a1,a2,a3⟩:=CM rfl Mx (List.getElem?_eq_getElem j1) jf
  have My:xs[j.toNat]=z:=hr.ub (hr.le.le a1) nv
  rw [My] at a1
  have Pc:(k++gm).Nodup:=a2.nodup_iff.2 ((qg.nodup_iff.2 wh).sublist (List.sublist_append_left _ _))
  have Ax:=List.nodup_append.1 Pc
  have xQ:∀ b∈k++gm,b∈H:=fun b hb=>(wg b (qg.mem_iff.1 (List.mem_append_left _ (a2.mem_iff.1 hb)))).1
  have MA:=j5 (by rw [← hA]; exact iz.1 h6)
  obtain ⟨b,c1,c2,c3⟩:=hR.wV n1 (hn j2 (j5 (by rw [← hA]; exact iz.1 h5)).2)
  obtain ⟨b3,d1,d2,d3⟩:=hR.wV (m3 _ n3) (hn j3 MA.2)
  replace c1:r t2 = .slice (some ⟨b,0,none⟩) 1 1:=c1
  replace c2:HL (fun _=>False) w [.row b [r t3] et] (g j2):=c2.own rfl
  replace d1:r t3 = .slice (some ⟨b3,0,none⟩) n n:=d1
  replace d2:HL (fun _=>False) w [.row b3 us e3] (g j3):=d2.own rfl
  have YD:=GP j3 MA.1
  generalize wb:g j2=G1 at c2 c3
  generalize GX:g j3=G3 at d2 d3 YD
  cases c2 with
  | fact h _=>exact h.elim
  | @own _ ff F0 _ Dw sa=>
   cases sa
   obtain ⟨rfl,bd⟩:=Dw
   cases d2 with
   | fact h _=>exact h.elim
   | @own _ ff3 F3 _ wu Kr=>
    cases Kr
    obtain ⟨rfl,wu⟩:=wu
    obtain ⟨e1,e2⟩:=yM.sound hi w.heap
    have zC:=Nat.le_of_ble_eq_true ch
    have hE:(aK e3 (aB kk)).rep w.heap [r t3] ys [b3]:=by
     rw [d1]
     refine ⟨some ⟨b3,0,none⟩,n,by rw [← nu,e1],.inr ⟨b3,us.toArray,[],rfl,wu,rfl,by rw [← nu,e1]; exact Nat.le_refl _,Nat.le_trans zC (by decide),by rw [show (aB kk).size=1 from rfl,Nat.mul_one]; simp [nu],?_⟩⟩
     rw [show (aB kk).size=1 from rfl,Nat.mul_one,List.toList_toArray,← e1,List.take_length]
     exact e2
    have yC:w0.heap.size≤b3:=YD b3 (by simp)
    have Ks:∀ b∈k++gm,b≠b3:=fun b hb he=>by
     have:=sX b (xQ b hb)
     omega
    have hb:=l4 hR hA hv (jc hh ha iT) jd
    obtain ⟨v',w',f',je,we,dk,cb,zP⟩:=mw (E:=aK e3 (aB kk)) (d:=some d) (ty:=ty) (pos:=pos) (ab:=ab) (g:=none) (r:=r) (s:=.tmp t1) (x:=.tmp t2) (k:=[b3]) (ys:=[ys]) (news:=[r t3]) q1 q3 q4 (by rw [q5,q2]) (by rw [cells_one q6,q2]; rfl) (hb _ _ hs) a1 Ax.1 c1 (fun i u hi=>bd.at i u hi) (oh hE) (fun b hb hm=>Ks b (List.mem_append_left _ hm) (List.mem_singleton.1 hb)) (by simp) (by rw [q7]; exact b1) b2
    unfold ez
    rw [je]
    have hblk:j9 g (U.getD S'.length [])=H++[b3]:=by rw [hU]; simp [j9,GO,GX]
    rw [hblk]
    have Mz:(qw e' (aK e (aK e3 (aB kk))) j.toNat).rep w'.heap [v] xs gm:=ah.dy _ a3 we fun b hb hk=>Ax.2.2 b hk b hb rfl
    refine ⟨we.mono fun b hb=>List.mem_append_left _ (xQ b (List.mem_append_left _ hb)),f'++gm,fun b hb=>?_,v',rfl,?_,?_⟩
    ·rcases List.mem_append.1 hb with hb | hb
     ·refine ⟨?_,ah.lt _ dk b hb⟩
      rcases cb b hb with h | h | h
      ·exact .inl (List.mem_append_left _ (xQ b (List.mem_append_left _ h)))
      ·exact .inl (List.mem_append_right _ h)
      ·exact .inr h
     ·exact ⟨.inl (List.mem_append_left _ (xQ b (List.mem_append_right _ hb))),ah.lt _ Mz b hb⟩
    ·have:=HL.own (Z:=fun _=>False) (e:=.own (aK e (aK e3 (aB kk))) v' (z++[ys])) (f:=f') dk (HL.own (e:=.own (qw e' (aK e (aK e3 (aB kk))) j.toNat) v xs) (f:=gm) Mz .nil)
     exact .inl (by simpa using this)
    ·refine tN (zP (by simp)) Ax.2.1 fun b hb hm=>?_
     rcases cb b hb with h | h | h
     ·exact Ax.2.2 b h b hm rfl
     ·exact Ks b (List.mem_append_right _ hm) (List.mem_singleton.1 h)
     ·have:=ah.lt _ a3 b hm; omega
theorem Sz {mt:Nat} {t e e3 et:TI} {kk:IntKind} {z0:List Int} {bt t1 t2 t3 j1 j2 j3 n:Nat} {us:LV} {ys:List Int} {z:List (List Int)} {a1:ei} {fg sw AZ:MM} {A:LN} {as:List (List Nat)} {d:Nat} {ty:TI} {ops:LO} {i:Nat} {sl:List (Nat×Nat×Value)} {ms:MM} {r0:Nat→Value} {w0:World} {H:LN} (hT:qc P t (List Int) e (aK e3 (aB kk)) z0 bt) (hU:U.getD i []=[j1,j3])
   (h1:lq ms t1 a1 fg) (h2:lq fg t2 ⟨j2,t2,[t3],Nat,fun _ b=>.slice (some ⟨b,0,none⟩) 1 1,fun u b=>[.row b [u] et]⟩ sw) (h3:lq sw t3 ⟨j3,t3,[],Nat,fun _ b=>.slice (some ⟨b,0,none⟩) n n,fun _ b=>[.row b us e3]⟩ AZ) (hp:∀ u v,a1.ps u v=[.own (aK e (aK e3 (aB kk))) (a1.rt u v) z]) (hj:a1.j=j1) (kh:Nat.beq j1 j3=false) (h4:dv j1 A=true) (h5:dv j2 A=true) (h6:dv j3 A=true) (hi:yM kk us ys) (nu:us.length=n) (ch:Nat.ble n 16777216=true)
   (hf:fits bt (z.length+1)=some ()) (wS:nw l mt U A (.call ⟨.builtin .append,#[.tmp t1,.tmp t2],#[t,t]⟩) d ty as ops i) (h:iv P Z l mt U r0 w0 H i sl ms) :
  iv P Z l mt U r0 w0 H (i+1) sl (⟨i,d,[],Value,fun _ v'=>v',fun _ v'=>[.own (aK e (aK e3 (aB kk))) v' (z++[ys])]⟩ :: AZ):=by
 obtain ⟨S',yO,hR,hO⟩:=h
 subst yO
 subst hj
 obtain ⟨hA,⟨pos,ab,ho⟩,_⟩:=wS
 obtain ⟨b1,b2⟩:=iu hf
 obtain ⟨q1,q2,ii,zz,q3,q4,q5,q6,q7,_⟩:=hT.h
 obtain ⟨k1,k2,k3,k4⟩:=h1.sub
 obtain ⟨n1,_,m3,m4⟩:=h2.sub
 obtain ⟨n3,_,m5,m6⟩:=h3.sub
 refine ⟨S'++[⟨true,MV Z ⟨S'.length,d,[],Value,fun _ v'=>v',fun _ v'=>[.own (aK e (aK e3 (aB kk))) v' (z++[ys])]⟩⟩],by simp,(hR.sub (fun b hb=>k3 b (m3 b (m5 b hb))) ((m6.trans m4).trans k4)).mem rfl (by unfold bu; rw [ho]; rfl) (by intro t h; cases h),fun k hk=>?_⟩
 by_cases bg:k < S'.length
 ·exact jj.more (hO k bg) bg
 ·obtain rfl:k=S'.length:=by omega
  intro o' s' bw cu g r w hC wc jd hn iT sx my
  rw [ho] at bw
  cases bw
  rw [List.getElem?_append_right (Nat.le_refl _),Nat.sub_self] at cu
  cases cu
  rw [if_pos rfl]
  refine ⟨rfl,?_⟩
  have Fe:=j5 (by rw [← hA]; exact iz.1 h4)
  have MA:=j5 (by rw [← hA]; exact iz.1 h6)
  obtain ⟨v1,p1,p2,p3⟩:=hR.wV k1 (hn a1.j Fe.2)
  rw [hp,← p1,k2] at p2
  replace p2:=p2.own rfl
  obtain ⟨b,c1,c2,c3⟩:=hR.wV (k3 _ n1) (hn j2 (j5 (by rw [← hA]; exact iz.1 h5)).2)
  obtain ⟨b3,d1,d2,d3⟩:=hR.wV (k3 _ (m3 _ n3)) (hn j3 MA.2)
  replace c1:r t2 = .slice (some ⟨b,0,none⟩) 1 1:=c1
  replace c2:HL (fun _=>False) w [.row b [r t3] et] (g j2):=c2.own rfl
  replace d1:r t3 = .slice (some ⟨b3,0,none⟩) n n:=d1
  replace d2:HL (fun _=>False) w [.row b3 us e3] (g j3):=d2.own rfl
  have Pd:=sx a1.j Fe.1 j3 MA.1 (fun e=>by rw [e,Nat.beq_refl] at kh; cases kh)
  generalize wb:g j2=G1 at c2 c3
  generalize GX:g j3=G3 at d2 d3 Pd
  generalize gp:g a1.j=G2 at p2 p3 Pd
  cases c2 with
  | fact h _=>exact h.elim
  | @own _ ff F0 _ Dw sa=>
   cases sa
   obtain ⟨rfl,bd⟩:=Dw
   cases d2 with
   | fact h _=>exact h.elim
   | @own _ ff3 F3 _ wu Kr=>
    cases Kr
    obtain ⟨rfl,wu⟩:=wu
    cases p2 with
    | fact h _=>exact h.elim
    | @own _ k F4 _ wY Xu=>
     cases Xu
     rw [List.append_nil] at p3
     obtain ⟨e1,e2⟩:=yM.sound hi w.heap
     have zC:=Nat.le_of_ble_eq_true ch
     have hE:(aK e3 (aB kk)).rep w.heap [r t3] ys [b3]:=by
      rw [d1]
      refine ⟨some ⟨b3,0,none⟩,n,by rw [← nu,e1],.inr ⟨b3,us.toArray,[],rfl,wu,rfl,by rw [← nu,e1]; exact Nat.le_refl _,Nat.le_trans zC (by decide),by rw [show (aB kk).size=1 from rfl,Nat.mul_one]; simp [nu],?_⟩⟩
      rw [show (aB kk).size=1 from rfl,Nat.mul_one,List.toList_toArray,← e1,List.take_length]
      exact e2
     have Ks:∀ b∈k,b≠b3:=fun b hb he=>Pd b (by simpa using hb) (by simp [he])
     obtain ⟨v',w',f',je,we,dk,cb,zP⟩:=mw (E:=aK e3 (aB kk)) (d:=some d) (ty:=ty) (pos:=pos) (ab:=ab) (g:=none) (r:=r) (s:=.tmp t1) (x:=.tmp t2) (k:=[b3]) (ys:=[ys]) (news:=[r t3]) q1 q3 q4 (by rw [q5,q2]) (by rw [cells_one q6,q2]; rfl) rfl wY p3 c1 (fun i u hi=>bd.at i u hi) (oh hE) (fun b hb hm=>Ks b hm (List.mem_singleton.1 hb)) (by simp) (by rw [q7]; exact b1) b2
     unfold ez
     rw [je]
     have hblk:j9 g (U.getD S'.length [])=k++[b3]:=by rw [hU]; simp [j9,gp,GX]
     rw [hblk]
     refine ⟨we.mono fun b hb=>List.mem_append_left _ hb,f',fun b hb=>?_,v',rfl,?_,zP (by simp)⟩
     ·refine ⟨?_,ah.lt _ dk b hb⟩
      rcases cb b hb with h | h | h
      ·exact .inl (List.mem_append_left _ h)
      ·exact .inl (List.mem_append_right _ h)
      ·exact .inr h
     ·have:=HL.own (Z:=fun _=>False) (e:=.own (aK e (aK e3 (aB kk))) v' (z++[ys])) (f:=f') dk .nil
      exact .inl (by simpa using this)
end
end Go.Dk
namespace Go.Dk
open Go Go.Li
section
variable {R S:Type} {P:Program} {cx:Cx R} {K:df R S} {l tail:LO} {base fr:Fr} {U:List (List Nat)} {hd:QE}
def Kt (P:Program) (cx:Cx R) (K:df R S) (l:LO) (mt:Nat) (U:List (List Nat)) (hd:QE) (id:Nat) (base:Fr):JA R S→Prop
 | .a as ops i sl ms Γ m=>zI l mt U as ops i→Fin P cx K l mt U hd id base i sl ms Γ m
 | .o A op d ty as ops i sl ms Γ m=>nw l mt U A op d ty as ops i→Fin P cx K l mt U hd id base i sl ms Γ m
 | .oc us f xs au A d ty as ops i sl ms Γ m=>U.getD i []=us→nw l mt U A (.call ⟨.value (.func f),xs.toArray,au⟩) d ty as ops i→Fin P cx K l mt U hd id base i sl ms Γ m
 | .os A op ty as ops i sl ms Γ m=>Ud l mt U A op ty as ops i→Fin P cx K l mt U hd id base i sl ms Γ m
 | .ow _ A op d ty as ops i sl ms Γ m=>nw l mt U A op d ty as ops i→Fin P cx K l mt U hd id base i sl ms Γ m
 | .ix _ v fr x y t A d ty as ops i sl ms Γ m=>eQ A none sl base fr→bj fr x=some v→nw l mt U A (.indexAddr t x y) d ty as ops i→Fin P cx K l mt U hd id base i sl ms Γ m
 | .lb _ v j fr t x A d ty as ops i sl ms Γ m=>eQ A none sl base fr→bj fr x=some (.pointer (some (cw v 1 j)))→NA P t→nw l mt U A (.load t x) d ty as ops i→Fin P cx K l mt U hd id base i sl ms Γ m
 | .ap us t1 t2 t A d ty as ops i sl ms Γ m=>U.getD i []=us→nw l mt U A (.call ⟨.builtin .append,#[.tmp t1,.tmp t2],#[t,t]⟩) d ty as ops i→Fin P cx K l mt U hd id base i sl ms Γ m
 | .la fr a lk t x A d ty as ops i sl ms Γ m=>eQ A none sl base fr→bj fr x=some (.pointer (some a))→(match lk with | none=>NA P t | some n=>AG P t n)→nw l mt U A (.load t x) d ty as ops i→Fin P cx K l mt U hd id base i sl ms Γ m
 | .ld E z fr a t x A d ty as ops i sl ms Γ m=>eQ A none sl base fr→bj fr x=some (.pointer (some a))→NA P t→nw l mt U A (.load t x) d ty as ops i→
   ∀ B o,m=some o→∀ r0 w0 H Z,cj r0 base→qv B Z hd Γ H w0→(∃ u,∀ w,an H w0 w→w.cell? a=some u∧∃ g,E.rep w.heap [u] z g)→iv P Z l mt U r0 w0 H i sl ms→mf P cx.n l (l9 P cx B K o) r0 w0
 | .p Δ as ops i sl ms Γ m=>zI l mt U as ops i→Fin P cx K l mt U hd id base i sl ms (Δ.reverse++Γ) m
 | .cr u ps d as ops i sl ms Γ m=>zI l mt U as ops (i+1)→bu l i=some d→
   ∀ B o,m=some o→∀ r0 w0 H Z,cj r0 base→qv B Z hd Γ H w0→CO P Z l mt U r0 w0 H i sl ms ⟨i,d,[],_,fun _=>u,fun _=>ps⟩→mf P cx.n l (l9 P cx B K o) r0 w0
theorem xR {w:World} {e n:Nat} {v:Value} {us:List (List Value)} {f:LN} {j:Int} {c:LV} (hO:(aK e (ji n)).rep w.heap [v] us f) (hj:0≤j) (hu:us[j.toNat]? = some c):c.length=n∧(∀ u∈c,u.oneCell'=true)∧∀ i u,c[i]? = some u→w.cell? ((cw v n j).add i)=some u:=by
 obtain ⟨_,_,cs,f1,⟨rfl,h1,h2,_⟩,_,h3⟩:=sK (((Le.own (Le.refl (ji n)) e).le) hO) j hj hu
 exact ⟨h1,h2,h3⟩
theorem Pe {α:Type} {E:ah α} {h:Array Obj}:∀ {xs:List α} {cs:LV} {f:LN} (n m:Nat),du E h cs xs f→∃ f3,du E h ((cs.drop (n * E.size)).take (m * E.size)) ((xs.drop n).take m) f3∧∀ b∈f3,b∈f:=by
 intro xs
 induction xs with
 | nil=>rintro cs f n m ⟨rfl,rfl⟩; exact ⟨[],by simpa using ⟨rfl,rfl⟩,fun _ h=>h⟩
 | cons x xs ih=>
  rintro cs f n m ⟨c,ds,f1,f2,rfl,rfl,h1,h2⟩
  cases n with
  | zero=>
   cases m with
   | zero=>exact ⟨[],by simpa using ⟨rfl,rfl⟩,fun _ h=>absurd h List.not_mem_nil⟩
   | succ m=>
    obtain ⟨f3,h3,h4⟩:=ih 0 m h2
    simp only [Nat.zero_mul,List.drop_zero] at h3 ⊢
    refine ⟨f1++f3,?_,fun b hb=>(List.mem_append.1 hb).elim (List.mem_append_left _) fun hb=>List.mem_append_right _ (h4 b hb)⟩
    have e:(m+1) * E.size=c.length+m * E.size:=by rw [E.len h1,Nat.add_mul,Nat.one_mul,Nat.add_comm]
    rw [e,List.take_append,List.take_of_length_le (by omega),List.take_succ_cons]
    exact ⟨c,_,f1,f3,rfl,rfl,h1,by simpa using h3⟩
  | succ n=>
   obtain ⟨f3,h3,h4⟩:=ih n m h2
   refine ⟨f3,?_,fun b hb=>List.mem_append_right _ (h4 b hb)⟩
   have e:(n+1) * E.size=c.length+n * E.size:=by rw [E.len h1,Nat.add_mul,Nat.one_mul,Nat.add_comm]
   rw [e,List.drop_append,List.drop_of_length_le (by omega),List.nil_append,List.drop_succ_cons]
   simpa using h3
theorem Pf {Z:Nat→Prop} {w:World} {cur g:LN} {o:Bool} {α:Type} {E:ah α} {base:Option Addr} {cap a b:Nat} {xs:List α} (hE:E.size=1) (hr:(aD E).rep w.heap [.slice base xs.length cap] xs g) (hg:∀ i∈g,tY o Z cur i) (uk:a≤b) (hb:b≤xs.length) (hc:xs.length≤cap) :
  fact Z w cur (.rd o (aD E) (sliced base a b cap 1) ((xs.drop a).take (b - a))):=by
 have hlen:((xs.drop a).take (b - a)).length=b - a:=by rw [List.length_take,List.length_drop]; omega
 obtain ⟨J4,OC,hv,ee⟩:=hr
 obtain ⟨rfl,rfl⟩ : base=J4∧cap=OC:=by simpa using hv
 by_cases hj:a=b
 ·subst hj
  exact ⟨[],⟨_,cap - a,by unfold sliced; rw [hlen],.inl ⟨by simp,rfl⟩⟩,fun _ h=>absurd h List.not_mem_nil⟩
 ·rcases ee with ⟨rfl,_⟩ | ⟨b0,off,cr,e',fz,f',rfl,g1,rfl,g2⟩
  ·exfalso; simp at hb; omega
  ·have kh : ¬ (cap=a):=by omega
   obtain ⟨f3,dk,cb⟩:=Pe a (b - a) g2
   refine ⟨b0 :: f3,⟨some ⟨b0,off+a,none⟩,cap - a,?_,.inr ⟨b0,off+a,cr,e',fz,f3,rfl,g1,rfl,?_⟩⟩,fun i hi=>?_⟩
   ·unfold sliced
    rw [hlen,if_neg kh]
    simp [iy]
   ·rw [hE,Nat.mul_one,Nat.mul_one,Nat.mul_one,List.drop_take,List.take_take,List.drop_drop,Nat.min_eq_left (by omega)] at dk
    rw [hE,Nat.mul_one,hlen]
    exact dk
   ·rcases List.mem_cons.1 hi with rfl | hi
    ·exact hg _ (by simp)
    ·exact hg _ (List.mem_cons_of_mem _ (cb i hi))
theorem AD.sound {tq:Bool} {mt id:Nat} (hh:lr l mt base=true)
  (sa:∀ hd i sl ms Γ m,CN ms=true→Ev U sl ms=true→(∀ x:mq ms,D P cx (.p (AX sl (mF ms x)) (Eu ms x) base Γ fun fr Γ=>.tg tq (CJ tail) l tail K Γ fr m))→Kt P cx K l mt U hd id base (.a [] [] i sl ms Γ m))
  {J:JA R S} (h:AD tq P cx K l tail base U hd J):Kt P cx K l mt U hd id base J:=by
 have stay:∀ {B:Bs} {Z:Nat→Prop} {hd Γ:QE} {H:LN} {w0:World},qv B Z hd Γ H w0→∃ F Hd,(SA Z w0 hd [] Hd∧(∀ b∈Hd,b∈H∧b < w0.heap.size)∧(∀ b∈H,b < w0.heap.size)∧Hd.Nodup)∧SA Z w0 Γ [] F∧Gd B Z (H++F) w0∧∀ w,an H w0 w→SA Z w Γ [] F:=by
  rintro B Z hd Γ H w0 ⟨F,Hd,h1,h2,h3⟩
  exact ⟨F,Hd,h1,h2,h3,fun w hC=>qv.stay h2 h3 hC⟩
 induction h with
 | nil hs he h=>exact sa _ _ _ _ _ _ hs he h
 | cons _ ih=>exact fun h=>ih h.cons
 | Kh _ ih=>exact fun h=>ih h.Kh
 | TR h1 hv hy hc hn cu ho h4 h6 _ ih=>
  rename_i ht _
  intro h B o bw r0 w0 H Z ha hs hp
  obtain ⟨F,_,_,_,_,hK⟩:=stay hs
  exact ih h.n B o bw r0 w0 H Z ha hs (Sp hh ha ht h1 hv hy hc hn cu ho h4 h6 hK h hp)
 | ixs hv hx _ _ ih=>exact fun h1=>ih hv hx h1
 | @ZW hd α A as d x y v k j t ty o1 o2 E xs ops i sl ms fr Γ ig f ht hy hr hE _ ih=>
  intro hv hx h1 B o ho r0 w0 H Z ha hs hp
  obtain ⟨z,hz,ho⟩:=bind_some ho
  replace hz:=qm hz
  obtain ⟨e,ii,q1,q2,q3⟩:=ht.h
  obtain ⟨F,Hd,⟨hL,MB⟩,hS,hG,hK⟩:=stay hs
  obtain ⟨di,_,⟨⟨n,hn,_⟩,Me⟩,te⟩:=(hr z).sound hL
  obtain ⟨⟨a,c,mm⟩,bg,_⟩:=sK hn j hz.1 hz.2
  refine ih z h1.n B o ho r0 w0 H Z ha ⟨F,Hd,⟨te (Me hE j z hz.1 hz.2),MB⟩,hS,hG⟩ (hp.val hh ha h1 hv fun r ee _ _ _ w hC=>?_)
  rw [lp q1 q2 ((aU ee hx).trans mm) (aU ee hy) hz.1 (by omega),q3,mm]
  rfl
 | @idx hd α A as d x y v k j t ty o1 o2 E xs ops i sl ms fr Γ Γ' f ht hy hr hE _ ih=>
  intro hv hx h1 B o ho r0 w0 H Z ha hs hp
  obtain ⟨z,hz,ho⟩:=bind_some ho
  replace hz:=qm hz
  obtain ⟨F,Hd,hL,hS,hG,hK⟩:=stay hs
  obtain ⟨di,_,⟨⟨n,hn,_⟩,Me⟩,te⟩:=(hr z).sound hS
  refine ih z h1.n B o ho r0 w0 H Z ha ⟨F,Hd,hL,te (Me hE j z hz.1 hz.2),hG⟩ (hp.val hh ha h1 hv fun r ee _ _ _ w hC=>?_)
  obtain ⟨_,_,⟨⟨n',nu,_⟩,_⟩,_⟩:=(hr z).sound (hK w hC)
  exact Ix ht.h nu hz (aU ee hx) (aU ee hy) hE w (an.refl _ _)
 | @Yv hd α β A as d x y v k j t ty o1 o2 p1 p2 E E2 z xs ops i sl ms fr Γ Γx m ht hy hr hi hE _ ih=>
  intro hv hx h1 B o ho r0 w0 H Z ha hs hp
  obtain ⟨F,Hd,hL,hS,hG,hK⟩:=stay hs
  refine ih h1.n B o ho r0 w0 H Z ha ⟨F,Hd,hL,hS,hG⟩ (hp.val hh ha h1 hv fun r ee _ _ _ w hC=>?_)
  obtain ⟨_,_,⟨⟨n',nu,_⟩,_⟩,_⟩:=hr.sound (hK w hC)
  obtain ⟨j0,j1⟩:=hi.ad hS
  obtain ⟨a,c,mm⟩:=sJ nu
  have bg:j.toNat < xs.length:=by rw [mm] at j1; exact j1
  exact Ix ht.h nu ⟨j0,List.getElem?_eq_getElem bg⟩ (aU ee hx) (aU ee hy) hE w (an.refl _ _)
 | pz _ ih=>exact ih
 | @pe hd e Δ as ops i sl ms Γ m _ ih=>
  intro h1
  have h2:=ih h1
  have h3:(e :: Δ).reverse++Γ=Δ.reverse++e :: Γ:=by rw [List.reverse_cons,List.append_assoc]; rfl
  rw [h3]
  exact h2
 | @Gv hd α V Sc cl en A as d n x y v xs k j t ty ops i sl ms fr Γ Γx f ht hy hr qu hn _ ih=>
  intro hv hx hA B o ho r0 w0 H Z ha hs hp
  replace qu:SO Sc V cl en:=by cases qu; assumption
  obtain ⟨z,hz,ho⟩:=bind_some ho
  replace hz:=qm hz
  obtain ⟨e,i',h1,h2,h3⟩:=ht.h
  obtain ⟨F,Hd,hL,hS,hG,hK⟩:=stay hs
  obtain ⟨di,_,⟨⟨f0,Co,tI⟩,_⟩,_⟩:=hr.sound hS
  have hZ:∀ b∈f0,Z b:=fun b hb=>(tI b hb).elim (fun h=>h) (fun h=>h)
  obtain ⟨⟨a,c,mm⟩,bg,cs,f1,dk,Mk,jf⟩:=sK Co j hz.1 hz.2
  have nu:(rP Sc).size=n:=hn
  rw [nu] at jf
  obtain ⟨u,rfl,su⟩:=qu.op dk.2
  have hblk:Z (cw v n j).block:=by
   obtain ⟨base,cap,mm,ee⟩:=Co
   rcases ee with ⟨rfl,_⟩ | ⟨b,off,cr,e',fz,f',rfl,_,rfl,_⟩
   ·simp at bg; omega
   ·obtain rfl:v = .slice (some ⟨b,off,none⟩) xs.length cap:=by simpa using mm
    have:(cw (.slice (some ⟨b,off,none⟩) xs.length cap) n j).block=b:=by unfold cw; rw [vy]
    rw [this]; exact hZ b (by simp)
  have GA:fact Z w0 [] (.au (cw v n j) (cl z u)):=⟨fun i u' hi=>jf i u' hi,fun _=>hblk⟩
  have eh:HL Z w0 (.au (cw v n j) (cl z u) :: en z u) []:=.fact GA (uX (su Z fun b hb=>hZ b (Mk b hb)))
  obtain ⟨F',uN,fw⟩:=eh.build hS
  refine ih z u hA.n B o ho r0 w0 H Z ha ⟨F',Hd,hL,fw,hG.perm (List.Perm.append_left H (by simpa using uN))⟩ (hp.val hh ha hA hv fun r ee _ _ _ w hC=>?_)
  rw [lp h1 h2 ((aU ee hx).trans mm) (aU ee hy) hz.1 (by omega),h3,mm]
  rfl
 | @T9 hd α V Sc cl en A as d n e bt x y v us xs k j t ty ops i sl ms fr Γ Γ1 f ht hy h1 hg qu _ ih=>
  intro hv hx hA B o ho r0 w0 H Z ha hs hp
  replace qu:SO Sc V cl en:=by cases qu; assumption
  obtain ⟨z,hz,ho⟩:=bind_some ho
  replace hz:=qm hz
  obtain ⟨q1,i',_,q2,_,_,q3,_⟩:=ht.h
  obtain ⟨F,Hd,hL,hS,hG,hK⟩:=stay hs
  obtain ⟨f0,F1,_,hO,_⟩:=h1.sound hS
  obtain ⟨g0,hk,nv⟩:=hg.rd hS []
  obtain ⟨c,g1,e1,e2,e3⟩:=De j.toNat hk.2.1 hz.2
  obtain ⟨u,rfl,su⟩:=qu.op e2
  have hlen:us.length=xs.length:=AQ hk.2.1
  have bg:j.toNat < xs.length:=(List.getElem?_eq_some_iff.1 hz.2).1
  have mm:∃ a c,v = .slice (some a) us.length c:=by
   obtain ⟨b0,cap,hv,hr⟩:=hO
   obtain rfl:v = .slice b0 us.length cap:=by simpa using hv
   rcases hr with ⟨_,_,rfl,_⟩ | ⟨b,cur,f',rfl,_⟩
   ·rw [← hlen] at bg; simp at bg
   ·exact ⟨_,_,rfl⟩
  obtain ⟨a,c',rfl⟩:=mm
  have eh:HL Z w0 (.rd false (Au us j) (.bool true) (cl z u) :: en z u) []:=.fact ⟨[],⟨rfl,⟨hz.1,e1⟩,rfl⟩,fun _ h=>absurd h List.not_mem_nil⟩ (uX (su Z fun b hb=>nv b (e3 b hb)))
  obtain ⟨F',uN,fw⟩:=eh.build hS
  refine ih z u hA.n B o ho r0 w0 H Z ha ⟨F',Hd,hL,fw,hG.perm (List.Perm.append_left H (by simpa using uN))⟩ (hp.val hh ha hA hv fun r ee _ _ _ w hC=>?_)
  rw [lp q1 q2 (aU ee hx) (aU ee hy) hz.1 (by omega),q3]
  rfl
 | @Yw hd A as d n e off x v u us j cs t ty ops i sl ms fr Γ Γ1 m h1 qf hc _ ih=>
  intro hv hx ht hA B o ho r0 w0 H Z ha hs hp
  obtain ⟨F,_,_,hS,_,hK⟩:=stay hs
  refine ih hA.n B o ho r0 w0 H Z ha hs (hp.val hh ha hA hv fun r hr _ _ _ w hC=>?_)
  obtain ⟨f,F1,_,hO,_⟩:=h1.sound (hK w hC)
  obtain ⟨_,⟨_,⟨hj,hu⟩,_⟩,_⟩:=qf.rd (hK w hC) []
  exact Ld ht ((xR hO hj hu).2.2 off u hc) (aU hr hx) w (an.refl _ _)
 | @Ua hd A as d n e x v u us j cs t ty ops i sl ms fr Γ Γ1 m h1 qf hc _ ih=>
  intro hv hx ht hA B o ho r0 w0 H Z ha hs hp
  obtain ⟨F,_,_,hS,_,hK⟩:=stay hs
  refine ih hA.n B o ho r0 w0 H Z ha hs (hp.val hh ha hA hv fun r hr _ _ _ w hC=>?_)
  obtain ⟨f,F1,_,hO,_⟩:=h1.sound (hK w hC)
  obtain ⟨_,⟨_,⟨hj,hu⟩,_⟩,_⟩:=qf.rd (hK w hC) []
  exact Ld ht ((xR hO hj hu).2.2 0 u hc) (aU hr hx) w (an.refl _ _)
 | load hv hx _ ih=>rename_i ht _; exact fun h1=>ih hv hx ht.h h1
 | lsw _ _ ih=>exact fun hv hx ht h1=>ih hv hx ht h1
 | @slH hd α o A as d x lo hi v k1 k2 a b E T xs t e ty ops i sl ms fr Γ Γ1 Γ' f ht hv hx Yx Yy hc hr hE _ ih=>
  intro h1 B oo ho r0 w0 H Z ha hs hp
  obtain ⟨ys,Up,ho⟩:=bind_some ho
  obtain ⟨j0,j1,j2,rfl⟩:=MC Up
  obtain ⟨e',i',q1,q2,q3⟩:=ht.h
  obtain ⟨F,Hd,hL,hS,hG,hK⟩:=stay hs
  obtain ⟨f1,F1,_,hO,_⟩:=hc.sound hS
  obtain ⟨base,cap,rfl,GK⟩ : ∃ base cap,v = .slice base xs.length cap∧xs.length≤cap:=by
   obtain ⟨base,cap,hv,hr⟩:=hO
   refine ⟨base,cap,by simpa using hv,?_⟩
   rcases hr with ⟨_,rfl,rfl,_⟩ | ⟨b0,cur,f0,_,_,_,xE,_⟩
   ·simp
   ·exact xE
  obtain ⟨di,_,⟨⟨g0,hg0,tI⟩,_⟩,te⟩:=(hr (sliced base a.toNat b.toNat cap 1) ((xs.drop a.toNat).take (b.toNat - a.toNat))).sound hS
  have hf:=Pf (a:=a.toNat) (b:=b.toNat) hE hg0 (fun i hi=>(tI i hi).elim (fun h=>h) fun h=>h) (by omega) (by omega) GK
  refine ih _ _ h1.n B oo ho r0 w0 H Z ha ⟨F,Hd,hL,te hf,hG⟩ (hp.val hh ha h1 hv fun r ee _ _ _ w hC=>?_)
  have q4:P.elem t=e':=by simp [Program.elem,q1]
  have q9:(sizeOf (P.elem t)).run P w = .ok 1 w:=by rw [q4]; simp [sizeOf,typeInfo,q2,q3]
  simp [execOp,aU ee hx,aU ee Yx,aU ee Yy,run_sliceAt_slice w t _ _ _ _ (by rw [q4]; exact q1),run_slice_lh (P:=P) w t base xs.length cap (by rw [q4]; exact q1) k1 k2 a b j0 j1 (by omega),q9,Result.andThen]
 | @ZX hd α A as d x v j E z o' t ty ops i sl ms fr Γ T8 ig m hV h Dn _ ih=>
  intro hv hx ht h1 B o ho r0 w0 H Z ha hs hp
  obtain ⟨F,Hd,⟨hL,MB⟩,hS,hG,hK⟩:=stay hs
  obtain ⟨_,⟨u,k,h3,h4,h5⟩,_⟩:=(h (.bool true)).sound hL
  obtain ⟨di,⟨u',k',YE,h5',h6⟩,te⟩:=(h u).sound hL
  rw [h3] at YE
  cases YE
  exact ih u h1.n B o ho r0 w0 H Z ha ⟨F,Hd,⟨(Dn u).sound h3 (te ⟨k',h5',h6⟩),MB⟩,hS,hG⟩ (hp.Z4 hh ha h1 hV hv fun r hr _ _ _ w hC=>Ld ht h3 (aU hr hx) w hC)
 | @TK hd α A as d x v j o E z t ty ops i sl ms fr Γ Γx m h _ ih=>
  intro hv hx ht h1 B o' ho r0 w0 H Z ha hs hp
  obtain ⟨F,Hd,hL,hS,hG,hK⟩:=stay hs
  obtain ⟨_,⟨u,k,h2,h3,_⟩,_⟩:=h.sound hS
  refine ih hv hx ht h1 B o' ho r0 w0 H Z ha hs ⟨u,fun w hC=>?_⟩ hp
  have hb:(cw v 1 j).block ∉ H:=fun hm=>(h.AR hS).elim (fun h=>h.elim (fun h=>absurd h List.not_mem_nil) fun h=>(List.nodup_append.1 hG.nd).2.2 _ hm _ h rfl) fun h=>hG.apart _ (List.mem_append_left _ hm) h
  have hc:=hC.cell hb h2
  obtain ⟨_,⟨u',k',h4,h5,_⟩,_⟩:=h.sound (hK w hC)
  rw [hc] at h4
  cases h4
  exact ⟨hc,k',h5⟩
 | TL h _ ih=>
  intro hv hx ht h1 B o ho r0 w0 H Z ha hs hp
  obtain ⟨F,_,_,hS,_,hK⟩:=stay hs
  exact ih h1.n B o ho r0 w0 H Z ha hs (hp.val hh ha h1 hv fun r hr _ _ _ w hC=>Ld ht (h.sound (hK w hC)) (aU hr hx) w (an.refl _ _))
 | Ma h _ ih=>
  intro hv hx ht h1 B o ho r0 w0 H Z ha hs hp
  obtain ⟨F,_,_,hS,_,hK⟩:=stay hs
  refine ih h1.n B o ho r0 w0 H Z ha hs (hp.val hh ha h1 hv fun r hr _ _ _ w hC=>?_)
  obtain ⟨h2,h3⟩:=h.sound (hK w hC)
  exact Lg ht h2 (aU hr hx) h3 w (an.refl _ _)
 | TM _ ih=>
  intro hv hx ht h1 B o ho r0 w0 H Z ha hs hu hp
  obtain ⟨u,hu⟩:=hu
  obtain ⟨_,_,h3,_⟩:=hu w0 (an.refl _ _)
  obtain rfl:u=_:=by simpa using h3
  exact ih h1.n B o ho r0 w0 H Z ha hs (hp.val hh ha h1 hv fun r hr _ _ _ w hC=>Ld ht (hu w hC).1 (aU hr hx) w (an.refl _ _))
 | TN _ ih=>
  intro hv hx ht h1 B o ho r0 w0 H Z ha hs hu hp
  obtain ⟨u,hu⟩:=hu
  obtain ⟨_,_,h3,_⟩:=hu w0 (an.refl _ _)
  obtain rfl:u=_:=by simpa using h3
  exact ih h1.n B o ho r0 w0 H Z ha hs (hp.val hh ha h1 hv fun r hr _ _ _ w hC=>Ld ht (hu w hC).1 (aU hr hx) w (an.refl _ _))
 | @TO hd α A as d x v j E z o' t ty ops i sl ms fr Γ Γ1 Γ' m h Dn _ ih=>
  intro hv hx ht h1 B o ho r0 w0 H Z ha hs hu hp
  obtain ⟨u,hu⟩:=hu
  obtain ⟨h2,_⟩:=hu w0 (an.refl _ _)
  obtain ⟨F,Hd,hL,hS,hG,hK⟩:=stay hs
  obtain ⟨di,⟨u',k',h4,h5,h6⟩,te⟩:=(h u).sound hS
  rw [h2] at h4
  cases h4
  exact ih u h1.n B o ho r0 w0 H Z ha ⟨F,Hd,hL,(Dn u).sound h2 (te ⟨k',h5,h6⟩),hG⟩ (hp.val hh ha h1 hv fun r hr _ _ _ w hC=>Ld ht (hu w hC).1 (aU hr hx) w (an.refl _ _))
 | @Gw hd α A as d t e ty E z0 bt ops i sl ms Γ m hz _ ih=>
  intro h1 B o ho r0 w0 H Z ha hs hp
  exact ih h1.n B o ho r0 w0 H Z ha hs (Su hz h1 hp)
 | L9 hU _ ih=>exact fun h1=>ih hU h1
 | @call hd β V A as d f xs au ty mo rt ps ops i sl ms fr Γ g hf hv hc hi fq hw _ ih=>
  intro _ h1 B o ho r0 w0 H Z ha hs hp
  obtain ⟨y,hy,ho⟩:=bind_some ho
  obtain ⟨pos,ab,h2⟩:=h1.o
  exact ih y h1.n (by unfold bu; rw [h2]; rfl) B o ho r0 w0 H Z ha hs (Pa hh hf hv hc hi fq hw h1 hy ha hs hp)
 | @Xr hd β V A as d f xs au ty mo rt ps ops i sl ms fr Γ g hf hV hv hc hi fq hw _ ih=>
  intro hU h1 B o ho r0 w0 H Z ha hs hp
  obtain ⟨y,hy,ho⟩:=bind_some ho
  obtain ⟨pos,ab,h2⟩:=h1.o
  exact ih y h1.n (by unfold bu; rw [h2]; rfl) B o ho r0 w0 H Z ha hs (Mr hh hf hv hU hV hc hi fq hw h1 hy ha hs hp)
 | @Kk hd β V A as d f xs au ty mo rt ps ops i sl ms fr Γ g hf hv hc hi fq _ ih=>
  intro hU h1 B o ho r0 w0 H Z ha hs hp
  obtain ⟨y,hy,ho⟩:=bind_some ho
  obtain ⟨pos,ab,h2⟩:=h1.o
  exact ih y h1.n (by unfold bu; rw [h2]; rfl) B o ho r0 w0 H Z ha hs (Mw hh hf hv hc hi fq h1 hy ha hs hp)
 | @GI hd β V A as d f xs au ty mo rt ps ops i sl ms fr Γ g hf hV hv hc hi fq _ ih=>
  intro hU h1 B o ho r0 w0 H Z ha hs hp
  obtain ⟨y,hy,ho⟩:=bind_some ho
  obtain ⟨pos,ab,h2⟩:=h1.o
  exact ih y h1.n (by unfold bu; rw [h2]; rfl) B o ho r0 w0 H Z ha hs (Kn hh hf hv hU hV hc hi fq h1 hy ha hs hp)
 | @GJ hd β V j1 a1 fg A as d f xs au ty mo rt ps ops i sl ms fr Γ g hf hg Dr h4 hv hc hi fq _ ih=>
  intro hU h1 B o ho r0 w0 H Z ha hs hp
  obtain ⟨y,hy,ho⟩:=bind_some ho
  obtain ⟨pos,ab,h2⟩:=h1.o
  exact ih y h1.n (by unfold bu; rw [h2]; rfl) B o ho r0 w0 H Z ha hs (let ⟨S',e1,e2,e3⟩:=Ko hh hf hv hU hg Dr h4 hc hi fq h1 hy ha hs hp; ⟨S',e1,e2.re (j5 (by rw [← h1.A]; exact iz.1 h4)).1,e3⟩)
 | @Xs hd β V j1 a1 fg A as d f xs au ty mo rt ps ops i sl ms fr Γ g hf hg Dr h4 hv hc hi fq hw _ ih=>
  intro hU h1 B o ho r0 w0 H Z ha hs hp
  obtain ⟨y,hy,ho⟩:=bind_some ho
  obtain ⟨pos,ab,h2⟩:=h1.o
  exact ih y h1.n (by unfold bu; rw [h2]; rfl) B o ho r0 w0 H Z ha hs (let ⟨S',e1,e2,e3⟩:=Ms hh hf hv hU hg Dr h4 hc hi fq hw h1 hy ha hs hp; ⟨S',e1,e2.re (j5 (by rw [← h1.A]; exact iz.1 h4)).1,e3⟩)
 | @crb hd u ps d as ops i sl ms Γ m _ ih=>
  intro h1 ig B o ho r0 w0 H Z ha hs ⟨S',hl,hR,hO,hL⟩
  subst hl
  refine ih h1 B o ho r0 w0 H Z ha hs ⟨S'++[⟨true,MV Z ⟨S'.length,d,[],Unit,fun _=>u,fun _=>ps⟩⟩],by simp,(hR.mem (b:=⟨S'.length,d,[],Unit,fun _=>u,fun _=>ps⟩) rfl ig (fun _ h=>nomatch h)).ZY (s:=⟨true,MV Z ⟨S'.length,d,[],Unit,fun _=>u,fun _=>ps⟩⟩) ig (by simp) rfl (fun f w r x ⟨v,h,_⟩=>h),fun j hj=>?_⟩
  by_cases h2:j < S'.length
  ·exact jj.more (hO j h2) h2
  ·obtain rfl:j=S'.length:=by omega
   exact hL _ fun f w r x h=>⟨f,fun _ h=>h,h⟩
 | @crv hd u d as ops i sl ms Γ m _ ih=>
  intro h1 ig B o ho r0 w0 H Z ha hs ⟨S',hl,hR,hO,hL⟩
  subst hl
  refine ih h1 B o ho r0 w0 H Z ha hs ⟨_,by simp,hR.val ig,fun j hj=>?_⟩
  by_cases h2:j < S'.length
  ·exact jj.more (hO j h2) h2
  ·obtain rfl:j=S'.length:=by omega
   exact hL (pl fun _ _ x=>x=_) fun f w r x ⟨v,h,_⟩=>⟨[],fun _ h=>absurd h List.not_mem_nil,h⟩
 | @crm hd V u ps d as ops i sl ms Γ m _ ih=>
  intro h1 ig B o ho r0 w0 H Z ha hs ⟨S',hl,hR,hO,hL⟩
  subst hl
  refine ih h1 B o ho r0 w0 H Z ha hs ⟨_,by simp,hR.mem rfl ig (fun _ h=>nomatch h),fun j hj=>?_⟩
  by_cases h2:j < S'.length
  ·exact jj.more (hO j h2) h2
  ·obtain rfl:j=S'.length:=by omega
   exact hL _ fun f w r x h=>⟨f,fun _ h=>h,h⟩
 | TQ hU _ ih=>exact fun h1=>ih hU h1
 | apL A9 hv cu h2 h3 h5 h6 hl hz h1 hr hi hn hb _ ih=>
  rename_i hT _
  intro hU h B o ho r0 w0 H Z ha hs hp
  obtain ⟨u,hu,ho⟩:=bind_some ho
  obtain ⟨p1,p2⟩:=Sy hh ha hT hU A9 hv cu h2 h3 h5 h6 hl hz h1 hr hi hn hb hu h hs hp
  exact ih h.n B o ho r0 w0 H Z ha p2 p1
 | apH A9 hv cu h2 h5 hl hz h1 hr hy _ ih=>
  rename_i hT _
  intro hU h B o ho r0 w0 H Z ha hs hp
  obtain ⟨u,hu,ho⟩:=bind_some ho
  obtain ⟨p1,p2⟩:=Sx hh ha hT hU A9 hv cu h2 h5 hl hz h1 hr hy hu h hs hp
  exact ih h.n B o ho r0 w0 H Z ha p2 p1
 | apM h1 h2 h3 uN hj kh h4 h5 h6 hi hn hb _ ih=>
  rename_i hT _
  intro hU h B o ho r0 w0 H Z ha hs hp
  obtain ⟨u,hu,ho⟩:=bind_some ho
  exact ih h.n B o ho r0 w0 H Z ha hs (Sz hT hU h1 h2 h3 uN hj kh h4 h5 h6 hi hn hb hu h hp)
 | ap1 h1 h2 h3 hw h4 h5 _ ih=>
  rename_i hz _
  intro h6 h B o ho r0 w0 H Z ha hs hp
  obtain ⟨u,hu,ho⟩:=bind_some ho
  exact ih h.n B o ho r0 w0 H Z ha hs (Sn hz h1 h2 h3 h4 h5 (h6.trans hw) hu h hp)
 | Rh h1 h3 hw h4 hv hx hr _ ih=>
  rename_i hz _
  intro h6 h B o ho r0 w0 H Z ha hs hp
  obtain ⟨u,hu,ho⟩:=bind_some ho
  obtain ⟨F,_,_,_,_,hK⟩:=stay hs
  exact ih h.n B o ho r0 w0 H Z ha hs (O8 hz h1 h3 h4 (h6.trans hw) hh ha hv hx hr hK hu h hp)
 | Ub h1 h3 hw h4 h2 h7 h5 _ ih=>
  rename_i hz _
  intro h6 h B o ho r0 w0 H Z ha hs hp
  obtain ⟨u,hu,ho⟩:=bind_some ho
  exact ih h.n B o ho r0 w0 H Z ha hs (O9 hz h1 h3 h4 (h6.trans hw) h2 h7 h5 hu h hp)
 | sw1 _ _ ih=>exact fun h1=>ih h1
 | sw2 _ _ ih=>exact fun h1=>ih h1
 | sw3 _ _ ih=>exact fun h1=>ih h1
 | sw4 _ _ ih=>exact fun h1=>ih h1
 | sw6 _ _ ih=>exact fun h1=>ih h1
 | wl0 _ ih=>exact fun h1=>ih h1
 | T6 _ ih=>
  rename_i hz _
  intro h1 B o ho r0 w0 H Z ha hs hp
  exact ih h1.n B o ho r0 w0 H Z ha hs (Sr hz h1 hp)
 | sw5 _ _ ih=>exact fun h1=>ih h1
 | mln hi fq hx _ ih=>
  rename_i ht _
  intro h1 B o ho r0 w0 H Z ha hs hp
  exact ih h1.n B o ho r0 w0 H Z ha hs (Uf hp h1 ht hi fq hx)
 | wv hv hq _ ih=>
  intro h1 B o ho r0 w0 H Z ha hs hp
  obtain ⟨F,_,_,_,_,hK⟩:=stay hs
  exact ih h1.n B o ho r0 w0 H Z ha hs (hp.val hh ha h1 hv fun r hr _ _ _ w hC=>hq.sound (hK w hC) hr _ _ _ _ _ w (an.refl _ _))
 | wlt hv hx ho _ ih=>
  rename_i hz _
  intro h1 B o bw r0 w0 H Z ha hs hp
  obtain ⟨F,_,_,_,_,hK⟩:=stay hs
  exact ih h1.n B o bw r0 w0 H Z ha hs (Uh hh ha hz hv hx ho hK h1 hp)
 | ltn hv ig hn hb _ ih=>
  rename_i hz _
  intro h1 B o bw r0 w0 H Z ha hs hp
  obtain ⟨F,_,_,_,_,hK⟩:=stay hs
  exact ih h1.n B o bw r0 w0 H Z ha hs (Jk hh ha hz hv ig hn hb hK h1 hp)
 | ltu hv ig hn hb _ ih=>
  rename_i hz _
  intro h1 B o bw r0 w0 H Z ha hs hp
  obtain ⟨F,_,_,_,_,hK⟩:=stay hs
  exact ih h1.n B o bw r0 w0 H Z ha hs (Jk hh ha ⟨hz.h⟩ hv ig hn hb hK h1 hp)
 | @s6 hd A as op x y k k' a b t t' d ty ops i sl ms fr Γ f hv hx hy hk _ ih=>
  intro h1 B o ho r0 w0 H Z ha hs hp
  obtain ⟨z,hz,ho⟩:=bind_some ho
  have wR:L8 op=true∨k=k':=by
   cases hk with
   | same=>exact .inr rfl
   | sh h=>exact .inl h
  exact ih z h1.n B o ho r0 w0 H Z ha hs (hp.val hh ha h1 hv fun r hr _ _ _ w hC=>Mi (aU hr hx) (aU hr hy) wR hz)
 | mk hv hx _ ih=>
  rename_i hz _
  intro h1 B o ho r0 w0 H Z ha hs hp
  obtain ⟨n,hn,ho⟩:=bind_some ho
  exact ih n h1.n B o ho r0 w0 H Z ha hs (Ug hh ha hz hv hx hn h1 hp)
 | mmv hi fq hj _ ih=>
  intro h1 B o ho r0 w0 H Z ha hs hp
  exact ih h1.n B o ho r0 w0 H Z ha hs (hp.dep (X:=fun u=>u) h1 hi fq hj fun r x hx w pos ab=>(Mv (W:=w) _ rfl) w (an.refl _ _))
 | @mex hd t k A as d ty ops i sl ms Γ m hi fq hj GY _ ih=>
  intro h1 B o ho r0 w0 H Z ha hs hp
  refine ih h1.n B o ho r0 w0 H Z ha hs (hp.dep (X:=fun u=>Ki u _) h1 hi fq hj fun r x hx w pos ab=>?_)
  obtain ⟨yS,hc⟩:=GY x
  have A6:=(p8 hx wI) _ _ (by rw [List.append_nil]; exact yS)
  have:=(Ex (W:=w) (P:=P) (r:=r) (d:=some d) (ty:=ty) (pos:=pos) (ab:=ab) (g:=none) _ (x:=.tmp t) A6 (by simpa using hc)) w (an.refl _ _)
  rw [this,A6]
  simp [Ki,hc]
 | mfd hi fq hj GY _ ih=>
  rename_i hf _
  intro h1 B o ho r0 w0 H Z ha hs hp
  refine ih h1.n B o ho r0 w0 H Z ha hs (hp.dep (X:=fun u=>Kj u _) h1 hi fq hj fun r x hx w pos ab=>?_)
  obtain ⟨yS,hc⟩:=GY x
  obtain ⟨fs,f,ds,q1,q2,q3,q4,q5⟩:=hf.h
  have A6:=(p8 hx wI) _ _ (by rw [List.append_nil]; exact yS)
  rw [CL q1 q2 q3 q4 q5 (x:=.tmp _) A6 (by simpa using hc),A6]
  simp [Kj,hc]
 | mif hi fq hj _ ih=>
  rename_i hf _
  intro h1 B o ho r0 w0 H Z ha hs hp
  obtain ⟨ds,q1,q2⟩:=hf.h
  exact ih h1.n B o ho r0 w0 H Z ha hs (hp.dep (X:=fun u=>.iface _ u) h1 hi fq hj fun r x hx w pos ab=>(If (W:=w) q1 q2 _ rfl) w (an.refl _ _))
 | mbl hi fq _ hj hv GY _ ih=>
  rename_i hb _ _
  intro h1 B o ho r0 w0 H Z ha hs hp
  exact ih h1.n B o ho r0 w0 H Z ha hs (Ss hh hb hi fq hj hv GY h1 ha hs hp)
 | mlt hi fq hj GY _ ih=>
  rename_i hz _
  intro h1 B o ho r0 w0 H Z ha hs hp
  exact ih h1.n B o ho r0 w0 H Z ha hs (Sw hz hi fq hj GY h1 hp)
 | val hv hq _ ih=>
  intro h1 B o ho r0 w0 H Z ha hs hp
  obtain ⟨F,_,_,_,_,hK⟩:=stay hs
  exact ih h1.n B o ho r0 w0 H Z ha hs (hp.val hh ha h1 hv fun r hr _ _ _ w hC=>hq.sound (hK w hC) hr _ _ _ _ _ w (an.refl _ _))
end
end Go.Dk
namespace Go.Dk
open Go Go.Li
section
variable {R S:Type} {P:Program} {cx:Cx R} {K:df R S} {l tail:LO} {base fr:Fr} {w:World} {Z:Nat→Prop}
theorem IF {n:Nat} {Q:Exit→(Nat→Value)→World→Prop} {r:Nat→Value} (hQ:∀ c,¬ Q (.panic c) r w):∀ gj,∀ c,¬ zA P n Q gj (.panic c) r w:=by
 intro gj
 induction gj with
 | nil=>exact hQ
 | cons a gj ih=>cases a <;> exact ih
theorem IG {B:Bs} {b:Kb R S} {o:Out S R} {r:Nat→Value}:∀ c,¬ F5 P cx B b o (.panic c) r w:=by
 intro c
 cases b <;> cases o <;> exact fun h=>h
theorem r7 {B:Bs} {K:df R S} {o:Out S R} {r:Nat→Value}:∀ c,¬ l9 P cx B K o (.panic c) r w:=IF IG _
def zQ (g:Nat→List Nat):List ei→List Nat
 | []=>[]
 | a :: l=>g a.j++zQ g l
theorem CP {g:Nat→List Nat}:∀ {ms:MM} {b:Nat},b∈zQ g ms→∃ a∈ms,b∈g a.j:=by
 intro ms
 induction ms with
 | nil=>intro b h; exact absurd h List.not_mem_nil
 | cons a ms ih=>
  intro b h
  rcases List.mem_append.1 h with h | h
  ·exact ⟨a,by simp,h⟩
  ·obtain ⟨c,h1,h2⟩:=ih h
   exact ⟨c,List.mem_cons_of_mem _ h1,h2⟩
theorem Jn {Vo Vr A F:LN} (h:(Vo++Vr).Perm A):((Vo++F)++Vr).Perm (A++F):=by
 refine List.Perm.trans ?_ (h.append_right F)
 rw [List.append_assoc,List.append_assoc]
 exact List.Perm.append_left Vo List.perm_append_comm
theorem Ri {g:Nat→List Nat} {r:Nat→Value}:∀ {ms:MM},CN ms=true→(ms.map (·.j)).Nodup→(∀ a∈ms,∀ b∈ms,a.j≠b.j→rZ (g a.j) (g b.j))→(∀ a∈ms,MV Z a (g a.j) w r (r a.d))→
  ∃ x:mq ms,(∀ p∈mF ms x,r p.1=p.2)∧(∃ Vo Vr,(Vo++Vr).Perm (zQ g ms)∧(∀ b∈Vr,b < w.heap.size)∧HL (qz Z Vr) w (Eu ms x) Vo)∧(zQ g ms).Nodup:=by
 intro ms
 induction ms with
 | nil=>intro _ _ _ _; exact ⟨(),fun p hp=>absurd hp List.not_mem_nil,⟨[],[],.refl _,fun b (h:b∈[])=>absurd h List.not_mem_nil,.nil⟩,List.nodup_nil⟩
 | cons a ms ih=>
  intro fq hd hi h
  unfold CN at fq
  rw [Bool.and_eq_true] at fq
  rw [List.map_cons,List.nodup_cons] at hd
  obtain ⟨x,hx,hl,hn⟩:=ih fq.2 hd.2 (fun b hb c hc=>hi b (List.mem_cons_of_mem _ hb) c (List.mem_cons_of_mem _ hc)) fun b hb=>h b (List.mem_cons_of_mem _ hb)
  obtain ⟨v,e1,e2,e3⟩:=h a (by simp)
  have es:uZ a r=AV a (mF ms x):=by
   have h3:=fq.1
   rw [List.all_eq_true] at h3
   refine BZ fun t ht=>?_
   unfold xN
   rw [O1 (h3 t ht) hx]
  rw [es] at e1 e2
  refine ⟨(v,x),?_,?_,tN e3 hn ?_⟩
  rotate_left
  ·obtain ⟨Fo,Fr,hf,h1,h2⟩:=e2.all
   obtain ⟨Vo,Vr,k1,k2,k3⟩:=hl
   refine ⟨Fo++Vo,Fr++Vr,?_,fun b hb=>(List.mem_append.1 hb).elim (h1 b) (k2 b),(h2.mono fun b h=>h.imp id fun h=>List.mem_append_left _ h).app (k3.mono fun b h=>h.imp id fun h=>List.mem_append_right _ h)⟩
   show List.Perm _ (g a.j++zQ g ms)
   rw [hf]
   refine List.Perm.trans ?_ (k1.append_left (Fo++Fr))
   rw [List.append_assoc,List.append_assoc]
   refine List.Perm.append_left Fo ?_
   rw [← List.append_assoc,← List.append_assoc]
   exact List.Perm.append_right Vr List.perm_append_comm
  rotate_right
  ·intro p hp
   rcases List.mem_cons.1 hp with rfl | hp
   ·exact e1
   ·exact hx p hp
  ·intro b hb hm
   obtain ⟨c,h1,h2⟩:=CP hm
   exact hi a (by simp) c (List.mem_cons_of_mem _ h1) (fun e=>hd.1 (by rw [e]; exact List.mem_map_of_mem h1)) b hb h2
theorem GZ {r:Nat→Value} {f:Fr}:∀ {sl:List (Nat×Nat×Value)},(∀ p∈sl,r p.2.1=p.2.2)→(∀ p∈f,r p.1=p.2)→∀ p∈AX sl f,r p.1=p.2:=by
 intro sl
 induction sl with
 | nil=>intro _ h; exact h
 | cons a sl ih=>
  intro h1 h2 p hp
  rcases List.mem_cons.1 hp with rfl | hp
  ·exact h1 a (by simp)
  ·exact ih (fun p hp=>h1 p (List.mem_cons_of_mem _ hp)) h2 p hp
theorem SB {mt id:Nat} {U:List (List Nat)} {Zl:LN} {Uq:QE} (hU:((List.range mt).all fun i=>(U.getD i []).all fun u=>Nat.beq u l.length || ((cf l).getD i []).contains u)=true) (hh:lr l mt base=true) (hd:db cx.n l=true) (hA:zR l mt Zl=true) (hZ:G0 l mt Zl=true) (G4:mt≤l.length) (ht:tail=l.drop mt) {i:Nat} {sl:List (Nat×Nat×Value)} {ms:MM} {Γ:QE} {m:Option (Out S R)} (Ur:CN ms=true) (su:Ev U sl ms=true)
  (h:∀ x:mq ms,D P cx (.p (AX sl (mF ms x)) (Eu ms x) base Γ fun fr Γ=>.tg false (CJ tail) l tail K Γ fr m)):Kt P cx K l mt U Uq id base (.a [] [] i sl ms Γ m):=by
 rintro ⟨_,h2,h3⟩ B o ho r0 w0 H Z ha hs ⟨S',hl,hR,hO⟩
 have hi:i=mt:=by
  have:=congrArg List.length h2
  simp at this
  omega
 subst hl
 obtain ⟨F,Hd,⟨tM,wg,sX,wh⟩,hS,hG⟩:=hs
 refine Us (N:=Z) (S:=S') (U:=U) (H:=H) hd hA hZ (fun c r w h=>r7 c h) G4 hi sX hU (fun b hb=>⟨hG.ml b hb,fun h=>hG.apart b (List.mem_append_left _ h) hb⟩) (fun i s hs=>hR.s i s hs) (fun j hj=>hO j (by omega)) ?_
 intro g r w hI
 have Ku:∀ k j,j∈U.getD k []→∀ a∈ms,a.j≠j:=by
  intro k j hj
  unfold Ev at su
  rw [List.getD_eq_getElem?_getD] at hj
  cases hk:U[k]? with
  | none=>rw [hk] at hj; exact absurd hj List.not_mem_nil
  | some us=>
   rw [hk] at hj
   have h1:=List.all_eq_true.1 (List.all_eq_true.1 su us (List.mem_of_getElem? hk)) j hj
   intro a ha he
   have:=List.all_eq_true.1 h1 a ha
   rw [he,Nat.beq_refl] at this
   cases this
 have hD:∀ j,j < mt→(∀ k,j ∉ U.getD k [])→wW l S' j g r w:=fun j hj hn=>hI.done j hj fun k _=>hn k
 have bg:∀ a∈ms,a.j < mt:=fun a ha=>hi ▸ hR.lt ha
 obtain ⟨x,hx,uO,Ut⟩:=Ri (g:=g) (r:=r) (w:=w) Ur hR.d (fun a ha b hb uk=>hI.wi _ _ (bg a ha) (bg b hb) uk) fun a ha=>by
  have:=hR.wV (S2:=[]) ha (by rw [List.append_nil]; exact hD a.j (bg a ha) (fun k hk=>Ku k _ hk a ha rfl))
  exact this
 have Dx:=List.nodup_append.1 hG.nd
 have my:∀ b∈zQ g ms,w0.heap.size≤b∨b∈H:=fun b hb=>by
  obtain ⟨a,h1,h2⟩:=CP hb
  exact (hI.fresh a.j (bg a h1) b h2).1.imp (fun h=>h) (·.1)
 have ed:=qv.stay hS hG hI.iH
 obtain ⟨Vo,Vr,Uu,Uv,uO⟩:=uO
 obtain ⟨F',hp,fw⟩:=uO.build (ed.mono (fun _ h=>.inl h) fun _ h=>h)
 have vF:Gd B Z (zQ g ms++F) w:=by
  refine ⟨tN Ut Dx.2.1 fun b hb hF=>(my b hb).elim (fun h=>Nat.lt_irrefl _ (Nat.lt_of_lt_of_le (hS.lt b hF) h)) (fun h=>Dx.2.2 b h b hF rfl),?_,fun b hb=>Nat.lt_of_lt_of_le (hG.ml b hb) hI.iH.size,?_,hG.tE,hG.sW,hG.iH.then hI.iH fun b hb=>hG.low b (List.mem_append_left _ hb)⟩
  ·intro b hb hz
   rcases List.mem_append.1 hb with hb | hb
   ·exact (my b hb).elim (fun h=>Nat.lt_irrefl _ (Nat.lt_of_lt_of_le (hG.ml b hz) h)) (fun h=>hG.apart b (List.mem_append_left _ h) hz)
   ·exact hG.apart b (List.mem_append_right _ hb) hz
  ·intro b hb
   rcases List.mem_append.1 hb with hb | hb
   ·exact (my b hb).elim (fun h=>.inr (Nat.le_trans hG.iH.size h)) (fun h=>hG.low b (List.mem_append_left _ h))
   ·exact hG.low b (List.mem_append_right _ hb)
 have Pg:cj r ((AX sl (mF ms x)).reverse++base):=by
  refine p9 (GZ (fun p hp=>?_) hx) (jc hh ha hI.other)
  exact hR.xO (S2:=[]) hp fun j _ hj=>(by rw [List.append_nil]; exact hI.s7 j (hi ▸ hj))
 have:=(h x).sound B o ho r w Pg ⟨_,F',fw,((vF.perm (Jn Uu)).freeze Uv).perm hp⟩
 rw [ht] at this
 exact this
def Kq (q:Option (Bool×Nat×Value)) (f:Fr):Fr:=
 match q with
 | none=>f
 | some (_,d,u)=>(d,u) :: f
theorem Kp.lk {ws:LN} {q:Option (Bool×Nat×Value)} {f g:Fr} (h:Kp ws q f g):(∀ b d u,q=some (b,d,u)→b=dv d ws)→∀ t v,look g t=some v→dv t ws=false∧look (Kq q f) t=some v:=by
 induction h with
 | nil=>intro _ t v h; cases h
 | cons _ ih=>intro _ t v h; exact ih (by rintro b d u h; cases h; rfl) t v h
 | @drop ws d u f g _ ih=>
  intro hq t v h
  obtain ⟨h1,h2⟩:=ih (by rintro b d u h; cases h) t v h
  refine ⟨h1,?_⟩
  show look ((d,u) :: f) t=some v
  unfold look
  cases hb:Nat.beq t d with
  | true=>have:=hq true d u rfl; rw [Nat.eq_of_beq_eq_true hb,← this] at h1; cases h1
  | false=>exact h2
 | @dy ws d u f g _ ih=>
  intro hq t v h
  unfold look at h
  show dv t ws=false∧look ((d,u) :: f) t=some v
  unfold look
  cases hb:Nat.beq t d with
  | true=>rw [hb] at h; exact ⟨by rw [Nat.eq_of_beq_eq_true hb]; exact (hq false d u rfl).symm,h⟩
  | false=>
   rw [hb] at h
   obtain ⟨h1,h2⟩:=ih (by rintro b d u h; cases h) t v h
   unfold dv at h1
   rw [hb] at h1
   exact ⟨h1,h2⟩
theorem Kp.sound {ws:LN} {f g:Fr} {r:Nat→Value} (h:Kp ws none f g) (ha:cj r f):cj r g:=
 fun t v hl=>ha t v (h.lk (by rintro b d u h; cases h) t v hl).2
theorem Uw {id:Nat} (hd:QE) (mt:Nat) (Zl:LN) (U as:List (List Nat)) {ops:LO} {Γ Γ1:QE} {fr:Fr} {m:Option (Out S R)}
  (hB:(P.follows .mixedOrders && db cx.n l && zR l mt Zl && G0 l mt Zl && Nat.ble mt l.length && (qn l U mt == as) && ((List.range mt).all fun i=>(U.getD i []).all fun u=>Nat.beq u l.length || ((cf l).getD i []).contains u))=true)
  (ho:ops=l.take mt) (ht:tail=l.drop mt) (hf:Kp (zB ops) none fr base) (hh:lr l mt base=true) (he:EO Γ hd Γ1) (G5:OW Γ hd)
  (h:AD false P cx K l tail base U hd (.a as ops 0 [] [] Γ1 m)):∀ B o,m=some o→∀ r w,cj r fr→St B Γ w→mf P cx.n l (l9 P cx B K o) r w:=by
 simp only [Bool.and_eq_true] at hB
 obtain ⟨⟨⟨⟨⟨⟨_,b2⟩,b3⟩,b4⟩,b5⟩,b6⟩,b7⟩:=hB
 intro B o hm r w ha hs
 obtain ⟨Z,F,hS,hG⟩:=hs
 obtain ⟨Fd,F',h1,h2,h3⟩:=he.sound hS
 have G6:SA Z w hd [] Fd:=by
  have:=(HO.hl G5 hS h1).front (Γ:=[]) (F:=[]) rfl
  simpa using this
 have hX:qv B Z hd Γ1 Fd w:=⟨F',Fd,⟨G6,fun b hb=>⟨hb,G6.lt b hb⟩,G6.lt,(List.nodup_append.1 (hG.perm h3).nd).1⟩,h2,hG.perm h3⟩
 refine AD.sound (id:=id) hh (fun _ _ _ _ _ _ hs he h=>SB b7 hh b2 b3 b4 (Nat.le_of_ble_eq_true b5) ht hs he h) h
  ⟨by rw [List.drop_zero]; exact (eq_of_beq b6).symm,by rw [List.drop_zero]; exact ho,Nat.zero_le _⟩ B o hm r w Fd Z (hf.sound ha) hX ⟨[],rfl,⟨fun _ h=>absurd h List.not_mem_nil,fun _ h=>absurd h List.not_mem_nil,fun i s h=>by simp at h,List.nodup_nil,fun _ _ _ h1 h2=>Dy l (MD b3) h1 h2⟩,fun j hj=>absurd hj (Nat.not_lt_zero j)⟩
theorem um {id:Nat} (hd:QE) (mt:Nat) (Zl:LN) (U as:List (List Nat)) {ops:LO} {Γ Γ1:QE} {fr:Fr} {m:Option (Out S R)}
  (hB:(P.follows .mixedOrders && db cx.n l && zR l mt Zl && G0 l mt Zl && Nat.ble mt l.length && (qn l U mt == as) && ((List.range mt).all fun i=>(U.getD i []).all fun u=>Nat.beq u l.length || ((cf l).getD i []).contains u))=true)
  (ho:ops=l.take mt) (ht:tail=l.drop mt) (hf:Kp (zB ops) none fr base) (hh:lr l mt base=true) (he:EO Γ hd Γ1) (G5:OW Γ hd)
  (h:AD false P cx K l tail base U hd (.a as ops 0 [] [] Γ1 m)):Bx (mb P cx (.dr id l K Γ fr m)):=by
 have hm:P.follows .mixedOrders=true:=by
  simp only [Bool.and_eq_true] at hB
  exact hB.1.1.1.1.1.1
 rw [kz]
 intro B o uP r w ha hs
 exact (Uw (id:=id) hd mt Zl U as hB ho ht hf hh he G5 h B o uP r w ha hs).W hm
theorem Z5 {id:Nat} {l0:LO} (σ π:LN) (hd:QE) (mt:Nat) (Zl:LN) (U as:List (List Nat)) {ops:LO} {Γ Γ1:QE} {fr:Fr} {m:Option (Out S R)}
  (hB:(P.follows .mixedOrders && Ph l0 σ π && db cx.n (py l0 σ π) && zR (py l0 σ π) mt Zl && G0 (py l0 σ π) mt Zl && Nat.ble mt (py l0 σ π).length && (qn (py l0 σ π) U mt == as) && ((List.range mt).all fun i=>(U.getD i []).all fun u=>Nat.beq u (py l0 σ π).length || ((cf (py l0 σ π)).getD i []).contains u))=true)
  (hl:l=py l0 σ π) (ho:ops=l.take mt) (ht:tail=l.drop mt) (hf:Kp (zB ops) none fr base) (hh:lr l mt base=true) (he:EO Γ hd Γ1) (G5:OW Γ hd)
  (h:AD false P cx K l tail base U hd (.a as ops 0 [] [] Γ1 m)):Bx (mb P cx (.dr id l0 K Γ fr m)):=by
 subst hl
 simp only [Bool.and_eq_true] at hB
 obtain ⟨⟨⟨⟨⟨⟨⟨b0,b1⟩,b2⟩,b3⟩,b4⟩,b5⟩,b6⟩,b7⟩:=hB
 rw [kz]
 intro B o uP r w ha hs
 refine ((Uw (id:=id) hd mt Zl U as ?_ ho ht hf hh he G5 h B o uP r w ha hs).prm b1).W b0
 simp only [Bool.and_eq_true]
 exact ⟨⟨⟨⟨⟨⟨b0,b2⟩,b3⟩,b4⟩,b5⟩,b6⟩,b7⟩
theorem any {id:Nat} (mt:Nat) (Zl:LN) (U as:List (List Nat)) {ops:LO} {Γ:QE} {fr:Fr} {m:Option (Out S R)}
  (hB:(P.follows .mixedOrders && db cx.n l && zR l mt Zl && G0 l mt Zl && Nat.ble mt l.length && (qn l U mt == as) && ((List.range mt).all fun i=>(U.getD i []).all fun u=>Nat.beq u l.length || ((cf l).getD i []).contains u))=true)
  (ho:ops=l.take mt) (ht:tail=l.drop mt) (hf:Kp (zB ops) none fr base) (hh:lr l mt base=true)
  (h:AD false P cx K l tail base U [] (.a as ops 0 [] [] Γ m)):Bx (mb P cx (.dr id l K Γ fr m)):=um [] mt Zl U as hB ho ht hf hh .nil .nil h
end
end Go.Dk
