/- A calculus of walks: regions that draw their order and make memory. No condition. -/
import Derived.Test.YtbmchcnkbonmkaaGreatDe
import Derived.Laws.Slices
namespace Go.Dk
open Go Go.Li
section
variable {w:World}
def vr {α:Type} (e:TI) (E:ai α) (j:Nat):ai (List α) where
 size:=1
 rep h cs xs f:=∃ b cap cur f1 f2 p c0 q,cs=[.slice (some ⟨b,0,none⟩) xs.length cap]∧h[b]? = some (.cells cur e (0,0))∧f=b :: (f1++f2)∧(xs.length≤cap∧cap≤maxLen∧cur.size=cap∧E.size=1)∧cur.toList.take xs.length=p++[c0]++q∧(p.length=j∧j < xs.length)∧
  (∀ i∈f1++f2,i < h.size)∧∀ h':Array Obj,(∀ i∈f1++f2,h'[i]? = h[i]?)→∀ u z k,E.rep h' [u] z k→dv E h' (p++[u]++q) (xs.set j z) (f1++k++f2)
 len:=by rintro h cs x f ⟨b,cap,cur,f1,f2,p,c0,q,rfl,_⟩; rfl
 one:=by rintro h cs x f ⟨b,cap,cur,f1,f2,p,c0,q,rfl,_⟩ v hv; simp at hv; subst hv; rfl
 congr:=by
  rintro h h' cs x f ⟨b,cap,cur,f1,f2,p,c0,q,rfl,h1,rfl,h2,h3,h4,h5,h6⟩ hb
  refine ⟨b,cap,cur,f1,f2,p,c0,q,rfl,(hb b (by simp)).trans h1,rfl,h2,h3,h4,fun i hi=>?_,fun h'' cq=>h6 h'' fun i hi=>(cq i hi).trans (hb i (List.mem_cons_of_mem _ hi))⟩
  have:=hb i (List.mem_cons_of_mem _ hi)
  rw [Array.getElem?_eq_getElem (h5 i hi)] at this
  exact (Array.getElem?_eq_some_iff.1 this).1
 lt:=by
  rintro h cs x f ⟨b,cap,cur,f1,f2,p,c0,q,rfl,h1,rfl,h2,h3,h4,h5,h6⟩ i hi
  rcases List.mem_cons.1 hi with rfl | hi
  ·exact (Array.getElem?_eq_some_iff.1 h1).1
  ·exact h5 i hi
theorem HZ {α:Type} {e:TI} {E:ai α} {v u:Value} {xs:List α} {f:LN} {j:Int} {z:α} (h1:E.size=1) (hO:(aI e E).rep w.heap [v] xs f) (hz:xs[j.toNat]? = some z) (hu:w.cell? (cw v 1 j)=some u) :
  ∃ k g,E.rep w.heap [u] z k∧(k++g).Perm f∧(vr e E j.toNat).rep w.heap [v] xs g:=by
 obtain ⟨base,cap,hv,hr⟩:=hO
 obtain rfl:v = .slice base xs.length cap:=by simpa using hv
 have bc:j.toNat < xs.length:=(List.getElem?_eq_some_iff.1 hz).1
 rcases hr with ⟨_,_,rfl,_⟩ | ⟨b,cur,f0,rfl,hg,rfl,BJ,vc,xx,ed⟩
 ·simp at bc
 ·rw [h1,Nat.mul_one] at xx ed
  have x8:cw (.slice (some ⟨b,0,none⟩) xs.length cap) 1 j = ⟨b,j.toNat,none⟩:=by
   simp only [cw,jr,Nat.zero_add,Nat.mul_one]
  rw [x8,cell_of_row w b _ cur e _ hg] at hu
  have PK:∀ i∈f0,i < w.heap.size:=nh ed
  obtain ⟨c,g0,g1,g2,p,q,BY,hc,hp,BK,tc⟩:=AO j.toNat z ed hz
  subst BY
  rw [h1,Nat.mul_one] at hp
  have BZ:c.length=1:=by rw [E.len BK,h1]
  obtain ⟨c0,rfl⟩ : ∃ c0,c=[c0]:=by match c,BZ with | [c0],_=>exact ⟨c0,rfl⟩
  have Kk:c0=u:=by
   have h2:(cur.toList.take xs.length)[j.toNat]? = some c0:=by
    rw [hc,List.append_assoc,List.getElem?_append_right (by omega),hp,Nat.sub_self]; rfl
   rw [List.getElem?_take,if_pos bc,Array.getElem?_toList,hu] at h2
   exact (Option.some.inj h2).symm
  subst Kk
  refine ⟨g1,b :: (g0++g2),BK,?_,b,cap,cur,g0,g2,p,c0,q,rfl,hg,rfl,⟨BJ,vc,xx,h1⟩,hc,⟨hp,bc⟩,fun i hi=>PK i (by rcases List.mem_append.1 hi with hi | hi <;> simp [hi]),fun h' cq u z' k' hr=>tc h' [u] z' k' (fun i hi=>cq i (by simp [hi])) (fun i hi=>cq i (by simp [hi])) hr⟩
  refine (List.perm_append_comm (l₁:=g1) (l₂:=b :: (g0++g2))).trans ?_
  rw [List.cons_append]
  refine List.Perm.cons b ?_
  rw [List.append_assoc,List.append_assoc]
  exact List.Perm.append_left g0 List.perm_append_comm
end
structure ik where
 j:Nat
 d:Nat
 src:List Nat
 V:Type
 rt:Value→V→Value
 ps:Value→V→List av
abbrev MM:=List ik
def qk:List ik→Type
 | []=>Unit
 | a :: l=>a.V×qk l
def zT (f:NV):List Nat→Value
 | []=>undef
 | [t]=>f t
 | ts=>.tuple (ts.map f).toArray
def zn (f:Fr) (t:Nat):Value:=match look f t with
 | some v=>v
 | none=>undef
def xk (a:ik) (r:NV):Value:=zT r a.src
def B5 (a:ik) (f:Fr):Value:=zT (zn f) a.src
theorem CQ {f g:NV}:∀ {ts:LN},(∀ t∈ts,f t=g t)→zT f ts=zT g ts:=by
 intro ts h
 match ts,h with
 | [],_=>rfl
 | [t],h=>exact h t (by simp)
 | t :: s :: ts,h=>
  show Value.tuple (List.map f (t :: s :: ts)).toArray=Value.tuple (List.map g (t :: s :: ts)).toArray
  rw [List.map_congr_left h]
def mF:(ms:MM)→qk ms→Fr
 | [],_=>[]
 | a :: l,x=>(a.d,a.rt (B5 a (mF l x.2)) x.1) :: mF l x.2
def Fv:(ms:MM)→qk ms→List av
 | [],_=>[]
 | a :: l,x=>a.ps (B5 a (mF l x.2)) x.1++Fv l x.2
def oy (A:LN):(ms:MM)→qk ms→Fr
 | [],_=>[]
 | a :: l,x=>bif jh a.j A then (a.d,a.rt (B5 a (mF l x.2)) x.1) :: oy A l x.2 else oy A l x.2
def sr (A:LN):(ms:MM)→qk ms→List av
 | [],_=>[]
 | a :: l,x=>bif jh a.j A then a.ps (B5 a (mF l x.2)) x.1++sr A l x.2 else sr A l x.2
def te (t:Nat):List ik→Option Nat
 | []=>none
 | a :: l=>bif Nat.beq t a.d then some a.j else te t l
def AT (ms:MM):List (Nat×Operand)→List Nat
 | []=>[]
 | (_,.tmp s) :: l=>match te s ms with
  | some _=>s :: AT ms l
  | none=>AT ms l
 | _ :: l=>AT ms l
def ixL (s:Nat):List Nat→Option Nat
 | []=>none
 | t :: l=>bif Nat.beq s t then some 0 else (ixL s l).map (·+1)
def acd (v:Value) (k:Nat):Value:=match v with
 | .tuple vs=>vs.toList.getD k undef
 | _=>undef
def ace (f:Fr) (ts:LN) (u:Value):Operand→Value
 | .tmp s=>match ixL s ts with
  | some k=>(match ts with
   | [_]=>u
   | _=>acd u k)
  | none=>zn f s
 | x=>match bj f x with
  | some v=>v
  | none=>undef
def Zk (k:Nat) (v:Value):List Value:=bif Nat.beq k 1 then [v] else match v with
 | .agg cs=>cs.toList
 | _=>[]
def SK (pl:List (Nat×Nat)):List (Nat×Value)→List Value→List Value
 | [],cs=>cs
 | (i,v) :: l,cs=>match HD pl i with
  | some (off,k)=>SK pl l (cs.take off++Zk k v++cs.drop (off+k))
  | none=>cs
def VP (pl:List (Nat×Nat)) (f:Fr) (ts:LN) (ps:List (Nat×Operand)) (zc:LV) (u:Value):List Value:=SK pl (ps.map fun p=>(p.1,ace f ts u p.2)) zc
def tsB (A:LN) (ms:MM) (ts:LN):Bool:=ts.all fun t=>match te t ms with
 | some j=>jh j A
 | none=>false
def su (A:LN):List ik→Bool
 | []=>true
 | a :: l=>(bif jh a.j A then a.src.all (fun t=>match te t l with
   | some j=>jh j A
   | none=>false) else true) && su A l
def DL:List ik→Bool
 | []=>true
 | a :: l=>a.src.all (fun t=>(te t l).isSome) && DL l
theorem H0 {A:LN} {r:NV} {t:Nat}:∀ {ms:MM} {x:qk ms} {j:Nat},te t ms=some j→jh j A=true→(∀ p∈oy A ms x,r p.1=p.2)→look (mF ms x) t=some (r t):=by
 intro ms
 induction ms with
 | nil=>intro x j h; cases h
 | cons a l ih=>
  intro x j h hj hp
  unfold te at h
  unfold mF look
  cases hb:Nat.beq t a.d with
  | true=>
   rw [hb] at h
   cases h
   have:=hp (a.d,a.rt (B5 a (mF l x.2)) x.1) (by unfold oy; rw [hj]; simp)
   simp only [cond_true]
   rw [Nat.eq_of_beq_eq_true hb,this]
  | false=>
   rw [hb] at h
   refine ih h hj fun p hm=>hp p ?_
   unfold oy
   cases jh a.j A with
   | true=>exact List.mem_cons_of_mem _ hm
   | false=>exact hm
theorem P4 {r:NV} {t:Nat}:∀ {ms:MM} {x:qk ms},(te t ms).isSome=true→(∀ p∈mF ms x,r p.1=p.2)→look (mF ms x) t=some (r t):=by
 intro ms
 induction ms with
 | nil=>intro x h; cases h
 | cons a l ih=>
  intro x h hp
  unfold te at h
  unfold mF at hp ⊢
  unfold look
  cases hb:Nat.beq t a.d with
  | true=>
   simp only [cond_true]
   rw [Nat.eq_of_beq_eq_true hb,hp (a.d,a.rt (B5 a (mF l x.2)) x.1) (by simp)]
  | false=>
   rw [hb] at h
   exact ih h fun p hm=>hp p (List.mem_cons_of_mem _ hm)
def HN (N:Nat→Prop) (w:World) (Δ:QE) (f:LN):Prop:=HL (fun _=>False) w Δ f∨∃ Fo Fr,f=Fo++Fr∧(tO Δ=false∧∀ b∈Fr,b < w.heap.size)∧HL (fun b=>N b∨b∈Fr) w Δ Fo
def NG (N:Nat→Prop) (a:ik):List Nat→World→(Nat→Value)→Value→Prop:=fun f w r _=>∃ v:a.V,r a.d=a.rt (xk a r) v∧HN N w (a.ps (xk a r) v) f∧f.Nodup
def MV (N:Nat→Prop) (a:ik):List Nat→World→(Nat→Value)→Value→Prop:=fun f w r x=>∃ v:a.V,x=a.rt (xk a r) v∧HN N w (a.ps (xk a r) v) f∧f.Nodup
def SM (N:Nat→Prop) (a:LN) (l:LO) (s:iw):Prop:=∀ f F (w w':World) (r r':NV) v,an F w w'→(∀ b∈f,b ∉ F)→(∀ b∈F,¬ N b)→(∀ j∈a,∀ t,bu l j=some t→r' t=r t)→s.V f w r v→s.V f w' r' v
theorem H4.n {N:Nat→Prop} {a:LN} {l:LO} {s:iw} (h:H4 a l s):SM N a l s:=fun f F w w' r r' v hC hn _=>h f F w w' r r' v hC hn
section
variable {P:Program} {w w':World} {Z:Nat→Prop}
theorem HL.Zm {F H:LN} {Δ:QE} (h:HL (fun _=>False) w Δ F) (hC:an H w w') (hd:∀ b∈F,b ∉ H):HL (fun _=>False) w' Δ F:=by
 induction h with
 | nil=>exact .nil
 | @own e f F Δ h _ ih=>exact .own (h.e7 hC (fun _ _ h=>h) fun b hb hm=>hd b (List.mem_append_left _ hm) hb) (ih fun b hb=>hd b (List.mem_append_right _ hb))
 | @fact e F Δ h _ ih=>
  refine .fact ?_ (ih hd)
  cases e with
  | rd o T v x=>
   obtain ⟨g,h1,h2⟩:=h
   have hg:g=[]:=by
    cases g with
    | nil=>rfl
    | cons b g=>exact absurd (h2 b (by simp)) (by cases o <;> simp [vW])
   subst hg
   exact ⟨[],T.e7 h1 hC (fun _ h=>absurd h List.not_mem_nil),fun _ h=>absurd h List.not_mem_nil⟩
  | ad o1 o2 v j T x=>obtain ⟨_,_,u,g,_,_,h3,_⟩:=h; exact absurd h3 (by cases o1 <;> simp [vW])
  | aw p cs=>
   have hc:cs=[]:=by
    cases cs with
    | nil=>rfl
    | cons c cs=>exact (h.2 (by simp)).elim
   subst hc
   exact ⟨fun j u hj=>by simp at hj,fun hn=>absurd rfl hn⟩
  | hd v j u=>exact absurd h.2.2.2 List.not_mem_nil
  | _=>exact h.elim
theorem HL.Zo {F H:LN} {Δ:QE} (h:HL Z w Δ F) (hC:an H w w') (hz:∀ b∈H,¬ Z b) (hd:∀ b∈F,b ∉ H):HL Z w' Δ F:=by
 induction h with
 | nil=>exact .nil
 | @own e f F Δ h _ ih=>exact .own (h.e7 hC hz fun b hb hm=>hd b (List.mem_append_left _ hm) hb) (ih fun b hb=>hd b (List.mem_append_right _ hb))
 | @fact e F Δ h _ ih=>exact .fact (h.e7 hC hz fun _ _ h=>nomatch h) (ih hd)
theorem HN.e7 {N:Nat→Prop} {f H:LN} {Δ:QE} (h:HN N w Δ f) (hC:an H w w') (hd:∀ b∈f,b ∉ H) (hz:∀ b∈H,¬ N b):HN N w' Δ f:=by
 rcases h with h | ⟨Fo,Fr,rfl,h1,h2⟩
 ·exact .inl (h.Zm hC hd)
 ·exact .inr ⟨Fo,Fr,rfl,⟨h1.1,fun b hb=>Nat.lt_of_lt_of_le (h1.2 b hb) hC.size⟩,h2.Zo hC (fun b hb h=>h.elim (hz b hb) fun h=>hd b (List.mem_append_right _ h) hb) fun b hb=>hd b (List.mem_append_left _ hb)⟩
theorem HN.own {N:Nat→Prop} {f:LN} {Δ:QE} (h:HN N w Δ f) (ho:tO Δ=true):HL (fun _=>False) w Δ f:=by
 rcases h with h | ⟨_,_,_,h1,_⟩
 ·exact h
 ·rw [ho] at h1; cases h1.1
theorem HN.all {N:Nat→Prop} {f:LN} {Δ:QE} (h:HN N w Δ f):∃ Fo Fr,f=Fo++Fr∧(∀ b∈Fr,b < w.heap.size)∧HL (fun b=>N b∨b∈Fr) w Δ Fo:=by
 rcases h with h | ⟨Fo,Fr,rfl,h1,h2⟩
 ·exact ⟨f,[],by simp,fun b (h:b∈[])=>absurd h List.not_mem_nil,h.mono fun _ h=>h.elim⟩
 ·exact ⟨Fo,Fr,rfl,h1.2,h2⟩
theorem HL.up {F:LN} {Δ:QE} (h:HL (fun _=>False) w Δ F):HL Z w Δ F:=by
 induction h with
 | nil=>exact .nil
 | own h _ ih=>exact .own (h.mono fun _ h=>h.elim) ih
 | fact h _ ih=>exact .fact (h.mono (fun _ h=>h.elim) fun _ h=>h) ih
theorem HL.app {Δ Δ':QE} {F F':LN} (h:HL Z w Δ F) (k:HL Z w Δ' F'):HL Z w (Δ++Δ') (F++F'):=by
 induction h with
 | nil=>exact k
 | own h _ ih=>rw [List.append_assoc]; exact .own h ih
 | fact h _ ih=>exact .fact h ih
theorem KE {a:ik} {r r':NV} (h:∀ t∈a.src,r' t=r t):xk a r'=xk a r:=CQ h
theorem NH {l:LO} {a:LN} {b:Bool} {m:ik} (hs:∀ t∈m.src,∃ j∈a,bu l j=some t):SM Z a l ⟨b,MV Z m⟩:=by
 intro f F w w' r r' x hC hn hz hr ⟨v,h1,h2,h3⟩
 have e:=KE (a:=m) (r:=r) (r':=r') fun t ht=>by
  obtain ⟨j,hj,hd⟩:=hs t ht
  exact hr j hj t hd
 refine ⟨v,by rw [e]; exact h1,by rw [e]; exact h2.e7 hC hn hz,h3⟩
theorem LU {l:LO} {a:LN} {b:Bool} {m:ik} (hd:∃ j∈a,bu l j=some m.d) (hs:∀ t∈m.src,∃ j∈a,bu l j=some t):SM Z a l ⟨b,NG Z m⟩:=by
 intro f F w w' r r' x hC hn hz hr ⟨v,h1,h2,h3⟩
 have e:=KE (a:=m) (r:=r) (r':=r') fun t ht=>by
  obtain ⟨j,hj,hd⟩:=hs t ht
  exact hr j hj t hd
 obtain ⟨j,hj,hjd⟩:=hd
 refine ⟨v,by rw [e,hr j hj _ hjd]; exact h1,by rw [e]; exact h2.e7 hC hn hz,h3⟩
theorem lr.more {l:LO} {m i:Nat} {U:LL} {S S':List iw} {r0:NV} {w0:World} {H:LN} (h:lr P l m S U r0 w0 H i) (hi:i < S.length):lr P l m (S++S') U r0 w0 H i:=by
 intro o s ho hs g r w hC hV hO hn l6 hd hf
 rw [List.getElem?_append_left hi] at hs
 refine h o s ho hs g r w hC hV (fun j hj d jk s' fh=>hO j hj d jk s' (by rw [List.getElem?_append_left (List.getElem?_eq_some_iff.1 fh).1]; exact fh)) (fun j hj=>?_) l6 hd hf
 have:=hn j hj
 refine ⟨fun d jk=>?_,fun jk s' fh cq=>?_⟩
 ·have h2:=this.1 d jk
  by_cases hl:j < S.length
  ·rw [List.getElem?_append_left hl] at h2; exact h2
  ·rw [List.getElem?_eq_none (by omega)]; trivial
 ·exact this.2 jk s' (by rw [List.getElem?_append_left (List.getElem?_eq_some_iff.1 fh).1]; exact fh) cq
end
inductive dL (A:LN):Option (Bool×Nat×Value)→List (Nat×Nat×Value)→Fr→Fr→Prop
 | nil {base:Fr}:dL A none [] base base
 | cons {j d:Nat} {u:Value} {l:LQ} {base fr:Fr} (h:dL A (some (jh j A,d,u)) l base fr):dL A none ((j,d,u) :: l) base fr
 | e7 {d:Nat} {u:Value} {l:LQ} {base fr:Fr} (h:dL A none l base fr):dL A (some (true,d,u)) l base ((d,u) :: fr)
 | drop {d:Nat} {u:Value} {l:LQ} {base fr:Fr} (h:dL A none l base fr):dL A (some (false,d,u)) l base fr
theorem ve.B0 {Γ Γ':QE} {v:Addr} {o:Bool} {α:Type} {E:ai α} {x:α} {e:av} (h:ve Γ v o E x e Γ') {Z:Nat→Prop} {w:World}:∀ {cur F:LN},SA Z w Γ cur F→(v.block∈cur∨v.block∈F)∨Z v.block:=by
 induction h with
 | @ad o1 o2 α E v j x e Γ=>
  intro cur F hS
  obtain ⟨⟨j0,j1,u,g,h1,h2,h3,h4⟩,h5⟩:=hS
  cases o1 with
  | false=>exact .inr h3
  | true=>exact .inl (.inl h3)
 | @there o2 α E v x e a Γ Γ' h ih=>
  intro cur F hS
  cases a with
  | own T v x=>obtain ⟨f,F',rfl,h2,h3⟩:=hS; exact (ih h3).imp (fun h=>.inr (List.mem_append.2 h)) id
  | om e E v xs=>obtain ⟨f,F',rfl,h2,h3⟩:=hS; exact (ih h3).imp (fun h=>.inr (List.mem_append.2 h)) id
  | row b cs e=>obtain ⟨f,F',rfl,h2,h3⟩:=hS; exact (ih h3).imp (fun h=>h.imp id (List.mem_append_right _)) id
  | gp e E v xs j u=>obtain ⟨f,F',rfl,h2,h3⟩:=hS; exact (ih h3).imp (fun h=>.inr (List.mem_append.2 h)) id
  | _=>exact ih hS.2
inductive VQ (P:Program) (Γ:QE) (fr:Fr):Op→Value→Prop
 | mv {x:OO} {v:Value} (hx:bj fr x=some v):VQ P Γ fr (.move x) v
 | add {x y:OO} {t t':TI} {a b:Int} (hx:bj fr x=some (.int .i64 a)) (hy:bj fr y=some (.int .i64 b)):VQ P Γ fr (.binOp .add t x y t') (.int .i64 (aj (a+b)))
 | sub {x y:OO} {t t':TI} {a b:Int} (hx:bj fr x=some (.int .i64 a)) (hy:bj fr y=some (.int .i64 b)):VQ P Γ fr (.binOp .sub t x y t') (.int .i64 (aj (a - b)))
 | PS {x:OO} {a:Addr} (hx:bj fr x=some (.pointer (some a))):VQ P Γ fr (.nilCheck x) (.pointer (some a))
 | ext {x:OO} {k:Nat} {vs:LV} {v:Value} (hx:bj fr x=some (.tuple vs.toArray)) (hv:vs[k]? = some v):VQ P Γ fr (.extract x k) v
 | Vv {s k off:Nat} {x:OO} {a a':Addr} [hf:sn P s k off] (hx:bj fr x=some (.pointer (some a))) (ha:DI a off a'):VQ P Γ fr (.fieldAddr s x k) (.pointer (some a'))
 | len {x:OO} {v:Value} {t:TI} {n:Nat} [ht:yd P t] (hx:bj fr x=some v) (hr:wh Γ v n):VQ P Γ fr (.call ⟨.builtin .len,#[x],#[t]⟩) (.int .i64 (n:Int))
 | SH {t:TI} {ps:List (Nat×Operand)} {zc cs:LV} {pl:List (Nat×Nat)} [hb:Af P t zc pl] (hf:xG Γ fr pl ps zc cs):VQ P Γ fr (.build t ps.toArray) (.agg cs.toArray)
 | VC {x:OO} {k k2:IntKind} {n:Int} {s t:TI} [ht:KB P s t k2] (hx:bj fr x=some (.int k n)):VQ P Γ fr (.convert s t x) (.int k2 (k2.wrap n))
 | mul {x y:OO} {t t':TI} {a b:Int} (hx:bj fr x=some (.int .i64 a)) (hy:bj fr y=some (.int .i64 b)):VQ P Γ fr (.binOp .mul t x y t') (.int .i64 (aj (a * b)))
 | VR {α:Type} {S:ai α} {x:OO} {v:Value} {t:TI} {us:List (List Value)} {xs:List α} {k n e:Nat} {Γ1:QE} [ht:Ec P t k] (hx:bj fr x=some v) (hr:dh Γ (.own (aI e (jg n)) v us) Γ1) (hg:In (.rd false (uC S) (.bool true) (us,xs)) Γ):VQ P Γ fr (.call ⟨.builtin .len,#[x],#[t]⟩) (.int .i64 (xs.length:Int))
theorem VQ.sound {P:Program} {Γ:QE} {fr:Fr} {op:Op} {u:Value} (h:VQ P Γ fr op u) {Z:Nat→Prop} {w:World} {cur F:LN} (hS:SA Z w Γ cur F) {r:NV} (ha:cu r fr) (d:Option Nat) (ty:TI) (pos:String) (ag:Array Edge) (g:Option (Nat×Bool)) :
  Rd P w r ⟨d,op,ty,pos,ag,g⟩ u:=by
 cases h with
 | mv hx=>exact Mv _ (aY ha hx)
 | add hx hy=>exact Ba (aY ha hx) (aY ha hy)
 | sub hx hy=>exact Go.Li.Bs (aY ha hx) (aY ha hy)
 | PS hx=>exact Nk (aY ha hx)
 | ext hx hv=>exact Ex _ (aY ha hx) (by simpa using hv)
 | @Vv s k off x a a' hf hx hq=>rw [hq.eq]; exact Fp hf.h (aY ha hx)
 | @VC x k k2 n s t ht hx=>exact fun _ _=>KD ht.h.1 ht.h.2 (aY ha hx)
 | mul hx hy=>exact Bm (aY ha hx) (aY ha hy)
 | @len x v t n ht hx hr=>
  obtain ⟨b,c,rfl⟩:=hr.sound hS
  obtain ⟨e,i,h1,_,_⟩:=ht.h
  exact fun _ _=>wN h1 (aY ha hx)
 | @VR α S x v t us xs k n e' Γ1 ht hx hr hg=>
  obtain ⟨f,F1,_,hO,_⟩:=hr.sound hS
  obtain ⟨e,i,h1,_,_⟩:=ht.h
  obtain ⟨g0,hk,_⟩:=hg.rd hS []
  obtain ⟨base,cap,hv,_⟩:=hO
  obtain rfl:v = .slice base us.length cap:=by simpa using hv
  rw [← Ac hk.2.1]
  exact fun _ _=>wN h1 (aY ha hx)
 | @SH t ps zc cs pl hb hf=>
  obtain ⟨fs,i,z,h1,h2,h3,h4,h5⟩:=hb.h
  refine Bu ?_
  have:=hf.fill ha hS
  unfold Program.built
  rw [h3,h1]
  simp only [h4,h2]
  rw [show z.cells=zc.toArray by rw [← h5]]
  exact this
theorem dL.sound {A:LN} {q:Option (Bool×Nat×Value)} {sl:LQ} {base fr:Fr} {r:NV} (h:dL A q sl base fr) (hb:cu r base) :
  (∀ p∈sl,jh p.1 A=true→r p.2.1=p.2.2)→(∀ b d u,q=some (b,d,u)→b=true→r d=u)→cu r fr:=by
 induction h with
 | nil=>intro _ _; exact hb
 | @cons j d u l base fr _ ih=>
  intro h1 _
  refine ih hb (fun p hp=>h1 p (by simp [hp])) ?_
  rintro b d' u' he VS
  cases he
  exact h1 (j,d,u) (by simp) VS
 | @e7 d u l base fr _ ih=>
  intro h1 h2
  intro s v hl
  unfold look at hl
  cases s6:Nat.beq s d with
  | true=>rw [s6] at hl; cases hl; rw [Nat.eq_of_beq_eq_true s6]; exact h2 true d _ rfl rfl
  | false=>rw [s6] at hl; exact ih hb h1 (fun _ _ _ h=>nomatch h) s v hl
 | drop _ ih=>intro h1 _; exact ih hb h1 (fun _ _ _ h=>nomatch h)
def B6:List (Nat×Nat×Value)→Fr→Fr
 | [],f=>f
 | (_,d,u) :: l,f=>(d,u) :: B6 l f
inductive LW (P:Program) (f:FuncId) (xs:List Operand) (fr:Fr) (Γ:QE) {β V:Type} (mo:Option β) (rt:β→V→List Value) (ps:β→V→List av):Prop
 | mk {vs:LV} {Δ:QE} (hx:xh fr xs=some vs) (hc:Ct P f true mo vs Δ rt ps) (hd:FO Δ) (hr:ER true Γ Δ):LW P f xs fr Γ mo rt ps
inductive FnJ (P:Program) (f:FuncId):Prop
 | mk [h:bm P f]:FnJ P f
inductive LX (P:Program) (f:FuncId) (as bs:LV) (xs:List Operand) (fr:Fr) (Γ:QE) {β V:Type} (mo:Option β) (rt:β→V→List Value) (ps:β→V→List av):Prop
 | mk {vs us ws:LV} {Δ:QE} (hx:xh fr xs=some vs) (h1:mc vs bs us) (h2:mc as us ws) (hc:Ct P f true mo ws Δ rt ps) (hd:FO Δ) (hr:ER true Γ Δ):LX P f as bs xs fr Γ mo rt ps
inductive Ei (P:Program) (f:FuncId) (xs:List Operand) (fr:Fr) (hd:QE) (Γ:QE) {β V:Type} (mo:Option β) (rt:β→V→List Value) (ps:β→V→List av):Prop
 | mk {vs:LV} {Δ Γ':QE} (hx:xh fr xs=some vs) (hc:Ct P f true mo vs Δ rt ps) (ho:EO hd Δ Γ') (hr:ER true Γ Δ):Ei P f xs fr hd Γ mo rt ps
inductive qm:List ik→Prop
 | nil:qm []
 | cons {a:ik} {l:MM} (h:Ee a.V) (k:qm l):qm (a :: l)
theorem qm.ne {ms:MM} (h:qm ms):Nonempty (qk ms):=by
 induction h with
 | nil=>exact ⟨()⟩
 | cons h _ ih=>obtain ⟨a⟩:=h.ne; obtain ⟨b⟩:=ih; exact ⟨(a,b)⟩
inductive Gw:List ik→Nat→Bool→Prop
 | here {a:ik} {l:MM}:Gw (a :: l) a.d true
 | there {a:ik} {l:MM} {t:Nat} {b:Bool} (h:Gw l t b):Gw (a :: l) t b
 | nil {t:Nat}:Gw [] t false
inductive P5 (fr:Fr) (Γ:QE) (t:Nat):Prop
 | mk {v:Value} (h:look fr t=some v) (hc:One Γ v):P5 fr Γ t
inductive P6 (fr:Fr) (t n:Nat):Prop
 | mk {cs:LV} (h:look fr t=some (.agg cs.toArray)) (hl:cs.length=n):P6 fr t n
inductive VT (fr:Fr) (Γ:QE) (t n:Nat):Prop
 | mk {v:Value} (h:look fr t=some v) (hc:wh Γ v n):VT fr Γ t n
inductive JA (R S:Type):Type 1
 | a (as:LL) (ops:LO) (i:Nat) (sl:LQ) (ms:MM) (Γ:QE) (m:Option (Out S R))
 | o (A:LN) (op:Op) (d:Nat) (ty:TI) (as:LL) (ops:LO) (i:Nat) (sl:LQ) (ms:MM) (Γ:QE) (m:Option (Out S R))
 | ow (b:Bool) (A:LN) (op:Op) (d:Nat) (ty:TI) (as:LL) (ops:LO) (i:Nat) (sl:LQ) (ms:MM) (Γ:QE) (m:Option (Out S R))
 | ix (b:Bool) (v:Value) (fr:Fr) (x y:OO) (t:TI) (A:LN) (d:Nat) (ty:TI) (as:LL) (ops:LO) (i:Nat) (sl:LQ) (ms:MM) (Γ:QE) (m:Option (Out S R))
 | lb (b:Bool) (v:Value) (j:Int) (fr:Fr) (t:TI) (x:OO) (A:LN) (d:Nat) (ty:TI) (as:LL) (ops:LO) (i:Nat) (sl:LQ) (ms:MM) (Γ:QE) (m:Option (Out S R))
 | ap (us:LN) (t1 t2:Nat) (t:TI) (A:LN) (d:Nat) (ty:TI) (as:LL) (ops:LO) (i:Nat) (sl:LQ) (ms:MM) (Γ:QE) (m:Option (Out S R))
 | la (fr:Fr) (ad:Addr) (lk:Option Nat) (t:TI) (x:OO) (A:LN) (d:Nat) (ty:TI) (as:LL) (ops:LO) (i:Nat) (sl:LQ) (ms:MM) (Γ:QE) (m:Option (Out S R))
 | ld {α:Type} (E:ai α) (z:α) (fr:Fr) (ad:Addr) (t:TI) (x:OO) (A:LN) (d:Nat) (ty:TI) (as:LL) (ops:LO) (i:Nat) (sl:LQ) (ms:MM) (Γ:QE) (m:Option (Out S R))
 | oc (us:LN) (f:FuncId) (xs:List Operand) (aw:Array TypeId) (A:LN) (d:Nat) (ty:TI) (as:LL) (ops:LO) (i:Nat) (sl:LQ) (ms:MM) (Γ:QE) (m:Option (Out S R))
 | os (A:LN) (op:Op) (ty:TI) (as:LL) (ops:LO) (i:Nat) (sl:LQ) (ms:MM) (Γ:QE) (m:Option (Out S R))
 | cr {V:Type} (u:V→Value) (ps:V→List av) (d:Nat) (as:LL) (ops:LO) (i:Nat) (sl:LQ) (ms:MM) (Γ:QE) (m:Option (Out S R))
 | p (Δ:QE) (as:LL) (ops:LO) (i:Nat) (sl:LQ) (ms:MM) (Γ:QE) (m:Option (Out S R))
inductive KF:List av→Value→Bool→Prop
 | here {α:Type} {T:ai α} {v:Value} {x:α} {Γ:QE}:KF (.own T v x :: Γ) v true
 | there {e:av} {v:Value} {b:Bool} {Γ:QE} (h:KF Γ v b):KF (e :: Γ) v b
 | nil {v:Value}:KF [] v false
inductive wo:List ik→Nat→ik→List ik→Prop
 | here {a:ik} {l:MM}:wo (a :: l) a.d a l
 | there {a b:ik} {l l':MM} {t:Nat} (h:wo l t a l'):wo (b :: l) t a (b :: l')
inductive DM:List ik→Nat→ik→List ik→Prop
 | here {a:ik} {l:MM}:DM (a :: l) a.j a l
 | there {a b:ik} {l l':MM} {t:Nat} (h:DM l t a l'):DM (b :: l) t a (b :: l')
def P7 (j i:Nat) (sl:LQ):List (Nat×Nat×Value):=sl.map fun p=>bif Nat.beq p.1 j then (i,p.2) else p
def Fw (U:LL) (_sl:LQ) (ms:MM):Bool:=U.all fun us=>us.all fun j=>ms.all fun a=>!Nat.beq a.j j
inductive AD {R S:Type} (tq:Bool) (P:Program) (cx:Cx R) (K:dj R S) (l tail:LO) (base:Fr) (U:LL):List av→JA R S→Prop
 | nil {hd:QE} {i:Nat} {sl:LQ} {ms:MM} {Γ:QE} {m:Option (Out S R)} (B7:DL ms=true) (he:Fw U sl ms=true) (h:∀ x:qk ms,D P cx (.p (B6 sl (mF ms x)) (Fv ms x) base Γ fun fr Γ=>.tg tq (DJ tail) l tail K Γ fr m)):AD tq P cx K l tail base U hd (.a [] [] i sl ms Γ m)
 | cons {hd:QE} {A:LN} {as:LL} {op:Op} {d:Nat} {ty:TI} {pos:String} {ag:Array Edge} {ops:LO} {i:Nat} {sl:LQ} {ms:MM} {Γ:QE} {m:Option (Out S R)} (h:AD tq P cx K l tail base U hd (.o A op d ty as ops i sl ms Γ m)) :
   AD tq P cx K l tail base U hd (.a (A :: as) (⟨some d,op,ty,pos,ag,none⟩ :: ops) i sl ms Γ m)
 | LY {hd:QE} {A:LN} {as:LL} {op:Op} {ty:TI} {pos:String} {ag:Array Edge} {ops:LO} {i:Nat} {sl:LQ} {ms:MM} {Γ:QE} {m:Option (Out S R)} (h:AD tq P cx K l tail base U hd (.os A op ty as ops i sl ms Γ m)) :
   AD tq P cx K l tail base U hd (.a (A :: as) (⟨none,op,ty,pos,ag,none⟩ :: ops) i sl ms Γ m)
 | VB {hd:QE} {t e:TI} {t1 j1 n:Nat} {y:OO} {u:Value} {us cs ds:LV} {ra:MM} {fr:Fr} {A:LN} {as:LL} {ty:TI} {ops:LO} {i:Nat} {sl:LQ} {ms:MM} {Γ:QE} {m:Option (Out S R)} [ht:vi P t n]
   (h1:wo ms t1 ⟨j1,t1,[],Nat,fun _ b=>.pointer (some ⟨b,0,none⟩),fun _ b=>[.row b cs e]⟩ ra) (hv:dL A none sl base fr) (hy:bj fr y=some u) (hc:tR Γ u us) (hn:us.length=n) (hs:uM us 0 cs ds) (ho:we Γ us) (h4:jh j1 A=true) (h6:U.getD i []=[j1])
   (h:AD tq P cx K l tail base U hd (.a as ops (i+1) sl (⟨i,t1,[],Nat,fun _ b=>.pointer (some ⟨b,0,none⟩),fun _ b=>[.row b ds e]⟩ :: ra) Γ m)):AD tq P cx K l tail base U hd (.os A (.store t (.tmp t1) y) ty as ops i sl ms Γ m)
 | HI {hd:QE} {α:Type} {A:LN} {as:LL} {d:Nat} {t e ty:TI} {E:ai α} {z0:α} {bt:Nat} {ops:LO} {i:Nat} {sl:LQ} {ms:MM} {Γ:QE} {m:Option (Out S R)} [hz:uq P t α e E z0 bt]
   (h:AD tq P cx K l tail base U hd (.a as ops (i+1) sl (⟨i,d,[],Value,fun _ v=>v,fun _ v=>[.own (aI e E) v []]⟩ :: ms) Γ m)):AD tq P cx K l tail base U hd (.o A (.buildSlice t 0 #[]) d ty as ops i sl ms Γ m)
 | sw4 {hd:QE} {t st e:Nat} {α:Type} {E:ai α} {z0:α} {bt:Nat} {b:Bool} {A:LN} {as:LL} {d:Nat} {ty:TI} {ops:LO} {i:Nat} {sl:LQ} {ms:MM} {Γ:QE} {m:Option (Out S R)} [hz:uq P st α e E z0 bt] (hw:Gw ms t b) (h:AD tq P cx K l tail base U hd (.ow b A (.buildSlice st 1 #[(0,.tmp t)]) d ty as ops i sl ms Γ m)):AD tq P cx K l tail base U hd (.o A (.buildSlice st 1 #[(0,.tmp t)]) d ty as ops i sl ms Γ m)
 | ltn {hd:QE} {t e:TI} {n:Nat} {ps:List (Nat×Operand)} {us:LV} {fr:Fr} {A:LN} {as:LL} {d:Nat} {ty:TI} {ops:LO} {i:Nat} {sl:LQ} {ms:MM} {Γ:QE} {m:Option (Out S R)} [hz:SE P t e] (hv:dL A none sl base fr) (hl:xj Γ fr 0 ps us) (hn:us.length=n) (hb:(Nat.ble 1 n && Nat.ble n 16777216)=true)
   (h:AD tq P cx K l tail base U hd (.a as ops (i+1) sl (⟨i,d,[],Nat,fun _ b=>.slice (some ⟨b,0,none⟩) n n,fun _ b=>[.row b us e]⟩ :: ms) Γ m)):AD tq P cx K l tail base U hd (.o A (.buildSlice t n ps.toArray) d ty as ops i sl ms Γ m)
 | ltu {hd:QE} {t e:TI} {n:Nat} {ps:List (Nat×Operand)} {us:LV} {fr:Fr} {A:LN} {as:LL} {d:Nat} {ty:TI} {ops:LO} {i:Nat} {sl:LQ} {ms:MM} {Γ:QE} {m:Option (Out S R)} [hz:Kx P t e] (hv:dL A none sl base fr) (hl:xj Γ fr 0 ps us) (hn:us.length=n) (hb:(Nat.ble 1 n && Nat.ble n 16777216)=true)
   (h:AD tq P cx K l tail base U hd (.a as ops (i+1) sl (⟨i,d,[],Nat,fun _ b=>.slice (some ⟨b,0,none⟩) n n,fun _ b=>[.row b us e]⟩ :: ms) Γ m)):AD tq P cx K l tail base U hd (.o A (.buildSlice t n ps.toArray) d ty as ops i sl ms Γ m)
 | sw1 {hd:QE} {t:Nat} {b:Bool} {A:LN} {as:LL} {d:Nat} {ty:TI} {ops:LO} {i:Nat} {sl:LQ} {ms:MM} {Γ:QE} {m:Option (Out S R)} (hw:Gw ms t b) (h:AD tq P cx K l tail base U hd (.ow b A (.move (.tmp t)) d ty as ops i sl ms Γ m)):AD tq P cx K l tail base U hd (.o A (.move (.tmp t)) d ty as ops i sl ms Γ m)
 | sw2 {hd:QE} {t k:Nat} {b:Bool} {A:LN} {as:LL} {d:Nat} {ty:TI} {ops:LO} {i:Nat} {sl:LQ} {ms:MM} {Γ:QE} {m:Option (Out S R)} (hw:Gw ms t b) (h:AD tq P cx K l tail base U hd (.ow b A (.extract (.tmp t) k) d ty as ops i sl ms Γ m)):AD tq P cx K l tail base U hd (.o A (.extract (.tmp t) k) d ty as ops i sl ms Γ m)
 | wlt {hd:QE} {t e:TI} {α:Type} {E:ai α} {z0:α} {bt:Nat} {u:Value} {x:OO} {fr:Fr} {A:LN} {as:LL} {d:Nat} {ty:TI} {ops:LO} {i:Nat} {sl:LQ} {ms:MM} {Γ:QE} {m:Option (Out S R)} [hz:uq P t α e E z0 bt] (hv:dL A none sl base fr) (hx:bj fr x=some u) (h1:One Γ u)
   (h:AD tq P cx K l tail base U hd (.a as ops (i+1) sl (⟨i,d,[],Nat,fun _ b=>.slice (some ⟨b,0,none⟩) 1 1,fun _ b=>[.row b [u] e]⟩ :: ms) Γ m)):AD tq P cx K l tail base U hd (.ow false A (.buildSlice t 1 #[(0,x)]) d ty as ops i sl ms Γ m)
 | sw5 {hd:QE} {t st:Nat} {b:Bool} {A:LN} {as:LL} {d:Nat} {ty:TI} {ops:LO} {i:Nat} {sl:LQ} {ms:MM} {Γ:QE} {m:Option (Out S R)} (hw:Gw ms t b) (h:AD tq P cx K l tail base U hd (.ow b A (.call ⟨.builtin .len,#[.tmp t],#[st]⟩) d ty as ops i sl ms Γ m)):AD tq P cx K l tail base U hd (.o A (.call ⟨.builtin .len,#[.tmp t],#[st]⟩) d ty as ops i sl ms Γ m)
 | mln {hd:QE} {t n:Nat} {st:TI} {A:LN} {as:LL} {d:Nat} {ty:TI} {ops:LO} {i:Nat} {sl:LQ} {ms:MM} {Γ:QE} {m:Option (Out S R)} [ht:yd P st] (hi:qm ms) (B7:su A ms=true) (hx:∀ x:qk ms,VT (oy A ms x) (sr A ms x) t n) (h:AD tq P cx K l tail base U hd (.a as ops (i+1) ((i,d,.int .i64 (n:Int)) :: sl) ms Γ m)):AD tq P cx K l tail base U hd (.ow true A (.call ⟨.builtin .len,#[.tmp t],#[st]⟩) d ty as ops i sl ms Γ m)
 | VU {hd:QE} {t:TI} {cs:LV} {A:LN} {as:LL} {d:Nat} {ty:TI} {ops:LO} {i:Nat} {sl:LQ} {ms:MM} {Γ:QE} {m:Option (Out S R)} [hz:ye P t cs] (h:AD tq P cx K l tail base U hd (.a as ops (i+1) sl (⟨i,d,[],Nat,fun _ b=>.pointer (some ⟨b,0,none⟩),fun _ b=>[.row b cs t]⟩ :: ms) Γ m)):AD tq P cx K l tail base U hd (.o A (.alloc t) d ty as ops i sl ms Γ m)
 | VA {hd:QE} {us:LN} {t1 t2:Nat} {t:TI} {A:LN} {as:LL} {d:Nat} {ty:TI} {ops:LO} {i:Nat} {sl:LQ} {ms:MM} {Γ:QE} {m:Option (Out S R)} (hU:U.getD i []=us) (h:AD tq P cx K l tail base U hd (.ap us t1 t2 t A d ty as ops i sl ms Γ m)):AD tq P cx K l tail base U hd (.o A (.call ⟨.builtin .append,#[.tmp t1,.tmp t2],#[t,t]⟩) d ty as ops i sl ms Γ m)
 | apH {hd jk:QE} {α:Type} {t e e' et:TI} {E E':ai α} {z0:α} {bt t1 t2 j2:Nat} {v u yv:Value} {j:Int} {y:α} {z:List α} {xs:List (List α)} {o1 o2:Bool} {Γx:QE} {H5:MM} {fr:Fr} {f:Unit→Option (Out S R)} {A:LN} {as:LL} {d:Nat} {ty:TI} {ops:LO} {i:Nat} {sl:LQ} {ms:MM} {Γ:QE} [hT:uq P t α e E z0 bt]
   (hV:((U.set i []).all fun us=>!(us.contains l.length))=true) (hv:dL A none sl base fr) (hs:look fr t1=some u) (h2:wo ms t2 ⟨j2,t2,[],Nat,fun _ b=>.slice (some ⟨b,0,none⟩) 1 1,fun _ b=>[.row b [yv] et]⟩ H5) (h5:jh j2 A=true) (hl:Loc hd u (.row v j)) (hz:si hd u o1 o2 E' z uX Γx) (h1:dh hd (.own (aI e' (aI e E)) v xs) jk) (hr:RT (aI e E) (bG E')) (hy:Db [] E yv y [])
   (h:AD tq P cx K l tail base U jk (.a as ops (i+1) sl (⟨i,d,[],Value,fun _ v'=>v',fun _ v'=>[.own (aI e E) v' (z++[y]),.own (vr e' (aI e E) j.toNat) v xs]⟩ :: ms) Γ (f ()))):AD tq P cx K l tail base U hd (.ap [l.length] t1 t2 t A d ty as ops i sl ms Γ (fits bt (z.length+1)>>=f))
 | ap1 {hd:QE} {us:LN} {t e et:TI} {E:ai Int} {z0:Int} {bt t1 t2 j2 d2:Nat} {k:IntKind} {y:Int} {xs:List Int} {a1:ik} {ra H5:MM} {f:Unit→Option (Out S R)} {A:LN} {as:LL} {d:Nat} {ty:TI} {ops:LO} {i:Nat} {sl:LQ} {ms:MM} {Γ:QE} [hz:uq P t Int e E z0 bt] (h1:wo ms t1 a1 ra) (h2:wo ra t2 ⟨j2,d2,[],Nat,fun _ b=>.slice (some ⟨b,0,none⟩) 1 1,fun _ b=>[.row b [.int k y] et]⟩ H5) (h3:∀ u v,a1.ps u v=[.own (aI e (aL k)) (a1.rt u v) xs]) (hu:us=[a1.j]) (h4:jh a1.j A=true) (h5:jh j2 A=true)
   (h:AD tq P cx K l tail base U hd (.a as ops (i+1) sl (⟨i,d,[],Value,fun _ v=>v,fun _ v=>[.own (aI e (aL k)) v (xs++[y])]⟩ :: ra) Γ (f ()))):AD tq P cx K l tail base U hd (.ap us t1 t2 t A d ty as ops i sl ms Γ (fits bt (xs.length+1)>>=f))
 | wv {hd:QE} {op:Op} {u:Value} {fr:Fr} {A:LN} {as:LL} {d:Nat} {ty:TI} {ops:LO} {i:Nat} {sl:LQ} {ms:MM} {Γ:QE} {m:Option (Out S R)} (hv:dL A none sl base fr) (hq:VQ P Γ fr op u) (h:AD tq P cx K l tail base U hd (.a as ops (i+1) ((i,d,u) :: sl) ms Γ m)):AD tq P cx K l tail base U hd (.ow false A op d ty as ops i sl ms Γ m)
 | mbl {hd:QE} {t:TI} {ps:List (Nat×Operand)} {zc:LV} {pl:List (Nat×Nat)} {fr:Fr} {A:LN} {as:LL} {d:Nat} {ty:TI} {ops:LO} {i:Nat} {sl:LQ} {ms:MM} {Γ:QE} {m:Option (Out S R)} [hb:Af P t zc pl] (hi:qm ms) (B7:su A ms=true) (jx:(AT ms ps).isEmpty=false) (hj:tsB A ms (AT ms ps)=true) (hv:dL A none sl base fr)
   (hx:∀ x:qk ms,xG (sr A ms x++Γ) (oy A ms x++fr) pl ps zc (VP pl fr (AT ms ps) ps zc (zT (zn (mF ms x)) (AT ms ps))))
   (h:AD tq P cx K l tail base U hd (.a as ops (i+1) sl (⟨i,d,AT ms ps,Unit,fun u _=>.agg (VP pl fr (AT ms ps) ps zc u).toArray,fun _ _=>[]⟩ :: ms) Γ m)):AD tq P cx K l tail base U hd (.o A (.build t ps.toArray) d ty as ops i sl ms Γ m)
 | mlt {hd:QE} {t:Nat} {NI e:TI} {α:Type} {E:ai α} {z0:α} {bt:Nat} {A:LN} {as:LL} {d:Nat} {ty:TI} {ops:LO} {i:Nat} {sl:LQ} {ms:MM} {Γ:QE} {m:Option (Out S R)} [hz:uq P NI α e E z0 bt] (hi:qm ms) (B7:su A ms=true) (hj:∃ j,te t ms=some j∧jh j A=true) (hx:∀ x:qk ms,P5 (oy A ms x) (sr A ms x) t)
   (h:AD tq P cx K l tail base U hd (.a as ops (i+1) sl (⟨i,d,[t],Nat,fun _ b=>.slice (some ⟨b,0,none⟩) 1 1,fun u b=>[.row b [u] e]⟩ :: ms) Γ m)):AD tq P cx K l tail base U hd (.ow true A (.buildSlice NI 1 #[(0,.tmp t)]) d ty as ops i sl ms Γ m)
 | mls {hd:QE} {t n:Nat} {NI e:TI} {A:LN} {as:LL} {d:Nat} {ty:TI} {ops:LO} {i:Nat} {sl:LQ} {ms:MM} {Γ:QE} {m:Option (Out S R)} [hz:Gp P NI e n] (hb:(Nat.ble 1 1 && Nat.ble (1 * n) 16777216)=true) (hi:qm ms) (B7:su A ms=true) (hj:∃ j,te t ms=some j∧jh j A=true) (hx:∀ x:qk ms,P6 (oy A ms x) t n)
   (h:AD tq P cx K l tail base U hd (.a as ops (i+1) sl (⟨i,d,[t],Nat,fun _ b=>.slice (some ⟨b,0,none⟩) 1 1,fun u b=>[.row b u.cells.toList e]⟩ :: ms) Γ m)):AD tq P cx K l tail base U hd (.o A (.buildSlice NI 1 #[(0,.tmp t)]) d ty as ops i sl ms Γ m)
 | mk {hd:QE} {t e:TI} {α:Type} {E:ai α} {z0:α} {bt:Nat} {x:OO} {z:Int} {fr:Fr} {f:Nat→Option (Out S R)} {A:LN} {as:LL} {d:Nat} {ty:TI} {ops:LO} {i:Nat} {sl:LQ} {ms:MM} {Γ:QE} [hz:uq P t α e E z0 bt] (hv:dL A none sl base fr) (hx:bj fr x=some (.int .i64 z))
   (h:∀ n,AD tq P cx K l tail base U hd (.a as ops (i+1) sl (⟨i,d,[],Value,fun _ v=>v,fun _ v=>[.own (aI e E) v (List.replicate n z0)]⟩ :: ms) Γ (f n))):AD tq P cx K l tail base U hd (.o A (.makeSlice t x x) d ty as ops i sl ms Γ (mk bt z>>=f))
 | ixs {hd:QE} {b:Bool} {v:Value} {x y:OO} {t:TI} {fr:Fr} {A:LN} {as:LL} {d:Nat} {ty:TI} {ops:LO} {i:Nat} {sl:LQ} {ms:MM} {Γ:QE} {m:Option (Out S R)} (hv:dL A none sl base fr) (hx:bj fr x=some v) (hw:KF hd v b) (h:AD tq P cx K l tail base U hd (.ix b v fr x y t A d ty as ops i sl ms Γ m)):AD tq P cx K l tail base U hd (.o A (.indexAddr t x y) d ty as ops i sl ms Γ m)
 | idx {hd:QE} {α:Type} {A:LN} {as:LL} {d:Nat} {x y:OO} {v:Value} {k:IntKind} {j:Int} {t ty:TI} {o1 o2:Bool} {E:ai α} {xs:List α} {ops:LO} {i:Nat} {sl:LQ} {ms:MM} {fr:Fr} {Γ:QE} {Γ':α→List av} {f:α→Option (Out S R)} [ht:yd P t]
   (hy:bj fr y=some (.int k j)) (hr:∀ z,si Γ v o1 o2 E xs (.ad o1 o2 v j E z) (Γ' z)) (hE:E.size=1)
   (h:∀ z,AD tq P cx K l tail base U hd (.a as ops (i+1) ((i,d,.pointer (some (cw v 1 j))) :: sl) ms (Γ' z) (f z))):AD tq P cx K l tail base U hd (.ix false v fr x y t A d ty as ops i sl ms Γ (idx xs j>>=f))
 | acf {hd:QE} {α:Type} {A:LN} {as:LL} {d:Nat} {x y:OO} {v:Value} {k:IntKind} {j:Int} {t ty:TI} {o1 o2:Bool} {E:ai α} {xs:List α} {ops:LO} {i:Nat} {sl:LQ} {ms:MM} {fr:Fr} {Γ:QE} {jk:α→List av} {f:α→Option (Out S R)} [ht:yd P t]
   (hy:bj fr y=some (.int k j)) (hr:∀ z,si hd v o1 o2 E xs (.ad o1 o2 v j E z) (jk z)) (hE:E.size=1)
   (h:∀ z,AD tq P cx K l tail base U (jk z) (.a as ops (i+1) ((i,d,.pointer (some (cw v 1 j))) :: sl) ms Γ (f z))):AD tq P cx K l tail base U hd (.ix true v fr x y t A d ty as ops i sl ms Γ (idx xs j>>=f))
 | load {hd:QE} {A:LN} {as:LL} {d:Nat} {x:OO} {a:Addr} {t ty:TI} {lk:Option Nat} {ops:LO} {i:Nat} {sl:LQ} {ms:MM} {fr:Fr} {Γ:QE} {m:Option (Out S R)} [ht:LK P t lk] (hv:dL A none sl base fr) (hx:bj fr x=some (.pointer (some a)))
   (h:AD tq P cx K l tail base U hd (.la fr a lk t x A d ty as ops i sl ms Γ m)):AD tq P cx K l tail base U hd (.o A (.load t x) d ty as ops i sl ms Γ m)
 | lsw {hd:QE} {b:Bool} {v:Value} {j:Int} {x:OO} {t:TI} {fr:Fr} {A:LN} {as:LL} {d:Nat} {ty:TI} {ops:LO} {i:Nat} {sl:LQ} {ms:MM} {Γ:QE} {m:Option (Out S R)} (hw:KF hd v b) (h:AD tq P cx K l tail base U hd (.lb b v j fr t x A d ty as ops i sl ms Γ m)):AD tq P cx K l tail base U hd (.la fr (cw v 1 j) none t x A d ty as ops i sl ms Γ m)
 | Vw {hd:QE} {α:Type} {A:LN} {as:LL} {d:Nat} {x:OO} {v:Value} {j:Int} {o:Bool} {E:ai α} {z:α} {t ty:TI} {ops:LO} {i:Nat} {sl:LQ} {ms:MM} {fr:Fr} {Γ Γx:QE} {m:Option (Out S R)} (h:ve Γ (cw v 1 j) o E z uX Γx)
   (k:AD tq P cx K l tail base U hd (.ld E z fr (cw v 1 j) t x A d ty as ops i sl ms Γ m)):AD tq P cx K l tail base U hd (.lb false v j fr t x A d ty as ops i sl ms Γ m)
 | acg {hd:QE} {α:Type} {A:LN} {as:LL} {d:Nat} {x:OO} {v:Value} {j:Int} {E:ai α} {z:List α} {o:Bool} {t ty:TI} {ops:LO} {i:Nat} {sl:LQ} {ms:MM} {fr:Fr} {Γ:QE} {VV jk:Value→List av} {m:Option (Out S R)} (hV:((U.zipIdx.all fun p=>!(p.1.contains l.length) || ((bz l).getD p.2 []).contains i))=true) (h:∀ u,ve hd (cw v 1 j) o (bG E) z (.rd o (bG E) u z) (VV u)) (h2:∀ u,zR (VV u) v j u (jk u))
   (k:∀ u,AD tq P cx K l tail base U (jk u) (.a as ops (i+1) ((i,d,u) :: sl) ms Γ m)):AD tq P cx K l tail base U hd (.lb true v j fr t x A d ty as ops i sl ms Γ m)
 | Vx {hd:QE} {A:LN} {as:LL} {d:Nat} {x:OO} {a:Addr} {u:Value} {t ty:TI} {ops:LO} {i:Nat} {sl:LQ} {ms:MM} {fr:Fr} {Γ:QE} {m:Option (Out S R)} (h:wb Γ a u)
   (k:AD tq P cx K l tail base U hd (.a as ops (i+1) ((i,d,u) :: sl) ms Γ m)):AD tq P cx K l tail base U hd (.la fr a none t x A d ty as ops i sl ms Γ m)
 | Np {hd:QE} {A:LN} {as:LL} {d n:Nat} {x:OO} {a:Addr} {ds:LV} {t ty:TI} {ops:LO} {i:Nat} {sl:LQ} {ms:MM} {fr:Fr} {Γ:QE} {m:Option (Out S R)} (h:wg Γ a n ds)
   (k:AD tq P cx K l tail base U hd (.a as ops (i+1) ((i,d,.agg ds.toArray) :: sl) ms Γ m)):AD tq P cx K l tail base U hd (.la fr a (some n) t x A d ty as ops i sl ms Γ m)
 | Vy {hd:QE} {A:LN} {as:LL} {d:Nat} {x:OO} {a:Addr} {k:IntKind} {z:Int} {t ty:TI} {ops:LO} {i:Nat} {sl:LQ} {ms:MM} {fr:Fr} {Γ:QE} {m:Option (Out S R)}
   (h:AD tq P cx K l tail base U hd (.a as ops (i+1) ((i,d,.int k z) :: sl) ms Γ m)):AD tq P cx K l tail base U hd (.ld (aL k) z fr a t x A d ty as ops i sl ms Γ m)
 | Vz {hd:QE} {α:Type} {A:LN} {as:LL} {d:Nat} {x:OO} {v:Value} {j:Int} {E:ai α} {z:List α} {o:Bool} {t ty:TI} {ops:LO} {i:Nat} {sl:LQ} {ms:MM} {fr:Fr} {Γ:QE} {Γ1 Γ':Value→List av} {m:Option (Out S R)} (h:∀ u,ve Γ (cw v 1 j) o (bG E) z (.rd o (bG E) u z) (Γ1 u)) (h2:∀ u,zR (Γ1 u) v j u (Γ' u))
   (k:∀ u,AD tq P cx K l tail base U hd (.a as ops (i+1) ((i,d,u) :: sl) ms (Γ' u) m)):AD tq P cx K l tail base U hd (.ld (bG E) z fr (cw v 1 j) t x A d ty as ops i sl ms Γ m)
 | No {hd:QE} {us:LN} {A:LN} {as:LL} {d:Nat} {f:FuncId} {xs:List Operand} {aw:Array TypeId} {ty:TI} {ops:LO} {i:Nat} {sl:LQ} {ms:MM} {Γ:QE} {m:Option (Out S R)} (hU:U.getD i []=us) (h:AD tq P cx K l tail base U hd (.oc us f xs aw A d ty as ops i sl ms Γ m)):AD tq P cx K l tail base U hd (.o A (.call ⟨.value (.func f),xs.toArray,aw⟩) d ty as ops i sl ms Γ m)
 | ach {hd:QE} {β V:Type} {A:LN} {as:LL} {d:Nat} {f:FuncId} {fs bs:LV} {xo:OO} {xs:List Operand} {aw:Array TypeId} {ty:TI} {mo:Option β} {rt:β→V→List Value} {ps:β→V→List av} {ops:LO} {i:Nat} {sl:LQ} {ms:MM} {fr:Fr} {Γ:QE} {g:β→Option (Out S R)}
   (hv:dL A none sl base fr) (hx:bj fr xo=some (.func (.func f) fs.toArray bs.toArray)) (hf:FnJ P f) (hc:∀ x:qk ms,LX P f fs bs xs (oy A ms x++fr) (sr A ms x++Γ) mo rt ps) (hi:qm ms) (B7:su A ms=true) (ho:∀ y v,tO (ps y v)=true)
   (h:∀ y,AD tq P cx K l tail base U hd (.cr (fun v=>tH (rt y v)) (ps y) d as ops i sl ms Γ (g y))):AD tq P cx K l tail base U hd (.o A (.call ⟨.value xo,xs.toArray,aw⟩) d ty as ops i sl ms Γ (mo>>=g))
 | call {hd:QE} {β V:Type} {A:LN} {as:LL} {d:Nat} {f:FuncId} {xs:List Operand} {aw:Array TypeId} {ty:TI} {mo:Option β} {rt:β→V→List Value} {ps:β→V→List av} {ops:LO} {i:Nat} {sl:LQ} {ms:MM} {fr:Fr} {Γ:QE} {g:β→Option (Out S R)} [hf:bm P f]
   (hv:dL A none sl base fr) (hc:∀ x:qk ms,LW P f xs (oy A ms x++fr) (sr A ms x++Γ) mo rt ps) (hi:qm ms) (B7:su A ms=true) (ho:∀ y v,tO (ps y v)=true)
   (h:∀ y,AD tq P cx K l tail base U hd (.cr (fun v=>tH (rt y v)) (ps y) d as ops i sl ms Γ (g y))):AD tq P cx K l tail base U hd (.oc [] f xs aw A d ty as ops i sl ms Γ (mo>>=g))
 | Zp {hd:QE} {β V:Type} {A:LN} {as:LL} {d:Nat} {f:FuncId} {xs:List Operand} {aw:Array TypeId} {ty:TI} {mo:Option β} {rt:β→V→List Value} {ps:β→V→List av} {ops:LO} {i:Nat} {sl:LQ} {ms:MM} {fr:Fr} {Γ:QE} {g:β→Option (Out S R)} [hf:bm P f]
   (hV:((U.set i []).all fun us=>!(us.contains l.length))=true) (hv:dL A none sl base fr) (hc:∀ x:qk ms,Ei P f xs (oy A ms x++fr) hd (sr A ms x++Γ) mo rt ps) (hi:qm ms) (B7:su A ms=true) (ho:∀ y v,tO (ps y v)=true)
   (h:∀ y,AD tq P cx K l tail base U hd (.cr (fun v=>tH (rt y v)) (ps y) d as ops i sl ms Γ (g y))):AD tq P cx K l tail base U hd (.oc [l.length] f xs aw A d ty as ops i sl ms Γ (mo>>=g))
 | Zq {hd:QE} {β V:Type} {j1:Nat} {a1:ik} {ra:MM} {A:LN} {as:LL} {d:Nat} {f:FuncId} {xs:List Operand} {aw:Array TypeId} {ty:TI} {mo:Option β} {rt:β→V→List Value} {ps:β→V→List av} {ops:LO} {i:Nat} {sl:LQ} {ms:MM} {fr:Fr} {Γ:QE} {g:β→Option (Out S R)} [hf:bm P f]
   (h1:DM ms j1 a1 ra) (SN:a1.src=[]) (h4:jh j1 A=true) (hv:dL A none sl base fr) (hc:∀ (q:a1.V) (x:qk ra),Ei P f xs (oy A ra x++fr) (a1.ps undef q) (sr A ra x++Γ) mo rt ps) (hi:qm ra) (B7:su A ra=true) (ho:∀ y v,tO (ps y v)=true)
   (h:∀ y,AD tq P cx K l tail base U hd (.cr (fun v=>tH (rt y v)) (ps y) d as ops i (P7 j1 i sl) ra Γ (g y))):AD tq P cx K l tail base U hd (.oc [j1] f xs aw A d ty as ops i sl ms Γ (mo>>=g))
 | crv {hd:QE} {u:Unit→Value} {d:Nat} {as:LL} {ops:LO} {i:Nat} {sl:LQ} {ms:MM} {Γ:QE} {m:Option (Out S R)} (h:AD tq P cx K l tail base U hd (.a as ops (i+1) ((i,d,u ()) :: sl) ms Γ m)):AD tq P cx K l tail base U hd (.cr u (fun _=>[]) d as ops i sl ms Γ m)
 | crb {hd:QE} {u:Unit→Value} {ps:Unit→List av} {d:Nat} {as:LL} {ops:LO} {i:Nat} {sl:LQ} {ms:MM} {Γ:QE} {m:Option (Out S R)} (h:AD tq P cx K l tail base U hd (.a as ops (i+1) ((i,d,u ()) :: sl) (⟨i,d,[],Unit,fun _=>u,fun _=>ps⟩ :: ms) Γ m)):AD tq P cx K l tail base U hd (.cr u ps d as ops i sl ms Γ m)
 | crm {hd:QE} {V:Type} {u:V→Value} {ps:V→List av} {d:Nat} {as:LL} {ops:LO} {i:Nat} {sl:LQ} {ms:MM} {Γ:QE} {m:Option (Out S R)} (h:AD tq P cx K l tail base U hd (.a as ops (i+1) sl (⟨i,d,[],V,fun _=>u,fun _=>ps⟩ :: ms) Γ m)):AD tq P cx K l tail base U hd (.cr u ps d as ops i sl ms Γ m)
 | val {hd:QE} {A:LN} {as:LL} {op:Op} {d:Nat} {ty:TI} {u:Value} {ops:LO} {i:Nat} {sl:LQ} {ms:MM} {fr:Fr} {Γ:QE} {m:Option (Out S R)} (hv:dL A none sl base fr) (hq:VQ P Γ fr op u)
   (h:AD tq P cx K l tail base U hd (.a as ops (i+1) ((i,d,u) :: sl) ms Γ m)):AD tq P cx K l tail base U hd (.o A op d ty as ops i sl ms Γ m)
 | uE {hd:QE} {A:LN} {as:LL} {op:BinOp} {x y:OO} {k k':IntKind} {a b:Int} {t t':TI} {d:Nat} {ty:TI} {ops:LO} {i:Nat} {sl:LQ} {ms:MM} {fr:Fr} {Γ:QE} {f:Int→Option (Out S R)} (hv:dL A none sl base fr) (hx:bj fr x=some (.int k a)) (hy:bj fr y=some (.int k' b)) (hk:SG op k k')
   (h:∀ z,AD tq P cx K l tail base U hd (.a as ops (i+1) ((i,d,.int k z) :: sl) ms Γ (f z))):AD tq P cx K l tail base U hd (.o A (.binOp op t x y t') d ty as ops i sl ms Γ (vY op k a b>>=f))
 | pz {hd:QE} {as:LL} {ops:LO} {i:Nat} {sl:LQ} {ms:MM} {Γ:QE} {m:Option (Out S R)} (h:AD tq P cx K l tail base U hd (.a as ops i sl ms Γ m)):AD tq P cx K l tail base U hd (.p [] as ops i sl ms Γ m)
 | pe {hd:QE} {e:av} {Δ:QE} {as:LL} {ops:LO} {i:Nat} {sl:LQ} {ms:MM} {Γ:QE} {m:Option (Out S R)} (h:AD tq P cx K l tail base U hd (.p Δ as ops i sl ms (e :: Γ) m)):AD tq P cx K l tail base U hd (.p (e :: Δ) as ops i sl ms Γ m)
 | HH {hd:QE} {α V:Type} {Sc:ai α} {cl:α→V→List Value} {en:α→V→List av} {A:LN} {as:LL} {d n:Nat} {x y:OO} {v:Value} {xs:List α} {k:IntKind} {j:Int} {t ty:TI} {ops:LO} {i:Nat} {sl:LQ} {ms:MM} {fr:Fr} {Γ Γx:QE} {f:α→Option (Out S R)} [ht:Ec P t n]
   (hy:bj fr y=some (.int k j)) (hr:si Γ v false false (my Sc) xs uX Γx) (hs:Gn Sc V cl en) (hn:Sc.size=n)
   (h:∀ z u,AD tq P cx K l tail base U hd (.p (.aw (cw v n j) (cl z u) :: en z u) as ops (i+1) ((i,d,.pointer (some (cw v n j))) :: sl) ms Γ (f z))):AD tq P cx K l tail base U hd (.ix false v fr x y t A d ty as ops i sl ms Γ (idx xs j>>=f))
 | VW {hd:QE} {α V:Type} {Sc:ai α} {cl:α→V→List Value} {en:α→V→List av} {A:LN} {as:LL} {d n e bt:Nat} {x y:OO} {v:Value} {us:List (List Value)} {xs:List α} {k:IntKind} {j:Int} {t ty:TI} {ops:LO} {i:Nat} {sl:LQ} {ms:MM} {fr:Fr} {Γ Γ1:QE} {f:α→Option (Out S R)} [ht:Ag P t e n bt]
   (hy:bj fr y=some (.int k j)) (h1:dh Γ (.own (aI e (jg n)) v us) Γ1) (hg:In (.rd false (uC Sc) (.bool true) (us,xs)) Γ) (hs:Gn Sc V cl en)
   (h:∀ z u,AD tq P cx K l tail base U hd (.p (.rd false (BL us j) (.bool true) (cl z u) :: en z u) as ops (i+1) ((i,d,.pointer (some (cw v n j))) :: sl) ms Γ (f z))):AD tq P cx K l tail base U hd (.ix false v fr x y t A d ty as ops i sl ms Γ (idx xs j>>=f))
 | laG {hd:QE} {A:LN} {as:LL} {d n e off:Nat} {x:OO} {v u:Value} {us:List (List Value)} {j:Int} {cs:LV} {t ty:TI} {ops:LO} {i:Nat} {sl:LQ} {ms:MM} {fr:Fr} {Γ Γ1:QE} {m:Option (Out S R)} (h1:dh Γ (.own (aI e (jg n)) v us) Γ1) (hp:In (.rd false (BL us j) (.bool true) cs) Γ) (hc:cs[off]? = some u)
   (k:AD tq P cx K l tail base U hd (.a as ops (i+1) ((i,d,u) :: sl) ms Γ m)):AD tq P cx K l tail base U hd (.la fr ((cw v n j).add off) none t x A d ty as ops i sl ms Γ m)
 | VX {hd:QE} {A:LN} {as:LL} {d n e:Nat} {x:OO} {v u:Value} {us:List (List Value)} {j:Int} {cs:LV} {t ty:TI} {ops:LO} {i:Nat} {sl:LQ} {ms:MM} {fr:Fr} {Γ Γ1:QE} {m:Option (Out S R)} (h1:dh Γ (.own (aI e (jg n)) v us) Γ1) (hp:In (.rd false (BL us j) (.bool true) cs) Γ) (hc:cs[0]? = some u)
   (k:AD tq P cx K l tail base U hd (.a as ops (i+1) ((i,d,u) :: sl) ms Γ m)):AD tq P cx K l tail base U hd (.la fr (cw v n j) none t x A d ty as ops i sl ms Γ m)
end Go.Dk
namespace Go.Dk
open Go Go.Li
theorem r8 {t:Nat} {l:LN}:jh t l=true↔t∈l:=by
 induction l with
 | nil=>simp [jh]
 | cons a l ih=>
  unfold jh
  cases hb:Nat.beq t a with
  | true=>simp [Nat.eq_of_beq_eq_true hb]
  | false=>simp only [cond_false,ih,List.mem_cons]; exact ⟨.inr,fun h=>h.resolve_left fun e=>by rw [e,Nat.beq_refl] at hb; cases hb⟩
def r9 (l:LO) (U:LL) (mt:Nat):List (List Nat):=(List.range mt).map fun i=>((bz l).getD i []).filter (vu l U mt i)
theorem tD {l:LO} {U:LL} {mt i j:Nat} (h:j∈(r9 l U mt).getD i []):j∈(bz l).getD i []∧vu l U mt i j=true:=by
 unfold r9 at h
 rw [List.getD_eq_getElem?_getD,List.getElem?_map] at h
 by_cases hi:i < mt
 ·rw [List.getElem?_range hi] at h
  exact List.mem_filter.1 h
 ·rw [List.getElem?_eq_none (by simpa using hi)] at h
  exact absurd h List.not_mem_nil
variable {Z:Nat→Prop}
structure jm (Z:Nat→Prop) (l:LO) (S:List iw) (sl:LQ) (ms:MM):Prop where
 v:∀ p∈sl,∃ j,(j=p.1∨j∈(bz l).getD p.1 [])∧bu l j=some p.2.1∧∃ s,S[j]? = some s∧s.b=true∧∀ f w r x,s.V f w r x→x=p.2.2
 m:∀ a∈ms,(S[a.j]? = some ⟨true,MV Z a⟩∧bu l a.j=some a.d)∨(S[a.j]? = some ⟨true,NG Z a⟩∧bu l a.j=none∧∃ k∈(bz l).getD a.j [],bu l k=some a.d)
 s:∀ i s,S[i]? = some s→SM Z ((bz l).getD i []) l s
 d:(ms.map (·.j)).Nodup
 t:∀ i j k,j∈(bz l).getD k []→k∈(bz l).getD i []→j∈(bz l).getD i []
theorem jm.lt {l:LO} {S:List iw} {sl:LQ} {ms:MM} (h:jm Z l S sl ms) {a:ik} (ha:a∈ms):a.j < S.length:=by
 rcases h.m a ha with h | h <;> exact (List.getElem?_eq_some_iff.1 h.1).1
theorem jm.H6 {l:LO} {S S2:List iw} {sl:LQ} {ms:MM} (h:jm Z l S sl ms) {a:ik} (ha:a∈ms) {g:Nat→List Nat} {r:NV} {w:World} (hd:yk l (S++S2) a.j g r w):MV Z a (g a.j) w r (r a.d):=by
 rcases h.m a ha with h1 | h1
 ·have h2:=hd.1 a.d h1.2
  rw [List.getElem?_append_left (List.getElem?_eq_some_iff.1 h1.1).1,h1.1] at h2
  exact h2
 ·obtain ⟨x,hx⟩:=hd.2 h1.2.1 _ (by rw [List.getElem?_append_left (List.getElem?_eq_some_iff.1 h1.1).1]; exact h1.1) rfl
  exact hx
theorem jm.slot {l:LO} {S:List iw} {sl:LQ} {ms:MM} (h:jm Z l S sl ms) {a:ik} (ha:a∈ms) {i:Nat} (hi:a.j∈(bz l).getD i []):∃ k∈(bz l).getD i [],bu l k=some a.d:=by
 rcases h.m a ha with h1 | ⟨_,_,k,hk,hd⟩
 ·exact ⟨a.j,hi,h1.2⟩
 ·exact ⟨k,h.t i k a.j hk hi,hd⟩
theorem jm.uF {l:LO} {S S2:List iw} {sl:LQ} {ms:MM} (h:jm Z l S sl ms) {a:ik} (ha:a∈ms):((S++S2)[a.j]? = some ⟨true,MV Z a⟩∧bu l a.j=some a.d)∨((S++S2)[a.j]? = some ⟨true,NG Z a⟩∧bu l a.j=none∧∃ k∈(bz l).getD a.j [],bu l k=some a.d):=by
 rw [List.getElem?_append_left (h.lt ha)]
 exact h.m a ha
theorem jm.P8 {l:LO} {S S2:List iw} {sl:LQ} {ms:MM} (h:jm Z l S sl ms) {p:Nat×Nat×Value} (hp:p∈sl):∃ j,(j=p.1∨j∈(bz l).getD p.1 [])∧bu l j=some p.2.1∧∃ s,(S++S2)[j]? = some s∧s.b=true∧∀ f w r x,s.V f w r x→x=p.2.2:=by
 obtain ⟨j,hj,h1,s,h2,h3⟩:=h.v p hp
 exact ⟨j,hj,h1,s,by rw [List.getElem?_append_left (List.getElem?_eq_some_iff.1 h2).1]; exact h2,h3⟩
theorem jm.BN {l:LO} {S S2:List iw} {sl:LQ} {ms:MM} (h:jm Z l S sl ms) {p:Nat×Nat×Value} (hp:p∈sl) {r:NV} (ho:∀ j,(j=p.1∨j∈(bz l).getD p.1 [])→j < S.length→Old l (S++S2) j r):r p.2.1=p.2.2:=by
 obtain ⟨j,hj,h1,s,h2,h3,h4⟩:=h.v p hp
 have hl:=(List.getElem?_eq_some_iff.1 h2).1
 have:=ho j hj hl _ h1 s (by rw [List.getElem?_append_left hl]; exact h2)
 rw [if_pos h3] at this
 obtain ⟨f,w,hV⟩:=this
 exact h4 f w r _ hV
theorem jm.val {l:LO} {S:List iw} {sl:LQ} {ms:MM} (h:jm Z l S sl ms) {d:Nat} {u:Value} (hd:bu l S.length=some d):jm Z l (S++[sV u]) ((S.length,d,u) :: sl) ms:=by
 refine ⟨?_,fun a ha=>h.uF ha,?_,h.d,h.t⟩
 ·intro p hp
  rcases List.mem_cons.1 hp with rfl | hp
  ·exact ⟨S.length,.inl rfl,hd,sV u,by simp,rfl,fun _ _ _ _ h=>h⟩
  ·exact h.P8 hp
 ·intro i s hs
  by_cases hi:i < S.length
  ·rw [List.getElem?_append_left hi] at hs; exact h.s i s hs
  ·rw [List.getElem?_append_right (by omega)] at hs
   have ym:i - S.length=0:=by
    have:=(List.getElem?_eq_some_iff.1 hs).1
    simp at this; omega
   rw [ym] at hs
   cases hs
   exact H4.n LZ
theorem jm.mem {l:LO} {S:List iw} {sl:LQ} {ms:MM} (h:jm Z l S sl ms) {b:ik} (hj:b.j=S.length) (hd:bu l S.length=some b.d) (js:∀ t∈b.src,∃ j∈(bz l).getD S.length [],bu l j=some t):jm Z l (S++[⟨true,MV Z b⟩]) sl (b :: ms):=by
 have bc:∀ a∈ms,a.j < S.length:=fun a ha=>h.lt ha
 refine ⟨fun p hp=>?_,?_,?_,?_,h.t⟩
 ·exact h.P8 hp
 ·intro a ha
  rcases List.mem_cons.1 ha with rfl | ha
  ·exact .inl ⟨by rw [hj]; simp,by rw [hj]; exact hd⟩
  ·exact h.uF ha
 ·intro i s hs
  by_cases hi:i < S.length
  ·rw [List.getElem?_append_left hi] at hs; exact h.s i s hs
  ·rw [List.getElem?_append_right (by omega)] at hs
   have ym:i - S.length=0:=by
    have:=(List.getElem?_eq_some_iff.1 hs).1
    simp at this; omega
   have VY:i=S.length:=by omega
   rw [ym] at hs
   cases hs
   rw [VY]
   exact NH js
 ·rw [List.map_cons,List.nodup_cons]
  refine ⟨fun hm=>?_,h.d⟩
  obtain ⟨a,ha,he⟩:=List.mem_map.1 hm
  have:=bc a ha
  omega
theorem jm.aci {l:LO} {S:List iw} {sl:LQ} {ms:MM} (h:jm Z l S sl ms) {j d:Nat} {u:Value} (hd:bu l j=some d) {s:iw} (hs:S[j]? = some s) (hb:s.b=true) (hV:∀ f w r x,s.V f w r x→x=u):jm Z l S ((j,d,u) :: sl) ms:=
 ⟨fun p hp=>by
  rcases List.mem_cons.1 hp with rfl | hp
  ·exact ⟨j,.inl rfl,hd,s,hs,hb,hV⟩
  ·exact h.v p hp,h.m,h.s,h.d,h.t⟩
theorem jm.re {l:LO} {S:List iw} {sl:LQ} {ms:MM} (h:jm Z l S sl ms) {j i:Nat} (hj:j∈(bz l).getD i []):jm Z l S (P7 j i sl) ms:=by
 refine ⟨fun p hp=>?_,h.m,h.s,h.d,h.t⟩
 obtain ⟨q,hq,rfl⟩:=List.mem_map.1 hp
 obtain ⟨k,hk,h1⟩:=h.v q hq
 cases hb:Nat.beq q.1 j with
 | false=>exact ⟨k,hk,h1⟩
 | true=>
  refine ⟨k,.inr ?_,h1⟩
  have hq1:=Nat.eq_of_beq_eq_true hb
  show k∈(bz l).getD i []
  rcases hk with rfl | hk
  ·rw [hq1]; exact hj
  ·rw [hq1] at hk; exact h.t i k j hk hj
theorem jm.acj {l:LO} {S:List iw} {sl:LQ} {ms:MM} (h:jm Z l S sl ms) {b:ik} (hj:b.j=S.length) (hd:bu l S.length=none) (hk:∃ k∈(bz l).getD S.length [],bu l k=some b.d) (js:b.src=[]):jm Z l (S++[⟨true,NG Z b⟩]) sl (b :: ms):=by
 have bc:∀ a∈ms,a.j < S.length:=fun a ha=>h.lt ha
 refine ⟨fun p hp=>?_,?_,?_,?_,h.t⟩
 ·exact h.P8 hp
 ·intro a ha
  rcases List.mem_cons.1 ha with rfl | ha
  ·exact .inr ⟨by rw [hj]; simp,by rw [hj]; exact hd,by rw [hj]; exact hk⟩
  ·exact h.uF ha
 ·intro i s hs
  by_cases hi:i < S.length
  ·rw [List.getElem?_append_left hi] at hs; exact h.s i s hs
  ·rw [List.getElem?_append_right (by omega)] at hs
   have ym:i - S.length=0:=by
    have:=(List.getElem?_eq_some_iff.1 hs).1
    simp at this; omega
   have VY:i=S.length:=by omega
   rw [ym] at hs
   cases hs
   rw [VY]
   exact LU hk fun t ht=>by rw [js] at ht; cases ht
 ·rw [List.map_cons,List.nodup_cons]
  refine ⟨fun hm=>?_,h.d⟩
  obtain ⟨a,ha,he⟩:=List.mem_map.1 hm
  have:=bc a ha
  omega
theorem mf {l:LO} {m:Nat} {base:Fr} {r r0:NV} (hh:oK l m base=true) (ha:cu r0 base) (ho:∀ t,(∀ j,j < m→bu l j≠some t)→r t=r0 t):cu r base:=by
 intro t v hl
 have hm:∃ u,(t,u)∈base:=by
  clear hh ha
  induction base with
  | nil=>cases hl
  | cons p base ih=>
   obtain ⟨a,u⟩:=p
   unfold look at hl
   cases hb:Nat.beq t a with
   | true=>exact ⟨u,by rw [Nat.eq_of_beq_eq_true hb]; simp⟩
   | false=>rw [hb] at hl; obtain ⟨u',h⟩:=ih hl; exact ⟨u',by simp [h]⟩
 obtain ⟨u,hu⟩:=hm
 rw [ho t fun j hj=>NJ hh (t,u) hu j hj]
 exact ha t v hl
section
variable {P:Program} {l:LO} {mt:Nat} {S:List iw} {sl:LQ} {ms:MM} {base fr:Fr} {r r0:NV} {w w0:World} {g:Nat→List Nat} {i:Nat} {A:LN} {U:LL}
theorem rn (hR:jm Z l S sl ms) (hA:A=(r9 l U mt).getD i []) (hv:dL A none sl base fr) (hb:cu r base) {S':List iw} (hO:∀ j∈(bz l).getD i [],Old l (S++S') j r):cu r fr:=by
 refine hv.sound hb ?_ (fun _ _ _ h=>nomatch h)
 intro p hp hm
 have hi:=(tD (by rw [← hA]; exact r8.1 hm)).1
 exact hR.BN hp fun j hj _=>hO j (hj.elim (fun e=>e ▸ hi) fun hj=>hR.t i j p.1 hj hi)
theorem P9 {H:LN} {o:Oper} {u:Value} (hh:oK l mt base=true) (ha:cu r0 base) (hR:jm Z l S sl ms) (ho:l[S.length]? = some o) (hg:o.guard=none) (hA:A=(r9 l U mt).getD S.length []) (hv:dL A none sl base fr)
  (h:∀ r,cu r fr→∀ w,an H w0 w→(execOp (ev r) o).run P w = .ok (.value u) w):lr P l mt (S++[sV u]) U r0 w0 H S.length:=
 lr.val ho (by simp) hg fun g r w hC hO hn l6=>h r (rn hR hA hv (mf hh ha l6) hO) w hC
end
end Go.Dk
namespace Go.Dk
open Go Go.Li
section
variable {R S:Type} {P:Program} {cx:Cx R} {K:dj R S} {l tail:LO} {base fr:Fr} {w:World} {Z:Nat→Prop} {U:LL}
def l3 (P:Program) (Z:Nat→Prop) (l:LO) (mt:Nat) (U:LL) (r0:NV) (w0:World) (H:LN) (i:Nat) (sl:LQ) (ms:MM):Prop:=
 ∃ S:List iw,S.length=i∧jm Z l S sl ms∧∀ j,j < i→lr P l mt S U r0 w0 H j
def ur (B:Bs) (Z:Nat→Prop) (hd Γ:QE) (H:LN) (w:World):Prop:=∃ F Hd,(SA Z w hd [] Hd∧(∀ b∈Hd,b∈H∧b < w.heap.size)∧(∀ b∈H,b < w.heap.size)∧Hd.Nodup)∧SA Z w Γ [] F∧Gd B Z (H++F) w
theorem ur.stay {B:Bs} {Γ:QE} {F H:LN} {w w':World} (hS:SA Z w Γ [] F) (hG:Gd B Z (H++F) w) (hC:an H w w'):SA Z w' Γ [] F:=
 hS.e7 hC (fun b hb=>hG.apart b (List.mem_append_left _ hb)) (fun _ _=>List.not_mem_nil) (fun b hb hf=>(List.nodup_append.1 hG.nd).2.2 b hb b hf rfl)
def Fin (P:Program) (cx:Cx R) (K:dj R S) (l:LO) (mt:Nat) (U:LL) (hd:QE) (_id:Nat) (base:Fr) (i:Nat) (sl:LQ) (ms:MM) (Γ:QE) (m:Option (Out S R)):Prop:=
 ∀ B o,m=some o→∀ r0 w0 H Z,cu r0 base→ur B Z hd Γ H w0→l3 P Z l mt U r0 w0 H i sl ms→o3 P cx.n l (nb P cx B K o) r0 w0
theorem l3.re {mt:Nat} {r0:NV} {w0:World} {H:LN} {i k j:Nat} {sl:LQ} {ms:MM} (h:l3 P Z l mt U r0 w0 H k sl ms) (hj:j∈(bz l).getD i []):l3 P Z l mt U r0 w0 H k (P7 j i sl) ms:=by
 obtain ⟨S,h1,h2,h3⟩:=h
 exact ⟨S,h1,h2.re hj,h3⟩
structure AU (l:LO) (mt:Nat) (U:LL) (as:LL) (ops:LO) (i:Nat):Prop where
 a:as=(r9 l U mt).drop i
 o:ops=(l.take mt).drop i
 le:i≤mt
structure VZ (l:LO) (mt:Nat) (U:LL) (A:LN) (op:Op) (ty:TI) (as:LL) (ops:LO) (i:Nat):Prop where
 A:A=(r9 l U mt).getD i []
 o:∃ pos ag,l[i]? = some ⟨none,op,ty,pos,ag,none⟩
 n:AU l mt U as ops (i+1)
theorem AU.LY {mt:Nat} {A:LN} {as:LL} {op:Op} {ty:TI} {pos:String} {ag:Array Edge} {ops:LO} {i:Nat} (h:AU l mt U (A :: as) (⟨none,op,ty,pos,ag,none⟩ :: ops) i):VZ l mt U A op ty as ops i:=by
 obtain ⟨h1,h2,h3⟩:=h
 have e1:(r9 l U mt)[i]? = some A:=by
  have:=congrArg (fun x=>x[0]?) h1
  simpa using this.symm
 have e2:(l.take mt)[i]? = some ⟨none,op,ty,pos,ag,none⟩:=by
  have:=congrArg (fun x=>x[0]?) h2
  simpa using this.symm
 have t1:as=(r9 l U mt).drop (i+1):=by
  have:=congrArg List.tail h1
  simpa [List.tail_drop] using this
 have t2:ops=(l.take mt).drop (i+1):=by
  have:=congrArg List.tail h2
  simpa [List.tail_drop] using this
 have hi:i < mt:=by
  have:=(List.getElem?_eq_some_iff.1 e1).1
  simpa [r9] using this
 rw [List.getElem?_take,if_pos hi] at e2
 exact ⟨by rw [List.getD_eq_getElem?_getD,e1]; rfl,⟨pos,ag,e2⟩,t1,t2,hi⟩
structure sw (l:LO) (mt:Nat) (U:LL) (A:LN) (op:Op) (d:Nat) (ty:TI) (as:LL) (ops:LO) (i:Nat):Prop where
 A:A=(r9 l U mt).getD i []
 o:∃ pos ag,l[i]? = some ⟨some d,op,ty,pos,ag,none⟩
 n:AU l mt U as ops (i+1)
theorem AU.cons {mt:Nat} {A:LN} {as:LL} {op:Op} {d:Nat} {ty:TI} {pos:String} {ag:Array Edge} {ops:LO} {i:Nat} (h:AU l mt U (A :: as) (⟨some d,op,ty,pos,ag,none⟩ :: ops) i):sw l mt U A op d ty as ops i:=by
 obtain ⟨h1,h2,h3⟩:=h
 have e1:(r9 l U mt)[i]? = some A:=by
  have:=congrArg (fun x=>x[0]?) h1
  simpa using this.symm
 have e2:(l.take mt)[i]? = some ⟨some d,op,ty,pos,ag,none⟩:=by
  have:=congrArg (fun x=>x[0]?) h2
  simpa using this.symm
 have t1:as=(r9 l U mt).drop (i+1):=by
  have:=congrArg List.tail h1
  simpa [List.tail_drop] using this
 have t2:ops=(l.take mt).drop (i+1):=by
  have:=congrArg List.tail h2
  simpa [List.tail_drop] using this
 have hi:i < mt:=by
  have:=(List.getElem?_eq_some_iff.1 e1).1
  simpa [r9] using this
 rw [List.getElem?_take,if_pos hi] at e2
 exact ⟨by rw [List.getD_eq_getElem?_getD,e1]; rfl,⟨pos,ag,e2⟩,t1,t2,hi⟩
theorem l3.val {mt:Nat} {A:LN} {op:Op} {d:Nat} {ty:TI} {as:LL} {ops:LO} {i:Nat} {sl:LQ} {ms:MM} {r0:NV} {w0:World} {H:LN} {u:Value} (h:l3 P Z l mt U r0 w0 H i sl ms) (hh:oK l mt base=true) (ha:cu r0 base) (h1:sw l mt U A op d ty as ops i)
  (hv:dL A none sl base fr) (hq:∀ r,cu r fr→∀ pos ag g w,an H w0 w→(execOp (ev r) ⟨some d,op,ty,pos,ag,g⟩).run P w = .ok (.value u) w):l3 P Z l mt U r0 w0 H (i+1) ((i,d,u) :: sl) ms:=by
 obtain ⟨S',hl,hR,hO⟩:=h
 subst hl
 obtain ⟨hA,⟨pos,ag,ho⟩,_⟩:=h1
 refine ⟨S'++[sV u],by simp,hR.val (by unfold bu; rw [ho]; rfl),fun j hj=>?_⟩
 by_cases h2:j < S'.length
 ·exact lr.more (hO j h2) h2
 ·obtain rfl:j=S'.length:=by omega
  exact P9 hh ha hR ho rfl hA hv fun r hr=>hq r hr _ _ _
def H7 (P:Program) (Z:Nat→Prop) (l:LO) (mt:Nat) (U:LL) (r0:NV) (w0:World) (H:LN) (i:Nat) (sl:LQ) (ms:MM) (a:ik):Prop:=
 ∃ S:List iw,S.length=i∧jm Z l S sl ms∧(∀ j,j < i→lr P l mt S U r0 w0 H j)∧
  ∀ V:List Nat→World→(Nat→Value)→Value→Prop,(∀ f w r x,MV Z a f w r x→∃ f',(∀ b∈f',b∈f)∧V f' w r x)→lr P l mt (S++[⟨true,V⟩]) U r0 w0 H i
theorem HL.front {Δ Γ:QE} {Fd F:LN} (h:HL Z w Δ Fd) (hs:SA Z w Γ [] F):SA Z w (Δ++Γ) [] (Fd++F):=by
 induction h with
 | nil=>exact hs
 | own h _ ih=>rw [List.append_assoc]; exact SA.cons ih h
 | fact h _ ih=>exact SA.fact ih h
def B8 (A:LN) (g:Nat→List Nat):List ik→List Nat
 | []=>[]
 | a :: l=>bif jh a.j A then g a.j++B8 A g l else B8 A g l
def HV (Z:Nat→Prop) (w:World) (Δ:QE) (B:LN):Prop:=∃ Vo Vr,(∀ b∈Vo++Vr,b∈B)∧(∀ b∈Vr,b < w.heap.size)∧HL (fun b=>Z b∨b∈Vr) w Δ Vo
theorem HV.front {Δ Γ:QE} {B F:LN} (h:HV Z w Δ B) (hs:SA Z w Γ [] F):∃ G:List Nat,(∀ b∈G,b∈B++F∧b < w.heap.size)∧∃ F':List Nat,(∀ b∈F',b∈G)∧SA (fun b=>Z b∨b∈G) w (Δ++Γ) [] F':=by
 obtain ⟨Vo,Vr,h1,h2,h3⟩:=h
 have hS:=h3.front (hs.mono (Z':=fun b=>Z b∨b∈Vr) (fun _ h=>.inl h) fun _ h=>h)
 refine ⟨Vr++(Vo++F),fun b hb=>?_,Vo++F,fun b hb=>List.mem_append_right _ hb,hS.mono (fun b h=>h.imp id fun h=>List.mem_append_left _ h) fun _ h=>h⟩
 rcases List.mem_append.1 hb with hb | hb
 ·exact ⟨List.mem_append_left _ (h1 b (List.mem_append_right _ hb)),h2 b hb⟩
 ·refine ⟨?_,hS.lt b hb⟩
  rcases List.mem_append.1 hb with hb | hb
  ·exact List.mem_append_left _ (h1 b (List.mem_append_left _ hb))
  ·exact List.mem_append_right _ hb
theorem HV.app {Δ Δ':QE} {f B:LN} (h:HN Z w Δ f) (k:HV Z w Δ' B):HV Z w (Δ++Δ') (f++B):=by
 obtain ⟨Fo,Fr,rfl,h1,h2⟩:=h.all
 obtain ⟨Vo,Vr,k1,k2,k3⟩:=k
 refine ⟨Fo++Vo,Fr++Vr,fun b hb=>?_,fun b hb=>(List.mem_append.1 hb).elim (h1 b) (k2 b),(h2.mono fun b h=>h.imp id fun h=>List.mem_append_left _ h).app (k3.mono fun b h=>h.imp id fun h=>List.mem_append_right _ h)⟩
 have:=fun h=>k1 b h
 simp only [List.mem_append] at hb this ⊢
 rcases hb with (h | h) | h | h
 ·exact .inl (.inl h)
 ·exact .inr (this (.inl h))
 ·exact .inl (.inr h)
 ·exact .inr (this (.inr h))
theorem Zr {A:LN} {g:Nat→List Nat} {r:NV}:∀ {ms:MM},qm ms→su A ms=true→(∀ a∈ms,jh a.j A=true→MV Z a (g a.j) w r (r a.d))→
  ∃ x:qk ms,(∀ p∈oy A ms x,r p.1=p.2)∧HV Z w (sr A ms x) (B8 A g ms):=by
 intro ms
 induction ms with
 | nil=>intro _ _ _; exact ⟨(),fun p hp=>absurd hp List.not_mem_nil,[],[],fun b (h:b∈[])=>absurd h List.not_mem_nil,fun b (h:b∈[])=>absurd h List.not_mem_nil,.nil⟩
 | cons a ms ih=>
  intro hi js h
  unfold su at js
  rw [Bool.and_eq_true] at js
  cases hi with
  | cons h1 h2=>
   obtain ⟨x,hx,hl⟩:=ih h2 js.2 fun b hb=>h b (List.mem_cons_of_mem _ hb)
   cases hb:jh a.j A with
   | false=>
    obtain ⟨v⟩:=h1.ne
    refine ⟨(v,x),?_,?_⟩
    ·simp only [oy,hb,cond_false]; exact hx
    ·simp only [sr,B8,hb,cond_false]; exact hl
   | true=>
    obtain ⟨v,e1,e2,_⟩:=h a (by simp) hb
    have es:xk a r=B5 a (mF ms x):=by
     have h3:=js.1
     rw [hb,cond_true,List.all_eq_true] at h3
     refine CQ fun t ht=>?_
     have h4:=h3 t ht
     cases hj:te t ms with
     | none=>rw [hj] at h4; cases h4
     | some j=>rw [hj] at h4; unfold zn; rw [H0 hj h4 hx]
    rw [es] at e1 e2
    refine ⟨(v,x),?_,?_⟩
    ·simp only [oy,hb,cond_true]
     intro p hp
     rcases List.mem_cons.1 hp with rfl | hp
     ·exact e1
     ·exact hx p hp
    ·simp only [sr,B8,hb,cond_true]; exact HV.app e2 hl
theorem Qa {t j:Nat}:∀ {ms:MM},te t ms=some j→∃ a∈ms,a.j=j∧a.d=t:=by
 intro ms
 induction ms with
 | nil=>intro h; cases h
 | cons a l ih=>
  intro h
  unfold te at h
  cases hb:Nat.beq t a.d with
  | true=>rw [hb] at h; cases h; exact ⟨a,by simp,rfl,(Nat.eq_of_beq_eq_true hb).symm⟩
  | false=>rw [hb] at h; obtain ⟨b,h1,h2⟩:=ih h; exact ⟨b,List.mem_cons_of_mem _ h1,h2⟩
theorem Fx {mt i:Nat} {A:LN} (hA:A=(r9 l U mt).getD i []) {S':List iw} {sl:LQ} {ms:MM} {t:Nat} (hR:jm Z l S' sl ms) (hj:∃ j,te t ms=some j∧jh j A=true):∃ j∈(bz l).getD i [],bu l j=some t:=by
 obtain ⟨j,h1,h2⟩:=hj
 obtain ⟨a,ha,rfl,rfl⟩:=Qa h1
 exact hR.slot ha (tD (by rw [← hA]; exact r8.1 h2)).1
theorem BN {mt:Nat} {A:LN} {S' S2:List iw} {sl:LQ} {ms:MM} {g:Nat→List Nat} {r:NV} (hR:jm Z l S' sl ms) (hA:A=(r9 l U mt).getD S'.length []) (hi:qm ms) (js:su A ms=true) (hn:∀ j,vu l U mt S'.length j=true→yk l (S'++S2) j g r w) :
  ∃ x:qk ms,(∀ p∈oy A ms x,r p.1=p.2)∧HV Z w (sr A ms x) (B8 A g ms):=
 Zr hi js fun a hm hb=>by
  exact hR.H6 hm (hn a.j (tD (by rw [← hA]; exact r8.1 hb)).2)
theorem l3.mem {mt:Nat} {A:LN} {op:Op} {d:Nat} {ty:TI} {as:LL} {ops:LO} {i:Nat} {sl:LQ} {ms:MM} {r0:NV} {w0:World} {H:LN} {a:ik} (h:l3 P Z l mt U r0 w0 H i sl ms) (h1:sw l mt U A op d ty as ops i) (haj:a.j=i) (had:a.d=d)
  (js:∀ S',jm Z l S' sl ms→∀ t∈a.src,∃ j∈(bz l).getD i [],bu l j=some t)
  (hq:∀ S' S2,S'.length=i→jm Z l S' sl ms→∀ (g:Nat→List Nat) (r:NV) (w:World),an H w0 w→(∀ j∈(bz l).getD S'.length [],Old l (S'++S2) j r)→(∀ j,vu l U mt S'.length j=true→yk l (S'++S2) j g r w)→(∀ t,(∀ j,j < mt→bu l j≠some t)→r t=r0 t)→∀ pos ag,
   gy P ⟨some d,op,ty,pos,ag,none⟩ r w fun v w'=>an [] w w'∧∃ f,(∀ b∈f,w.heap.size≤b∧b < w'.heap.size)∧MV Z a f w' r v):l3 P Z l mt U r0 w0 H (i+1) sl (a :: ms):=by
 obtain ⟨S',hl,hR,hO⟩:=h
 subst hl
 subst had
 obtain ⟨hA,⟨pos,ag,ho⟩,_⟩:=h1
 refine ⟨S'++[⟨true,MV Z a⟩],by simp,hR.mem haj (by unfold bu; rw [ho]; rfl) (js S' hR),fun j hj=>?_⟩
 by_cases h2:j < S'.length
 ·exact lr.more (hO j h2) h2
 ·obtain rfl:j=S'.length:=by omega
  exact lr.Qb (V:=MV Z a) ho (by simp) rfl fun g r w hC hO hn l6=>hq S' _ rfl hR g r w hC hO hn l6 pos ag
theorem wo.sub {ms BO:MM} {a:ik} {t:Nat} (h:wo ms t a BO):a∈ms∧a.d=t∧(∀ b∈BO,b∈ms)∧(BO.map (·.j)).Sublist (ms.map (·.j)):=by
 induction h with
 | here=>exact ⟨by simp,rfl,fun b hb=>List.mem_cons_of_mem _ hb,by simp⟩
 | there _ ih=>
  obtain ⟨h1,h2,h3,h4⟩:=ih
  refine ⟨List.mem_cons_of_mem _ h1,h2,fun b hb=>?_,by simpa using h4⟩
  rcases List.mem_cons.1 hb with rfl | hb
  ·simp
  ·exact List.mem_cons_of_mem _ (h3 b hb)
theorem jm.sub {S':List iw} {sl:LQ} {ms BO:MM} (h:jm Z l S' sl ms) (hm:∀ b∈BO,b∈ms) (hn:(BO.map (·.j)).Sublist (ms.map (·.j))):jm Z l S' sl BO:=⟨h.v,fun a ha=>h.m a (hm a ha),h.s,h.d.sublist hn,h.t⟩
theorem T0 {mt:Nat} {t e et:TI} {E:ai Int} {z0:Int} {bt t1 t2 j2 d2 i d:Nat} {k:IntKind} {y:Int} {xs:List Int} {a1:ik} {ms ra H5:MM} {sl:LQ} {A:LN} {ty:TI} {as:LL} {ops:LO} {r0:NV} {w0:World} {H:LN} (hz:uq P t Int e E z0 bt) (h1:wo ms t1 a1 ra) (h2:wo ra t2 ⟨j2,d2,[],Nat,fun _ b=>.slice (some ⟨b,0,none⟩) 1 1,fun _ b=>[.row b [.int k y] et]⟩ H5) (h3:∀ u v,a1.ps u v=[.own (aI e (aL k)) (a1.rt u v) xs]) (h4:jh a1.j A=true) (h5:jh j2 A=true) (h6:U.getD i []=[a1.j])
  (hf:fits bt (xs.length+1)=some ()) (Dd:sw l mt U A (.call ⟨.builtin .append,#[.tmp t1,.tmp t2],#[t,t]⟩) d ty as ops i) (h:l3 P Z l mt U r0 w0 H i sl ms) :
  l3 P Z l mt U r0 w0 H (i+1) sl (⟨i,d,[],Value,fun _ v=>v,fun _ v=>[.own (aI e (aL k)) v (xs++[y])]⟩ :: ra):=by
 obtain ⟨S',hl,hR,hO⟩:=h
 subst hl
 obtain ⟨hA,⟨pos,ag,ho⟩,_⟩:=Dd
 obtain ⟨b1,b2⟩:=rq hf
 obtain ⟨q1,hE,i',z,q3,q4,q5,q6,q7,q8⟩:=hz.h
 obtain ⟨m1,m2,m3,m4⟩:=h1.sub
 obtain ⟨n1,n2,_,_⟩:=h2.sub
 refine ⟨S'++[⟨true,MV Z ⟨S'.length,d,[],Value,fun _ v=>v,fun _ v=>[.own (aI e (aL k)) v (xs++[y])]⟩⟩],by simp,(hR.sub m3 m4).mem rfl (by unfold bu; rw [ho]; rfl) (by intro t h; cases h),fun j hj=>?_⟩
 by_cases bc:j < S'.length
 ·exact lr.more (hO j bc) bc
 ·obtain rfl:j=S'.length:=by omega
  intro o' s' cb fh g r w hC Gx ni hn l6 zU mw
  rw [ho] at cb
  cases cb
  rw [List.getElem?_append_right (Nat.le_refl _),Nat.sub_self] at fh
  cases fh
  rw [if_pos rfl]
  refine ⟨rfl,?_⟩
  have get:∀ a∈ms,jh a.j A=true→MV Z a (g a.j) w r (r a.d):=fun a hm hb=>by
   exact hR.H6 hm (hn a.j (tD (by rw [← hA]; exact r8.1 hb)).2)
  obtain ⟨v1,c1,c2,c3⟩:=get a1 m1 h4
  obtain ⟨v2,f1,f2,f3⟩:=get _ (m3 _ n1) h5
  rw [h3,← c1,m2] at c2
  rw [m2] at c1
  simp only at f1 f2
  subst n2
  replace c2:=c2.own rfl
  replace f2:=f2.own rfl
  generalize Gl:g a1.j=G1 at c2 c3
  generalize np:g j2=G2 at f2 f3
  cases c2 with
  | fact h _=>exact h.elim
  | @own _ ff F0 _ Qc AV=>
   cases AV
   rw [List.append_nil] at c3
   cases f2 with
   | fact h _=>exact h.elim
   | @own _ gg F0 _ bg AV=>
    cases AV
    obtain ⟨rfl,bg⟩:=bg
    have hb:sx g (U.getD S'.length [])=ff:=by rw [h6]; simp [sx,Gl]
    refine sa (gy.wm (E:=aL k) (F:=ff) q1 q3 q4 q5 rfl q6 (s:=.tmp t1) (x:=.tmp d2) rfl ⟨Qc,c3⟩ (fun b hb=>hb) f1 bg ⟨rfl,rfl⟩ (by rw [q7]; exact b1) b2) ?_
    rintro v w' ⟨H8,f',uG,hV⟩
    rw [hb]
    refine ⟨H8,f',uG,v,rfl,?_,hV.2⟩
    have:=HL.own (Z:=fun _=>False) (e:=.own (aI e (aL k)) v (xs++[y])) (f:=f') hV.1 .nil
    exact .inl (by simpa using this)
theorem gy.CP {α:Type} {E:ai α} {F f k:LN} {t e:TI} {s x:OO} {i:TypeInfo} {z:Value} {sv yv:Value} {xs ys:List α} {r:NV} {w:World} {d:Option Nat} {ty:TI} {pos:String} {ag:Array Edge} (V0:∀ {h cs x f},E.rep h cs x f→f=[])
  (ht:P.underlying t=some (.slice e)) (hi:P.info? e=some i) (hz:i.zero=some z) (hs:i.size=1) (hE:E.size=1) (Ah:z.oneCell'=true)
  (wO:ev r s=sv) (hO:Fy (aI e E) xs f w sv) (hF:∀ b∈f,b∈F) (hx:ev r x=yv) (hy:(bG E).rep w.heap [yv] ys k)
  (hb:(xs.length+ys.length) * i.bytes≤140737488355328) (zo:xs.length+ys.length≤maxLen) :
  gy P ⟨d,.call ⟨.builtin .append,#[s,x],#[t,t]⟩,ty,pos,ag,none⟩ r w fun v w'=>an F w w'∧∃ f',(∀ b∈f',(b∈F∨w.heap.size≤b)∧b < w'.heap.size)∧Fy (aI e E) (xs++ys) f' w' v:=by
 have tw:=Gy hy
 rcases Nat.eq_zero_or_pos ys.length with BP | BP
 ·obtain rfl:ys=[]:=List.eq_nil_of_length_eq_zero BP
  obtain ⟨b0,c0,H9⟩:=xT hy
  obtain ⟨base,cap,hv,hr⟩:=hO.1
  obtain rfl:sv = .slice base xs.length cap:=by simpa using hv
  have Qd:xs.length≤cap:=by
   rcases hr with ⟨_,rfl,rfl,_⟩ | ⟨_,_,_,_,_,_,h,_⟩
   ·simp
   ·exact h
  have kz:=Ai (P:=P) (w:=w) (ty:=ty) ht hi (b:=base) (a:=b0) (c:=c0) Qd
  subst H9
  have AW:(execOp (ev r) ⟨d,.call ⟨.builtin .append,#[s,x],#[t,t]⟩,ty,pos,ag,none⟩).run P w = .ok (.value (.slice base xs.length cap)) w:=by
   simp only [execOp,resolve,invoke,builtin,Sem.run_bind,Sem.run_pure,Result.andThen_ok,List.map_toArray,List.map_cons,List.map_nil,wO,hx,List.length_nil,kz]
  unfold gy
  rw [AW]
  exact ⟨an.refl _ _,f,fun b hb=>⟨.inl (hF b hb),ai.lt _ hO.1 b hb⟩,by rw [List.append_nil]; exact hO⟩
 ·rcases tw with rfl | ⟨a,c,news,g1,H9,AX,ed,_⟩
  ·simp at BP
  ·obtain ⟨rfl,_⟩:=B9 (h':=w.heap) V0 ed
   obtain ⟨v,w',f',h,hC,Hm,dk,du⟩:=rz (d:=d) (ty:=ty) (pos:=pos) (ag:=ag) (g:=none) ht hi hz (by rw [hs,hE]) (by rw [cells_one Ah,hE]; rfl) wO hO.1 hO.2 (hx.trans H9) AX ed (fun _ h=>nomatch h) BP hb zo
   unfold gy
   rw [h]
   refine ⟨hC.mono hF,f',fun b hb=>⟨?_,ai.lt _ Hm b hb⟩,Hm,du List.nodup_nil⟩
   rcases dk b hb with h | h | h
   ·exact .inl (hF b h)
   ·cases h
   ·exact .inr h
theorem wD {t:TI} {x y:OO} {i:TypeInfo} {b off:Nat} {cs us:LV} {e:TI} {r:NV} {d:Option Nat} {ty:TI} {pos:String} {ag:Array Edge} {gg:Option (Nat×Bool)}
  (hi:P.info? t=some i) (hs:us.length=i.size) (bg:Row w b cs e) (hl:off+us.length≤cs.length) (hx:ev r x = .pointer (some ⟨b,off,none⟩)) (hy:(ev r y).cells.toList=us) (hu:∀ u∈us,u.oneCell'=true) :
  (execOp (ev r) ⟨d,.store t x y,ty,pos,ag,gg⟩).run P w = .ok .skip (w.setRow b (cs.take off++us++cs.drop (off+us.length)).toArray):=by
 have h:=run_storeCells_at P b off e us 0 cs.toArray w bg (by simpa using hl) hu
 simp only [Nat.add_zero] at h
 have tT:(ev r y).cells=us.toArray:=by rw [← hy]
 simp only [execOp,Instr.storeAt,Instr.sureAddr,hx,storeVar]
 simp [tT,sizeOf,typeInfo,hi,hs,h]
theorem T1 {mt:Nat} {t e:TI} {t1 j1 n i:Nat} {y:OO} {u:Value} {us cs ds:LV} {ms ra:MM} {sl:LQ} {A:LN} {ty:TI} {as:LL} {ops:LO} {r0:NV} {w0:World} {H:LN} {Γ:QE} {F:LN} (hh:oK l mt base=true) (ha:cu r0 base) (ht:vi P t n)
  (h1:wo ms t1 ⟨j1,t1,[],Nat,fun _ b=>.pointer (some ⟨b,0,none⟩),fun _ b=>[.row b cs e]⟩ ra) (hv:dL A none sl base fr) (hy:bj fr y=some u) (hc:tR Γ u us) (tP:us.length=n) (hs:uM us 0 cs ds) (ho:we Γ us) (h4:jh j1 A=true) (h6:U.getD i []=[j1])
  (hS:∀ w,an H w0 w→SA Z w Γ [] F) (Dd:VZ l mt U A (.store t (.tmp t1) y) ty as ops i) (h:l3 P Z l mt U r0 w0 H i sl ms) :
  l3 P Z l mt U r0 w0 H (i+1) sl (⟨i,t1,[],Nat,fun _ b=>.pointer (some ⟨b,0,none⟩),fun _ b=>[.row b ds e]⟩ :: ra):=by
 obtain ⟨S',hl,hR,hO⟩:=h
 subst hl
 obtain ⟨hA,⟨pos,ag,KG⟩,_⟩:=Dd
 obtain ⟨ti,q1,q2⟩:=ht.h
 obtain ⟨m1,_,m3,m4⟩:=h1.sub
 have Fz:=tD (by rw [← hA]; exact r8.1 h4)
 refine ⟨S'++[⟨true,NG Z ⟨S'.length,t1,[],Nat,fun _ b=>.pointer (some ⟨b,0,none⟩),fun _ b=>[.row b ds e]⟩⟩],by simp,(hR.sub m3 m4).acj (b:=⟨S'.length,t1,[],Nat,fun _ b=>.pointer (some ⟨b,0,none⟩),fun _ b=>[.row b ds e]⟩) rfl (by unfold bu; rw [KG]; rfl) (hR.slot m1 Fz.1) rfl,fun j hj=>?_⟩
 by_cases bc:j < S'.length
 ·exact lr.more (hO j bc) bc
 ·obtain rfl:j=S'.length:=by omega
  intro o' s' cb fh g r w hC Gx ni hn l6 zU mw
  rw [KG] at cb
  cases cb
  rw [List.getElem?_append_right (Nat.le_refl _),Nat.sub_self] at fh
  cases fh
  rw [if_pos rfl]
  refine ⟨rfl,?_⟩
  obtain ⟨b,c1,c2,c3⟩:=hR.H6 m1 (hn j1 Fz.2)
  simp only at c1 c2
  replace c2:=c2.own rfl
  generalize Gl:g j1=G1 at c2 c3
  cases c2 with
  | fact h _=>exact h.elim
  | @own _ ff F0 _ Qc AV=>
   cases AV
   obtain ⟨rfl,bg⟩:=Qc
   have hb:sx g (U.getD S'.length [])=[b]:=by rw [h6]; simp [sx,Gl]
   have hr:=rn hR hA hv (mf hh ha l6) ni
   obtain ⟨e1,e2⟩:=hs.eq
   have HY:=hS w hC
   have kz:=wD (P:=P) (d:=none) (ty:=ty) (pos:=pos) (ag:=ag) (gg:=none) q1 (by rw [tP,q2]) bg e1 (x:=.tmp t1) c1 (y:=y) (by rw [aY hr hy]; exact hc.eq HY) (ho.one HY)
   unfold gy
   rw [kz,hb]
   have vq:=setRow_heap w b cs.toArray (cs.take 0++us++cs.drop (0+us.length)).toArray e _ bg
   have ack:b < w.heap.size:=bg.lt
   refine ⟨⟨rfl,rfl,rfl,Nat.le_refl _,by simp,fun j _ hj=>setRow_other w b j _ fun h=>hj (by simp [h])⟩,[b],fun b' cq=>?_,b,c1,?_,by simp⟩
   ·rw [List.mem_singleton.1 cq]
    exact ⟨.inl (by simp),by simpa using ack⟩
   ·refine .inl (HL.own (f:=[b]) ⟨rfl,?_⟩ .nil)
    rw [e2]
    exact vq
theorem T2 {mt:Nat} {t i d:Nat} {cs:LV} {sl:LQ} {ms:MM} {A:LN} {ty:TI} {as:LL} {ops:LO} {r0:NV} {w0:World} {H:LN} (hz:ye P t cs) (h1:sw l mt U A (.alloc t) d ty as ops i) (h:l3 P Z l mt U r0 w0 H i sl ms) :
   l3 P Z l mt U r0 w0 H (i+1) sl (⟨i,d,[],Nat,fun _ b=>.pointer (some ⟨b,0,none⟩),fun _ b=>[.row b cs t]⟩ :: ms):=by
 obtain ⟨i',z,t1,t2,t3⟩:=hz.h
 refine h.mem h1 rfl rfl (fun _ _ _ h=>nomatch h) fun S' S2 hl hR g r w hC ni hn l6 pos ag=>sa (gy.VU (cs:=cs) t1 t2 (by rw [← t3])) ?_
 rintro v w' ⟨hC,f,hf,b,e1,e2,bg⟩
 refine ⟨hC,f,hf,b,e2,?_,by rw [e1]; simp⟩
 have:=HL.own (Z:=fun _=>False) (e:=.row b cs t) (f:=[b]) ⟨rfl,bg⟩ .nil
 rw [e1]
 exact .inl (by simpa using this)
theorem V1 {mt t n:Nat} {A:LN} {st:TI} {d:Nat} {ty:TI} {as:LL} {ops:LO} {i:Nat} {sl:LQ} {ms:MM} {r0:NV} {w0:World} {H:LN} (h:l3 P Z l mt U r0 w0 H i sl ms) (h1:sw l mt U A (.call ⟨.builtin .len,#[.tmp t],#[st]⟩) d ty as ops i) (ht:yd P st) (hi:qm ms) (js:su A ms=true) (hx:∀ x:qk ms,VT (oy A ms x) (sr A ms x) t n):l3 P Z l mt U r0 w0 H (i+1) ((i,d,.int .i64 (n:Int)) :: sl) ms:=by
 obtain ⟨S',hl,hR,hO⟩:=h
 subst hl
 obtain ⟨hA,⟨pos,ag,ho⟩,_⟩:=h1
 obtain ⟨e,i',q1,_,_⟩:=ht.h
 refine ⟨S'++[sV (.int .i64 (n:Int))],by simp,hR.val (by unfold bu; rw [ho]; rfl),fun j hj=>?_⟩
 by_cases h2:j < S'.length
 ·exact lr.more (hO j h2) h2
 ·obtain rfl:j=S'.length:=by omega
  refine lr.val (v:=.int .i64 (n:Int)) ho (by simp) rfl fun g r w hC ni hn l6=>?_
  obtain ⟨x,hv,hE⟩:=BN hR hA hi js hn
  obtain ⟨Ca,VL⟩:=hx x
  have Df:=(uc hv Ab) t _ (by rw [List.append_nil]; exact Ca)
  obtain ⟨_,_,_,_,hS⟩:=hE.front (Γ:=[]) (F:=[]) rfl
  rw [List.append_nil] at hS
  obtain ⟨b,c,rfl⟩:=VL.sound hS
  exact wN q1 (x:=.tmp t) Df
theorem T3 {mt:Nat} {t:TI} {ps:List (Nat×Operand)} {zc:LV} {pl:List (Nat×Nat)} {A:LN} {as:LL} {d:Nat} {ty:TI} {ops:LO} {i:Nat} {sl:LQ} {ms:MM} {fr:Fr} {hd Γ:QE} {B:Bs} {r0:NV} {w0:World} {H:LN} {X:Value→List Value} {ts:LN} (hh:oK l mt base=true) (hb:Af P t zc pl) (hi:qm ms) (js:su A ms=true) (hj:tsB A ms ts=true) (hv:dL A none sl base fr)
   (hx:∀ x:qk ms,xG (sr A ms x++Γ) (oy A ms x++fr) pl ps zc (X (zT (zn (mF ms x)) ts))) (h1:sw l mt U A (.build t ps.toArray) d ty as ops i) (ha:cu r0 base) (hs:ur B Z hd Γ H w0) (h:l3 P Z l mt U r0 w0 H i sl ms) :
   l3 P Z l mt U r0 w0 H (i+1) sl (⟨i,d,ts,Unit,fun u _=>.agg (X u).toArray,fun _ _=>[]⟩ :: ms):=by
 have hts:∀ t∈ts,∃ j,te t ms=some j∧jh j A=true:=fun t ht=>by
  have:=List.all_eq_true.1 hj t ht
  cases hf:te t ms with
  | none=>rw [hf] at this; cases this
  | some j=>rw [hf] at this; exact ⟨j,rfl,this⟩
 refine h.mem h1 rfl rfl (fun S' hR t' ht=>Fx h1.A hR (hts t' ht)) ?_
 intro S' S2 hl hR g r w hC ni hn l6 pos ag
 have hA:=h1.A
 rw [← hl] at hA
 have hbs:=rn hR hA hv (mf hh ha l6) ni
 obtain ⟨x,hxv,vv⟩:=BN hR hA hi js hn
 obtain ⟨F,Hd,⟨BQ,Dg,yn,Dh⟩,hS,hG⟩:=hs
 obtain ⟨G,_,_,_,gv⟩:=vv.front (ur.stay hS hG hC)
 have e:zT (zn (mF ms x)) ts=zT r ts:=CQ fun t ht=>by
  obtain ⟨j,h2,h3⟩:=hts t ht
  unfold zn
  rw [H0 h2 h3 hxv]
 have hF:=hx x
 rw [e] at hF
 have kz:=(VQ.SH (P:=P) (hb:=hb) hF).sound gv (uc hxv hbs) (some d) ty pos ag none w (an.refl _ _)
 unfold gy
 rw [kz]
 exact ⟨an.refl _ _,[],fun b hb=>absurd hb List.not_mem_nil,(),rfl,.inl .nil,List.nodup_nil⟩
theorem T4 {mt:Nat} {α:Type} {t e:TI} {E:ai α} {z0:α} {bt i d:Nat} {sl:LQ} {ms:MM} {A:LN} {ty:TI} {as:LL} {ops:LO} {r0:NV} {w0:World} {H:LN} (hz:uq P t α e E z0 bt) (h1:sw l mt U A (.buildSlice t 0 #[]) d ty as ops i) (h:l3 P Z l mt U r0 w0 H i sl ms) :
   l3 P Z l mt U r0 w0 H (i+1) sl (⟨i,d,[],Value,fun _ v=>v,fun _ v=>[.own (aI e E) v []]⟩ :: ms):=by
 obtain ⟨t1,_,i',z,t2,_⟩:=hz.h
 refine h.mem h1 rfl rfl (fun _ _ _ h=>nomatch h) fun S' S2 hl hR g r w hC ni hn l6 pos ag=>sa (gy.made (AY (E:=E) t1 t2)) ?_
 rintro v w' ⟨hC,f,hf,hV⟩
 refine ⟨hC,f,hf,v,rfl,?_,hV.2⟩
 have:=HL.own (Z:=fun _=>False) (e:=.own (aI e E) v []) (f:=f) hV.1 .nil
 exact .inl (by simpa using this)
theorem V2 {mt n:Nat} {α:Type} {t e:TI} {E:ai α} {z0:α} {bt i d:Nat} {sl:LQ} {ms:MM} {A:LN} {ty:TI} {as:LL} {ops:LO} {r0:NV} {w0:World} {H:LN} {x:OO} {z:Int} (hh:oK l mt base=true) (ha:cu r0 base) (hz:uq P t α e E z0 bt) (hv:dL A none sl base fr) (hx:bj fr x=some (.int .i64 z)) (hn:mk bt z=some n) (h1:sw l mt U A (.makeSlice t x x) d ty as ops i) (h:l3 P Z l mt U r0 w0 H i sl ms) :
   l3 P Z l mt U r0 w0 H (i+1) sl (⟨i,d,[],Value,fun _ v=>v,fun _ v=>[.own (aI e E) v (List.replicate n z0)]⟩ :: ms):=by
 obtain ⟨e1,e2,e3⟩:=Fq hn
 obtain ⟨t1,hE,i',z',t2,t3,t4,t5,t6,t7⟩:=hz.h
 subst e1
 refine h.mem h1 rfl rfl (fun _ _ _ h=>nomatch h) fun S' S2 hl hR g r w hC ni hn l6 pos ag=>?_
 have hb:=rn hR (by rw [hl]; exact h1.A) hv (mf hh ha l6) ni
 refine sa (gy.made (Ia (E:=E) (z0:=z0) t1 t2 t3 t4 hE t5 t7 (aY hb hx) (aY hb hx) (by rw [t6]; exact e2) e3)) ?_
 rintro v w' ⟨hC,f,hf,hV⟩
 refine ⟨hC,f,hf,v,rfl,?_,hV.2⟩
 have:=HL.own (Z:=fun _=>False) (e:=.own (aI e E) v (List.replicate n z0)) (f:=f) hV.1 .nil
 exact .inl (by simpa using this)
theorem V3 {mt:Nat} {α:Type} {t e:TI} {E:ai α} {z0:α} {bt i d:Nat} {sl:LQ} {ms:MM} {A:LN} {ty:TI} {as:LL} {ops:LO} {r0:NV} {w0:World} {H:LN} {x:OO} {u:Value} {Γ:QE} {F:LN} (hh:oK l mt base=true) (ha:cu r0 base) (hz:uq P t α e E z0 bt) (hv:dL A none sl base fr) (hx:bj fr x=some u) (ho:One Γ u) (hS:∀ w,an H w0 w→SA Z w Γ [] F) (h1:sw l mt U A (.buildSlice t 1 #[(0,x)]) d ty as ops i) (h:l3 P Z l mt U r0 w0 H i sl ms) :
   l3 P Z l mt U r0 w0 H (i+1) sl (⟨i,d,[],Nat,fun _ b=>.slice (some ⟨b,0,none⟩) 1 1,fun _ b=>[.row b [u] e]⟩ :: ms):=by
 obtain ⟨t1,hE,i',z',t2,t3,t4,t5,t6,t7⟩:=hz.h
 refine h.mem h1 rfl rfl (fun _ _ _ h=>nomatch h) fun S' S2 hl hR g r w hC ni hn l6 pos ag=>?_
 have hb:=rn hR (by rw [hl]; exact h1.A) hv (mf hh ha l6) ni
 refine sa (gy.Fk t1 t2 t3 t4 (aY hb hx) (ho.one (hS w hC))) ?_
 rintro v w' ⟨hC,f,hf,b,e1,e2,bg⟩
 refine ⟨hC,f,hf,b,e2,?_,by rw [e1]; simp⟩
 have:=HL.own (Z:=fun _=>False) (e:=.row b [u] e) (f:=[b]) ⟨rfl,bg⟩ .nil
 rw [e1]
 exact .inl (by simpa using this)
theorem KH {mt n:Nat} {t e:TI} {i d:Nat} {sl:LQ} {ms:MM} {A:LN} {ty:TI} {as:LL} {ops:LO} {r0:NV} {w0:World} {H:LN} {ps:List (Nat×Operand)} {us:LV} {Γ:QE} {F:LN} (hh:oK l mt base=true) (ha:cu r0 base) (hz:SE P t e) (hv:dL A none sl base fr) (hd:xj Γ fr 0 ps us) (hn:us.length=n) (hb:(Nat.ble 1 n && Nat.ble n 16777216)=true) (hS:∀ w,an H w0 w→SA Z w Γ [] F) (h1:sw l mt U A (.buildSlice t n ps.toArray) d ty as ops i) (h:l3 P Z l mt U r0 w0 H i sl ms) :
   l3 P Z l mt U r0 w0 H (i+1) sl (⟨i,d,[],Nat,fun _ b=>.slice (some ⟨b,0,none⟩) n n,fun _ b=>[.row b us e]⟩ :: ms):=by
 refine h.mem h1 rfl rfl (fun _ _ _ h=>nomatch h) fun S' S2 hl hR g r w hC ni hnn l6 pos ag=>?_
 have cq:=rn hR (by rw [hl]; exact h1.A) hv (mf hh ha l6) ni
 unfold gy
 rw [hd.op cq (hS w hC) hz hn hb]
 refine ⟨an.alloc _ _ _,[w.heap.size],fun b hb=>by rw [List.mem_singleton.1 hb]; simp,w.heap.size,rfl,?_,by simp⟩
 have:=HL.own (Z:=fun _=>False) (e:=.row w.heap.size us e) (f:=[w.heap.size]) ⟨rfl,heap_alloc_new w _⟩ .nil
 exact .inl (by simpa using this)
theorem T5 {mt t:Nat} {α:Type} {s e:TI} {E:ai α} {z0:α} {bt i d:Nat} {sl:LQ} {ms:MM} {A:LN} {ty:TI} {as:LL} {ops:LO} {r0:NV} {w0:World} {H:LN} (hz:uq P s α e E z0 bt) (hi:qm ms) (js:su A ms=true) (hj:∃ j,te t ms=some j∧jh j A=true) (hx:∀ x:qk ms,P5 (oy A ms x) (sr A ms x) t) (h1:sw l mt U A (.buildSlice s 1 #[(0,.tmp t)]) d ty as ops i) (h:l3 P Z l mt U r0 w0 H i sl ms) :
   l3 P Z l mt U r0 w0 H (i+1) sl (⟨i,d,[t],Nat,fun _ b=>.slice (some ⟨b,0,none⟩) 1 1,fun u b=>[.row b [u] e]⟩ :: ms):=by
 obtain ⟨t1,hE,i',z',t2,t3,t4,t5,t6,t7⟩:=hz.h
 refine h.mem h1 rfl rfl (fun S' hR t' ht=>by rw [List.mem_singleton.1 ht]; exact Fx h1.A hR hj) ?_
 intro S' S2 hl hR g r w hC ni hn l6 pos ag
 obtain ⟨x,hv,hE⟩:=BN hR (by rw [hl]; exact h1.A) hi js hn
 obtain ⟨Ca,uO⟩:=hx x
 have Df:r t=_:=(uc hv Ab) t _ (by rw [List.append_nil]; exact Ca)
 obtain ⟨_,_,_,_,hS⟩:=hE.front (Γ:=[]) (F:=[]) rfl
 rw [List.append_nil] at hS
 refine sa (gy.Fk t1 t2 t3 t4 (x:=.tmp t) rfl (by show (r t).oneCell'=true; rw [Df]; exact uO.one hS)) ?_
 rintro v w' ⟨hC,f,hf,b,e1,e2,bg⟩
 refine ⟨hC,f,hf,b,e2,?_,by rw [e1]; simp⟩
 have:=HL.own (Z:=fun _=>False) (e:=.row b [r t] e) (f:=[b]) ⟨rfl,bg⟩ .nil
 rw [e1]
 exact .inl (by simpa [xk,zT] using this)
theorem T6:∀ cs:List Value,mc cs [] cs:=by
 intro cs
 induction cs with
 | nil=>exact .nil
 | cons c cs ih=>exact .cons ih
theorem T8 {mt t n:Nat} {s e:TI} {i d:Nat} {sl:LQ} {ms:MM} {A:LN} {ty:TI} {as:LL} {ops:LO} {r0:NV} {w0:World} {H:LN} (hz:Gp P s e n) (hb:(Nat.ble 1 1 && Nat.ble (1 * n) 16777216)=true) (hi:qm ms) (js:su A ms=true) (hj:∃ j,te t ms=some j∧jh j A=true) (hx:∀ x:qk ms,P6 (oy A ms x) t n) (h1:sw l mt U A (.buildSlice s 1 #[(0,.tmp t)]) d ty as ops i) (h:l3 P Z l mt U r0 w0 H i sl ms) :
   l3 P Z l mt U r0 w0 H (i+1) sl (⟨i,d,[t],Nat,fun _ b=>.slice (some ⟨b,0,none⟩) 1 1,fun u b=>[.row b u.cells.toList e]⟩ :: ms):=by
 refine h.mem h1 rfl rfl (fun S' hR t' ht=>by rw [List.mem_singleton.1 ht]; exact Fx h1.A hR hj) ?_
 intro S' S2 hl hR g r w hC ni hn l6 pos ag
 obtain ⟨x,hv,hE⟩:=BN hR (by rw [hl]; exact h1.A) hi js hn
 obtain ⟨Ca,hlen⟩:=hx x
 rename_i cs
 have Df:r t = .agg cs.toArray:=(uc hv Ab) t _ (by rw [List.append_nil]; exact Ca)
 have qj:cu r [(t,.agg cs.toArray)]:=(fun t' v' h'=>by
  simp only [look] at h'
  cases h2:Nat.beq t' t with
  | true=>rw [h2] at h'; cases h'; rw [Nat.eq_of_beq_eq_true h2]; exact Df
  | false=>rw [h2] at h'; cases h')
 have hd:xH [] [(t,.agg cs.toArray)] n 0 [(0,.tmp t)] cs:=.cons (v:=.agg cs.toArray) (by simp [bj,look]) .agg hlen .nil (T6 cs)
 have KG:(execOp (ev r) ⟨some d,.buildSlice s 1 #[(0,.tmp t)],ty,pos,ag,none⟩).run P w=_:=hd.op (Z:=fun _=>False) (w:=w) (cur:=[]) (F:=[]) qj rfl hz rfl hb
 unfold gy
 rw [KG]
 refine ⟨an.alloc _ _ _,[w.heap.size],fun b hb=>by rw [List.mem_singleton.1 hb]; simp,w.heap.size,rfl,?_,by simp⟩
 have xx:(Value.agg cs.toArray).cells.toList=cs:=rfl
 have:=HL.own (Z:=fun _=>False) (e:=.row w.heap.size (r t).cells.toList e) (f:=[w.heap.size]) ⟨rfl,by rw [Df,xx]; exact heap_alloc_new w _⟩ .nil
 exact .inl (by simpa [xk,zT] using this)
theorem Qe {mt:Nat} {β V:Type} {A:LN} {as:LL} {d:Nat} {f:FuncId} {xs:List Operand} {aw:Array TypeId} {ty:TI} {mo:Option β} {rt:β→V→List Value} {ps:β→V→List av} {ops:LO} {i:Nat} {sl:LQ} {ms:MM} {fr:Fr} {hd Γ:QE} {B:Bs} {r0:NV} {w0:World} {H:LN} {y:β} (hh:oK l mt base=true) (hf:bm P f) (hv:dL A none sl base fr)
   (hc:∀ x:qk ms,LW P f xs (oy A ms x++fr) (sr A ms x++Γ) mo rt ps) (hi:qm ms) (js:su A ms=true) (hw:∀ y v,tO (ps y v)=true) (h1:sw l mt U A (.call ⟨.value (.func f),xs.toArray,aw⟩) d ty as ops i) (hy:mo=some y) (ha:cu r0 base) (hs:ur B Z hd Γ H w0) (h:l3 P Z l mt U r0 w0 H i sl ms) :
   H7 P Z l mt U r0 w0 H i sl ms ⟨i,d,[],V,fun _ v=>tH (rt y v),fun _=>ps y⟩:=by
 obtain ⟨S',hl,hR,hO⟩:=h
 subst hl
 refine ⟨S',rfl,hR,hO,fun V' hV=>?_⟩
 obtain ⟨hA,⟨pos,ag,ho⟩,_⟩:=h1
 refine lr.Qb (V:=V') ho (by simp) rfl fun g r w hC ni hn l6=>?_
 have hb:=rn hR hA hv (mf hh ha l6) ni
 obtain ⟨x,hx,vv⟩:=BN hR hA hi js hn
 obtain ⟨Ib,Cb,hd,hr⟩:=hc x
 obtain ⟨fn,c,f1,f2,f3⟩:=hf.h
 refine Calls.LM f1 f2 f3 ?_
 rw [ub (uc hx hb) Ib]
 obtain ⟨F,Hd,⟨BQ,Dg,yn,Dh⟩,hS,hG⟩:=hs
 obtain ⟨G,nt,FV,Ej,gv⟩:=vv.front (ur.stay hS hG hC)
 rw [tI] at Cb
 refine (Cb.2 w (fun b=>Z b∨b∈G) [] (hr.sound (fun _ h=>h) (fun _ b hb=>.inr (Ej b hb)) gv hd.ho) List.nodup_nil (fun b hb=>absurd hb List.not_mem_nil)
  (fun b hb=>hb.elim (fun h=>Nat.lt_of_lt_of_le (hG.tv b h) hC.size) fun h=>(nt b h).2) y hy).mono ?_
 rintro e w' ⟨v,he,Z2,F2,sX,np⟩
 have Cc:HL (fun _=>False) w' (ps y v) F2:=B3 (hw y v) sX
 have bc:=(Cc.front (Γ:=[]) (F:=[]) rfl).lt
 obtain ⟨f',dk,Ic⟩:=hV F2 w' r _ ⟨v,rfl,.inl Cc,np.nd⟩
 refine ⟨_,he,np.lq,f',fun b hb=>⟨(np.low b (dk b hb)).resolve_left List.not_mem_nil,bc b (by simpa using dk b hb)⟩,Ic⟩
theorem NK {mt:Nat} {β V:Type} {A:LN} {as:LL} {d:Nat} {f:FuncId} {fs bs:LV} {xo:OO} {xs:List Operand} {aw:Array TypeId} {ty:TI} {mo:Option β} {rt:β→V→List Value} {ps:β→V→List av} {ops:LO} {i:Nat} {sl:LQ} {ms:MM} {fr:Fr} {hd Γ:QE} {B:Bs} {r0:NV} {w0:World} {H:LN} {y:β} (hh:oK l mt base=true) (hf:bm P f) (hv:dL A none sl base fr)
   (V4:bj fr xo=some (.func (.func f) fs.toArray bs.toArray)) (hc:∀ x:qk ms,LX P f fs bs xs (oy A ms x++fr) (sr A ms x++Γ) mo rt ps) (hi:qm ms) (js:su A ms=true) (hw:∀ y v,tO (ps y v)=true) (h1:sw l mt U A (.call ⟨.value xo,xs.toArray,aw⟩) d ty as ops i) (hy:mo=some y) (ha:cu r0 base) (hs:ur B Z hd Γ H w0) (h:l3 P Z l mt U r0 w0 H i sl ms) :
   H7 P Z l mt U r0 w0 H i sl ms ⟨i,d,[],V,fun _ v=>tH (rt y v),fun _=>ps y⟩:=by
 obtain ⟨S',hl,hR,hO⟩:=h
 subst hl
 refine ⟨S',rfl,hR,hO,fun V' hV=>?_⟩
 obtain ⟨hA,⟨pos,ag,ho⟩,_⟩:=h1
 refine lr.Qb (V:=V') ho (by simp) rfl fun g r w hC ni hn l6=>?_
 have hb:=rn hR hA hv (mf hh ha l6) ni
 obtain ⟨x,hx,vv⟩:=BN hR hA hi js hn
 obtain ⟨Ib,k1,k2,Cb,hd,hr⟩:=hc x
 obtain ⟨fn,c,f1,f2,f3⟩:=hf.h
 unfold gy
 rw [HX (aY hb V4) f1 f2 f3,ub (uc hx hb) Ib,List.append_assoc,k1.eq,k2.eq]
 obtain ⟨F,Hd,⟨BQ,Dg,yn,Dh⟩,hS,hG⟩:=hs
 obtain ⟨G,nt,FV,Ej,gv⟩:=vv.front (ur.stay hS hG hC)
 rw [tI] at Cb
 refine (Cb.2 w (fun b=>Z b∨b∈G) [] (hr.sound (fun _ h=>h) (fun _ b hb=>.inr (Ej b hb)) gv hd.ho) List.nodup_nil (fun b hb=>absurd hb List.not_mem_nil)
  (fun b hb=>hb.elim (fun h=>Nat.lt_of_lt_of_le (hG.tv b h) hC.size) fun h=>(nt b h).2) y hy).mono ?_
 rintro e w' ⟨v,he,Z2,F2,sX,np⟩
 have Cc:HL (fun _=>False) w' (ps y v) F2:=B3 (hw y v) sX
 have bc:=(Cc.front (Γ:=[]) (F:=[]) rfl).lt
 obtain ⟨f',dk,Ic⟩:=hV F2 w' r _ ⟨v,rfl,.inl Cc,np.nd⟩
 refine ⟨_,he,np.lq,f',fun b hb=>⟨(np.low b (dk b hb)).resolve_left List.not_mem_nil,bc b (by simpa using dk b hb)⟩,Ic⟩
theorem Ie {A:LN} {g:Nat→List Nat} {b:Nat}:∀ {ms:MM},b∈B8 A g ms→∃ a∈ms,jh a.j A=true∧b∈g a.j:=by
 intro ms
 induction ms with
 | nil=>intro h; exact absurd h List.not_mem_nil
 | cons a l ih=>
  intro h
  unfold B8 at h
  cases hb:jh a.j A with
  | true=>
   rw [hb] at h
   rcases List.mem_append.1 h with h | h
   ·exact ⟨a,by simp,hb,h⟩
   ·obtain ⟨c,h1,h2⟩:=ih h; exact ⟨c,List.mem_cons_of_mem _ h1,h2⟩
  | false=>rw [hb] at h; obtain ⟨c,h1,h2⟩:=ih h; exact ⟨c,List.mem_cons_of_mem _ h1,h2⟩
theorem Ig {mt i:Nat} (h:((U.set i []).all fun us=>!(us.contains l.length))=true):AZ l U mt i=true:=by
 unfold AZ
 simp only [List.all_eq_true,List.mem_range,Bool.or_eq_true,Bool.not_eq_true'] at h ⊢
 intro k _
 by_cases hk:k=i
 ·exact .inl (.inr (by rw [hk]; exact Nat.beq_refl i))
 ·refine .inl (.inl ?_)
  rw [List.getD_eq_getElem?_getD]
  cases hu:U[k]? with
  | none=>rfl
  | some us=>exact h us (List.mem_of_getElem? (i:=k) (by rw [List.getElem?_set_ne (fun e=>hk e.symm)]; exact hu))
theorem HO.mono {Z':Nat→Prop} (hz:∀ b,Z b→Z' b) {Δ:QE} {F:LN} (h:HO Z w Δ F):HO Z' w Δ F:=by
 induction h with
 | nil=>exact .nil
 | own h _ ih=>exact .own (h.mono hz) ih
 | rd _ ih=>exact .rd ih
 | aw _ ih=>exact .aw ih
theorem NL {mt:Nat} {β V:Type} {A:LN} {as:LL} {d:Nat} {f:FuncId} {xs:List Operand} {aw:Array TypeId} {ty:TI} {mo:Option β} {rt:β→V→List Value} {ps:β→V→List av} {ops:LO} {i:Nat} {sl:LQ} {ms:MM} {fr:Fr} {hd Γ:QE} {B:Bs} {r0:NV} {w0:World} {H:LN} {y:β} (hh:oK l mt base=true) (hf:bm P f) (hv:dL A none sl base fr)
   (hU:U.getD i []=[l.length]) (NM:((U.set i []).all fun us=>!(us.contains l.length))=true)
   (hc:∀ x:qk ms,Ei P f xs (oy A ms x++fr) hd (sr A ms x++Γ) mo rt ps) (hi:qm ms) (js:su A ms=true) (hw:∀ y v,tO (ps y v)=true) (h1:sw l mt U A (.call ⟨.value (.func f),xs.toArray,aw⟩) d ty as ops i) (hy:mo=some y) (ha:cu r0 base) (hs:ur B Z hd Γ H w0) (h:l3 P Z l mt U r0 w0 H i sl ms) :
   H7 P Z l mt U r0 w0 H i sl ms ⟨i,d,[],V,fun _ v=>tH (rt y v),fun _=>ps y⟩:=by
 obtain ⟨S',hl,hR,hO⟩:=h
 subst hl
 refine ⟨S',rfl,hR,hO,fun V' hV=>?_⟩
 obtain ⟨hA,⟨pos,ag,ho⟩,_⟩:=h1
 intro o' s' cb fh g r w hC Gx ni hn l6 zU mw
 rw [ho] at cb
 cases cb
 rw [List.getElem?_append_right (Nat.le_refl _),Nat.sub_self] at fh
 cases fh
 rw [if_pos rfl]
 refine ⟨rfl,?_⟩
 obtain ⟨V5,V6,V7⟩:=Gx (Ig NM)
 have hb:=rn hR hA hv (mf hh ha l6) ni
 obtain ⟨x,hx,vv⟩:=BN hR hA hi js hn
 obtain ⟨Ib,Cb,V8,hr⟩:=hc x
 obtain ⟨fn,c,f1,f2,f3⟩:=hf.h
 refine Calls.LM f1 f2 f3 ?_
 rw [ub (uc hx hb) Ib]
 obtain ⟨F,Hd,⟨BQ,Dg,yn,Dh⟩,hS,hG⟩:=hs
 obtain ⟨G,nt,FV,Ej,gv⟩:=vv.front (ur.stay hS hG hC)
 obtain ⟨Fd,F',V9,_,Ih⟩:=V8.sound (BQ.jy V5)
 have dk:∀ b∈Fd,b∈H:=fun b hb=>(Dg b (Ih.mem_iff.1 (List.mem_append_left _ hb))).1
 have du:=List.nodup_append.1 hG.nd
 have hblk:sx g (U.getD S'.length [])=H:=by rw [hU]; simp [sx,V6]
 rw [hblk]
 rw [tI] at Cb
 refine (Cb.2 w (fun b=>Z b∨b∈G) Fd (hr.sound (fun _ h=>h) (fun _ b hb=>.inr (Ej b hb)) gv (V9.mono fun _ h=>.inl h)) ((Ih.nodup_iff.2 Dh).sublist (List.sublist_append_left _ _)) (fun b hb=>?_)
  (fun b hb=>hb.elim (fun h=>Nat.lt_of_lt_of_le (hG.tv b h) hC.size) fun h=>(nt b h).2) y hy).mono ?_
 ·rintro (hz | hz)
  ·exact hG.apart b (List.mem_append_left _ (dk b hb)) hz
  ·rcases List.mem_append.1 (nt b hz).1 with hz | hz
   ·obtain ⟨a,ham,nu,qj⟩:=Ie hz
    have h2:=V7 a.j (tD (by rw [← hA]; exact r8.1 nu)).1 b qj
    have h3:=yn b (dk b hb)
    omega
   ·exact du.2.2 b (dk b hb) b hz rfl
 ·rintro e w' ⟨v,he,Z2,F2,sX,np⟩
  have Cc:HL (fun _=>False) w' (ps y v) F2:=B3 (hw y v) sX
  have bc:=(Cc.front (Γ:=[]) (F:=[]) rfl).lt
  obtain ⟨f',NN,Ic⟩:=hV F2 w' r _ ⟨v,rfl,.inl Cc,np.nd⟩
  exact ⟨_,he,np.lq.mono dk,f',fun b hb=>⟨(np.low b (NN b hb)).imp (dk b) id,bc b (by simpa using NN b hb)⟩,Ic⟩
theorem DM.sub {ms BO:MM} {a:ik} {t:Nat} (h:DM ms t a BO):a∈ms∧a.j=t∧(∀ b∈BO,b∈ms)∧(BO.map (·.j)).Sublist (ms.map (·.j))∧((ms.map (·.j)).Nodup→∀ b∈BO,b.j≠t):=by
 induction h with
 | here=>exact ⟨by simp,rfl,fun b hb=>List.mem_cons_of_mem _ hb,by simp,fun hn b hb he=>by rw [List.map_cons,List.nodup_cons] at hn; exact hn.1 (by rw [← he]; exact List.mem_map_of_mem hb)⟩
 | there _ ih=>
  obtain ⟨h1,h2,h3,h4,h5⟩:=ih
  refine ⟨List.mem_cons_of_mem _ h1,h2,fun b hb=>?_,by simpa using h4,fun hn b hb=>?_⟩
  ·rcases List.mem_cons.1 hb with rfl | hb
   ·simp
   ·exact List.mem_cons_of_mem _ (h3 b hb)
  ·rw [List.map_cons,List.nodup_cons] at hn
   rcases List.mem_cons.1 hb with rfl | hb
   ·intro he
    exact hn.1 (by rw [he,← h2]; exact List.mem_map_of_mem h1)
   ·exact h5 hn.2 b hb
theorem NO {mt:Nat} {β V:Type} {j1:Nat} {a1:ik} {A:LN} {as:LL} {d:Nat} {f:FuncId} {xs:List Operand} {aw:Array TypeId} {ty:TI} {mo:Option β} {rt:β→V→List Value} {ps:β→V→List av} {ops:LO} {i:Nat} {sl:LQ} {ms ra:MM} {fr:Fr} {hd Γ:QE} {B:Bs} {r0:NV} {w0:World} {H:LN} {y:β} (hh:oK l mt base=true) (hf:bm P f) (hv:dL A none sl base fr)
   (hU:U.getD i []=[j1]) (Gl:DM ms j1 a1 ra) (SN:a1.src=[]) (h4:jh j1 A=true)
   (hc:∀ (q:a1.V) (x:qk ra),Ei P f xs (oy A ra x++fr) (a1.ps undef q) (sr A ra x++Γ) mo rt ps) (hi:qm ra) (js:su A ra=true) (hw:∀ y v,tO (ps y v)=true) (h1:sw l mt U A (.call ⟨.value (.func f),xs.toArray,aw⟩) d ty as ops i) (hy:mo=some y) (ha:cu r0 base) (hs:ur B Z hd Γ H w0) (h:l3 P Z l mt U r0 w0 H i sl ms) :
   H7 P Z l mt U r0 w0 H i sl ra ⟨i,d,[],V,fun _ v=>tH (rt y v),fun _=>ps y⟩:=by
 obtain ⟨S',hl,Wd,hO⟩:=h
 subst hl
 obtain ⟨m1,m2,m3,m4,m5⟩:=Gl.sub
 have hR:=Wd.sub m3 m4
 refine ⟨S',rfl,hR,hO,fun V' hV=>?_⟩
 obtain ⟨hA,⟨pos,ag,ho⟩,_⟩:=h1
 intro o' s' cb fh g r w hC Gx ni hn l6 zU mw
 rw [ho] at cb
 cases cb
 rw [List.getElem?_append_right (Nat.le_refl _),Nat.sub_self] at fh
 cases fh
 rw [if_pos rfl]
 refine ⟨rfl,?_⟩
 have Fz:=tD (by rw [← hA]; exact r8.1 h4)
 have hb:=rn hR hA hv (mf hh ha l6) ni
 obtain ⟨x,hx,vv⟩:=BN hR hA hi js hn
 obtain ⟨q,_,KJ,hq3⟩:=Wd.H6 m1 (hn a1.j (by rw [m2]; exact Fz.2))
 have wO:xk a1 r=undef:=by unfold xk; rw [SN]; rfl
 rw [wO,m2] at KJ
 rw [m2] at hq3
 obtain ⟨Ib,Cb,V8,hr⟩:=hc q x
 obtain ⟨fn,c,f1,f2,f3⟩:=hf.h
 refine Calls.LM f1 f2 f3 ?_
 rw [ub (uc hx hb) Ib]
 obtain ⟨F,Hd,⟨BQ,Dg,yn,Dh⟩,hS,hG⟩:=hs
 have hSt:=ur.stay hS hG hC
 obtain ⟨G,nt,FV,Ej,gv⟩:=vv.front hSt
 obtain ⟨Fo,Fr,hff,hFr,hq4⟩:=KJ.all
 have hSq:SA (fun b=>Z b∨b∈Fr) w (a1.ps undef q) [] Fo:=by
  have:=hq4.front (Γ:=[]) (F:=[]) rfl
  simpa using this
 have hnq:=List.nodup_append.1 (hff ▸ hq3)
 obtain ⟨Fd,F',V9,_,Ih⟩:=V8.sound hSq
 have SP:∀ b∈Fd,b∈Fo:=fun b hb=>Ih.mem_iff.1 (List.mem_append_left _ hb)
 have dk:∀ b∈Fd,b∈g j1:=fun b hb=>by rw [hff]; exact List.mem_append_left _ (SP b hb)
 have du:=List.nodup_append.1 hG.nd
 have hblk:sx g (U.getD S'.length [])=g j1:=by rw [hU]; simp [sx]
 rw [hblk]
 rw [tI] at Cb
 have KK:∀ b∈g j1,w0.heap.size≤b∨b∈H:=fun b hb=>(mw j1 Fz.1 b hb).1
 refine (Cb.2 w (fun b=>Z b∨b∈Fr++G) Fd (hr.sound (fun _ h=>h) (fun _ b hb=>.inr (List.mem_append_right _ (Ej b hb))) (gv.mono (fun _ h=>h.imp id fun h=>List.mem_append_right _ h) fun _ h=>h) (V9.mono fun _ h=>h.imp id fun h=>List.mem_append_left _ h)) ((Ih.nodup_iff.2 hnq.1).sublist (List.sublist_append_left _ _)) (fun b hb=>?_)
  (fun b hb=>hb.elim (fun h=>Nat.lt_of_lt_of_le (hG.tv b h) hC.size) fun h=>(List.mem_append.1 h).elim (hFr b) fun h=>(nt b h).2) y hy).mono ?_
 ·rintro (hz | hz)
  ·rcases KK b (dk b hb) with h | h
   ·have:=hG.tv b hz; omega
   ·exact hG.apart b (List.mem_append_left _ h) hz
  ·rcases List.mem_append.1 hz with hz | hz
   ·exact hnq.2.2 b (SP b hb) b hz rfl
   rcases List.mem_append.1 (nt b hz).1 with hz | hz
   ·obtain ⟨a,ham,nu,qj⟩:=Ie hz
    exact zU a.j (tD (by rw [← hA]; exact r8.1 nu)).1 j1 Fz.1 (m5 Wd.d a ham) b qj (dk b hb)
   ·rcases KK b (dk b hb) with h | h
    ·have:=hS.lt b hz; omega
    ·exact du.2.2 b h b hz rfl
 ·rintro e w' ⟨v,he,Z2,F2,sX,np⟩
  have Cc:HL (fun _=>False) w' (ps y v) F2:=B3 (hw y v) sX
  have bc:=(Cc.front (Γ:=[]) (F:=[]) rfl).lt
  obtain ⟨f',NN,Ic⟩:=hV F2 w' r _ ⟨v,rfl,.inl Cc,np.nd⟩
  exact ⟨_,he,np.lq.mono dk,f',fun b hb=>⟨(np.low b (NN b hb)).imp (dk b) id,bc b (by simpa using NN b hb)⟩,Ic⟩
theorem SA.app {Γ Γ':QE} {F F':LN}:∀ {cur:LN},SA Z w Γ' cur F'→SA Z w Γ [] F→SA Z w (Γ'++Γ) cur (F'++F):=by
 induction Γ' generalizing F' with
 | nil=>intro cur h hs; cases h; exact hs.any
 | cons e Γ' ih=>
  intro cur h hs
  cases e with
  | own T v x=>obtain ⟨f,F1,rfl,h1,h2⟩:=h; exact ⟨f,F1++F,by rw [List.append_assoc],h1,ih h2 hs⟩
  | om e E v xs=>obtain ⟨f,F1,rfl,h1,h2⟩:=h; exact ⟨f,F1++F,by rw [List.append_assoc],h1,ih h2 hs⟩
  | row b cs e=>obtain ⟨f,F1,rfl,h1,h2⟩:=h; exact ⟨f,F1++F,by rw [List.append_assoc],h1,ih h2 hs⟩
  | gp e E v xs j u=>obtain ⟨f,F1,rfl,h1,h2⟩:=h; exact ⟨f,F1++F,by rw [List.append_assoc],h1,ih h2 hs⟩
  | rd o T v x=>exact ⟨h.1,ih h.2 hs⟩
  | ad o1 o2 v j T x=>exact ⟨h.1,ih h.2 hs⟩
  | aw p cs=>exact ⟨h.1,ih h.2 hs⟩
  | hd v j u=>exact ⟨h.1,ih h.2 hs⟩
theorem l3.acm {mt:Nat} {A:LN} {op:Op} {d:Nat} {ty:TI} {as:LL} {ops:LO} {i:Nat} {sl:LQ} {ms:MM} {r0:NV} {w0:World} {H:LN} {u:Value} (h:l3 P Z l mt U r0 w0 H i sl ms) (hh:oK l mt base=true) (ha:cu r0 base) (h1:sw l mt U A op d ty as ops i)
  (hV:(U.zipIdx.all fun p=>!(p.1.contains l.length) || ((bz l).getD p.2 []).contains i)=true) (hv:dL A none sl base fr) (hq:∀ r,cu r fr→∀ pos ag g w,an [] w0 w→(execOp (ev r) ⟨some d,op,ty,pos,ag,g⟩).run P w = .ok (.value u) w):l3 P Z l mt U r0 w0 H (i+1) ((i,d,u) :: sl) ms:=by
 obtain ⟨S',hl,hR,hO⟩:=h
 subst hl
 obtain ⟨hA,⟨pos,ag,ho⟩,_⟩:=h1
 refine ⟨S'++[sV u],by simp,hR.val (by unfold bu; rw [ho]; rfl),fun j hj=>?_⟩
 by_cases h2:j < S'.length
 ·exact lr.more (hO j h2) h2
 ·obtain rfl:j=S'.length:=by omega
  have hN:AZ l U mt S'.length=true:=by
   unfold AZ
   simp only [List.all_eq_true,List.mem_range,Bool.or_eq_true,Bool.not_eq_true'] at hV ⊢
   intro k _
   rw [List.getD_eq_getElem?_getD]
   cases hu:U[k]? with
   | none=>exact .inl (.inl rfl)
   | some us=>
    have hm:(us,k)∈U.zipIdx:=by rw [List.mem_zipIdx_iff_getElem?]; exact hu
    exact (hV _ hm).imp .inl id
  intro o' s' cb fh g r w hC Gx ni hn l6 zU mw
  rw [ho] at cb
  cases cb
  rw [List.getElem?_append_right (Nat.le_refl _),Nat.sub_self] at fh
  cases fh
  rw [if_pos rfl]
  refine ⟨rfl,?_⟩
  unfold gy
  rw [hq r (rn hR hA hv (mf hh ha l6) ni) _ _ _ w (Gx hN).1]
  exact ⟨an.refl _ _,[],fun b hb=>absurd hb List.not_mem_nil,rfl⟩
theorem T9 {mt:Nat} {hd jk:QE} {α:Type} {t e e' et:TI} {E E':ai α} {z0:α} {bt t1 t2 j2:Nat} {v u yv:Value} {j:Int} {y:α} {z:List α} {xs:List (List α)} {o1 o2:Bool} {Γx:QE} {H5:MM} {A:LN} {as:LL} {d:Nat} {ty:TI} {ops:LO} {i:Nat} {sl:LQ} {ms:MM} {Γ:QE} {B:Bs} {r0:NV} {w0:World} {H:LN} (hh:oK l mt base=true) (ha:cu r0 base) (hT:uq P t α e E z0 bt) (hU:U.getD i []=[l.length])
   (NM:((U.set i []).all fun us=>!(us.contains l.length))=true) (hv:dL A none sl base fr) (hs:look fr t1=some u) (h2:wo ms t2 ⟨j2,t2,[],Nat,fun _ b=>.slice (some ⟨b,0,none⟩) 1 1,fun _ b=>[.row b [yv] et]⟩ H5) (h5:jh j2 A=true) (hl:Loc hd u (.row v j)) (hz:si hd u o1 o2 E' z uX Γx) (h1:dh hd (.own (aI e' (aI e E)) v xs) jk) (hr:RT (aI e E) (bG E')) (hy:Db [] E yv y [])
   (hf:fits bt (z.length+1)=some ()) (Dd:sw l mt U A (.call ⟨.builtin .append,#[.tmp t1,.tmp t2],#[t,t]⟩) d ty as ops i) (ry:ur B Z hd Γ H w0) (h:l3 P Z l mt U r0 w0 H i sl ms) :
  l3 P Z l mt U r0 w0 H (i+1) sl (⟨i,d,[],Value,fun _ v'=>v',fun _ v'=>[.own (aI e E) v' (z++[y]),.own (vr e' (aI e E) j.toNat) v xs]⟩ :: ms)∧ur B Z jk Γ H w0:=by
 obtain ⟨F,Hd,⟨BQ,Dg,yn,Dh⟩,hS,hG⟩:=ry
 obtain ⟨fm0,F10,We,_,acn⟩:=h1.sound BQ
 refine ⟨?_,F,F10,⟨acn,fun b hb=>Dg b (We.mem_iff.1 (List.mem_append_right _ hb)),yn,(We.nodup_iff.2 Dh).sublist (List.sublist_append_right _ _)⟩,hS,hG⟩
 obtain ⟨S',B4,hR,hO⟩:=h
 subst B4
 obtain ⟨hA,⟨pos,ag,ho⟩,_⟩:=Dd
 obtain ⟨b1,b2⟩:=rq hf
 obtain ⟨q1,q2,ii,zz,q3,q4,q5,q6,q7,_⟩:=hT.h
 obtain ⟨n1,_,_,_⟩:=h2.sub
 refine ⟨S'++[⟨true,MV Z ⟨S'.length,d,[],Value,fun _ v'=>v',fun _ v'=>[.own (aI e E) v' (z++[y]),.own (vr e' (aI e E) j.toNat) v xs]⟩⟩],by simp,hR.mem rfl (by unfold bu; rw [ho]; rfl) (by intro t h; cases h),fun k hk=>?_⟩
 by_cases bc:k < S'.length
 ·exact lr.more (hO k bc) bc
 ·obtain rfl:k=S'.length:=by omega
  intro o' s' cb fh g r w hC Gx ni hn l6 zU mw
  rw [ho] at cb
  cases cb
  rw [List.getElem?_append_right (Nat.le_refl _),Nat.sub_self] at fh
  cases fh
  rw [if_pos rfl]
  refine ⟨rfl,?_⟩
  obtain ⟨V5,V6,V7⟩:=Gx (Ig NM)
  have Wh:=BQ.jy V5
  obtain ⟨j0,j1,ke⟩:=Loc.row hl rfl Wh
  obtain ⟨dx,_,⟨⟨gz,um,_⟩,_⟩,_⟩:=hz.sound Wh
  obtain ⟨fm,F1,tJ,hOw,_⟩:=h1.sound Wh
  obtain ⟨ky,F2,o9,KL,_⟩:=hy.sound (Z:=Z) (w:=w) (F:=[]) rfl
  have Wi:ky=[]:=by
   cases ky with
   | nil=>rfl
   | cons a l=>exact absurd (o9.mem_iff.1 (List.mem_append_left _ List.mem_cons_self)) List.not_mem_nil
  subst Wi
  rw [uN hOw] at j1
  obtain ⟨k,gm,a1,a2,a3⟩:=HZ rfl hOw (List.getElem?_eq_getElem j1) ke
  have Wj:xs[j.toNat]=z:=hr.vX (hr.le.le a1) um
  rw [Wj] at a1
  have aco:(k++gm).Nodup:=a2.nodup_iff.2 ((tJ.nodup_iff.2 Dh).sublist (List.sublist_append_left _ _))
  have HQ:=List.nodup_append.1 aco
  have L5:∀ b∈k++gm,b∈H:=fun b hb=>(Dg b (tJ.mem_iff.1 (List.mem_append_left _ (a2.mem_iff.1 hb)))).1
  obtain ⟨b,c1,c2,c3⟩:=hR.H6 n1 (hn j2 (tD (by rw [← hA]; exact r8.1 h5)).2)
  simp only at c1 c2
  replace c2:=c2.own rfl
  generalize Gl:g j2=G1 at c2 c3
  cases c2 with
  | fact h _=>exact h.elim
  | @own _ ff F0 _ Zs AV=>
   cases AV
   obtain ⟨rfl,bg⟩:=Zs
   have hb:=rn hR hA hv (mf hh ha l6) ni
   obtain ⟨v',w',f',kz,H8,ed,dk,Ii⟩:=rz (E:=E) (d:=some d) (ty:=ty) (pos:=pos) (ag:=ag) (g:=none) (r:=r) (s:=.tmp t1) (x:=.tmp t2) (k:=[]) (ys:=[y]) (news:=[yv]) q1 q3 q4 (by rw [q5,q2]) (by rw [cells_one q6,q2]; rfl) (hb _ _ hs) a1 HQ.1 c1 (fun i u hi=>bg.at i u hi) (tE KL) (fun _ h=>absurd h List.not_mem_nil) (by simp) (by rw [q7]; exact b1) b2
   unfold gy
   rw [kz]
   have hblk:sx g (U.getD S'.length [])=H:=by rw [hU]; simp [sx,V6]
   rw [hblk]
   have hgm:(vr e' (aI e E) j.toNat).rep w'.heap [v] xs gm:=ai.e7 _ a3 H8 fun b hb hk=>HQ.2.2 b hk b hb rfl
   refine ⟨H8.mono fun b hb=>L5 b (List.mem_append_left _ hb),f'++gm,fun b hb=>?_,v',rfl,?_,?_⟩
   ·rcases List.mem_append.1 hb with hb | hb
    ·refine ⟨?_,ai.lt _ ed b hb⟩
     rcases dk b hb with h | h | h
     ·exact .inl (L5 b (List.mem_append_left _ h))
     ·exact absurd h List.not_mem_nil
     ·exact .inr h
    ·exact ⟨.inl (L5 b (List.mem_append_right _ hb)),ai.lt _ hgm b hb⟩
   ·have:=HL.own (Z:=fun _=>False) (e:=.own (aI e E) v' (z++[y])) (f:=f') ed (HL.own (e:=.own (vr e' (aI e E) j.toNat) v xs) (f:=gm) hgm .nil)
    exact .inl (by simpa using this)
   ·refine zp (Ii List.nodup_nil) HQ.2.1 fun b hb hm=>?_
    rcases dk b hb with h | h | h
    ·exact HQ.2.2 b h b hm rfl
    ·exact absurd h List.not_mem_nil
    ·have:=ai.lt _ a3 b hm; omega
end
end Go.Dk
namespace Go.Dk
open Go Go.Li
section
variable {R S:Type} {P:Program} {cx:Cx R} {K:dj R S} {l tail:LO} {base fr:Fr} {U:LL} {hd:QE}
def L7 (P:Program) (cx:Cx R) (K:dj R S) (l:LO) (mt:Nat) (U:LL) (hd:QE) (id:Nat) (base:Fr):JA R S→Prop
 | .a as ops i sl ms Γ m=>AU l mt U as ops i→Fin P cx K l mt U hd id base i sl ms Γ m
 | .o A op d ty as ops i sl ms Γ m=>sw l mt U A op d ty as ops i→Fin P cx K l mt U hd id base i sl ms Γ m
 | .oc us f xs aw A d ty as ops i sl ms Γ m=>U.getD i []=us→sw l mt U A (.call ⟨.value (.func f),xs.toArray,aw⟩) d ty as ops i→Fin P cx K l mt U hd id base i sl ms Γ m
 | .os A op ty as ops i sl ms Γ m=>VZ l mt U A op ty as ops i→Fin P cx K l mt U hd id base i sl ms Γ m
 | .ow _ A op d ty as ops i sl ms Γ m=>sw l mt U A op d ty as ops i→Fin P cx K l mt U hd id base i sl ms Γ m
 | .ix _ v fr x y t A d ty as ops i sl ms Γ m=>dL A none sl base fr→bj fr x=some v→sw l mt U A (.indexAddr t x y) d ty as ops i→Fin P cx K l mt U hd id base i sl ms Γ m
 | .lb _ v j fr t x A d ty as ops i sl ms Γ m=>dL A none sl base fr→bj fr x=some (.pointer (some (cw v 1 j)))→NA P t→sw l mt U A (.load t x) d ty as ops i→Fin P cx K l mt U hd id base i sl ms Γ m
 | .ap us t1 t2 t A d ty as ops i sl ms Γ m=>U.getD i []=us→sw l mt U A (.call ⟨.builtin .append,#[.tmp t1,.tmp t2],#[t,t]⟩) d ty as ops i→Fin P cx K l mt U hd id base i sl ms Γ m
 | .la fr a lk t x A d ty as ops i sl ms Γ m=>dL A none sl base fr→bj fr x=some (.pointer (some a))→(match lk with | none=>NA P t | some n=>AG P t n)→sw l mt U A (.load t x) d ty as ops i→Fin P cx K l mt U hd id base i sl ms Γ m
 | .ld E z fr a t x A d ty as ops i sl ms Γ m=>dL A none sl base fr→bj fr x=some (.pointer (some a))→NA P t→sw l mt U A (.load t x) d ty as ops i→
   ∀ B o,m=some o→∀ r0 w0 H Z,cu r0 base→ur B Z hd Γ H w0→(∃ u,∀ w,an H w0 w→w.cell? a=some u∧∃ g,E.rep w.heap [u] z g)→l3 P Z l mt U r0 w0 H i sl ms→o3 P cx.n l (nb P cx B K o) r0 w0
 | .p Δ as ops i sl ms Γ m=>AU l mt U as ops i→Fin P cx K l mt U hd id base i sl ms (Δ.reverse++Γ) m
 | .cr u ps d as ops i sl ms Γ m=>AU l mt U as ops (i+1)→bu l i=some d→
   ∀ B o,m=some o→∀ r0 w0 H Z,cu r0 base→ur B Z hd Γ H w0→H7 P Z l mt U r0 w0 H i sl ms ⟨i,d,[],_,fun _=>u,fun _=>ps⟩→o3 P cx.n l (nb P cx B K o) r0 w0
theorem zq {w:World} {e n:Nat} {v:Value} {us:List (List Value)} {f:LN} {j:Int} {c:LV} (hO:(aI e (jg n)).rep w.heap [v] us f) (hj:0≤j) (hu:us[j.toNat]? = some c):c.length=n∧(∀ u∈c,u.oneCell'=true)∧∀ i u,c[i]? = some u→w.cell? ((cw v n j).add i)=some u:=by
 obtain ⟨_,_,cs,f1,⟨rfl,h1,h2,_⟩,_,h3⟩:=wk (((Le.own (Le.refl (jg n)) e).le) hO) j hj hu
 exact ⟨h1,h2,h3⟩
theorem AD.sound {tq:Bool} {mt id:Nat} (hh:oK l mt base=true)
  (AV:∀ hd i sl ms Γ m,DL ms=true→Fw U sl ms=true→(∀ x:qk ms,D P cx (.p (B6 sl (mF ms x)) (Fv ms x) base Γ fun fr Γ=>.tg tq (DJ tail) l tail K Γ fr m))→L7 P cx K l mt U hd id base (.a [] [] i sl ms Γ m))
  {J:JA R S} (h:AD tq P cx K l tail base U hd J):L7 P cx K l mt U hd id base J:=by
 have stay:∀ {B:Bs} {Z:Nat→Prop} {hd Γ:QE} {H:LN} {w0:World},ur B Z hd Γ H w0→∃ F Hd,(SA Z w0 hd [] Hd∧(∀ b∈Hd,b∈H∧b < w0.heap.size)∧(∀ b∈H,b < w0.heap.size)∧Hd.Nodup)∧SA Z w0 Γ [] F∧Gd B Z (H++F) w0∧∀ w,an H w0 w→SA Z w Γ [] F:=by
  rintro B Z hd Γ H w0 ⟨F,Hd,h1,h2,h3⟩
  exact ⟨F,Hd,h1,h2,h3,fun w hC=>ur.stay h2 h3 hC⟩
 induction h with
 | nil hs he h=>exact AV _ _ _ _ _ _ hs he h
 | cons _ ih=>exact fun h=>ih h.cons
 | LY _ ih=>exact fun h=>ih h.LY
 | VB h1 hv hy hc hn fh ho h4 h6 _ ih=>
  rename_i ht _
  intro h B o cb r0 w0 H Z ha hs hp
  obtain ⟨F,_,_,_,_,hK⟩:=stay hs
  exact ih h.n B o cb r0 w0 H Z ha hs (T1 hh ha ht h1 hv hy hc hn fh ho h4 h6 hK h hp)
 | ixs hv hx _ _ ih=>exact fun h1=>ih hv hx h1
 | @acf hd α A as d x y v k j t ty o1 o2 E xs ops i sl ms fr Γ jk f ht hy hr hE _ ih=>
  intro hv hx h1 B o ho r0 w0 H Z ha hs hp
  obtain ⟨z,hz,ho⟩:=bind_some ho
  replace hz:=r7 hz
  obtain ⟨e,ii,q1,q2,q3⟩:=ht.h
  obtain ⟨F,Hd,⟨hL,NP⟩,hS,hG,hK⟩:=stay hs
  obtain ⟨dx,_,⟨⟨n,hn,_⟩,Nv⟩,wj⟩:=(hr z).sound hL
  obtain ⟨⟨a,c,ma⟩,bc,_⟩:=wk hn j hz.1 hz.2
  refine ih z h1.n B o ho r0 w0 H Z ha ⟨F,Hd,⟨wj (Nv hE j z hz.1 hz.2),NP⟩,hS,hG⟩ (hp.val hh ha h1 hv fun r gx _ _ _ w hC=>?_)
  rw [me q1 q2 ((aY gx hx).trans ma) (aY gx hy) hz.1 (by omega),q3,ma]
  rfl
 | @idx hd α A as d x y v k j t ty o1 o2 E xs ops i sl ms fr Γ Γ' f ht hy hr hE _ ih=>
  intro hv hx h1 B o ho r0 w0 H Z ha hs hp
  obtain ⟨z,hz,ho⟩:=bind_some ho
  replace hz:=r7 hz
  obtain ⟨F,Hd,hL,hS,hG,hK⟩:=stay hs
  obtain ⟨dx,_,⟨⟨n,hn,_⟩,Nv⟩,wj⟩:=(hr z).sound hS
  refine ih z h1.n B o ho r0 w0 H Z ha ⟨F,Hd,hL,wj (Nv hE j z hz.1 hz.2),hG⟩ (hp.val hh ha h1 hv fun r gx _ _ _ w hC=>?_)
  obtain ⟨_,_,⟨⟨n',tP,_⟩,_⟩,_⟩:=(hr z).sound (hK w hC)
  exact Ix ht.h tP hz (aY gx hx) (aY gx hy) hE w (an.refl _ _)
 | pz _ ih=>exact ih
 | @pe hd e Δ as ops i sl ms Γ m _ ih=>
  intro h1
  have h2:=ih h1
  have h3:(e :: Δ).reverse++Γ=Δ.reverse++e :: Γ:=by rw [List.reverse_cons,List.append_assoc]; rfl
  rw [h3]
  exact h2
 | @HH hd α V Sc cl en A as d n x y v xs k j t ty ops i sl ms fr Γ Γx f ht hy hr pg hn _ ih=>
  intro hv hx hA B o ho r0 w0 H Z ha hs hp
  replace pg:SO Sc V cl en:=by cases pg; assumption
  obtain ⟨z,hz,ho⟩:=bind_some ho
  replace hz:=r7 hz
  obtain ⟨e,i',h1,h2,h3⟩:=ht.h
  obtain ⟨F,Hd,hL,hS,hG,hK⟩:=stay hs
  obtain ⟨dx,_,⟨⟨f0,Gt,vZ⟩,_⟩,_⟩:=hr.sound hS
  have hZ:∀ b∈f0,Z b:=fun b hb=>(vZ b hb).elim (fun h=>h) (fun h=>h)
  obtain ⟨⟨a,c,ma⟩,bc,cs,f1,ed,Nz,ke⟩:=wk Gt j hz.1 hz.2
  have tP:(my Sc).size=n:=hn
  rw [tP] at ke
  obtain ⟨u,rfl,tS⟩:=pg.op ed.2
  have hblk:Z (cw v n j).block:=by
   obtain ⟨base,cap,ma,gx⟩:=Gt
   rcases gx with ⟨rfl,_⟩ | ⟨b,off,cr,e',fz,f',rfl,_,rfl,_⟩
   ·simp at bc; omega
   ·obtain rfl:v = .slice (some ⟨b,off,none⟩) xs.length cap:=by simpa using ma
    have:(cw (.slice (some ⟨b,off,none⟩) xs.length cap) n j).block=b:=by unfold cw; rw [wL]
    rw [this]; exact hZ b (by simp)
  have HS:fact Z w0 [] (.aw (cw v n j) (cl z u)):=⟨fun i u' hi=>ke i u' hi,fun _=>hblk⟩
  have de:HL Z w0 (.aw (cw v n j) (cl z u) :: en z u) []:=.fact HS (wi (tS Z fun b hb=>hZ b (Nz b hb)))
  obtain ⟨F',xy,gv⟩:=de.build hS
  refine ih z u hA.n B o ho r0 w0 H Z ha ⟨F',Hd,hL,gv,hG.perm (List.Perm.append_left H (by simpa using xy))⟩ (hp.val hh ha hA hv fun r gx _ _ _ w hC=>?_)
  rw [me h1 h2 ((aY gx hx).trans ma) (aY gx hy) hz.1 (by omega),h3,ma]
  rfl
 | @VW hd α V Sc cl en A as d n e bt x y v us xs k j t ty ops i sl ms fr Γ Γ1 f ht hy h1 hg pg _ ih=>
  intro hv hx hA B o ho r0 w0 H Z ha hs hp
  replace pg:SO Sc V cl en:=by cases pg; assumption
  obtain ⟨z,hz,ho⟩:=bind_some ho
  replace hz:=r7 hz
  obtain ⟨q1,i',_,q2,_,_,q3,_⟩:=ht.h
  obtain ⟨F,Hd,hL,hS,hG,hK⟩:=stay hs
  obtain ⟨f0,F1,_,hO,_⟩:=h1.sound hS
  obtain ⟨g0,hk,um⟩:=hg.rd hS []
  obtain ⟨c,g1,e1,e2,e3⟩:=Ea j.toNat hk.2.1 hz.2
  obtain ⟨u,rfl,tS⟩:=pg.op e2
  have hlen:us.length=xs.length:=Ac hk.2.1
  have bc:j.toNat < xs.length:=(List.getElem?_eq_some_iff.1 hz.2).1
  have ma:∃ a c,v = .slice (some a) us.length c:=by
   obtain ⟨b0,cap,hv,hr⟩:=hO
   obtain rfl:v = .slice b0 us.length cap:=by simpa using hv
   rcases hr with ⟨_,_,rfl,_⟩ | ⟨b,cur,f',rfl,_⟩
   ·rw [← hlen] at bc; simp at bc
   ·exact ⟨_,_,rfl⟩
  obtain ⟨a,c',rfl⟩:=ma
  have de:HL Z w0 (.rd false (BL us j) (.bool true) (cl z u) :: en z u) []:=.fact ⟨[],⟨rfl,⟨hz.1,e1⟩,rfl⟩,fun _ h=>absurd h List.not_mem_nil⟩ (wi (tS Z fun b hb=>um b (e3 b hb)))
  obtain ⟨F',xy,gv⟩:=de.build hS
  refine ih z u hA.n B o ho r0 w0 H Z ha ⟨F',Hd,hL,gv,hG.perm (List.Perm.append_left H (by simpa using xy))⟩ (hp.val hh ha hA hv fun r gx _ _ _ w hC=>?_)
  rw [me q1 q2 (aY gx hx) (aY gx hy) hz.1 (by omega),q3]
  rfl
 | @laG hd A as d n e off x v u us j cs t ty ops i sl ms fr Γ Γ1 m h1 vp hc _ ih=>
  intro hv hx ht hA B o ho r0 w0 H Z ha hs hp
  obtain ⟨F,_,_,hS,_,hK⟩:=stay hs
  refine ih hA.n B o ho r0 w0 H Z ha hs (hp.val hh ha hA hv fun r hr _ _ _ w hC=>?_)
  obtain ⟨f,F1,_,hO,_⟩:=h1.sound (hK w hC)
  obtain ⟨_,⟨_,⟨hj,hu⟩,_⟩,_⟩:=vp.rd (hK w hC) []
  exact Ld ht ((zq hO hj hu).2.2 off u hc) (aY hr hx) w (an.refl _ _)
 | @VX hd A as d n e x v u us j cs t ty ops i sl ms fr Γ Γ1 m h1 vp hc _ ih=>
  intro hv hx ht hA B o ho r0 w0 H Z ha hs hp
  obtain ⟨F,_,_,hS,_,hK⟩:=stay hs
  refine ih hA.n B o ho r0 w0 H Z ha hs (hp.val hh ha hA hv fun r hr _ _ _ w hC=>?_)
  obtain ⟨f,F1,_,hO,_⟩:=h1.sound (hK w hC)
  obtain ⟨_,⟨_,⟨hj,hu⟩,_⟩,_⟩:=vp.rd (hK w hC) []
  exact Ld ht ((zq hO hj hu).2.2 0 u hc) (aY hr hx) w (an.refl _ _)
 | load hv hx _ ih=>rename_i ht _; exact fun h1=>ih hv hx ht.h h1
 | lsw _ _ ih=>exact fun hv hx ht h1=>ih hv hx ht h1
 | @acg hd α A as d x v j E z o' t ty ops i sl ms fr Γ VV jk m hV h Eh _ ih=>
  intro hv hx ht h1 B o ho r0 w0 H Z ha hs hp
  obtain ⟨F,Hd,⟨hL,NP⟩,hS,hG,hK⟩:=stay hs
  obtain ⟨_,⟨u,k,h3,h4,h5⟩,_⟩:=(h (.bool true)).sound hL
  obtain ⟨dx,⟨u',k',h4',h5',h6⟩,wj⟩:=(h u).sound hL
  rw [h3] at h4'
  cases h4'
  exact ih u h1.n B o ho r0 w0 H Z ha ⟨F,Hd,⟨(Eh u).sound h3 (wj ⟨k',h5',h6⟩),NP⟩,hS,hG⟩ (hp.acm hh ha h1 hV hv fun r hr _ _ _ w hC=>Ld ht h3 (aY hr hx) w hC)
 | @Vw hd α A as d x v j o E z t ty ops i sl ms fr Γ Γx m h _ ih=>
  intro hv hx ht h1 B o' ho r0 w0 H Z ha hs hp
  obtain ⟨F,Hd,hL,hS,hG,hK⟩:=stay hs
  obtain ⟨_,⟨u,k,h2,h3,_⟩,_⟩:=h.sound hS
  refine ih hv hx ht h1 B o' ho r0 w0 H Z ha hs ⟨u,fun w hC=>?_⟩ hp
  have hb:(cw v 1 j).block ∉ H:=fun hm=>(h.B0 hS).elim (fun h=>h.elim (fun h=>absurd h List.not_mem_nil) fun h=>(List.nodup_append.1 hG.nd).2.2 _ hm _ h rfl) fun h=>hG.apart _ (List.mem_append_left _ hm) h
  have hc:=hC.cell hb h2
  obtain ⟨_,⟨u',k',h4,h5,_⟩,_⟩:=h.sound (hK w hC)
  rw [hc] at h4
  cases h4
  exact ⟨hc,k',h5⟩
 | Vx h _ ih=>
  intro hv hx ht h1 B o ho r0 w0 H Z ha hs hp
  obtain ⟨F,_,_,hS,_,hK⟩:=stay hs
  exact ih h1.n B o ho r0 w0 H Z ha hs (hp.val hh ha h1 hv fun r hr _ _ _ w hC=>Ld ht (h.sound (hK w hC)) (aY hr hx) w (an.refl _ _))
 | Np h _ ih=>
  intro hv hx ht h1 B o ho r0 w0 H Z ha hs hp
  obtain ⟨F,_,_,hS,_,hK⟩:=stay hs
  refine ih h1.n B o ho r0 w0 H Z ha hs (hp.val hh ha h1 hv fun r hr _ _ _ w hC=>?_)
  obtain ⟨h2,h3⟩:=h.sound (hK w hC)
  exact Lg ht h2 (aY hr hx) h3 w (an.refl _ _)
 | Vy _ ih=>
  intro hv hx ht h1 B o ho r0 w0 H Z ha hs hu hp
  obtain ⟨u,hu⟩:=hu
  obtain ⟨_,_,h3,_⟩:=hu w0 (an.refl _ _)
  obtain rfl:u=_:=by simpa using h3
  exact ih h1.n B o ho r0 w0 H Z ha hs (hp.val hh ha h1 hv fun r hr _ _ _ w hC=>Ld ht (hu w hC).1 (aY hr hx) w (an.refl _ _))
 | @Vz hd α A as d x v j E z o' t ty ops i sl ms fr Γ Γ1 Γ' m h Eh _ ih=>
  intro hv hx ht h1 B o ho r0 w0 H Z ha hs hu hp
  obtain ⟨u,hu⟩:=hu
  obtain ⟨h2,_⟩:=hu w0 (an.refl _ _)
  obtain ⟨F,Hd,hL,hS,hG,hK⟩:=stay hs
  obtain ⟨dx,⟨u',k',h4,h5,h6⟩,wj⟩:=(h u).sound hS
  rw [h2] at h4
  cases h4
  exact ih u h1.n B o ho r0 w0 H Z ha ⟨F,Hd,hL,(Eh u).sound h2 (wj ⟨k',h5,h6⟩),hG⟩ (hp.val hh ha h1 hv fun r hr _ _ _ w hC=>Ld ht (hu w hC).1 (aY hr hx) w (an.refl _ _))
 | @HI hd α A as d t e ty E z0 bt ops i sl ms Γ m hz _ ih=>
  intro h1 B o ho r0 w0 H Z ha hs hp
  exact ih h1.n B o ho r0 w0 H Z ha hs (T4 hz h1 hp)
 | No hU _ ih=>exact fun h1=>ih hU h1
 | @ach hd β V A as d f fs bs xo xs aw ty mo rt ps ops i sl ms fr Γ g hv V4 hf hc hi js hw _ ih=>
  intro h1 B o ho r0 w0 H Z ha hs hp
  obtain @⟨uG⟩:=hf
  obtain ⟨y,hy,ho⟩:=bind_some ho
  obtain ⟨pos,ag,h2⟩:=h1.o
  exact ih y h1.n (by unfold bu; rw [h2]; rfl) B o ho r0 w0 H Z ha hs (NK hh uG hv V4 hc hi js hw h1 hy ha hs hp)
 | @call hd β V A as d f xs aw ty mo rt ps ops i sl ms fr Γ g hf hv hc hi js hw _ ih=>
  intro _ h1 B o ho r0 w0 H Z ha hs hp
  obtain ⟨y,hy,ho⟩:=bind_some ho
  obtain ⟨pos,ag,h2⟩:=h1.o
  exact ih y h1.n (by unfold bu; rw [h2]; rfl) B o ho r0 w0 H Z ha hs (Qe hh hf hv hc hi js hw h1 hy ha hs hp)
 | @Zp hd β V A as d f xs aw ty mo rt ps ops i sl ms fr Γ g hf hV hv hc hi js hw _ ih=>
  intro hU h1 B o ho r0 w0 H Z ha hs hp
  obtain ⟨y,hy,ho⟩:=bind_some ho
  obtain ⟨pos,ag,h2⟩:=h1.o
  exact ih y h1.n (by unfold bu; rw [h2]; rfl) B o ho r0 w0 H Z ha hs (NL hh hf hv hU hV hc hi js hw h1 hy ha hs hp)
 | @Zq hd β V j1 a1 ra A as d f xs aw ty mo rt ps ops i sl ms fr Γ g hf hg SN h4 hv hc hi js hw _ ih=>
  intro hU h1 B o ho r0 w0 H Z ha hs hp
  obtain ⟨y,hy,ho⟩:=bind_some ho
  obtain ⟨pos,ag,h2⟩:=h1.o
  exact ih y h1.n (by unfold bu; rw [h2]; rfl) B o ho r0 w0 H Z ha hs (let ⟨S',e1,e2,e3⟩:=NO hh hf hv hU hg SN h4 hc hi js hw h1 hy ha hs hp; ⟨S',e1,e2.re (tD (by rw [← h1.A]; exact r8.1 h4)).1,e3⟩)
 | @crb hd u ps d as ops i sl ms Γ m _ ih=>
  intro h1 jk B o ho r0 w0 H Z ha hs ⟨S',hl,hR,hO,hL⟩
  subst hl
  refine ih h1 B o ho r0 w0 H Z ha hs ⟨S'++[⟨true,MV Z ⟨S'.length,d,[],Unit,fun _=>u,fun _=>ps⟩⟩],by simp,(hR.mem (b:=⟨S'.length,d,[],Unit,fun _=>u,fun _=>ps⟩) rfl jk (fun _ h=>nomatch h)).aci (s:=⟨true,MV Z ⟨S'.length,d,[],Unit,fun _=>u,fun _=>ps⟩⟩) jk (by simp) rfl (fun f w r x ⟨v,h,_⟩=>h),fun j hj=>?_⟩
  by_cases h2:j < S'.length
  ·exact lr.more (hO j h2) h2
  ·obtain rfl:j=S'.length:=by omega
   exact hL _ fun f w r x h=>⟨f,fun _ h=>h,h⟩
 | @crv hd u d as ops i sl ms Γ m _ ih=>
  intro h1 jk B o ho r0 w0 H Z ha hs ⟨S',hl,hR,hO,hL⟩
  subst hl
  refine ih h1 B o ho r0 w0 H Z ha hs ⟨_,by simp,hR.val jk,fun j hj=>?_⟩
  by_cases h2:j < S'.length
  ·exact lr.more (hO j h2) h2
  ·obtain rfl:j=S'.length:=by omega
   exact hL (pl fun _ _ x=>x=_) fun f w r x ⟨v,h,_⟩=>⟨[],fun _ h=>absurd h List.not_mem_nil,h⟩
 | @crm hd V u ps d as ops i sl ms Γ m _ ih=>
  intro h1 jk B o ho r0 w0 H Z ha hs ⟨S',hl,hR,hO,hL⟩
  subst hl
  refine ih h1 B o ho r0 w0 H Z ha hs ⟨_,by simp,hR.mem rfl jk (fun _ h=>nomatch h),fun j hj=>?_⟩
  by_cases h2:j < S'.length
  ·exact lr.more (hO j h2) h2
  ·obtain rfl:j=S'.length:=by omega
   exact hL _ fun f w r x h=>⟨f,fun _ h=>h,h⟩
 | VA hU _ ih=>exact fun h1=>ih hU h1
 | apH NM hv fh h2 h5 hl hz h1 hr hy _ ih=>
  rename_i hT _
  intro hU h B o ho r0 w0 H Z ha hs hp
  obtain ⟨u,hu,ho⟩:=bind_some ho
  obtain ⟨p1,p2⟩:=T9 hh ha hT hU NM hv fh h2 h5 hl hz h1 hr hy hu h hs hp
  exact ih h.n B o ho r0 w0 H Z ha p2 p1
 | ap1 h1 h2 h3 hw h4 h5 _ ih=>
  rename_i hz _
  intro h6 h B o ho r0 w0 H Z ha hs hp
  obtain ⟨u,hu,ho⟩:=bind_some ho
  exact ih h.n B o ho r0 w0 H Z ha hs (T0 hz h1 h2 h3 h4 h5 (h6.trans hw) hu h hp)
 | sw1 _ _ ih=>exact fun h1=>ih h1
 | sw2 _ _ ih=>exact fun h1=>ih h1
 | sw4 _ _ ih=>exact fun h1=>ih h1
 | VU _ ih=>
  rename_i hz _
  intro h1 B o ho r0 w0 H Z ha hs hp
  exact ih h1.n B o ho r0 w0 H Z ha hs (T2 hz h1 hp)
 | sw5 _ _ ih=>exact fun h1=>ih h1
 | mln hi js hx _ ih=>
  rename_i ht _
  intro h1 B o ho r0 w0 H Z ha hs hp
  exact ih h1.n B o ho r0 w0 H Z ha hs (V1 hp h1 ht hi js hx)
 | wv hv hq _ ih=>
  intro h1 B o ho r0 w0 H Z ha hs hp
  obtain ⟨F,_,_,_,_,hK⟩:=stay hs
  exact ih h1.n B o ho r0 w0 H Z ha hs (hp.val hh ha h1 hv fun r hr _ _ _ w hC=>hq.sound (hK w hC) hr _ _ _ _ _ w (an.refl _ _))
 | wlt hv hx ho _ ih=>
  rename_i hz _
  intro h1 B o cb r0 w0 H Z ha hs hp
  obtain ⟨F,_,_,_,_,hK⟩:=stay hs
  exact ih h1.n B o cb r0 w0 H Z ha hs (V3 hh ha hz hv hx ho hK h1 hp)
 | ltn hv jk hn hb _ ih=>
  rename_i hz _
  intro h1 B o cb r0 w0 H Z ha hs hp
  obtain ⟨F,_,_,_,_,hK⟩:=stay hs
  exact ih h1.n B o cb r0 w0 H Z ha hs (KH hh ha hz hv jk hn hb hK h1 hp)
 | ltu hv jk hn hb _ ih=>
  rename_i hz _
  intro h1 B o cb r0 w0 H Z ha hs hp
  obtain ⟨F,_,_,_,_,hK⟩:=stay hs
  exact ih h1.n B o cb r0 w0 H Z ha hs (KH hh ha ⟨hz.h⟩ hv jk hn hb hK h1 hp)
 | @uE hd A as op x y k k' a b t t' d ty ops i sl ms fr Γ f hv hx hy hk _ ih=>
  intro h1 B o ho r0 w0 H Z ha hs hp
  obtain ⟨z,hz,ho⟩:=bind_some ho
  have sZ:Nn op=true∨k=k':=by
   cases hk with
   | same=>exact .inr rfl
   | sh h=>exact .inl h
  exact ih z h1.n B o ho r0 w0 H Z ha hs (hp.val hh ha h1 hv fun r hr _ _ _ w hC=>Nx (aY hr hx) (aY hr hy) sZ hz)
 | mk hv hx _ ih=>
  rename_i hz _
  intro h1 B o ho r0 w0 H Z ha hs hp
  obtain ⟨n,hn,ho⟩:=bind_some ho
  exact ih n h1.n B o ho r0 w0 H Z ha hs (V2 hh ha hz hv hx hn h1 hp)
 | mbl hi js _ hj hv Di _ ih=>
  rename_i hb _ _
  intro h1 B o ho r0 w0 H Z ha hs hp
  exact ih h1.n B o ho r0 w0 H Z ha hs (T3 hh hb hi js hj hv Di h1 ha hs hp)
 | mlt hi js hj Di _ ih=>
  rename_i hz _
  intro h1 B o ho r0 w0 H Z ha hs hp
  exact ih h1.n B o ho r0 w0 H Z ha hs (T5 hz hi js hj Di h1 hp)
 | mls hb hi js hj Di _ ih=>
  rename_i hz _
  intro h1 B o ho r0 w0 H Z ha hs hp
  exact ih h1.n B o ho r0 w0 H Z ha hs (T8 hz hb hi js hj Di h1 hp)
 | val hv hq _ ih=>
  intro h1 B o ho r0 w0 H Z ha hs hp
  obtain ⟨F,_,_,_,_,hK⟩:=stay hs
  exact ih h1.n B o ho r0 w0 H Z ha hs (hp.val hh ha h1 hv fun r hr _ _ _ w hC=>hq.sound (hK w hC) hr _ _ _ _ _ w (an.refl _ _))
end
end Go.Dk
namespace Go.Dk
open Go Go.Li
section
variable {R S:Type} {P:Program} {cx:Cx R} {K:dj R S} {l tail:LO} {base fr:Fr} {w:World} {Z:Nat→Prop}
theorem JZ {n:Nat} {Q:Exit→(Nat→Value)→World→Prop} {r:NV} (hQ:∀ c,¬ Q (.panic c) r w):∀ gq,∀ c,¬ AR P n Q gq (.panic c) r w:=by
 intro gq
 induction gq with
 | nil=>exact hQ
 | cons a gq ih=>cases a <;> exact ih
theorem J3 {B:Bs} {b:Kb R S} {o:Out S R} {r:NV}:∀ c,¬ Hk P cx B b o (.panic c) r w:=by
 intro c
 cases b <;> cases o <;> exact fun h=>h
theorem zV {B:Bs} {K:dj R S} {o:Out S R} {r:NV}:∀ c,¬ nb P cx B K o (.panic c) r w:=JZ J3 _
def A0 (g:Nat→List Nat):List ik→List Nat
 | []=>[]
 | a :: l=>g a.j++A0 g l
theorem DN {g:Nat→List Nat}:∀ {ms:MM} {b:Nat},b∈A0 g ms→∃ a∈ms,b∈g a.j:=by
 intro ms
 induction ms with
 | nil=>intro b h; exact absurd h List.not_mem_nil
 | cons a ms ih=>
  intro b h
  rcases List.mem_append.1 h with h | h
  ·exact ⟨a,by simp,h⟩
  ·obtain ⟨c,h1,h2⟩:=ih h
   exact ⟨c,List.mem_cons_of_mem _ h1,h2⟩
theorem KM {Vo Vr A F:LN} (h:(Vo++Vr).Perm A):((Vo++F)++Vr).Perm (A++F):=by
 refine List.Perm.trans ?_ (h.append_right F)
 rw [List.append_assoc,List.append_assoc]
 exact List.Perm.append_left Vo List.perm_append_comm
theorem SR {g:Nat→List Nat} {r:NV}:∀ {ms:MM},DL ms=true→(ms.map (·.j)).Nodup→(∀ a∈ms,∀ b∈ms,a.j≠b.j→tx (g a.j) (g b.j))→(∀ a∈ms,MV Z a (g a.j) w r (r a.d))→
  ∃ x:qk ms,(∀ p∈mF ms x,r p.1=p.2)∧(∃ Vo Vr,(Vo++Vr).Perm (A0 g ms)∧(∀ b∈Vr,b < w.heap.size)∧HL (sk Z Vr) w (Fv ms x) Vo)∧(A0 g ms).Nodup:=by
 intro ms
 induction ms with
 | nil=>intro _ _ _ _; exact ⟨(),fun p hp=>absurd hp List.not_mem_nil,⟨[],[],.refl _,fun b (h:b∈[])=>absurd h List.not_mem_nil,.nil⟩,List.nodup_nil⟩
 | cons a ms ih=>
  intro js hd hi h
  unfold DL at js
  rw [Bool.and_eq_true] at js
  rw [List.map_cons,List.nodup_cons] at hd
  obtain ⟨x,hx,hl,hn⟩:=ih js.2 hd.2 (fun b hb c hc=>hi b (List.mem_cons_of_mem _ hb) c (List.mem_cons_of_mem _ hc)) fun b hb=>h b (List.mem_cons_of_mem _ hb)
  obtain ⟨v,e1,e2,e3⟩:=h a (by simp)
  have es:xk a r=B5 a (mF ms x):=by
   have h3:=js.1
   rw [List.all_eq_true] at h3
   refine CQ fun t ht=>?_
   unfold zn
   rw [P4 (h3 t ht) hx]
  rw [es] at e1 e2
  refine ⟨(v,x),?_,?_,zp e3 hn ?_⟩
  rotate_left
  ·obtain ⟨Fo,Fr,hf,h1,h2⟩:=e2.all
   obtain ⟨Vo,Vr,k1,k2,k3⟩:=hl
   refine ⟨Fo++Vo,Fr++Vr,?_,fun b hb=>(List.mem_append.1 hb).elim (h1 b) (k2 b),(h2.mono fun b h=>h.imp id fun h=>List.mem_append_left _ h).app (k3.mono fun b h=>h.imp id fun h=>List.mem_append_right _ h)⟩
   show List.Perm _ (g a.j++A0 g ms)
   rw [hf]
   refine List.Perm.trans ?_ (k1.append_left (Fo++Fr))
   rw [List.append_assoc,List.append_assoc]
   refine List.Perm.append_left Fo ?_
   rw [← List.append_assoc,← List.append_assoc]
   exact List.Perm.append_right Vr List.perm_append_comm
  rotate_right
  ·intro p hp
   rcases List.mem_cons.1 hp with rfl | hp
   ·exact e1
   ·exact hx p hp
  ·intro b hb hm
   obtain ⟨c,h1,h2⟩:=DN hm
   exact hi a (by simp) c (List.mem_cons_of_mem _ h1) (fun e=>hd.1 (by rw [e]; exact List.mem_map_of_mem h1)) b hb h2
theorem Ij {r:NV} {f:Fr}:∀ {sl:LQ},(∀ p∈sl,r p.2.1=p.2.2)→(∀ p∈f,r p.1=p.2)→∀ p∈B6 sl f,r p.1=p.2:=by
 intro sl
 induction sl with
 | nil=>intro _ h; exact h
 | cons a sl ih=>
  intro h1 h2 p hp
  rcases List.mem_cons.1 hp with rfl | hp
  ·exact h1 a (by simp)
  ·exact ih (fun p hp=>h1 p (List.mem_cons_of_mem _ hp)) h2 p hp
theorem Ua {mt id:Nat} {U:LL} {Zl:LN} {Wl:QE} (hU:((List.range mt).all fun i=>(U.getD i []).all fun u=>Nat.beq u l.length || ((bz l).getD i []).contains u)=true) (hh:oK l mt base=true) (hd:df cx.n l=true) (hA:A3 l mt Zl=true) (hZ:Ik l mt Zl=true) (yo:mt≤l.length) (ht:tail=l.drop mt) {i:Nat} {sl:LQ} {ms:MM} {Γ:QE} {m:Option (Out S R)} (Wm:DL ms=true) (tS:Fw U sl ms=true)
  (h:∀ x:qk ms,D P cx (.p (B6 sl (mF ms x)) (Fv ms x) base Γ fun fr Γ=>.tg false (DJ tail) l tail K Γ fr m)):L7 P cx K l mt U Wl id base (.a [] [] i sl ms Γ m):=by
 rintro ⟨_,h2,h3⟩ B o ho r0 w0 H Z ha hs ⟨S',hl,hR,hO⟩
 have hi:i=mt:=by
  have:=congrArg List.length h2
  simp at this
  omega
 subst hl
 obtain ⟨F,Hd,⟨BQ,Dg,yn,Dh⟩,hS,hG⟩:=hs
 refine Wn (N:=Z) (S:=S') (U:=U) (H:=H) hd hA hZ (fun c r w h=>zV c h) yo hi yn hU (fun b hb=>⟨hG.tv b hb,fun h=>hG.apart b (List.mem_append_left _ h) hb⟩) (fun i s hs=>hR.s i s hs) (fun j hj=>hO j (by omega)) ?_
 intro g r w hI
 have L8:∀ k j,j∈U.getD k []→∀ a∈ms,a.j≠j:=by
  intro k j hj
  unfold Fw at tS
  rw [List.getD_eq_getElem?_getD] at hj
  cases hk:U[k]? with
  | none=>rw [hk] at hj; exact absurd hj List.not_mem_nil
  | some us=>
   rw [hk] at hj
   have h1:=List.all_eq_true.1 (List.all_eq_true.1 tS us (List.mem_of_getElem? hk)) j hj
   intro a ha he
   have:=List.all_eq_true.1 h1 a ha
   rw [he,Nat.beq_refl] at this
   cases this
 have hD:∀ j,j < mt→(∀ k,j ∉ U.getD k [])→yk l S' j g r w:=fun j hj hn=>hI.done j hj fun k _=>hn k
 have bc:∀ a∈ms,a.j < mt:=fun a ha=>hi ▸ hR.lt ha
 obtain ⟨x,hx,vv,Wo⟩:=SR (g:=g) (r:=r) (w:=w) Wm hR.d (fun a ha b hb nu=>hI.xA _ _ (bc a ha) (bc b hb) nu) fun a ha=>by
  have:=hR.H6 (S2:=[]) ha (by rw [List.append_nil]; exact hD a.j (bc a ha) (fun k hk=>L8 k _ hk a ha rfl))
  exact this
 have Ek:=List.nodup_append.1 hG.nd
 have mw:∀ b∈A0 g ms,w0.heap.size≤b∨b∈H:=fun b hb=>by
  obtain ⟨a,h1,h2⟩:=DN hb
  exact (hI.fresh a.j (bc a h1) b h2).1.imp (fun h=>h) (·.1)
 have fl:=ur.stay hS hG hI.lq
 obtain ⟨Vo,Vr,Wp,NQ,vv⟩:=vv
 obtain ⟨F',hp,gv⟩:=vv.build (fl.mono (fun _ h=>.inl h) fun _ h=>h)
 have Il:Gd B Z (A0 g ms++F) w:=by
  refine ⟨zp Wo Ek.2.1 fun b hb hF=>(mw b hb).elim (fun h=>Nat.lt_irrefl _ (Nat.lt_of_lt_of_le (hS.lt b hF) h)) (fun h=>Ek.2.2 b h b hF rfl),?_,fun b hb=>Nat.lt_of_lt_of_le (hG.tv b hb) hI.lq.size,?_,hG.x9,hG.yc,hG.lq.then hI.lq fun b hb=>hG.low b (List.mem_append_left _ hb)⟩
  ·intro b hb hz
   rcases List.mem_append.1 hb with hb | hb
   ·exact (mw b hb).elim (fun h=>Nat.lt_irrefl _ (Nat.lt_of_lt_of_le (hG.tv b hz) h)) (fun h=>hG.apart b (List.mem_append_left _ h) hz)
   ·exact hG.apart b (List.mem_append_right _ hb) hz
  ·intro b hb
   rcases List.mem_append.1 hb with hb | hb
   ·exact (mw b hb).elim (fun h=>.inr (Nat.le_trans hG.lq.size h)) (fun h=>hG.low b (List.mem_append_left _ h))
   ·exact hG.low b (List.mem_append_right _ hb)
 have Qf:cu r ((B6 sl (mF ms x)).reverse++base):=by
  refine rm (Ij (fun p hp=>?_) hx) (mf hh ha hI.other)
  exact hR.BN (S2:=[]) hp fun j _ hj=>(by rw [List.append_nil]; exact hI.uF j (hi ▸ hj))
 have:=(h x).sound B o ho r w Qf ⟨_,F',gv,((Il.perm (KM Wp)).freeze NQ).perm hp⟩
 rw [ht] at this
 exact this
def Kq (q:Option (Bool×Nat×Value)) (f:Fr):Fr:=
 match q with
 | none=>f
 | some (_,d,u)=>(d,u) :: f
theorem Kp.lk {ws:LN} {q:Option (Bool×Nat×Value)} {f g:Fr} (h:Kp ws q f g):(∀ b d u,q=some (b,d,u)→b=jh d ws)→∀ t v,look g t=some v→jh t ws=false∧look (Kq q f) t=some v:=by
 induction h with
 | nil=>intro _ t v h; cases h
 | cons _ ih=>intro _ t v h; exact ih (by rintro b d u h; cases h; rfl) t v h
 | @drop ws d u f g _ ih=>
  intro hq t v h
  obtain ⟨h1,h2⟩:=ih (by rintro b d u h; cases h) t v h
  refine ⟨h1,?_⟩
  show look ((d,u) :: f) t=some v
  unfold look
  cases hb:Nat.beq t d with
  | true=>have:=hq true d u rfl; rw [Nat.eq_of_beq_eq_true hb,← this] at h1; cases h1
  | false=>exact h2
 | @e7 ws d u f g _ ih=>
  intro hq t v h
  unfold look at h
  show jh t ws=false∧look ((d,u) :: f) t=some v
  unfold look
  cases hb:Nat.beq t d with
  | true=>rw [hb] at h; exact ⟨by rw [Nat.eq_of_beq_eq_true hb]; exact (hq false d u rfl).symm,h⟩
  | false=>
   rw [hb] at h
   obtain ⟨h1,h2⟩:=ih (by rintro b d u h; cases h) t v h
   unfold jh at h1
   rw [hb] at h1
   exact ⟨h1,h2⟩
theorem Kp.sound {ws:LN} {f g:Fr} {r:NV} (h:Kp ws none f g) (ha:cu r f):cu r g:=
 fun t v hl=>ha t v (h.lk (by rintro b d u h; cases h) t v hl).2
theorem Wq {id:Nat} (hd:QE) (mt:Nat) (Zl:LN) (U as:LL) {ops:LO} {Γ Γ1:QE} {fr:Fr} {m:Option (Out S R)}
  (hB:(P.follows .mixedOrders && df cx.n l && A3 l mt Zl && Ik l mt Zl && Nat.ble mt l.length && (r9 l U mt == as) && ((List.range mt).all fun i=>(U.getD i []).all fun u=>Nat.beq u l.length || ((bz l).getD i []).contains u))=true)
  (ho:ops=l.take mt) (ht:tail=l.drop mt) (hf:Kp (AS ops) none fr base) (hh:oK l mt base=true) (he:EO Γ hd Γ1) (Im:OW Γ hd)
  (h:AD false P cx K l tail base U hd (.a as ops 0 [] [] Γ1 m)):∀ B o,m=some o→∀ r w,cu r fr→St B Γ w→o3 P cx.n l (nb P cx B K o) r w:=by
 simp only [Bool.and_eq_true] at hB
 obtain ⟨⟨⟨⟨⟨⟨_,b2⟩,b3⟩,b4⟩,b5⟩,b6⟩,b7⟩:=hB
 intro B o hm r w ha hs
 obtain ⟨Z,F,hS,hG⟩:=hs
 obtain ⟨Fd,F',h1,h2,h3⟩:=he.sound hS
 have Io:SA Z w hd [] Fd:=by
  have:=(HO.hl Im hS h1).front (Γ:=[]) (F:=[]) rfl
  simpa using this
 have hX:ur B Z hd Γ1 Fd w:=⟨F',Fd,⟨Io,fun b hb=>⟨hb,Io.lt b hb⟩,Io.lt,(List.nodup_append.1 (hG.perm h3).nd).1⟩,h2,hG.perm h3⟩
 refine AD.sound (id:=id) hh (fun _ _ _ _ _ _ hs he h=>Ua b7 hh b2 b3 b4 (Nat.le_of_ble_eq_true b5) ht hs he h) h
  ⟨by rw [List.drop_zero]; exact (eq_of_beq b6).symm,by rw [List.drop_zero]; exact ho,Nat.zero_le _⟩ B o hm r w Fd Z (hf.sound ha) hX ⟨[],rfl,⟨fun _ h=>absurd h List.not_mem_nil,fun _ h=>absurd h List.not_mem_nil,fun i s h=>by simp at h,List.nodup_nil,fun _ _ _ h1 h2=>El l (NR b3) h1 h2⟩,fun j hj=>absurd hj (Nat.not_lt_zero j)⟩
theorem zW {id:Nat} (hd:QE) (mt:Nat) (Zl:LN) (U as:LL) {ops:LO} {Γ Γ1:QE} {fr:Fr} {m:Option (Out S R)}
  (hB:(P.follows .mixedOrders && df cx.n l && A3 l mt Zl && Ik l mt Zl && Nat.ble mt l.length && (r9 l U mt == as) && ((List.range mt).all fun i=>(U.getD i []).all fun u=>Nat.beq u l.length || ((bz l).getD i []).contains u))=true)
  (ho:ops=l.take mt) (ht:tail=l.drop mt) (hf:Kp (AS ops) none fr base) (hh:oK l mt base=true) (he:EO Γ hd Γ1) (Im:OW Γ hd)
  (h:AD false P cx K l tail base U hd (.a as ops 0 [] [] Γ1 m)):Bx (nq P cx (.dr id l K Γ fr m)):=by
 have hm:P.follows .mixedOrders=true:=by
  simp only [Bool.and_eq_true] at hB
  exact hB.1.1.1.1.1.1
 rw [na]
 intro B o s7 r w ha hs
 exact (Wq (id:=id) hd mt Zl U as hB ho ht hf hh he Im h B o s7 r w ha hs).W hm
theorem Wr {id:Nat} {l0:LO} (σ π:LN) (hd:QE) (mt:Nat) (Zl:LN) (U as:LL) {ops:LO} {Γ Γ1:QE} {fr:Fr} {m:Option (Out S R)}
  (hB:(P.follows .mixedOrders && Qh l0 σ π && df cx.n (rh l0 σ π) && A3 (rh l0 σ π) mt Zl && Ik (rh l0 σ π) mt Zl && Nat.ble mt (rh l0 σ π).length && (r9 (rh l0 σ π) U mt == as) && ((List.range mt).all fun i=>(U.getD i []).all fun u=>Nat.beq u (rh l0 σ π).length || ((bz (rh l0 σ π)).getD i []).contains u))=true)
  (hl:l=rh l0 σ π) (ho:ops=l.take mt) (ht:tail=l.drop mt) (hf:Kp (AS ops) none fr base) (hh:oK l mt base=true) (he:EO Γ hd Γ1) (Im:OW Γ hd)
  (h:AD false P cx K l tail base U hd (.a as ops 0 [] [] Γ1 m)):Bx (nq P cx (.dr id l0 K Γ fr m)):=by
 subst hl
 simp only [Bool.and_eq_true] at hB
 obtain ⟨⟨⟨⟨⟨⟨⟨b0,b1⟩,b2⟩,b3⟩,b4⟩,b5⟩,b6⟩,b7⟩:=hB
 rw [na]
 intro B o s7 r w ha hs
 refine ((Wq (id:=id) hd mt Zl U as ?_ ho ht hf hh he Im h B o s7 r w ha hs).prm b1).W b0
 simp only [Bool.and_eq_true]
 exact ⟨⟨⟨⟨⟨⟨b0,b2⟩,b3⟩,b4⟩,b5⟩,b6⟩,b7⟩
theorem any {id:Nat} (mt:Nat) (Zl:LN) (U as:LL) {ops:LO} {Γ:QE} {fr:Fr} {m:Option (Out S R)}
  (hB:(P.follows .mixedOrders && df cx.n l && A3 l mt Zl && Ik l mt Zl && Nat.ble mt l.length && (r9 l U mt == as) && ((List.range mt).all fun i=>(U.getD i []).all fun u=>Nat.beq u l.length || ((bz l).getD i []).contains u))=true)
  (ho:ops=l.take mt) (ht:tail=l.drop mt) (hf:Kp (AS ops) none fr base) (hh:oK l mt base=true)
  (h:AD false P cx K l tail base U [] (.a as ops 0 [] [] Γ m)):Bx (nq P cx (.dr id l K Γ fr m)):=zW [] mt Zl U as hB ho ht hf hh .nil .nil h
end
end Go.Dk
