/- A calculus of walks: regions that draw their order and make memory. No condition. -/
import Derived.Test.YtgjbmjjihmfppaaGreatDe
import Derived.Laws.Slices
namespace Go.Dk
open Go Go.Li
section
variable {w:World}
def uF {α:Type} (e:TI) (E:ah α) (j:Nat):ah (List α) where
 size:=1
 rep h cs xs f:=∃ b cap cur f1 f2 p c0 q,cs=[.slice (some ⟨b,0,none⟩) xs.length cap]∧h[b]? = some (.cells cur e (0,0))∧f=b :: (f1++f2)∧(xs.length≤cap∧cap≤maxLen∧cur.size=cap∧E.size=1)∧cur.toList.take xs.length=p++[c0]++q∧(p.length=j∧j < xs.length)∧
  (∀ i∈f1++f2,i < h.size)∧∀ h':Array Obj,(∀ i∈f1++f2,h'[i]? = h[i]?)→∀ u z k,E.rep h' [u] z k→dt E h' (p++[u]++q) (xs.set j z) (f1++k++f2)
 len:=by rintro h cs x f ⟨b,cap,cur,f1,f2,p,c0,q,rfl,_⟩; rfl
 one:=by rintro h cs x f ⟨b,cap,cur,f1,f2,p,c0,q,rfl,_⟩ v hv; simp at hv; subst hv; rfl
 congr:=by
  rintro h h' cs x f ⟨b,cap,cur,f1,f2,p,c0,q,rfl,h1,rfl,h2,h3,h4,h5,h6⟩ hb
  refine ⟨b,cap,cur,f1,f2,p,c0,q,rfl,(hb b (by simp)).trans h1,rfl,h2,h3,h4,fun i hi=>?_,fun h'' cy=>h6 h'' fun i hi=>(cy i hi).trans (hb i (List.mem_cons_of_mem _ hi))⟩
  have:=hb i (List.mem_cons_of_mem _ hi)
  rw [Array.getElem?_eq_getElem (h5 i hi)] at this
  exact (Array.getElem?_eq_some_iff.1 this).1
 lt:=by
  rintro h cs x f ⟨b,cap,cur,f1,f2,p,c0,q,rfl,h1,rfl,h2,h3,h4,h5,h6⟩ i hi
  rcases List.mem_cons.1 hi with rfl | hi
  ·exact (Array.getElem?_eq_some_iff.1 h1).1
  ·exact h5 i hi
theorem GQ {α:Type} {e:TI} {E:ah α} {v u:Value} {xs:List α} {f:LN} {j:Int} {z:α} (h1:E.size=1) (hO:(aL e E).rep w.heap [v] xs f) (hz:xs[j.toNat]? = some z) (hu:w.cell? (dc v 1 j)=some u) :
  ∃ k g,E.rep w.heap [u] z k∧(k++g).Perm f∧(uF e E j.toNat).rep w.heap [v] xs g:=by
 obtain ⟨base,cap,hv,hr⟩:=hO
 obtain rfl:v = .slice base xs.length cap:=by simpa using hv
 have bj:j.toNat < xs.length:=(List.getElem?_eq_some_iff.1 hz).1
 rcases hr with ⟨_,_,rfl,_⟩ | ⟨b,cur,f0,rfl,hg,rfl,Az,ux,wD,dy⟩
 ·simp at bj
 ·rw [h1,Nat.mul_one] at wD dy
  have w9:dc (.slice (some ⟨b,0,none⟩) xs.length cap) 1 j = ⟨b,j.toNat,none⟩:=by
   simp only [dc,jd,Nat.zero_add,Nat.mul_one]
  rw [w9,cell_of_row w b _ cur e _ hg] at hu
  have Ob:∀ i∈f0,i < w.heap.size:=me dy
  obtain ⟨c,g0,g1,g2,p,q,A4,hc,hp,AA,r4⟩:=zI j.toNat z dy hz
  subst A4
  rw [h1,Nat.mul_one] at hp
  have Di:c.length=1:=by rw [E.len AA,h1]
  obtain ⟨c0,rfl⟩ : ∃ c0,c=[c0]:=by match c,Di with | [c0],_=>exact ⟨c0,rfl⟩
  have Tg:c0=u:=by
   have h2:(cur.toList.take xs.length)[j.toNat]? = some c0:=by
    rw [hc,List.append_assoc,List.getElem?_append_right (by omega),hp,Nat.sub_self]; rfl
   rw [List.getElem?_take,if_pos bj,Array.getElem?_toList,hu] at h2
   exact (Option.some.inj h2).symm
  subst Tg
  refine ⟨g1,b :: (g0++g2),AA,?_,b,cap,cur,g0,g2,p,c0,q,rfl,hg,rfl,⟨Az,ux,wD,h1⟩,hc,⟨hp,bj⟩,fun i hi=>Ob i (by rcases List.mem_append.1 hi with hi | hi <;> simp [hi]),fun h' cy u z' k' hr=>r4 h' [u] z' k' (fun i hi=>cy i (by simp [hi])) (fun i hi=>cy i (by simp [hi])) hr⟩
  refine (List.perm_append_comm (l₁:=g1) (l₂:=b :: (g0++g2))).trans ?_
  rw [List.cons_append]
  refine List.Perm.cons b ?_
  rw [List.append_assoc,List.append_assoc]
  exact List.Perm.append_left g0 List.perm_append_comm
end
structure gu where
 j:Nat
 d:Nat
 src:List Nat
 V:Type
 rt:Value→V→Value
 ps:Value→V→List aw
abbrev MM:=List gu
def nt:List gu→Type
 | []=>Unit
 | a :: l=>a.V×nt l
def yM (f:NV):List Nat→Value
 | []=>undef
 | [t]=>f t
 | ts=>.tuple (ts.map f).toArray
def yj (f:Fr) (t:Nat):Value:=match look f t with
 | some v=>v
 | none=>undef
def wk (a:gu) (r:NV):Value:=yM r a.src
def A7 (a:gu) (f:Fr):Value:=yM (yj f) a.src
theorem B4 {f g:NV}:∀ {ts:LN},(∀ t∈ts,f t=g t)→yM f ts=yM g ts:=by
 intro ts h
 match ts,h with
 | [],_=>rfl
 | [t],h=>exact h t (by simp)
 | t :: s :: ts,h=>
  show Value.tuple (List.map f (t :: s :: ts)).toArray=Value.tuple (List.map g (t :: s :: ts)).toArray
  rw [List.map_congr_left h]
def mF:(ms:MM)→nt ms→Fr
 | [],_=>[]
 | a :: l,x=>(a.d,a.rt (A7 a (mF l x.2)) x.1) :: mF l x.2
def Ep:(ms:MM)→nt ms→List aw
 | [],_=>[]
 | a :: l,x=>a.ps (A7 a (mF l x.2)) x.1++Ep l x.2
def mf (A:LN):(ms:MM)→nt ms→Fr
 | [],_=>[]
 | a :: l,x=>bif iu a.j A then (a.d,a.rt (A7 a (mF l x.2)) x.1) :: mf A l x.2 else mf A l x.2
def ri (A:LN):(ms:MM)→nt ms→List aw
 | [],_=>[]
 | a :: l,x=>bif iu a.j A then a.ps (A7 a (mF l x.2)) x.1++ri A l x.2 else ri A l x.2
def r5 (t:Nat):List gu→Option Nat
 | []=>none
 | a :: l=>bif Nat.beq t a.d then some a.j else r5 t l
def zO (ms:MM):List (Nat×Operand)→List Nat
 | []=>[]
 | (_,.tmp s) :: l=>match r5 s ms with
  | some _=>s :: zO ms l
  | none=>zO ms l
 | _ :: l=>zO ms l
def Yw (s:Nat):List Nat→Option Nat
 | []=>none
 | t :: l=>bif Nat.beq s t then some 0 else (Yw s l).map (·+1)
def Z9 (v:Value) (k:Nat):Value:=match v with
 | .tuple vs=>vs.toList.getD k undef
 | _=>undef
def aaa (f:Fr) (ts:LN) (u:Value):Operand→Value
 | .tmp s=>match Yw s ts with
  | some k=>(match ts with
   | [_]=>u
   | _=>Z9 u k)
  | none=>yj f s
 | x=>match bq f x with
  | some v=>v
  | none=>undef
def XC (k:Nat) (v:Value):List Value:=bif Nat.beq k 1 then [v] else match v with
 | .agg cs=>cs.toList
 | _=>[]
def QS (pl:List (Nat×Nat)):List (Nat×Value)→List Value→List Value
 | [],cs=>cs
 | (i,v) :: l,cs=>match Gv pl i with
  | some (off,k)=>QS pl l (cs.take off++XC k v++cs.drop (off+k))
  | none=>cs
def TP (pl:List (Nat×Nat)) (f:Fr) (ts:LN) (ps:List (Nat×Operand)) (zc:LV) (u:Value):List Value:=QS pl (ps.map fun p=>(p.1,aaa f ts u p.2)) zc
def Yx (A:LN) (ms:MM) (ts:LN):Bool:=ts.all fun t=>match r5 t ms with
 | some j=>iu j A
 | none=>false
def p6 (A:LN):List gu→Bool
 | []=>true
 | a :: l=>(bif iu a.j A then a.src.all (fun t=>match r5 t l with
   | some j=>iu j A
   | none=>false) else true) && p6 A l
def CP:List gu→Bool
 | []=>true
 | a :: l=>a.src.all (fun t=>(r5 t l).isSome) && CP l
theorem GR {A:LN} {r:NV} {t:Nat}:∀ {ms:MM} {x:nt ms} {j:Nat},r5 t ms=some j→iu j A=true→(∀ p∈mf A ms x,r p.1=p.2)→look (mF ms x) t=some (r t):=by
 intro ms
 induction ms with
 | nil=>intro x j h; cases h
 | cons a l ih=>
  intro x j h hj hp
  unfold r5 at h
  unfold mF look
  cases hb:Nat.beq t a.d with
  | true=>
   rw [hb] at h
   cases h
   have:=hp (a.d,a.rt (A7 a (mF l x.2)) x.1) (by unfold mf; rw [hj]; simp)
   simp only [cond_true]
   rw [Nat.eq_of_beq_eq_true hb,this]
  | false=>
   rw [hb] at h
   refine ih h hj fun p hm=>hp p ?_
   unfold mf
   cases iu a.j A with
   | true=>exact List.mem_cons_of_mem _ hm
   | false=>exact hm
theorem Ox {r:NV} {t:Nat}:∀ {ms:MM} {x:nt ms},(r5 t ms).isSome=true→(∀ p∈mF ms x,r p.1=p.2)→look (mF ms x) t=some (r t):=by
 intro ms
 induction ms with
 | nil=>intro x h; cases h
 | cons a l ih=>
  intro x h hp
  unfold r5 at h
  unfold mF at hp ⊢
  unfold look
  cases hb:Nat.beq t a.d with
  | true=>
   simp only [cond_true]
   rw [Nat.eq_of_beq_eq_true hb,hp (a.d,a.rt (A7 a (mF l x.2)) x.1) (by simp)]
  | false=>
   rw [hb] at h
   exact ih h fun p hm=>hp p (List.mem_cons_of_mem _ hm)
def HN (N:Nat→Prop) (w:World) (Δ:QE) (f:LN):Prop:=HL (fun _=>False) w Δ f∨∃ Fo Fr,f=Fo++Fr∧(sd Δ=false∧∀ b∈Fr,b < w.heap.size)∧HL (fun b=>N b∨b∈Fr) w Δ Fo
def Mi (N:Nat→Prop) (a:gu):List Nat→World→(Nat→Value)→Value→Prop:=fun f w r _=>∃ v:a.V,r a.d=a.rt (wk a r) v∧HN N w (a.ps (wk a r) v) f∧f.Nodup
def MV (N:Nat→Prop) (a:gu):List Nat→World→(Nat→Value)→Value→Prop:=fun f w r x=>∃ v:a.V,x=a.rt (wk a r) v∧HN N w (a.ps (wk a r) v) f∧f.Nodup
def QT (N:Nat→Prop) (a:LN) (l:LO) (s:gx):Prop:=∀ f F (w w':World) (r r':NV) v,an F w w'→(∀ b∈f,b ∉ F)→(∀ b∈F,¬ N b)→(∀ j∈a,∀ t,bx l j=some t→r' t=r t)→s.V f w r v→s.V f w' r' v
theorem GS.n {N:Nat→Prop} {a:LN} {l:LO} {s:gx} (h:GS a l s):QT N a l s:=fun f F w w' r r' v hC hn _=>h f F w w' r r' v hC hn
section
variable {P:Program} {w w':World} {Z:Nat→Prop}
theorem HL.XD {F H:LN} {Δ:QE} (h:HL (fun _=>False) w Δ F) (hC:an H w w') (hd:∀ b∈F,b ∉ H):HL (fun _=>False) w' Δ F:=by
 induction h with
 | nil=>exact .nil
 | @own e f F Δ h _ ih=>exact .own (h.ee hC (fun _ _ h=>h) fun b hb hm=>hd b (List.mem_append_left _ hm) hb) (ih fun b hb=>hd b (List.mem_append_right _ hb))
 | @fact e F Δ h _ ih=>
  refine .fact ?_ (ih hd)
  cases e with
  | rd o T v x=>
   obtain ⟨g,h1,h2⟩:=h
   have hg:g=[]:=by
    cases g with
    | nil=>rfl
    | cons b g=>exact absurd (h2 b (by simp)) (by cases o <;> simp [u3])
   subst hg
   exact ⟨[],T.ee h1 hC (fun _ h=>absurd h List.not_mem_nil),fun _ h=>absurd h List.not_mem_nil⟩
  | ad o1 o2 v j T x=>obtain ⟨_,_,u,g,_,_,h3,_⟩:=h; exact absurd h3 (by cases o1 <;> simp [u3])
  | au p cs=>
   have hc:cs=[]:=by
    cases cs with
    | nil=>rfl
    | cons c cs=>exact (h.2 (by simp)).elim
   subst hc
   exact ⟨fun j u hj=>by simp at hj,fun hn=>absurd rfl hn⟩
  | hd v j u=>exact absurd h.2.2.2 List.not_mem_nil
  | _=>exact h.elim
theorem HL.QU {F H:LN} {Δ:QE} (h:HL Z w Δ F) (hC:an H w w') (hz:∀ b∈H,¬ Z b) (hd:∀ b∈F,b ∉ H):HL Z w' Δ F:=by
 induction h with
 | nil=>exact .nil
 | @own e f F Δ h _ ih=>exact .own (h.ee hC hz fun b hb hm=>hd b (List.mem_append_left _ hm) hb) (ih fun b hb=>hd b (List.mem_append_right _ hb))
 | @fact e F Δ h _ ih=>exact .fact (h.ee hC hz fun _ _ h=>nomatch h) (ih hd)
theorem HN.ee {N:Nat→Prop} {f H:LN} {Δ:QE} (h:HN N w Δ f) (hC:an H w w') (hd:∀ b∈f,b ∉ H) (hz:∀ b∈H,¬ N b):HN N w' Δ f:=by
 rcases h with h | ⟨Fo,Fr,rfl,h1,h2⟩
 ·exact .inl (h.XD hC hd)
 ·exact .inr ⟨Fo,Fr,rfl,⟨h1.1,fun b hb=>Nat.lt_of_lt_of_le (h1.2 b hb) hC.size⟩,h2.QU hC (fun b hb h=>h.elim (hz b hb) fun h=>hd b (List.mem_append_right _ h) hb) fun b hb=>hd b (List.mem_append_left _ hb)⟩
theorem HN.own {N:Nat→Prop} {f:LN} {Δ:QE} (h:HN N w Δ f) (ho:sd Δ=true):HL (fun _=>False) w Δ f:=by
 rcases h with h | ⟨_,_,_,h1,_⟩
 ·exact h
 ·rw [ho] at h1; cases h1.1
theorem HN.all {N:Nat→Prop} {f:LN} {Δ:QE} (h:HN N w Δ f):∃ Fo Fr,f=Fo++Fr∧(∀ b∈Fr,b < w.heap.size)∧HL (fun b=>N b∨b∈Fr) w Δ Fo:=by
 rcases h with h | ⟨Fo,Fr,rfl,h1,h2⟩
 ·exact ⟨f,[],by simp,fun b (h:b∈[])=>absurd h List.not_mem_nil,h.mono fun _ h=>h.elim⟩
 ·exact ⟨Fo,Fr,rfl,h1.2,h2⟩
theorem HL.up {F:LN} {Δ:QE} (h:HL (fun _=>False) w Δ F):HL Z w Δ F:=by
 induction h with
 | nil=>exact .nil
 | own h _ ih=>exact .own (h.mono fun _ h=>h.elim) ih
 | fact h _ ih=>exact .fact (h.mono (fun _ h=>h.elim) fun _ h=>h) ih
theorem HL.app {Δ Δ':QE} {F F':LN} (h:HL Z w Δ F) (k:HL Z w Δ' F'):HL Z w (Δ++Δ') (F++F'):=by
 induction h with
 | nil=>exact k
 | own h _ ih=>rw [List.append_assoc]; exact .own h ih
 | fact h _ ih=>exact .fact h ih
theorem Jz {a:gu} {r r':NV} (h:∀ t∈a.src,r' t=r t):wk a r'=wk a r:=B4 h
theorem Mj {l:LO} {a:LN} {b:Bool} {m:gu} (hs:∀ t∈m.src,∃ j∈a,bx l j=some t):QT Z a l ⟨b,MV Z m⟩:=by
 intro f F w w' r r' x hC hn hz hr ⟨v,h1,h2,h3⟩
 have e:=Jz (a:=m) (r:=r) (r':=r') fun t ht=>by
  obtain ⟨j,hj,hd⟩:=hs t ht
  exact hr j hj t hd
 refine ⟨v,by rw [e]; exact h1,by rw [e]; exact h2.ee hC hn hz,h3⟩
theorem Kv {l:LO} {a:LN} {b:Bool} {m:gu} (hd:∃ j∈a,bx l j=some m.d) (hs:∀ t∈m.src,∃ j∈a,bx l j=some t):QT Z a l ⟨b,Mi Z m⟩:=by
 intro f F w w' r r' x hC hn hz hr ⟨v,h1,h2,h3⟩
 have e:=Jz (a:=m) (r:=r) (r':=r') fun t ht=>by
  obtain ⟨j,hj,hd⟩:=hs t ht
  exact hr j hj t hd
 obtain ⟨j,hj,hjd⟩:=hd
 refine ⟨v,by rw [e,hr j hj _ hjd]; exact h1,by rw [e]; exact h2.ee hC hn hz,h3⟩
theorem kh.more {l:LO} {m i:Nat} {U:LL} {S S':List gx} {r0:NV} {w0:World} {H:LN} (h:kh P l m S U r0 w0 H i) (hi:i < S.length):kh P l m (S++S') U r0 w0 H i:=by
 intro o s ho hs g r w hC hV hO hn kj hd hf
 rw [List.getElem?_append_left hi] at hs
 refine h o s ho hs g r w hC hV (fun j hj d iz s' ec=>hO j hj d iz s' (by rw [List.getElem?_append_left (List.getElem?_eq_some_iff.1 ec).1]; exact ec)) (fun j hj=>?_) kj hd hf
 have:=hn j hj
 refine ⟨fun d iz=>?_,fun iz s' ec cy=>?_⟩
 ·have h2:=this.1 d iz
  by_cases hl:j < S.length
  ·rw [List.getElem?_append_left hl] at h2; exact h2
  ·rw [List.getElem?_eq_none (by omega)]; trivial
 ·exact this.2 iz s' (by rw [List.getElem?_append_left (List.getElem?_eq_some_iff.1 ec).1]; exact ec) cy
end
inductive dZ (A:LN):Option (Bool×Nat×Value)→List (Nat×Nat×Value)→Fr→Fr→Prop
 | nil {base:Fr}:dZ A none [] base base
 | cons {j d:Nat} {u:Value} {l:LQ} {base fr:Fr} (h:dZ A (some (iu j A,d,u)) l base fr):dZ A none ((j,d,u) :: l) base fr
 | ee {d:Nat} {u:Value} {l:LQ} {base fr:Fr} (h:dZ A none l base fr):dZ A (some (true,d,u)) l base ((d,u) :: fr)
 | drop {d:Nat} {u:Value} {l:LQ} {base fr:Fr} (h:dZ A none l base fr):dZ A (some (false,d,u)) l base fr
theorem uy.A6 {Γ Γ':QE} {v:Addr} {o:Bool} {α:Type} {E:ah α} {x:α} {e:aw} (h:uy Γ v o E x e Γ') {Z:Nat→Prop} {w:World}:∀ {cur F:LN},SA Z w Γ cur F→(v.block∈cur∨v.block∈F)∨Z v.block:=by
 induction h with
 | @ad o1 o2 α E v j x e Γ=>
  intro cur F hS
  obtain ⟨⟨j0,j1,u,g,h1,h2,h3,h4⟩,h5⟩:=hS
  cases o1 with
  | false=>exact .inr h3
  | true=>exact .inl (.inl h3)
 | @there o2 α E v x e a Γ Γ' h ih=>
  intro cur F hS
  cases a with
  | own T v x=>obtain ⟨f,F',rfl,h2,h3⟩:=hS; exact (ih h3).imp (fun h=>.inr (List.mem_append.2 h)) id
  | om e E v xs=>obtain ⟨f,F',rfl,h2,h3⟩:=hS; exact (ih h3).imp (fun h=>.inr (List.mem_append.2 h)) id
  | row b cs e=>obtain ⟨f,F',rfl,h2,h3⟩:=hS; exact (ih h3).imp (fun h=>h.imp id (List.mem_append_right _)) id
  | gn e E v xs j u=>obtain ⟨f,F',rfl,h2,h3⟩:=hS; exact (ih h3).imp (fun h=>.inr (List.mem_append.2 h)) id
  | _=>exact ih hS.2
inductive VQ (P:Program) (Γ:QE) (fr:Fr):Op→Value→Prop
 | mv {x:OO} {v:Value} (hx:bq fr x=some v):VQ P Γ fr (.move x) v
 | add {x y:OO} {t t':TI} {a b:Int} (hx:bq fr x=some (.int .i64 a)) (hy:bq fr y=some (.int .i64 b)):VQ P Γ fr (.binOp .add t x y t') (.int .i64 (aj (a+b)))
 | sub {x y:OO} {t t':TI} {a b:Int} (hx:bq fr x=some (.int .i64 a)) (hy:bq fr y=some (.int .i64 b)):VQ P Γ fr (.binOp .sub t x y t') (.int .i64 (aj (a - b)))
 | Oi {x:OO} {a:Addr} (hx:bq fr x=some (.pointer (some a))):VQ P Γ fr (.nilCheck x) (.pointer (some a))
 | ext {x:OO} {k:Nat} {vs:LV} {v:Value} (hx:bq fr x=some (.tuple vs.toArray)) (hv:vs[k]? = some v):VQ P Γ fr (.extract x k) v
 | Ts {s k off:Nat} {x:OO} {a a':Addr} [hf:oq P s k off] (hx:bq fr x=some (.pointer (some a))) (ha:CM a off a'):VQ P Γ fr (.fieldAddr s x k) (.pointer (some a'))
 | len {x:OO} {v:Value} {t:TI} {n:Nat} [ht:yf P t] (hx:bq fr x=some v) (hr:uB Γ v n):VQ P Γ fr (.call ⟨.builtin .len,#[x],#[t]⟩) (.int .i64 (n:Int))
 | QQ {t:TI} {ps:List (Nat×Operand)} {zc cs:LV} {pl:List (Nat×Nat)} [hb:yY P t zc pl] (hf:wM Γ fr pl ps zc cs):VQ P Γ fr (.build t ps.toArray) (.agg cs.toArray)
 | TA {x:OO} {k k2:IntKind} {n:Int} {s t:TI} [ht:Jw P s t k2] (hx:bq fr x=some (.int k n)):VQ P Γ fr (.convert s t x) (.int k2 (k2.wrap n))
 | mul {x y:OO} {t t':TI} {a b:Int} (hx:bq fr x=some (.int .i64 a)) (hy:bq fr y=some (.int .i64 b)):VQ P Γ fr (.binOp .mul t x y t') (.int .i64 (aj (a * b)))
 | Oj {x:OO} {v:Value} {t:TI} {n k:Nat} [ht:Dm P t k] (hx:bq fr x=some v) (hr:uB Γ v n):VQ P Γ fr (.call ⟨.builtin .len,#[x],#[t]⟩) (.int .i64 (n:Int))
 | TQ {α:Type} {S:ah α} {x:OO} {v:Value} {t:TI} {us:List (List Value)} {xs:List α} {k n e:Nat} {Γ1:QE} [ht:Dm P t k] (hx:bq fr x=some v) (hr:dp Γ (.own (aL e (ij n)) v us) Γ1) (hg:In (.rd false (tn S) (.bool true) (us,xs)) Γ):VQ P Γ fr (.call ⟨.builtin .len,#[x],#[t]⟩) (.int .i64 (xs.length:Int))
theorem VQ.sound {P:Program} {Γ:QE} {fr:Fr} {op:Op} {u:Value} (h:VQ P Γ fr op u) {Z:Nat→Prop} {w:World} {cur F:LN} (hS:SA Z w Γ cur F) {r:NV} (ha:cw r fr) (d:Option Nat) (ty:TI) (pos:String) (af:Array Edge) (g:Option (Nat×Bool)) :
  Rd P w r ⟨d,op,ty,pos,af,g⟩ u:=by
 cases h with
 | mv hx=>exact Mv _ (bA ha hx)
 | add hx hy=>exact Ba (bA ha hx) (bA ha hy)
 | sub hx hy=>exact Go.Li.Bs (bA ha hx) (bA ha hy)
 | Oi hx=>exact Nk (bA ha hx)
 | ext hx hv=>exact Ex _ (bA ha hx) (by simpa using hv)
 | @Ts s k off x a a' hf hx hq=>rw [hq.eq]; exact Fp hf.h (bA ha hx)
 | @TA x k k2 n s t ht hx=>exact fun _ _=>Jy ht.h.1 ht.h.2 (bA ha hx)
 | mul hx hy=>exact Bm (bA ha hx) (bA ha hy)
 | @len x v t n ht hx hr=>
  obtain ⟨b,c,rfl⟩:=hr.sound hS
  obtain ⟨e,i,h1,_,_⟩:=ht.h
  exact fun _ _=>uD h1 (bA ha hx)
 | @Oj x v t n k ht hx hr=>
  obtain ⟨b,c,rfl⟩:=hr.sound hS
  obtain ⟨e,i,h1,_,_⟩:=ht.h
  exact fun _ _=>uD h1 (bA ha hx)
 | @TQ α S x v t us xs k n e' Γ1 ht hx hr hg=>
  obtain ⟨f,F1,_,hO,_⟩:=hr.sound hS
  obtain ⟨e,i,h1,_,_⟩:=ht.h
  obtain ⟨g0,hk,_⟩:=hg.rd hS []
  obtain ⟨base,cap,hv,_⟩:=hO
  obtain rfl:v = .slice base us.length cap:=by simpa using hv
  rw [← yW hk.2.1]
  exact fun _ _=>uD h1 (bA ha hx)
 | @QQ t ps zc cs pl hb hf=>
  obtain ⟨fs,i,z,h1,h2,h3,h4,h5⟩:=hb.h
  refine Bu ?_
  have:=hf.fill ha hS
  unfold Program.built
  rw [h3,h1]
  simp only [h4,h2]
  rw [show z.cells=zc.toArray by rw [← h5]]
  exact this
theorem dZ.sound {A:LN} {q:Option (Bool×Nat×Value)} {sl:LQ} {base fr:Fr} {r:NV} (h:dZ A q sl base fr) (hb:cw r base) :
  (∀ p∈sl,iu p.1 A=true→r p.2.1=p.2.2)→(∀ b d u,q=some (b,d,u)→b=true→r d=u)→cw r fr:=by
 induction h with
 | nil=>intro _ _; exact hb
 | @cons j d u l base fr _ ih=>
  intro h1 _
  refine ih hb (fun p hp=>h1 p (by simp [hp])) ?_
  rintro b d' u' he hbt
  cases he
  exact h1 (j,d,u) (by simp) hbt
 | @ee d u l base fr _ ih=>
  intro h1 h2
  intro s v hl
  unfold look at hl
  cases sU:Nat.beq s d with
  | true=>rw [sU] at hl; cases hl; rw [Nat.eq_of_beq_eq_true sU]; exact h2 true d _ rfl rfl
  | false=>rw [sU] at hl; exact ih hb h1 (fun _ _ _ h=>nomatch h) s v hl
 | drop _ ih=>intro h1 _; exact ih hb h1 (fun _ _ _ h=>nomatch h)
def A8:List (Nat×Nat×Value)→Fr→Fr
 | [],f=>f
 | (_,d,u) :: l,f=>(d,u) :: A8 l f
inductive Kw (P:Program) (f:FuncId) (xs:List Operand) (fr:Fr) (Γ:QE) {β V:Type} (mo:Option β) (rt:β→V→List Value) (ps:β→V→List aw):Prop
 | mk {vs:LV} {Δ:QE} (hx:tJ fr xs=some vs) (hc:Ct P f true mo vs Δ rt ps) (hd:FO Δ) (hr:ER true Γ Δ):Kw P f xs fr Γ mo rt ps
inductive Yy (P:Program) (f:FuncId):Prop
 | mk [h:bp P f]:Yy P f
inductive Kx (P:Program) (f:FuncId) (as bs:LV) (xs:List Operand) (fr:Fr) (Γ:QE) {β V:Type} (mo:Option β) (rt:β→V→List Value) (ps:β→V→List aw):Prop
 | mk {vs us ws:LV} {Δ:QE} (hx:tJ fr xs=some vs) (h1:oh vs bs us) (h2:oh as us ws) (hc:Ct P f true mo ws Δ rt ps) (hd:FO Δ) (hr:ER true Γ Δ):Kx P f as bs xs fr Γ mo rt ps
inductive GU {β V:Type} (P:Program) (f:FuncId) (xs:List Operand) (fr:Fr) (hd Γ:QE) (mo:Option β) (rt:β→V→List Value) (ps:β→V→List aw):Prop
 | mk {vs:LV} {Δ Γ':QE} (hx:tJ fr xs=some vs) (hc:Ct P f false mo vs Δ rt ps) (ho:EO hd Δ Γ') (hr:ER false (Γ'++Γ) Δ):GU P f xs fr hd Γ mo rt ps
inductive Dw (P:Program) (f:FuncId) (xs:List Operand) (fr:Fr) (hd:QE) (Γ:QE) {β V:Type} (mo:Option β) (rt:β→V→List Value) (ps:β→V→List aw):Prop
 | mk {vs:LV} {Δ Γ':QE} (hx:tJ fr xs=some vs) (hc:Ct P f true mo vs Δ rt ps) (ho:EO hd Δ Γ') (hr:ER true Γ Δ):Dw P f xs fr hd Γ mo rt ps
inductive nj:List gu→Prop
 | nil:nj []
 | cons {a:gu} {l:MM} (h:Dp a.V) (k:nj l):nj (a :: l)
theorem nj.ne {ms:MM} (h:nj ms):Nonempty (nt ms):=by
 induction h with
 | nil=>exact ⟨()⟩
 | cons h _ ih=>obtain ⟨a⟩:=h.ne; obtain ⟨b⟩:=ih; exact ⟨(a,b)⟩
inductive Fb:List gu→Nat→Bool→Prop
 | here {a:gu} {l:MM}:Fb (a :: l) a.d true
 | there {a:gu} {l:MM} {t:Nat} {b:Bool} (h:Fb l t b):Fb (a :: l) t b
 | nil {t:Nat}:Fb [] t false
inductive Oy (fr:Fr) (Γ:QE) (t:Nat):Prop
 | mk {v:Value} (h:look fr t=some v) (hc:One Γ v):Oy fr Γ t
inductive Oz (fr:Fr) (t n:Nat):Prop
 | mk {cs:LV} (h:look fr t=some (.agg cs.toArray)) (hl:cs.length=n):Oz fr t n
inductive TR (fr:Fr) (Γ:QE) (t n:Nat):Prop
 | mk {v:Value} (h:look fr t=some v) (hc:uB Γ v n):TR fr Γ t n
inductive JA (R S:Type):Type 1
 | a (as:LL) (ops:LO) (i:Nat) (sl:LQ) (ms:MM) (Γ:QE) (m:Option (Out S R))
 | o (A:LN) (op:Op) (d:Nat) (ty:TI) (as:LL) (ops:LO) (i:Nat) (sl:LQ) (ms:MM) (Γ:QE) (m:Option (Out S R))
 | ow (b:Bool) (A:LN) (op:Op) (d:Nat) (ty:TI) (as:LL) (ops:LO) (i:Nat) (sl:LQ) (ms:MM) (Γ:QE) (m:Option (Out S R))
 | ix (b:Bool) (v:Value) (fr:Fr) (x y:OO) (t:TI) (A:LN) (d:Nat) (ty:TI) (as:LL) (ops:LO) (i:Nat) (sl:LQ) (ms:MM) (Γ:QE) (m:Option (Out S R))
 | lb (b:Bool) (v:Value) (j:Int) (fr:Fr) (t:TI) (x:OO) (A:LN) (d:Nat) (ty:TI) (as:LL) (ops:LO) (i:Nat) (sl:LQ) (ms:MM) (Γ:QE) (m:Option (Out S R))
 | ap (us:LN) (t1 t2:Nat) (t:TI) (A:LN) (d:Nat) (ty:TI) (as:LL) (ops:LO) (i:Nat) (sl:LQ) (ms:MM) (Γ:QE) (m:Option (Out S R))
 | la (fr:Fr) (ad:Addr) (lk:Option Nat) (t:TI) (x:OO) (A:LN) (d:Nat) (ty:TI) (as:LL) (ops:LO) (i:Nat) (sl:LQ) (ms:MM) (Γ:QE) (m:Option (Out S R))
 | ld {α:Type} (E:ah α) (z:α) (fr:Fr) (ad:Addr) (t:TI) (x:OO) (A:LN) (d:Nat) (ty:TI) (as:LL) (ops:LO) (i:Nat) (sl:LQ) (ms:MM) (Γ:QE) (m:Option (Out S R))
 | oc (us:LN) (f:FuncId) (xs:List Operand) (au:Array TypeId) (A:LN) (d:Nat) (ty:TI) (as:LL) (ops:LO) (i:Nat) (sl:LQ) (ms:MM) (Γ:QE) (m:Option (Out S R))
 | os (A:LN) (op:Op) (ty:TI) (as:LL) (ops:LO) (i:Nat) (sl:LQ) (ms:MM) (Γ:QE) (m:Option (Out S R))
 | cr {V:Type} (u:V→Value) (ps:V→List aw) (d:Nat) (as:LL) (ops:LO) (i:Nat) (sl:LQ) (ms:MM) (Γ:QE) (m:Option (Out S R))
 | p (Δ:QE) (as:LL) (ops:LO) (i:Nat) (sl:LQ) (ms:MM) (Γ:QE) (m:Option (Out S R))
inductive JB:List aw→Value→Bool→Prop
 | here {α:Type} {T:ah α} {v:Value} {x:α} {Γ:QE}:JB (.own T v x :: Γ) v true
 | there {e:aw} {v:Value} {b:Bool} {Γ:QE} (h:JB Γ v b):JB (e :: Γ) v b
 | nil {v:Value}:JB [] v false
inductive vp:List gu→Nat→gu→List gu→Prop
 | here {a:gu} {l:MM}:vp (a :: l) a.d a l
 | there {a b:gu} {l l':MM} {t:Nat} (h:vp l t a l'):vp (b :: l) t a (b :: l')
inductive CQ:List gu→Nat→gu→List gu→Prop
 | here {a:gu} {l:MM}:CQ (a :: l) a.j a l
 | there {a b:gu} {l l':MM} {t:Nat} (h:CQ l t a l'):CQ (b :: l) t a (b :: l')
def OA (j i:Nat) (sl:LQ):List (Nat×Nat×Value):=sl.map fun p=>bif Nat.beq p.1 j then (i,p.2) else p
def Er (U:LL) (_sl:LQ) (ms:MM):Bool:=U.all fun us=>us.all fun j=>ms.all fun a=>!Nat.beq a.j j
inductive AD {R S:Type} (tq:Bool) (P:Program) (cx:Cx R) (K:dh R S) (l tail:LO) (base:Fr) (U:LL):List aw→JA R S→Prop
 | nil {hd:QE} {i:Nat} {sl:LQ} {ms:MM} {Γ:QE} {m:Option (Out S R)} (zP:CP ms=true) (he:Er U sl ms=true) (h:∀ x:nt ms,D P cx (.p (A8 sl (mF ms x)) (Ep ms x) base Γ fun fr Γ=>.tg tq (CN tail) l tail K Γ fr m)):AD tq P cx K l tail base U hd (.a [] [] i sl ms Γ m)
 | cons {hd:QE} {A:LN} {as:LL} {op:Op} {d:Nat} {ty:TI} {pos:String} {af:Array Edge} {ops:LO} {i:Nat} {sl:LQ} {ms:MM} {Γ:QE} {m:Option (Out S R)} (h:AD tq P cx K l tail base U hd (.o A op d ty as ops i sl ms Γ m)) :
   AD tq P cx K l tail base U hd (.a (A :: as) (⟨some d,op,ty,pos,af,none⟩ :: ops) i sl ms Γ m)
 | Kz {hd:QE} {A:LN} {as:LL} {op:Op} {ty:TI} {pos:String} {af:Array Edge} {ops:LO} {i:Nat} {sl:LQ} {ms:MM} {Γ:QE} {m:Option (Out S R)} (h:AD tq P cx K l tail base U hd (.os A op ty as ops i sl ms Γ m)) :
   AD tq P cx K l tail base U hd (.a (A :: as) (⟨none,op,ty,pos,af,none⟩ :: ops) i sl ms Γ m)
 | Tz {hd:QE} {t e:TI} {t1 j1 n:Nat} {y:OO} {u:Value} {us cs ds:LV} {pq:MM} {fr:Fr} {A:LN} {as:LL} {ty:TI} {ops:LO} {i:Nat} {sl:LQ} {ms:MM} {Γ:QE} {m:Option (Out S R)} [ht:u5 P t n]
   (h1:vp ms t1 ⟨j1,t1,[],Nat,fun _ b=>.pointer (some ⟨b,0,none⟩),fun _ b=>[.row b cs e]⟩ pq) (hv:dZ A none sl base fr) (hy:bq fr y=some u) (hc:sR Γ u us) (hn:us.length=n) (hs:aX us 0 cs ds) (ho:ba Γ us) (h4:iu j1 A=true) (h6:U.getD i []=[j1])
   (h:AD tq P cx K l tail base U hd (.a as ops (i+1) sl (⟨i,t1,[],Nat,fun _ b=>.pointer (some ⟨b,0,none⟩),fun _ b=>[.row b ds e]⟩ :: pq) Γ m)):AD tq P cx K l tail base U hd (.os A (.store t (.tmp t1) y) ty as ops i sl ms Γ m)
 | GA {hd:QE} {α:Type} {A:LN} {as:LL} {d:Nat} {t e ty:TI} {E:ah α} {z0:α} {bt:Nat} {ops:LO} {i:Nat} {sl:LQ} {ms:MM} {Γ:QE} {m:Option (Out S R)} [hz:tD P t α e E z0 bt]
   (h:AD tq P cx K l tail base U hd (.a as ops (i+1) sl (⟨i,d,[],Value,fun _ v=>v,fun _ v=>[.own (aL e E) v []]⟩ :: ms) Γ m)):AD tq P cx K l tail base U hd (.o A (.buildSlice t 0 #[]) d ty as ops i sl ms Γ m)
 | sw4 {hd:QE} {t st e:Nat} {α:Type} {E:ah α} {z0:α} {bt:Nat} {b:Bool} {A:LN} {as:LL} {d:Nat} {ty:TI} {ops:LO} {i:Nat} {sl:LQ} {ms:MM} {Γ:QE} {m:Option (Out S R)} [hz:tD P st α e E z0 bt] (hw:Fb ms t b) (h:AD tq P cx K l tail base U hd (.ow b A (.buildSlice st 1 #[(0,.tmp t)]) d ty as ops i sl ms Γ m)):AD tq P cx K l tail base U hd (.o A (.buildSlice st 1 #[(0,.tmp t)]) d ty as ops i sl ms Γ m)
 | ltn {hd:QE} {t e:TI} {n:Nat} {ps:List (Nat×Operand)} {us:LV} {fr:Fr} {A:LN} {as:LL} {d:Nat} {ty:TI} {ops:LO} {i:Nat} {sl:LQ} {ms:MM} {Γ:QE} {m:Option (Out S R)} [hz:Jt P t e] (hv:dZ A none sl base fr) (hl:vi Γ fr 0 ps us) (hn:us.length=n) (hb:(Nat.ble 1 n && Nat.ble n 16777216)=true)
   (h:AD tq P cx K l tail base U hd (.a as ops (i+1) sl (⟨i,d,[],Nat,fun _ b=>.slice (some ⟨b,0,none⟩) n n,fun _ b=>[.row b us e]⟩ :: ms) Γ m)):AD tq P cx K l tail base U hd (.o A (.buildSlice t n ps.toArray) d ty as ops i sl ms Γ m)
 | ltu {hd:QE} {t e:TI} {n:Nat} {ps:List (Nat×Operand)} {us:LV} {fr:Fr} {A:LN} {as:LL} {d:Nat} {ty:TI} {ops:LO} {i:Nat} {sl:LQ} {ms:MM} {Γ:QE} {m:Option (Out S R)} [hz:LZ P t e] (hv:dZ A none sl base fr) (hl:vi Γ fr 0 ps us) (hn:us.length=n) (hb:(Nat.ble 1 n && Nat.ble n 16777216)=true)
   (h:AD tq P cx K l tail base U hd (.a as ops (i+1) sl (⟨i,d,[],Nat,fun _ b=>.slice (some ⟨b,0,none⟩) n n,fun _ b=>[.row b us e]⟩ :: ms) Γ m)):AD tq P cx K l tail base U hd (.o A (.buildSlice t n ps.toArray) d ty as ops i sl ms Γ m)
 | sw1 {hd:QE} {t:Nat} {b:Bool} {A:LN} {as:LL} {d:Nat} {ty:TI} {ops:LO} {i:Nat} {sl:LQ} {ms:MM} {Γ:QE} {m:Option (Out S R)} (hw:Fb ms t b) (h:AD tq P cx K l tail base U hd (.ow b A (.move (.tmp t)) d ty as ops i sl ms Γ m)):AD tq P cx K l tail base U hd (.o A (.move (.tmp t)) d ty as ops i sl ms Γ m)
 | sw2 {hd:QE} {t k:Nat} {b:Bool} {A:LN} {as:LL} {d:Nat} {ty:TI} {ops:LO} {i:Nat} {sl:LQ} {ms:MM} {Γ:QE} {m:Option (Out S R)} (hw:Fb ms t b) (h:AD tq P cx K l tail base U hd (.ow b A (.extract (.tmp t) k) d ty as ops i sl ms Γ m)):AD tq P cx K l tail base U hd (.o A (.extract (.tmp t) k) d ty as ops i sl ms Γ m)
 | wlt {hd:QE} {t e:TI} {α:Type} {E:ah α} {z0:α} {bt:Nat} {u:Value} {x:OO} {fr:Fr} {A:LN} {as:LL} {d:Nat} {ty:TI} {ops:LO} {i:Nat} {sl:LQ} {ms:MM} {Γ:QE} {m:Option (Out S R)} [hz:tD P t α e E z0 bt] (hv:dZ A none sl base fr) (hx:bq fr x=some u) (h1:One Γ u)
   (h:AD tq P cx K l tail base U hd (.a as ops (i+1) sl (⟨i,d,[],Nat,fun _ b=>.slice (some ⟨b,0,none⟩) 1 1,fun _ b=>[.row b [u] e]⟩ :: ms) Γ m)):AD tq P cx K l tail base U hd (.ow false A (.buildSlice t 1 #[(0,x)]) d ty as ops i sl ms Γ m)
 | sw5 {hd:QE} {t st:Nat} {b:Bool} {A:LN} {as:LL} {d:Nat} {ty:TI} {ops:LO} {i:Nat} {sl:LQ} {ms:MM} {Γ:QE} {m:Option (Out S R)} (hw:Fb ms t b) (h:AD tq P cx K l tail base U hd (.ow b A (.call ⟨.builtin .len,#[.tmp t],#[st]⟩) d ty as ops i sl ms Γ m)):AD tq P cx K l tail base U hd (.o A (.call ⟨.builtin .len,#[.tmp t],#[st]⟩) d ty as ops i sl ms Γ m)
 | mln {hd:QE} {t n:Nat} {st:TI} {A:LN} {as:LL} {d:Nat} {ty:TI} {ops:LO} {i:Nat} {sl:LQ} {ms:MM} {Γ:QE} {m:Option (Out S R)} [ht:yf P st] (hi:nj ms) (zP:p6 A ms=true) (hx:∀ x:nt ms,TR (mf A ms x) (ri A ms x) t n) (h:AD tq P cx K l tail base U hd (.a as ops (i+1) ((i,d,.int .i64 (n:Int)) :: sl) ms Γ m)):AD tq P cx K l tail base U hd (.ow true A (.call ⟨.builtin .len,#[.tmp t],#[st]⟩) d ty as ops i sl ms Γ m)
 | TS {hd:QE} {t:TI} {cs:LV} {A:LN} {as:LL} {d:Nat} {ty:TI} {ops:LO} {i:Nat} {sl:LQ} {ms:MM} {Γ:QE} {m:Option (Out S R)} [hz:yg P t cs] (h:AD tq P cx K l tail base U hd (.a as ops (i+1) sl (⟨i,d,[],Nat,fun _ b=>.pointer (some ⟨b,0,none⟩),fun _ b=>[.row b cs t]⟩ :: ms) Γ m)):AD tq P cx K l tail base U hd (.o A (.alloc t) d ty as ops i sl ms Γ m)
 | Tx {hd:QE} {us:LN} {t1 t2:Nat} {t:TI} {A:LN} {as:LL} {d:Nat} {ty:TI} {ops:LO} {i:Nat} {sl:LQ} {ms:MM} {Γ:QE} {m:Option (Out S R)} (hU:U.getD i []=us) (h:AD tq P cx K l tail base U hd (.ap us t1 t2 t A d ty as ops i sl ms Γ m)):AD tq P cx K l tail base U hd (.o A (.call ⟨.builtin .append,#[.tmp t1,.tmp t2],#[t,t]⟩) d ty as ops i sl ms Γ m)
 | apH {hd iz:QE} {α:Type} {t e e' et:TI} {E E':ah α} {z0:α} {bt t1 t2 j2:Nat} {v u yv:Value} {j:Int} {y:α} {z:List α} {xs:List (List α)} {o1 o2:Bool} {Γx:QE} {GV:MM} {fr:Fr} {f:Unit→Option (Out S R)} {A:LN} {as:LL} {d:Nat} {ty:TI} {ops:LO} {i:Nat} {sl:LQ} {ms:MM} {Γ:QE} [hT:tD P t α e E z0 bt]
   (hV:((U.set i []).all fun us=>!(us.contains l.length))=true) (hv:dZ A none sl base fr) (hs:look fr t1=some u) (h2:vp ms t2 ⟨j2,t2,[],Nat,fun _ b=>.slice (some ⟨b,0,none⟩) 1 1,fun _ b=>[.row b [yv] et]⟩ GV) (h5:iu j2 A=true) (hl:Loc hd u (.row v j)) (hz:qy hd u o1 o2 E' z tV Γx) (h1:dp hd (.own (aL e' (aL e E)) v xs) iz) (hr:RT (aL e E) (aB E')) (hy:Cu [] E yv y [])
   (h:AD tq P cx K l tail base U iz (.a as ops (i+1) sl (⟨i,d,[],Value,fun _ v'=>v',fun _ v'=>[.own (aL e E) v' (z++[y]),.own (uF e' (aL e E) j.toNat) v xs]⟩ :: ms) Γ (f ()))):AD tq P cx K l tail base U hd (.ap [l.length] t1 t2 t A d ty as ops i sl ms Γ (fits bt (z.length+1)>>=f))
 | ap1 {hd:QE} {us:LN} {t e et:TI} {E:ah Int} {z0:Int} {bt t1 t2 j2 d2:Nat} {k:IntKind} {y:Int} {xs:List Int} {a1:gu} {pq GV:MM} {f:Unit→Option (Out S R)} {A:LN} {as:LL} {d:Nat} {ty:TI} {ops:LO} {i:Nat} {sl:LQ} {ms:MM} {Γ:QE} [hz:tD P t Int e E z0 bt] (h1:vp ms t1 a1 pq) (h2:vp pq t2 ⟨j2,d2,[],Nat,fun _ b=>.slice (some ⟨b,0,none⟩) 1 1,fun _ b=>[.row b [.int k y] et]⟩ GV) (h3:∀ u v,a1.ps u v=[.own (aL e (aC k)) (a1.rt u v) xs]) (hu:us=[a1.j]) (h4:iu a1.j A=true) (h5:iu j2 A=true)
   (h:AD tq P cx K l tail base U hd (.a as ops (i+1) sl (⟨i,d,[],Value,fun _ v=>v,fun _ v=>[.own (aL e (aC k)) v (xs++[y])]⟩ :: pq) Γ (f ()))):AD tq P cx K l tail base U hd (.ap us t1 t2 t A d ty as ops i sl ms Γ (fits bt (xs.length+1)>>=f))
 | wv {hd:QE} {op:Op} {u:Value} {fr:Fr} {A:LN} {as:LL} {d:Nat} {ty:TI} {ops:LO} {i:Nat} {sl:LQ} {ms:MM} {Γ:QE} {m:Option (Out S R)} (hv:dZ A none sl base fr) (hq:VQ P Γ fr op u) (h:AD tq P cx K l tail base U hd (.a as ops (i+1) ((i,d,u) :: sl) ms Γ m)):AD tq P cx K l tail base U hd (.ow false A op d ty as ops i sl ms Γ m)
 | mbl {hd:QE} {t:TI} {ps:List (Nat×Operand)} {zc:LV} {pl:List (Nat×Nat)} {fr:Fr} {A:LN} {as:LL} {d:Nat} {ty:TI} {ops:LO} {i:Nat} {sl:LQ} {ms:MM} {Γ:QE} {m:Option (Out S R)} [hb:yY P t zc pl] (hi:nj ms) (zP:p6 A ms=true) (ny:(zO ms ps).isEmpty=false) (hj:Yx A ms (zO ms ps)=true) (hv:dZ A none sl base fr)
   (hx:∀ x:nt ms,wM (ri A ms x++Γ) (mf A ms x++fr) pl ps zc (TP pl fr (zO ms ps) ps zc (yM (yj (mF ms x)) (zO ms ps))))
   (h:AD tq P cx K l tail base U hd (.a as ops (i+1) sl (⟨i,d,zO ms ps,Unit,fun u _=>.agg (TP pl fr (zO ms ps) ps zc u).toArray,fun _ _=>[]⟩ :: ms) Γ m)):AD tq P cx K l tail base U hd (.o A (.build t ps.toArray) d ty as ops i sl ms Γ m)
 | mlt {hd:QE} {t:Nat} {Mk e:TI} {α:Type} {E:ah α} {z0:α} {bt:Nat} {A:LN} {as:LL} {d:Nat} {ty:TI} {ops:LO} {i:Nat} {sl:LQ} {ms:MM} {Γ:QE} {m:Option (Out S R)} [hz:tD P Mk α e E z0 bt] (hi:nj ms) (zP:p6 A ms=true) (hj:∃ j,r5 t ms=some j∧iu j A=true) (hx:∀ x:nt ms,Oy (mf A ms x) (ri A ms x) t)
   (h:AD tq P cx K l tail base U hd (.a as ops (i+1) sl (⟨i,d,[t],Nat,fun _ b=>.slice (some ⟨b,0,none⟩) 1 1,fun u b=>[.row b [u] e]⟩ :: ms) Γ m)):AD tq P cx K l tail base U hd (.ow true A (.buildSlice Mk 1 #[(0,.tmp t)]) d ty as ops i sl ms Γ m)
 | Yz {hd:QE} {t n:Nat} {Mk e:TI} {A:LN} {as:LL} {d:Nat} {ty:TI} {ops:LO} {i:Nat} {sl:LQ} {ms:MM} {Γ:QE} {m:Option (Out S R)} [hz:Gw P Mk e n] (hb:(Nat.ble 1 1 && Nat.ble (1 * n) 16777216)=true) (hi:nj ms) (zP:p6 A ms=true) (hj:∃ j,r5 t ms=some j∧iu j A=true) (hx:∀ x:nt ms,Oz (mf A ms x) t n)
   (h:AD tq P cx K l tail base U hd (.a as ops (i+1) sl (⟨i,d,[t],Nat,fun _ b=>.slice (some ⟨b,0,none⟩) 1 1,fun u b=>[.row b u.cells.toList e]⟩ :: ms) Γ m)):AD tq P cx K l tail base U hd (.o A (.buildSlice Mk 1 #[(0,.tmp t)]) d ty as ops i sl ms Γ m)
 | mk {hd:QE} {t e:TI} {α:Type} {E:ah α} {z0:α} {bt:Nat} {x:OO} {z:Int} {fr:Fr} {f:Nat→Option (Out S R)} {A:LN} {as:LL} {d:Nat} {ty:TI} {ops:LO} {i:Nat} {sl:LQ} {ms:MM} {Γ:QE} [hz:tD P t α e E z0 bt] (hv:dZ A none sl base fr) (hx:bq fr x=some (.int .i64 z))
   (h:∀ n,AD tq P cx K l tail base U hd (.a as ops (i+1) sl (⟨i,d,[],Value,fun _ v=>v,fun _ v=>[.own (aL e E) v (List.replicate n z0)]⟩ :: ms) Γ (f n))):AD tq P cx K l tail base U hd (.o A (.makeSlice t x x) d ty as ops i sl ms Γ (mk bt z>>=f))
 | ixs {hd:QE} {b:Bool} {v:Value} {x y:OO} {t:TI} {fr:Fr} {A:LN} {as:LL} {d:Nat} {ty:TI} {ops:LO} {i:Nat} {sl:LQ} {ms:MM} {Γ:QE} {m:Option (Out S R)} (hv:dZ A none sl base fr) (hx:bq fr x=some v) (hw:JB hd v b) (h:AD tq P cx K l tail base U hd (.ix b v fr x y t A d ty as ops i sl ms Γ m)):AD tq P cx K l tail base U hd (.o A (.indexAddr t x y) d ty as ops i sl ms Γ m)
 | idx {hd:QE} {α:Type} {A:LN} {as:LL} {d:Nat} {x y:OO} {v:Value} {k:IntKind} {j:Int} {t ty:TI} {o1 o2:Bool} {E:ah α} {xs:List α} {ops:LO} {i:Nat} {sl:LQ} {ms:MM} {fr:Fr} {Γ:QE} {Γ':α→List aw} {f:α→Option (Out S R)} [ht:yf P t]
   (hy:bq fr y=some (.int k j)) (hr:∀ z,qy Γ v o1 o2 E xs (.ad o1 o2 v j E z) (Γ' z)) (hE:E.size=1)
   (h:∀ z,AD tq P cx K l tail base U hd (.a as ops (i+1) ((i,d,.pointer (some (dc v 1 j))) :: sl) ms (Γ' z) (f z))):AD tq P cx K l tail base U hd (.ix false v fr x y t A d ty as ops i sl ms Γ (idx xs j>>=f))
 | aab {hd:QE} {α:Type} {A:LN} {as:LL} {d:Nat} {x y:OO} {v:Value} {k:IntKind} {j:Int} {t ty:TI} {o1 o2:Bool} {E:ah α} {xs:List α} {ops:LO} {i:Nat} {sl:LQ} {ms:MM} {fr:Fr} {Γ:QE} {iz:α→List aw} {f:α→Option (Out S R)} [ht:yf P t]
   (hy:bq fr y=some (.int k j)) (hr:∀ z,qy hd v o1 o2 E xs (.ad o1 o2 v j E z) (iz z)) (hE:E.size=1)
   (h:∀ z,AD tq P cx K l tail base U (iz z) (.a as ops (i+1) ((i,d,.pointer (some (dc v 1 j))) :: sl) ms Γ (f z))):AD tq P cx K l tail base U hd (.ix true v fr x y t A d ty as ops i sl ms Γ (idx xs j>>=f))
 | load {hd:QE} {A:LN} {as:LL} {d:Nat} {x:OO} {a:Addr} {t ty:TI} {lk:Option Nat} {ops:LO} {i:Nat} {sl:LQ} {ms:MM} {fr:Fr} {Γ:QE} {m:Option (Out S R)} [ht:LK P t lk] (hv:dZ A none sl base fr) (hx:bq fr x=some (.pointer (some a)))
   (h:AD tq P cx K l tail base U hd (.la fr a lk t x A d ty as ops i sl ms Γ m)):AD tq P cx K l tail base U hd (.o A (.load t x) d ty as ops i sl ms Γ m)
 | lsw {hd:QE} {b:Bool} {v:Value} {j:Int} {x:OO} {t:TI} {fr:Fr} {A:LN} {as:LL} {d:Nat} {ty:TI} {ops:LO} {i:Nat} {sl:LQ} {ms:MM} {Γ:QE} {m:Option (Out S R)} (hw:JB hd v b) (h:AD tq P cx K l tail base U hd (.lb b v j fr t x A d ty as ops i sl ms Γ m)):AD tq P cx K l tail base U hd (.la fr (dc v 1 j) none t x A d ty as ops i sl ms Γ m)
 | Tt {hd:QE} {α:Type} {A:LN} {as:LL} {d:Nat} {x:OO} {v:Value} {j:Int} {o:Bool} {E:ah α} {z:α} {t ty:TI} {ops:LO} {i:Nat} {sl:LQ} {ms:MM} {fr:Fr} {Γ Γx:QE} {m:Option (Out S R)} (h:uy Γ (dc v 1 j) o E z tV Γx)
   (k:AD tq P cx K l tail base U hd (.ld E z fr (dc v 1 j) t x A d ty as ops i sl ms Γ m)):AD tq P cx K l tail base U hd (.lb false v j fr t x A d ty as ops i sl ms Γ m)
 | aac {hd:QE} {α:Type} {A:LN} {as:LL} {d:Nat} {x:OO} {v:Value} {j:Int} {E:ah α} {z:List α} {o:Bool} {t ty:TI} {ops:LO} {i:Nat} {sl:LQ} {ms:MM} {fr:Fr} {Γ:QE} {TU iz:Value→List aw} {m:Option (Out S R)} (hV:((U.zipIdx.all fun p=>!(p.1.contains l.length) || ((cf l).getD p.2 []).contains i))=true) (h:∀ u,uy hd (dc v 1 j) o (aB E) z (.rd o (aB E) u z) (TU u)) (h2:∀ u,yK (TU u) v j u (iz u))
   (k:∀ u,AD tq P cx K l tail base U (iz u) (.a as ops (i+1) ((i,d,u) :: sl) ms Γ m)):AD tq P cx K l tail base U hd (.lb true v j fr t x A d ty as ops i sl ms Γ m)
 | Tu {hd:QE} {A:LN} {as:LL} {d:Nat} {x:OO} {a:Addr} {u:Value} {t ty:TI} {ops:LO} {i:Nat} {sl:LQ} {ms:MM} {fr:Fr} {Γ:QE} {m:Option (Out S R)} (h:vf Γ a u)
   (k:AD tq P cx K l tail base U hd (.a as ops (i+1) ((i,d,u) :: sl) ms Γ m)):AD tq P cx K l tail base U hd (.la fr a none t x A d ty as ops i sl ms Γ m)
 | L8 {hd:QE} {A:LN} {as:LL} {d n:Nat} {x:OO} {a:Addr} {ds:LV} {t ty:TI} {ops:LO} {i:Nat} {sl:LQ} {ms:MM} {fr:Fr} {Γ:QE} {m:Option (Out S R)} (h:bb Γ a n ds)
   (k:AD tq P cx K l tail base U hd (.a as ops (i+1) ((i,d,.agg ds.toArray) :: sl) ms Γ m)):AD tq P cx K l tail base U hd (.la fr a (some n) t x A d ty as ops i sl ms Γ m)
 | Tv {hd:QE} {A:LN} {as:LL} {d:Nat} {x:OO} {a:Addr} {k:IntKind} {z:Int} {t ty:TI} {ops:LO} {i:Nat} {sl:LQ} {ms:MM} {fr:Fr} {Γ:QE} {m:Option (Out S R)}
   (h:AD tq P cx K l tail base U hd (.a as ops (i+1) ((i,d,.int k z) :: sl) ms Γ m)):AD tq P cx K l tail base U hd (.ld (aC k) z fr a t x A d ty as ops i sl ms Γ m)
 | Tw {hd:QE} {α:Type} {A:LN} {as:LL} {d:Nat} {x:OO} {v:Value} {j:Int} {E:ah α} {z:List α} {o:Bool} {t ty:TI} {ops:LO} {i:Nat} {sl:LQ} {ms:MM} {fr:Fr} {Γ:QE} {Γ1 Γ':Value→List aw} {m:Option (Out S R)} (h:∀ u,uy Γ (dc v 1 j) o (aB E) z (.rd o (aB E) u z) (Γ1 u)) (h2:∀ u,yK (Γ1 u) v j u (Γ' u))
   (k:∀ u,AD tq P cx K l tail base U hd (.a as ops (i+1) ((i,d,u) :: sl) ms (Γ' u) m)):AD tq P cx K l tail base U hd (.ld (aB E) z fr (dc v 1 j) t x A d ty as ops i sl ms Γ m)
 | L7 {hd:QE} {us:LN} {A:LN} {as:LL} {d:Nat} {f:FuncId} {xs:List Operand} {au:Array TypeId} {ty:TI} {ops:LO} {i:Nat} {sl:LQ} {ms:MM} {Γ:QE} {m:Option (Out S R)} (hU:U.getD i []=us) (h:AD tq P cx K l tail base U hd (.oc us f xs au A d ty as ops i sl ms Γ m)):AD tq P cx K l tail base U hd (.o A (.call ⟨.value (.func f),xs.toArray,au⟩) d ty as ops i sl ms Γ m)
 | aad {hd:QE} {β V:Type} {A:LN} {as:LL} {d:Nat} {f:FuncId} {fs bs:LV} {xo:OO} {xs:List Operand} {au:Array TypeId} {ty:TI} {mo:Option β} {rt:β→V→List Value} {ps:β→V→List aw} {ops:LO} {i:Nat} {sl:LQ} {ms:MM} {fr:Fr} {Γ:QE} {g:β→Option (Out S R)}
   (hv:dZ A none sl base fr) (hx:bq fr xo=some (.func (.func f) fs.toArray bs.toArray)) (hf:Yy P f) (hc:∀ x:nt ms,Kx P f fs bs xs (mf A ms x++fr) (ri A ms x++Γ) mo rt ps) (hi:nj ms) (zP:p6 A ms=true) (ho:∀ y v,sd (ps y v)=true)
   (h:∀ y,AD tq P cx K l tail base U hd (.cr (fun v=>n9 (rt y v)) (ps y) d as ops i sl ms Γ (g y))):AD tq P cx K l tail base U hd (.o A (.call ⟨.value xo,xs.toArray,au⟩) d ty as ops i sl ms Γ (mo>>=g))
 | call {hd:QE} {β V:Type} {A:LN} {as:LL} {d:Nat} {f:FuncId} {xs:List Operand} {au:Array TypeId} {ty:TI} {mo:Option β} {rt:β→V→List Value} {ps:β→V→List aw} {ops:LO} {i:Nat} {sl:LQ} {ms:MM} {fr:Fr} {Γ:QE} {g:β→Option (Out S R)} [hf:bp P f]
   (hv:dZ A none sl base fr) (hc:∀ x:nt ms,Kw P f xs (mf A ms x++fr) (ri A ms x++Γ) mo rt ps) (hi:nj ms) (zP:p6 A ms=true) (ho:∀ y v,sd (ps y v)=true)
   (h:∀ y,AD tq P cx K l tail base U hd (.cr (fun v=>n9 (rt y v)) (ps y) d as ops i sl ms Γ (g y))):AD tq P cx K l tail base U hd (.oc [] f xs au A d ty as ops i sl ms Γ (mo>>=g))
 | XE {hd:QE} {β V:Type} {A:LN} {as:LL} {d:Nat} {f:FuncId} {xs:List Operand} {au:Array TypeId} {ty:TI} {mo:Option β} {rt:β→V→List Value} {ps:β→V→List aw} {ops:LO} {i:Nat} {sl:LQ} {ms:MM} {fr:Fr} {Γ:QE} {g:β→Option (Out S R)} [hf:bp P f]
   (hV:((U.set i []).all fun us=>!(us.contains l.length))=true) (hv:dZ A none sl base fr) (hc:∀ x:nt ms,Dw P f xs (mf A ms x++fr) hd (ri A ms x++Γ) mo rt ps) (hi:nj ms) (zP:p6 A ms=true) (ho:∀ y v,sd (ps y v)=true)
   (h:∀ y,AD tq P cx K l tail base U hd (.cr (fun v=>n9 (rt y v)) (ps y) d as ops i sl ms Γ (g y))):AD tq P cx K l tail base U hd (.oc [l.length] f xs au A d ty as ops i sl ms Γ (mo>>=g))
 | XF {hd:QE} {β V:Type} {j1:Nat} {a1:gu} {pq:MM} {A:LN} {as:LL} {d:Nat} {f:FuncId} {xs:List Operand} {au:Array TypeId} {ty:TI} {mo:Option β} {rt:β→V→List Value} {ps:β→V→List aw} {ops:LO} {i:Nat} {sl:LQ} {ms:MM} {fr:Fr} {Γ:QE} {g:β→Option (Out S R)} [hf:bp P f]
   (h1:CQ ms j1 a1 pq) (QV:a1.src=[]) (h4:iu j1 A=true) (hv:dZ A none sl base fr) (hc:∀ (q:a1.V) (x:nt pq),Dw P f xs (mf A pq x++fr) (a1.ps undef q) (ri A pq x++Γ) mo rt ps) (hi:nj pq) (zP:p6 A pq=true) (ho:∀ y v,sd (ps y v)=true)
   (h:∀ y,AD tq P cx K l tail base U hd (.cr (fun v=>n9 (rt y v)) (ps y) d as ops i (OA j1 i sl) pq Γ (g y))):AD tq P cx K l tail base U hd (.oc [j1] f xs au A d ty as ops i sl ms Γ (mo>>=g))
 | crv {hd:QE} {u:Unit→Value} {d:Nat} {as:LL} {ops:LO} {i:Nat} {sl:LQ} {ms:MM} {Γ:QE} {m:Option (Out S R)} (h:AD tq P cx K l tail base U hd (.a as ops (i+1) ((i,d,u ()) :: sl) ms Γ m)):AD tq P cx K l tail base U hd (.cr u (fun _=>[]) d as ops i sl ms Γ m)
 | crb {hd:QE} {u:Unit→Value} {ps:Unit→List aw} {d:Nat} {as:LL} {ops:LO} {i:Nat} {sl:LQ} {ms:MM} {Γ:QE} {m:Option (Out S R)} (h:AD tq P cx K l tail base U hd (.a as ops (i+1) ((i,d,u ()) :: sl) (⟨i,d,[],Unit,fun _=>u,fun _=>ps⟩ :: ms) Γ m)):AD tq P cx K l tail base U hd (.cr u ps d as ops i sl ms Γ m)
 | crm {hd:QE} {V:Type} {u:V→Value} {ps:V→List aw} {d:Nat} {as:LL} {ops:LO} {i:Nat} {sl:LQ} {ms:MM} {Γ:QE} {m:Option (Out S R)} (h:AD tq P cx K l tail base U hd (.a as ops (i+1) sl (⟨i,d,[],V,fun _=>u,fun _=>ps⟩ :: ms) Γ m)):AD tq P cx K l tail base U hd (.cr u ps d as ops i sl ms Γ m)
 | val {hd:QE} {A:LN} {as:LL} {op:Op} {d:Nat} {ty:TI} {u:Value} {ops:LO} {i:Nat} {sl:LQ} {ms:MM} {fr:Fr} {Γ:QE} {m:Option (Out S R)} (hv:dZ A none sl base fr) (hq:VQ P Γ fr op u)
   (h:AD tq P cx K l tail base U hd (.a as ops (i+1) ((i,d,u) :: sl) ms Γ m)):AD tq P cx K l tail base U hd (.o A op d ty as ops i sl ms Γ m)
 | tE {hd:QE} {A:LN} {as:LL} {op:BinOp} {x y:OO} {k k':IntKind} {a b:Int} {t t':TI} {d:Nat} {ty:TI} {ops:LO} {i:Nat} {sl:LQ} {ms:MM} {fr:Fr} {Γ:QE} {f:Int→Option (Out S R)} (hv:dZ A none sl base fr) (hx:bq fr x=some (.int k a)) (hy:bq fr y=some (.int k' b)) (hk:QP op k k')
   (h:∀ z,AD tq P cx K l tail base U hd (.a as ops (i+1) ((i,d,.int k z) :: sl) ms Γ (f z))):AD tq P cx K l tail base U hd (.o A (.binOp op t x y t') d ty as ops i sl ms Γ (u6 op k a b>>=f))
 | pz {hd:QE} {as:LL} {ops:LO} {i:Nat} {sl:LQ} {ms:MM} {Γ:QE} {m:Option (Out S R)} (h:AD tq P cx K l tail base U hd (.a as ops i sl ms Γ m)):AD tq P cx K l tail base U hd (.p [] as ops i sl ms Γ m)
 | pe {hd:QE} {e:aw} {Δ:QE} {as:LL} {ops:LO} {i:Nat} {sl:LQ} {ms:MM} {Γ:QE} {m:Option (Out S R)} (h:AD tq P cx K l tail base U hd (.p Δ as ops i sl ms (e :: Γ) m)):AD tq P cx K l tail base U hd (.p (e :: Δ) as ops i sl ms Γ m)
 | Gz {hd:QE} {α V:Type} {Sc:ah α} {cl:α→V→List Value} {en:α→V→List aw} {A:LN} {as:LL} {d n:Nat} {x y:OO} {v:Value} {xs:List α} {k:IntKind} {j:Int} {t ty:TI} {ops:LO} {i:Nat} {sl:LQ} {ms:MM} {fr:Fr} {Γ Γx:QE} {f:α→Option (Out S R)} [ht:Dm P t n]
   (hy:bq fr y=some (.int k j)) (hr:qy Γ v false false (iy Sc) xs tV Γx) (hs:E3 Sc V cl en) (hn:Sc.size=n)
   (h:∀ z u,AD tq P cx K l tail base U hd (.p (.au (dc v n j) (cl z u) :: en z u) as ops (i+1) ((i,d,.pointer (some (dc v n j))) :: sl) ms Γ (f z))):AD tq P cx K l tail base U hd (.ix false v fr x y t A d ty as ops i sl ms Γ (idx xs j>>=f))
 | TV {hd:QE} {α V:Type} {Sc:ah α} {cl:α→V→List Value} {en:α→V→List aw} {A:LN} {as:LL} {d n e bt:Nat} {x y:OO} {v:Value} {us:List (List Value)} {xs:List α} {k:IntKind} {j:Int} {t ty:TI} {ops:LO} {i:Nat} {sl:LQ} {ms:MM} {fr:Fr} {Γ Γ1:QE} {f:α→Option (Out S R)} [ht:AF P t e n bt]
   (hy:bq fr y=some (.int k j)) (h1:dp Γ (.own (aL e (ij n)) v us) Γ1) (hg:In (.rd false (tn Sc) (.bool true) (us,xs)) Γ) (hs:E3 Sc V cl en)
   (h:∀ z u,AD tq P cx K l tail base U hd (.p (.rd false (AB us j) (.bool true) (cl z u) :: en z u) as ops (i+1) ((i,d,.pointer (some (dc v n j))) :: sl) ms Γ (f z))):AD tq P cx K l tail base U hd (.ix false v fr x y t A d ty as ops i sl ms Γ (idx xs j>>=f))
 | YA {hd:QE} {A:LN} {as:LL} {d n e off:Nat} {x:OO} {v u:Value} {us:List (List Value)} {j:Int} {cs:LV} {t ty:TI} {ops:LO} {i:Nat} {sl:LQ} {ms:MM} {fr:Fr} {Γ Γ1:QE} {m:Option (Out S R)} (h1:dp Γ (.own (aL e (ij n)) v us) Γ1) (hp:In (.rd false (AB us j) (.bool true) cs) Γ) (hc:cs[off]? = some u)
   (k:AD tq P cx K l tail base U hd (.a as ops (i+1) ((i,d,u) :: sl) ms Γ m)):AD tq P cx K l tail base U hd (.la fr ((dc v n j).add off) none t x A d ty as ops i sl ms Γ m)
 | TW {hd:QE} {A:LN} {as:LL} {d n e:Nat} {x:OO} {v u:Value} {us:List (List Value)} {j:Int} {cs:LV} {t ty:TI} {ops:LO} {i:Nat} {sl:LQ} {ms:MM} {fr:Fr} {Γ Γ1:QE} {m:Option (Out S R)} (h1:dp Γ (.own (aL e (ij n)) v us) Γ1) (hp:In (.rd false (AB us j) (.bool true) cs) Γ) (hc:cs[0]? = some u)
   (k:AD tq P cx K l tail base U hd (.a as ops (i+1) ((i,d,u) :: sl) ms Γ m)):AD tq P cx K l tail base U hd (.la fr (dc v n j) none t x A d ty as ops i sl ms Γ m)
 | Ml {hd:QE} {β V:Type} {A:LN} {as:LL} {d:Nat} {f:FuncId} {xs:List Operand} {au:Array TypeId} {ty:TI} {mo:Option β} {rt:β→V→List Value} {ps:β→V→List aw} {ops:LO} {i:Nat} {sl:LQ} {ms:MM} {fr:Fr} {Γ:QE} {g:β→Option (Out S R)} [hf:bp P f]
   (hV:((U.set i []).all fun us=>!(us.contains l.length))=true) (hv:dZ A none sl base fr) (hc:∀ x:nt ms,GU P f xs (mf A ms x++fr) hd Γ mo rt ps) (hi:nj ms) (zP:p6 A ms=true)
   (h:∀ y,AD tq P cx K l tail base U hd (.cr (fun v=>n9 (rt y v)) (ps y) d as ops i sl ms Γ (g y))):AD tq P cx K l tail base U hd (.oc [l.length] f xs au A d ty as ops i sl ms Γ (mo>>=g))
end Go.Dk
namespace Go.Dk
open Go Go.Li
theorem qm {t:Nat} {l:LN}:iu t l=true↔t∈l:=by
 induction l with
 | nil=>simp [iu]
 | cons a l ih=>
  unfold iu
  cases hb:Nat.beq t a with
  | true=>simp [Nat.eq_of_beq_eq_true hb]
  | false=>simp only [cond_false,ih,List.mem_cons]; exact ⟨.inr,fun h=>h.resolve_left fun e=>by rw [e,Nat.beq_refl] at hb; cases hb⟩
def qn (l:LO) (U:LL) (mt:Nat):List (List Nat):=(List.range mt).map fun i=>((cf l).getD i []).filter (uG l U mt i)
theorem sr {l:LO} {U:LL} {mt i j:Nat} (h:j∈(qn l U mt).getD i []):j∈(cf l).getD i []∧uG l U mt i j=true:=by
 unfold qn at h
 rw [List.getD_eq_getElem?_getD,List.getElem?_map] at h
 by_cases hi:i < mt
 ·rw [List.getElem?_range hi] at h
  exact List.mem_filter.1 h
 ·rw [List.getElem?_eq_none (by simpa using hi)] at h
  exact absurd h List.not_mem_nil
variable {Z:Nat→Prop}
structure iH (Z:Nat→Prop) (l:LO) (S:List gx) (sl:LQ) (ms:MM):Prop where
 v:∀ p∈sl,∃ j,(j=p.1∨j∈(cf l).getD p.1 [])∧bx l j=some p.2.1∧∃ s,S[j]? = some s∧s.b=true∧∀ f w r x,s.V f w r x→x=p.2.2
 m:∀ a∈ms,(S[a.j]? = some ⟨true,MV Z a⟩∧bx l a.j=some a.d)∨(S[a.j]? = some ⟨true,Mi Z a⟩∧bx l a.j=none∧∃ k∈(cf l).getD a.j [],bx l k=some a.d)
 s:∀ i s,S[i]? = some s→QT Z ((cf l).getD i []) l s
 d:(ms.map (·.j)).Nodup
 t:∀ i j k,j∈(cf l).getD k []→k∈(cf l).getD i []→j∈(cf l).getD i []
theorem iH.lt {l:LO} {S:List gx} {sl:LQ} {ms:MM} (h:iH Z l S sl ms) {a:gu} (ha:a∈ms):a.j < S.length:=by
 rcases h.m a ha with h | h <;> exact (List.getElem?_eq_some_iff.1 h.1).1
theorem iH.GW {l:LO} {S S2:List gx} {sl:LQ} {ms:MM} (h:iH Z l S sl ms) {a:gu} (ha:a∈ms) {g:Nat→List Nat} {r:NV} {w:World} (hd:xj l (S++S2) a.j g r w):MV Z a (g a.j) w r (r a.d):=by
 rcases h.m a ha with h1 | h1
 ·have h2:=hd.1 a.d h1.2
  rw [List.getElem?_append_left (List.getElem?_eq_some_iff.1 h1.1).1,h1.1] at h2
  exact h2
 ·obtain ⟨x,hx⟩:=hd.2 h1.2.1 _ (by rw [List.getElem?_append_left (List.getElem?_eq_some_iff.1 h1.1).1]; exact h1.1) rfl
  exact hx
theorem iH.slot {l:LO} {S:List gx} {sl:LQ} {ms:MM} (h:iH Z l S sl ms) {a:gu} (ha:a∈ms) {i:Nat} (hi:a.j∈(cf l).getD i []):∃ k∈(cf l).getD i [],bx l k=some a.d:=by
 rcases h.m a ha with h1 | ⟨_,_,k,hk,hd⟩
 ·exact ⟨a.j,hi,h1.2⟩
 ·exact ⟨k,h.t i k a.j hk hi,hd⟩
theorem iH.tF {l:LO} {S S2:List gx} {sl:LQ} {ms:MM} (h:iH Z l S sl ms) {a:gu} (ha:a∈ms):((S++S2)[a.j]? = some ⟨true,MV Z a⟩∧bx l a.j=some a.d)∨((S++S2)[a.j]? = some ⟨true,Mi Z a⟩∧bx l a.j=none∧∃ k∈(cf l).getD a.j [],bx l k=some a.d):=by
 rw [List.getElem?_append_left (h.lt ha)]
 exact h.m a ha
theorem iH.OB {l:LO} {S S2:List gx} {sl:LQ} {ms:MM} (h:iH Z l S sl ms) {p:Nat×Nat×Value} (hp:p∈sl):∃ j,(j=p.1∨j∈(cf l).getD p.1 [])∧bx l j=some p.2.1∧∃ s,(S++S2)[j]? = some s∧s.b=true∧∀ f w r x,s.V f w r x→x=p.2.2:=by
 obtain ⟨j,hj,h1,s,h2,h3⟩:=h.v p hp
 exact ⟨j,hj,h1,s,by rw [List.getElem?_append_left (List.getElem?_eq_some_iff.1 h2).1]; exact h2,h3⟩
theorem iH.yZ {l:LO} {S S2:List gx} {sl:LQ} {ms:MM} (h:iH Z l S sl ms) {p:Nat×Nat×Value} (hp:p∈sl) {r:NV} (ho:∀ j,(j=p.1∨j∈(cf l).getD p.1 [])→j < S.length→Old l (S++S2) j r):r p.2.1=p.2.2:=by
 obtain ⟨j,hj,h1,s,h2,h3,h4⟩:=h.v p hp
 have hl:=(List.getElem?_eq_some_iff.1 h2).1
 have:=ho j hj hl _ h1 s (by rw [List.getElem?_append_left hl]; exact h2)
 rw [if_pos h3] at this
 obtain ⟨f,w,hV⟩:=this
 exact h4 f w r _ hV
theorem iH.val {l:LO} {S:List gx} {sl:LQ} {ms:MM} (h:iH Z l S sl ms) {d:Nat} {u:Value} (hd:bx l S.length=some d):iH Z l (S++[sV u]) ((S.length,d,u) :: sl) ms:=by
 refine ⟨?_,fun a ha=>h.tF ha,?_,h.d,h.t⟩
 ·intro p hp
  rcases List.mem_cons.1 hp with rfl | hp
  ·exact ⟨S.length,.inl rfl,hd,sV u,by simp,rfl,fun _ _ _ _ h=>h⟩
  ·exact h.OB hp
 ·intro i s hs
  by_cases hi:i < S.length
  ·rw [List.getElem?_append_left hi] at hs; exact h.s i s hs
  ·rw [List.getElem?_append_right (by omega)] at hs
   have xk:i - S.length=0:=by
    have:=(List.getElem?_eq_some_iff.1 hs).1
    simp at this; omega
   rw [xk] at hs
   cases hs
   exact GS.n KA
theorem iH.mem {l:LO} {S:List gx} {sl:LQ} {ms:MM} (h:iH Z l S sl ms) {b:gu} (hj:b.j=S.length) (hd:bx l S.length=some b.d) (iw:∀ t∈b.src,∃ j∈(cf l).getD S.length [],bx l j=some t):iH Z l (S++[⟨true,MV Z b⟩]) sl (b :: ms):=by
 have bj:∀ a∈ms,a.j < S.length:=fun a ha=>h.lt ha
 refine ⟨fun p hp=>?_,?_,?_,?_,h.t⟩
 ·exact h.OB hp
 ·intro a ha
  rcases List.mem_cons.1 ha with rfl | ha
  ·exact .inl ⟨by rw [hj]; simp,by rw [hj]; exact hd⟩
  ·exact h.tF ha
 ·intro i s hs
  by_cases hi:i < S.length
  ·rw [List.getElem?_append_left hi] at hs; exact h.s i s hs
  ·rw [List.getElem?_append_right (by omega)] at hs
   have xk:i - S.length=0:=by
    have:=(List.getElem?_eq_some_iff.1 hs).1
    simp at this; omega
   have TX:i=S.length:=by omega
   rw [xk] at hs
   cases hs
   rw [TX]
   exact Mj iw
 ·rw [List.map_cons,List.nodup_cons]
  refine ⟨fun hm=>?_,h.d⟩
  obtain ⟨a,ha,he⟩:=List.mem_map.1 hm
  have:=bj a ha
  omega
theorem iH.aae {l:LO} {S:List gx} {sl:LQ} {ms:MM} (h:iH Z l S sl ms) {j d:Nat} {u:Value} (hd:bx l j=some d) {s:gx} (hs:S[j]? = some s) (hb:s.b=true) (hV:∀ f w r x,s.V f w r x→x=u):iH Z l S ((j,d,u) :: sl) ms:=
 ⟨fun p hp=>by
  rcases List.mem_cons.1 hp with rfl | hp
  ·exact ⟨j,.inl rfl,hd,s,hs,hb,hV⟩
  ·exact h.v p hp,h.m,h.s,h.d,h.t⟩
theorem iH.re {l:LO} {S:List gx} {sl:LQ} {ms:MM} (h:iH Z l S sl ms) {j i:Nat} (hj:j∈(cf l).getD i []):iH Z l S (OA j i sl) ms:=by
 refine ⟨fun p hp=>?_,h.m,h.s,h.d,h.t⟩
 obtain ⟨q,hq,rfl⟩:=List.mem_map.1 hp
 obtain ⟨k,hk,h1⟩:=h.v q hq
 cases hb:Nat.beq q.1 j with
 | false=>exact ⟨k,hk,h1⟩
 | true=>
  refine ⟨k,.inr ?_,h1⟩
  have YB:=Nat.eq_of_beq_eq_true hb
  show k∈(cf l).getD i []
  rcases hk with rfl | hk
  ·rw [YB]; exact hj
  ·rw [YB] at hk; exact h.t i k j hk hj
theorem iH.aaf {l:LO} {S:List gx} {sl:LQ} {ms:MM} (h:iH Z l S sl ms) {b:gu} (hj:b.j=S.length) (hd:bx l S.length=none) (hk:∃ k∈(cf l).getD S.length [],bx l k=some b.d) (iw:b.src=[]):iH Z l (S++[⟨true,Mi Z b⟩]) sl (b :: ms):=by
 have bj:∀ a∈ms,a.j < S.length:=fun a ha=>h.lt ha
 refine ⟨fun p hp=>?_,?_,?_,?_,h.t⟩
 ·exact h.OB hp
 ·intro a ha
  rcases List.mem_cons.1 ha with rfl | ha
  ·exact .inr ⟨by rw [hj]; simp,by rw [hj]; exact hd,by rw [hj]; exact hk⟩
  ·exact h.tF ha
 ·intro i s hs
  by_cases hi:i < S.length
  ·rw [List.getElem?_append_left hi] at hs; exact h.s i s hs
  ·rw [List.getElem?_append_right (by omega)] at hs
   have xk:i - S.length=0:=by
    have:=(List.getElem?_eq_some_iff.1 hs).1
    simp at this; omega
   have TX:i=S.length:=by omega
   rw [xk] at hs
   cases hs
   rw [TX]
   exact Kv hk fun t ht=>by rw [iw] at ht; cases ht
 ·rw [List.map_cons,List.nodup_cons]
  refine ⟨fun hm=>?_,h.d⟩
  obtain ⟨a,ha,he⟩:=List.mem_map.1 hm
  have:=bj a ha
  omega
theorem ko {l:LO} {m:Nat} {base:Fr} {r r0:NV} (hh:mr l m base=true) (ha:cw r0 base) (ho:∀ t,(∀ j,j < m→bx l j≠some t)→r t=r0 t):cw r base:=by
 intro t v hl
 have hm:∃ u,(t,u)∈base:=by
  clear hh ha
  induction base with
  | nil=>cases hl
  | cons p base ih=>
   obtain ⟨a,u⟩:=p
   unfold look at hl
   cases hb:Nat.beq t a with
   | true=>exact ⟨u,by rw [Nat.eq_of_beq_eq_true hb]; simp⟩
   | false=>rw [hb] at hl; obtain ⟨u',h⟩:=ih hl; exact ⟨u',by simp [h]⟩
 obtain ⟨u,hu⟩:=hm
 rw [ho t fun j hj=>Mm hh (t,u) hu j hj]
 exact ha t v hl
section
variable {P:Program} {l:LO} {mt:Nat} {S:List gx} {sl:LQ} {ms:MM} {base fr:Fr} {r r0:NV} {w w0:World} {g:Nat→List Nat} {i:Nat} {A:LN} {U:LL}
theorem n5 (hR:iH Z l S sl ms) (hA:A=(qn l U mt).getD i []) (hv:dZ A none sl base fr) (hb:cw r base) {S':List gx} (hO:∀ j∈(cf l).getD i [],Old l (S++S') j r):cw r fr:=by
 refine hv.sound hb ?_ (fun _ _ _ h=>nomatch h)
 intro p hp hm
 have hi:=(sr (by rw [← hA]; exact qm.1 hm)).1
 exact hR.yZ hp fun j hj _=>hO j (hj.elim (fun e=>e ▸ hi) fun hj=>hR.t i j p.1 hj hi)
theorem OC {H:LN} {o:Oper} {u:Value} (hh:mr l mt base=true) (ha:cw r0 base) (hR:iH Z l S sl ms) (ho:l[S.length]? = some o) (hg:o.guard=none) (hA:A=(qn l U mt).getD S.length []) (hv:dZ A none sl base fr)
  (h:∀ r,cw r fr→∀ w,an H w0 w→(execOp (ev r) o).run P w = .ok (.value u) w):kh P l mt (S++[sV u]) U r0 w0 H S.length:=
 kh.val ho (by simp) hg fun g r w hC hO hn kj=>h r (n5 hR hA hv (ko hh ha kj) hO) w hC
end
end Go.Dk
namespace Go.Dk
open Go Go.Li
section
variable {R S:Type} {P:Program} {cx:Cx R} {K:dh R S} {l tail:LO} {base fr:Fr} {w:World} {Z:Nat→Prop} {U:LL}
def km (P:Program) (Z:Nat→Prop) (l:LO) (mt:Nat) (U:LL) (r0:NV) (w0:World) (H:LN) (i:Nat) (sl:LQ) (ms:MM):Prop:=
 ∃ S:List gx,S.length=i∧iH Z l S sl ms∧∀ j,j < i→kh P l mt S U r0 w0 H j
def sM (B:Bs) (Z:Nat→Prop) (hd Γ:QE) (H:LN) (w:World):Prop:=∃ F Hd,(SA Z w hd [] Hd∧(∀ b∈Hd,b∈H∧b < w.heap.size)∧(∀ b∈H,b < w.heap.size)∧Hd.Nodup)∧SA Z w Γ [] F∧Gd B Z (H++F) w
theorem sM.stay {B:Bs} {Γ:QE} {F H:LN} {w w':World} (hS:SA Z w Γ [] F) (hG:Gd B Z (H++F) w) (hC:an H w w'):SA Z w' Γ [] F:=
 hS.ee hC (fun b hb=>hG.apart b (List.mem_append_left _ hb)) (fun _ _=>List.not_mem_nil) (fun b hb hf=>(List.nodup_append.1 hG.nd).2.2 b hb b hf rfl)
def Fin (P:Program) (cx:Cx R) (K:dh R S) (l:LO) (mt:Nat) (U:LL) (hd:QE) (_id:Nat) (base:Fr) (i:Nat) (sl:LQ) (ms:MM) (Γ:QE) (m:Option (Out S R)):Prop:=
 ∀ B o,m=some o→∀ r0 w0 H Z,cw r0 base→sM B Z hd Γ H w0→km P Z l mt U r0 w0 H i sl ms→mg P cx.n l (mc P cx B K o) r0 w0
theorem km.re {mt:Nat} {r0:NV} {w0:World} {H:LN} {i k j:Nat} {sl:LQ} {ms:MM} (h:km P Z l mt U r0 w0 H k sl ms) (hj:j∈(cf l).getD i []):km P Z l mt U r0 w0 H k (OA j i sl) ms:=by
 obtain ⟨S,h1,h2,h3⟩:=h
 exact ⟨S,h1,h2.re hj,h3⟩
structure zQ (l:LO) (mt:Nat) (U:LL) (as:LL) (ops:LO) (i:Nat):Prop where
 a:as=(qn l U mt).drop i
 o:ops=(l.take mt).drop i
 le:i≤mt
structure TY (l:LO) (mt:Nat) (U:LL) (A:LN) (op:Op) (ty:TI) (as:LL) (ops:LO) (i:Nat):Prop where
 A:A=(qn l U mt).getD i []
 o:∃ pos af,l[i]? = some ⟨none,op,ty,pos,af,none⟩
 n:zQ l mt U as ops (i+1)
theorem zQ.Kz {mt:Nat} {A:LN} {as:LL} {op:Op} {ty:TI} {pos:String} {af:Array Edge} {ops:LO} {i:Nat} (h:zQ l mt U (A :: as) (⟨none,op,ty,pos,af,none⟩ :: ops) i):TY l mt U A op ty as ops i:=by
 obtain ⟨h1,h2,h3⟩:=h
 have e1:(qn l U mt)[i]? = some A:=by
  have:=congrArg (fun x=>x[0]?) h1
  simpa using this.symm
 have e2:(l.take mt)[i]? = some ⟨none,op,ty,pos,af,none⟩:=by
  have:=congrArg (fun x=>x[0]?) h2
  simpa using this.symm
 have t1:as=(qn l U mt).drop (i+1):=by
  have:=congrArg List.tail h1
  simpa [List.tail_drop] using this
 have t2:ops=(l.take mt).drop (i+1):=by
  have:=congrArg List.tail h2
  simpa [List.tail_drop] using this
 have hi:i < mt:=by
  have:=(List.getElem?_eq_some_iff.1 e1).1
  simpa [qn] using this
 rw [List.getElem?_take,if_pos hi] at e2
 exact ⟨by rw [List.getD_eq_getElem?_getD,e1]; rfl,⟨pos,af,e2⟩,t1,t2,hi⟩
structure q9 (l:LO) (mt:Nat) (U:LL) (A:LN) (op:Op) (d:Nat) (ty:TI) (as:LL) (ops:LO) (i:Nat):Prop where
 A:A=(qn l U mt).getD i []
 o:∃ pos af,l[i]? = some ⟨some d,op,ty,pos,af,none⟩
 n:zQ l mt U as ops (i+1)
theorem zQ.cons {mt:Nat} {A:LN} {as:LL} {op:Op} {d:Nat} {ty:TI} {pos:String} {af:Array Edge} {ops:LO} {i:Nat} (h:zQ l mt U (A :: as) (⟨some d,op,ty,pos,af,none⟩ :: ops) i):q9 l mt U A op d ty as ops i:=by
 obtain ⟨h1,h2,h3⟩:=h
 have e1:(qn l U mt)[i]? = some A:=by
  have:=congrArg (fun x=>x[0]?) h1
  simpa using this.symm
 have e2:(l.take mt)[i]? = some ⟨some d,op,ty,pos,af,none⟩:=by
  have:=congrArg (fun x=>x[0]?) h2
  simpa using this.symm
 have t1:as=(qn l U mt).drop (i+1):=by
  have:=congrArg List.tail h1
  simpa [List.tail_drop] using this
 have t2:ops=(l.take mt).drop (i+1):=by
  have:=congrArg List.tail h2
  simpa [List.tail_drop] using this
 have hi:i < mt:=by
  have:=(List.getElem?_eq_some_iff.1 e1).1
  simpa [qn] using this
 rw [List.getElem?_take,if_pos hi] at e2
 exact ⟨by rw [List.getD_eq_getElem?_getD,e1]; rfl,⟨pos,af,e2⟩,t1,t2,hi⟩
theorem km.val {mt:Nat} {A:LN} {op:Op} {d:Nat} {ty:TI} {as:LL} {ops:LO} {i:Nat} {sl:LQ} {ms:MM} {r0:NV} {w0:World} {H:LN} {u:Value} (h:km P Z l mt U r0 w0 H i sl ms) (hh:mr l mt base=true) (ha:cw r0 base) (h1:q9 l mt U A op d ty as ops i)
  (hv:dZ A none sl base fr) (hq:∀ r,cw r fr→∀ pos af g w,an H w0 w→(execOp (ev r) ⟨some d,op,ty,pos,af,g⟩).run P w = .ok (.value u) w):km P Z l mt U r0 w0 H (i+1) ((i,d,u) :: sl) ms:=by
 obtain ⟨S',hl,hR,hO⟩:=h
 subst hl
 obtain ⟨hA,⟨pos,af,ho⟩,_⟩:=h1
 refine ⟨S'++[sV u],by simp,hR.val (by unfold bx; rw [ho]; rfl),fun j hj=>?_⟩
 by_cases h2:j < S'.length
 ·exact kh.more (hO j h2) h2
 ·obtain rfl:j=S'.length:=by omega
  exact OC hh ha hR ho rfl hA hv fun r hr=>hq r hr _ _ _
def Es (P:Program) (Z:Nat→Prop) (l:LO) (mt:Nat) (U:LL) (r0:NV) (w0:World) (H:LN) (i:Nat) (sl:LQ) (ms:MM) (a:gu):Prop:=
 ∃ S:List gx,S.length=i∧iH Z l S sl ms∧(∀ j,j < i→kh P l mt S U r0 w0 H j)∧
  ∀ V:List Nat→World→(Nat→Value)→Value→Prop,(∀ f w r x,MV Z a f w r x→∃ f',(∀ b∈f',b∈f)∧V f' w r x)→kh P l mt (S++[⟨true,V⟩]) U r0 w0 H i
theorem HL.front {Δ Γ:QE} {Fd F:LN} (h:HL Z w Δ Fd) (hs:SA Z w Γ [] F):SA Z w (Δ++Γ) [] (Fd++F):=by
 induction h with
 | nil=>exact hs
 | own h _ ih=>rw [List.append_assoc]; exact SA.cons ih h
 | fact h _ ih=>exact SA.fact ih h
def A9 (A:LN) (g:Nat→List Nat):List gu→List Nat
 | []=>[]
 | a :: l=>bif iu a.j A then g a.j++A9 A g l else A9 A g l
def HV (Z:Nat→Prop) (w:World) (Δ:QE) (B:LN):Prop:=∃ Vo Vr,(∀ b∈Vo++Vr,b∈B)∧(∀ b∈Vr,b < w.heap.size)∧HL (fun b=>Z b∨b∈Vr) w Δ Vo
theorem HV.front {Δ Γ:QE} {B F:LN} (h:HV Z w Δ B) (hs:SA Z w Γ [] F):∃ G:List Nat,(∀ b∈G,b∈B++F∧b < w.heap.size)∧∃ F':List Nat,(∀ b∈F',b∈G)∧SA (fun b=>Z b∨b∈G) w (Δ++Γ) [] F':=by
 obtain ⟨Vo,Vr,h1,h2,h3⟩:=h
 have hS:=h3.front (hs.mono (Z':=fun b=>Z b∨b∈Vr) (fun _ h=>.inl h) fun _ h=>h)
 refine ⟨Vr++(Vo++F),fun b hb=>?_,Vo++F,fun b hb=>List.mem_append_right _ hb,hS.mono (fun b h=>h.imp id fun h=>List.mem_append_left _ h) fun _ h=>h⟩
 rcases List.mem_append.1 hb with hb | hb
 ·exact ⟨List.mem_append_left _ (h1 b (List.mem_append_right _ hb)),h2 b hb⟩
 ·refine ⟨?_,hS.lt b hb⟩
  rcases List.mem_append.1 hb with hb | hb
  ·exact List.mem_append_left _ (h1 b (List.mem_append_left _ hb))
  ·exact List.mem_append_right _ hb
theorem HV.app {Δ Δ':QE} {f B:LN} (h:HN Z w Δ f) (k:HV Z w Δ' B):HV Z w (Δ++Δ') (f++B):=by
 obtain ⟨Fo,Fr,rfl,h1,h2⟩:=h.all
 obtain ⟨Vo,Vr,k1,k2,k3⟩:=k
 refine ⟨Fo++Vo,Fr++Vr,fun b hb=>?_,fun b hb=>(List.mem_append.1 hb).elim (h1 b) (k2 b),(h2.mono fun b h=>h.imp id fun h=>List.mem_append_left _ h).app (k3.mono fun b h=>h.imp id fun h=>List.mem_append_right _ h)⟩
 have:=fun h=>k1 b h
 simp only [List.mem_append] at hb this ⊢
 rcases hb with (h | h) | h | h
 ·exact .inl (.inl h)
 ·exact .inr (this (.inl h))
 ·exact .inl (.inr h)
 ·exact .inr (this (.inr h))
theorem XG {A:LN} {g:Nat→List Nat} {r:NV}:∀ {ms:MM},nj ms→p6 A ms=true→(∀ a∈ms,iu a.j A=true→MV Z a (g a.j) w r (r a.d))→
  ∃ x:nt ms,(∀ p∈mf A ms x,r p.1=p.2)∧HV Z w (ri A ms x) (A9 A g ms):=by
 intro ms
 induction ms with
 | nil=>intro _ _ _; exact ⟨(),fun p hp=>absurd hp List.not_mem_nil,[],[],fun b (h:b∈[])=>absurd h List.not_mem_nil,fun b (h:b∈[])=>absurd h List.not_mem_nil,.nil⟩
 | cons a ms ih=>
  intro hi iw h
  unfold p6 at iw
  rw [Bool.and_eq_true] at iw
  cases hi with
  | cons h1 h2=>
   obtain ⟨x,hx,hl⟩:=ih h2 iw.2 fun b hb=>h b (List.mem_cons_of_mem _ hb)
   cases hb:iu a.j A with
   | false=>
    obtain ⟨v⟩:=h1.ne
    refine ⟨(v,x),?_,?_⟩
    ·simp only [mf,hb,cond_false]; exact hx
    ·simp only [ri,A9,hb,cond_false]; exact hl
   | true=>
    obtain ⟨v,e1,e2,_⟩:=h a (by simp) hb
    have es:wk a r=A7 a (mF ms x):=by
     have h3:=iw.1
     rw [hb,cond_true,List.all_eq_true] at h3
     refine B4 fun t ht=>?_
     have h4:=h3 t ht
     cases hj:r5 t ms with
     | none=>rw [hj] at h4; cases h4
     | some j=>rw [hj] at h4; unfold yj; rw [GR hj h4 hx]
    rw [es] at e1 e2
    refine ⟨(v,x),?_,?_⟩
    ·simp only [mf,hb,cond_true]
     intro p hp
     rcases List.mem_cons.1 hp with rfl | hp
     ·exact e1
     ·exact hx p hp
    ·simp only [ri,A9,hb,cond_true]; exact HV.app e2 hl
theorem OD {t j:Nat}:∀ {ms:MM},r5 t ms=some j→∃ a∈ms,a.j=j∧a.d=t:=by
 intro ms
 induction ms with
 | nil=>intro h; cases h
 | cons a l ih=>
  intro h
  unfold r5 at h
  cases hb:Nat.beq t a.d with
  | true=>rw [hb] at h; cases h; exact ⟨a,by simp,rfl,(Nat.eq_of_beq_eq_true hb).symm⟩
  | false=>rw [hb] at h; obtain ⟨b,h1,h2⟩:=ih h; exact ⟨b,List.mem_cons_of_mem _ h1,h2⟩
theorem Et {mt i:Nat} {A:LN} (hA:A=(qn l U mt).getD i []) {S':List gx} {sl:LQ} {ms:MM} {t:Nat} (hR:iH Z l S' sl ms) (hj:∃ j,r5 t ms=some j∧iu j A=true):∃ j∈(cf l).getD i [],bx l j=some t:=by
 obtain ⟨j,h1,h2⟩:=hj
 obtain ⟨a,ha,rfl,rfl⟩:=OD h1
 exact hR.slot ha (sr (by rw [← hA]; exact qm.1 h2)).1
theorem yZ {mt:Nat} {A:LN} {S' S2:List gx} {sl:LQ} {ms:MM} {g:Nat→List Nat} {r:NV} (hR:iH Z l S' sl ms) (hA:A=(qn l U mt).getD S'.length []) (hi:nj ms) (iw:p6 A ms=true) (hn:∀ j,uG l U mt S'.length j=true→xj l (S'++S2) j g r w) :
  ∃ x:nt ms,(∀ p∈mf A ms x,r p.1=p.2)∧HV Z w (ri A ms x) (A9 A g ms):=
 XG hi iw fun a hm hb=>by
  exact hR.GW hm (hn a.j (sr (by rw [← hA]; exact qm.1 hb)).2)
theorem km.mem {mt:Nat} {A:LN} {op:Op} {d:Nat} {ty:TI} {as:LL} {ops:LO} {i:Nat} {sl:LQ} {ms:MM} {r0:NV} {w0:World} {H:LN} {a:gu} (h:km P Z l mt U r0 w0 H i sl ms) (h1:q9 l mt U A op d ty as ops i) (haj:a.j=i) (had:a.d=d)
  (iw:∀ S',iH Z l S' sl ms→∀ t∈a.src,∃ j∈(cf l).getD i [],bx l j=some t)
  (hq:∀ S' S2,S'.length=i→iH Z l S' sl ms→∀ (g:Nat→List Nat) (r:NV) (w:World),an H w0 w→(∀ j∈(cf l).getD S'.length [],Old l (S'++S2) j r)→(∀ j,uG l U mt S'.length j=true→xj l (S'++S2) j g r w)→(∀ t,(∀ j,j < mt→bx l j≠some t)→r t=r0 t)→∀ pos af,
   fl P ⟨some d,op,ty,pos,af,none⟩ r w fun v w'=>an [] w w'∧∃ f,(∀ b∈f,w.heap.size≤b∧b < w'.heap.size)∧MV Z a f w' r v):km P Z l mt U r0 w0 H (i+1) sl (a :: ms):=by
 obtain ⟨S',hl,hR,hO⟩:=h
 subst hl
 subst had
 obtain ⟨hA,⟨pos,af,ho⟩,_⟩:=h1
 refine ⟨S'++[⟨true,MV Z a⟩],by simp,hR.mem haj (by unfold bx; rw [ho]; rfl) (iw S' hR),fun j hj=>?_⟩
 by_cases h2:j < S'.length
 ·exact kh.more (hO j h2) h2
 ·obtain rfl:j=S'.length:=by omega
  exact kh.OF (V:=MV Z a) ho (by simp) rfl fun g r w hC hO hn kj=>hq S' _ rfl hR g r w hC hO hn kj pos af
theorem vp.sub {ms AH:MM} {a:gu} {t:Nat} (h:vp ms t a AH):a∈ms∧a.d=t∧(∀ b∈AH,b∈ms)∧(AH.map (·.j)).Sublist (ms.map (·.j)):=by
 induction h with
 | here=>exact ⟨by simp,rfl,fun b hb=>List.mem_cons_of_mem _ hb,by simp⟩
 | there _ ih=>
  obtain ⟨h1,h2,h3,h4⟩:=ih
  refine ⟨List.mem_cons_of_mem _ h1,h2,fun b hb=>?_,by simpa using h4⟩
  rcases List.mem_cons.1 hb with rfl | hb
  ·simp
  ·exact List.mem_cons_of_mem _ (h3 b hb)
theorem iH.sub {S':List gx} {sl:LQ} {ms AH:MM} (h:iH Z l S' sl ms) (hm:∀ b∈AH,b∈ms) (hn:(AH.map (·.j)).Sublist (ms.map (·.j))):iH Z l S' sl AH:=⟨h.v,fun a ha=>h.m a (hm a ha),h.s,h.d.sublist hn,h.t⟩
theorem R4 {mt:Nat} {t e et:TI} {E:ah Int} {z0:Int} {bt t1 t2 j2 d2 i d:Nat} {k:IntKind} {y:Int} {xs:List Int} {a1:gu} {ms pq GV:MM} {sl:LQ} {A:LN} {ty:TI} {as:LL} {ops:LO} {r0:NV} {w0:World} {H:LN} (hz:tD P t Int e E z0 bt) (h1:vp ms t1 a1 pq) (h2:vp pq t2 ⟨j2,d2,[],Nat,fun _ b=>.slice (some ⟨b,0,none⟩) 1 1,fun _ b=>[.row b [.int k y] et]⟩ GV) (h3:∀ u v,a1.ps u v=[.own (aL e (aC k)) (a1.rt u v) xs]) (h4:iu a1.j A=true) (h5:iu j2 A=true) (h6:U.getD i []=[a1.j])
  (hf:fits bt (xs.length+1)=some ()) (GJ:q9 l mt U A (.call ⟨.builtin .append,#[.tmp t1,.tmp t2],#[t,t]⟩) d ty as ops i) (h:km P Z l mt U r0 w0 H i sl ms) :
  km P Z l mt U r0 w0 H (i+1) sl (⟨i,d,[],Value,fun _ v=>v,fun _ v=>[.own (aL e (aC k)) v (xs++[y])]⟩ :: pq):=by
 obtain ⟨S',hl,hR,hO⟩:=h
 subst hl
 obtain ⟨hA,⟨pos,af,ho⟩,_⟩:=GJ
 obtain ⟨b1,b2⟩:=qd hf
 obtain ⟨q1,hE,i',z,q3,q4,q5,q6,q7,q8⟩:=hz.h
 obtain ⟨m1,m2,m3,m4⟩:=h1.sub
 obtain ⟨n1,n2,_,_⟩:=h2.sub
 refine ⟨S'++[⟨true,MV Z ⟨S'.length,d,[],Value,fun _ v=>v,fun _ v=>[.own (aL e (aC k)) v (xs++[y])]⟩⟩],by simp,(hR.sub m3 m4).mem rfl (by unfold bx; rw [ho]; rfl) (by intro t h; cases h),fun j hj=>?_⟩
 by_cases bj:j < S'.length
 ·exact kh.more (hO j bj) bj
 ·obtain rfl:j=S'.length:=by omega
  intro o' s' cg ec g r w hC Cv lp hn kj xl qe
  rw [ho] at cg
  cases cg
  rw [List.getElem?_append_right (Nat.le_refl _),Nat.sub_self] at ec
  cases ec
  rw [if_pos rfl]
  refine ⟨rfl,?_⟩
  have get:∀ a∈ms,iu a.j A=true→MV Z a (g a.j) w r (r a.d):=fun a hm hb=>by
   exact hR.GW hm (hn a.j (sr (by rw [← hA]; exact qm.1 hb)).2)
  obtain ⟨v1,c1,c2,c3⟩:=get a1 m1 h4
  obtain ⟨v2,f1,f2,f3⟩:=get _ (m3 _ n1) h5
  rw [h3,← c1,m2] at c2
  rw [m2] at c1
  simp only at f1 f2
  subst n2
  replace c2:=c2.own rfl
  replace f2:=f2.own rfl
  generalize E0:g a1.j=G1 at c2 c3
  generalize jg:g j2=G2 at f2 f3
  cases c2 with
  | fact h _=>exact h.elim
  | @own _ ff F0 _ OG zR=>
   cases zR
   rw [List.append_nil] at c3
   cases f2 with
   | fact h _=>exact h.elim
   | @own _ gg F0 _ bh zR=>
    cases zR
    obtain ⟨rfl,bh⟩:=bh
    have hb:p7 g (U.getD S'.length [])=ff:=by rw [h6]; simp [p7,E0]
    refine qo (fl.vn (E:=aC k) (F:=ff) q1 q3 q4 q5 rfl q6 (s:=.tmp t1) (x:=.tmp d2) rfl ⟨OG,c3⟩ (fun b hb=>hb) f1 bh ⟨rfl,rfl⟩ (by rw [q7]; exact b1) b2) ?_
    rintro v w' ⟨GX,f',uH,hV⟩
    rw [hb]
    refine ⟨GX,f',uH,v,rfl,?_,hV.2⟩
    have:=HL.own (Z:=fun _=>False) (e:=.own (aL e (aC k)) v (xs++[y])) (f:=f') hV.1 .nil
    exact .inl (by simpa using this)
theorem fl.B3 {α:Type} {E:ah α} {F f k:LN} {t e:TI} {s x:OO} {i:TypeInfo} {z:Value} {sv yv:Value} {xs ys:List α} {r:NV} {w:World} {d:Option Nat} {ty:TI} {pos:String} {af:Array Edge} (TZ:∀ {h cs x f},E.rep h cs x f→f=[])
  (ht:P.underlying t=some (.slice e)) (hi:P.info? e=some i) (hz:i.zero=some z) (hs:i.size=1) (hE:E.size=1) (y4:z.oneCell'=true)
  (vM:ev r s=sv) (hO:Eu (aL e E) xs f w sv) (hF:∀ b∈f,b∈F) (hx:ev r x=yv) (hy:(aB E).rep w.heap [yv] ys k)
  (hb:(xs.length+ys.length) * i.bytes≤140737488355328) (yk:xs.length+ys.length≤maxLen) :
  fl P ⟨d,.call ⟨.builtin .append,#[s,x],#[t,t]⟩,ty,pos,af,none⟩ r w fun v w'=>an F w w'∧∃ f',(∀ b∈f',(b∈F∨w.heap.size≤b)∧b < w'.heap.size)∧Eu (aL e E) (xs++ys) f' w' v:=by
 have se:=Fc hy
 rcases Nat.eq_zero_or_pos ys.length with Cw | Cw
 ·obtain rfl:ys=[]:=List.eq_nil_of_length_eq_zero Cw
  obtain ⟨b0,c0,GY⟩:=w4 hy
  obtain ⟨base,cap,hv,hr⟩:=hO.1
  obtain rfl:sv = .slice base xs.length cap:=by simpa using hv
  have OH:xs.length≤cap:=by
   rcases hr with ⟨_,rfl,rfl,_⟩ | ⟨_,_,_,_,_,_,h,_⟩
   ·simp
   ·exact h
  have j9:=za (P:=P) (w:=w) (ty:=ty) ht hi (b:=base) (a:=b0) (c:=c0) OH
  subst GY
  have zS:(execOp (ev r) ⟨d,.call ⟨.builtin .append,#[s,x],#[t,t]⟩,ty,pos,af,none⟩).run P w = .ok (.value (.slice base xs.length cap)) w:=by
   simp only [execOp,resolve,invoke,builtin,Sem.run_bind,Sem.run_pure,Result.andThen_ok,List.map_toArray,List.map_cons,List.map_nil,vM,hx,List.length_nil,j9]
  unfold fl
  rw [zS]
  exact ⟨an.refl _ _,f,fun b hb=>⟨.inl (hF b hb),ah.lt _ hO.1 b hb⟩,by rw [List.append_nil]; exact hO⟩
 ·rcases se with rfl | ⟨a,c,news,g1,GY,zT,dy,_⟩
  ·simp at Cw
  ·obtain ⟨rfl,_⟩:=Bb (h':=w.heap) TZ dy
   obtain ⟨v,w',f',h,hC,Gg,dj,df⟩:=qf (d:=d) (ty:=ty) (pos:=pos) (af:=af) (g:=none) ht hi hz (by rw [hs,hE]) (by rw [cells_one y4,hE]; rfl) vM hO.1 hO.2 (hx.trans GY) zT dy (fun _ h=>nomatch h) Cw hb yk
   unfold fl
   rw [h]
   refine ⟨hC.mono hF,f',fun b hb=>⟨?_,ah.lt _ Gg b hb⟩,Gg,df List.nodup_nil⟩
   rcases dj b hb with h | h | h
   ·exact .inl (hF b h)
   ·cases h
   ·exact .inr h
theorem vA {t:TI} {x y:OO} {i:TypeInfo} {b off:Nat} {cs us:LV} {e:TI} {r:NV} {d:Option Nat} {ty:TI} {pos:String} {af:Array Edge} {gg:Option (Nat×Bool)}
  (hi:P.info? t=some i) (hs:us.length=i.size) (bh:Row w b cs e) (hl:off+us.length≤cs.length) (hx:ev r x = .pointer (some ⟨b,off,none⟩)) (hy:(ev r y).cells.toList=us) (hu:∀ u∈us,u.oneCell'=true) :
  (execOp (ev r) ⟨d,.store t x y,ty,pos,af,gg⟩).run P w = .ok .skip (w.setRow b (cs.take off++us++cs.drop (off+us.length)).toArray):=by
 have h:=run_storeCells_at P b off e us 0 cs.toArray w bh (by simpa using hl) hu
 simp only [Nat.add_zero] at h
 have sW:(ev r y).cells=us.toArray:=by rw [← hy]
 simp only [execOp,Instr.storeAt,Instr.sureAddr,hx,storeVar]
 simp [sW,sizeOf,typeInfo,hi,hs,h]
theorem R5 {mt:Nat} {t e:TI} {t1 j1 n i:Nat} {y:OO} {u:Value} {us cs ds:LV} {ms pq:MM} {sl:LQ} {A:LN} {ty:TI} {as:LL} {ops:LO} {r0:NV} {w0:World} {H:LN} {Γ:QE} {F:LN} (hh:mr l mt base=true) (ha:cw r0 base) (ht:u5 P t n)
  (h1:vp ms t1 ⟨j1,t1,[],Nat,fun _ b=>.pointer (some ⟨b,0,none⟩),fun _ b=>[.row b cs e]⟩ pq) (hv:dZ A none sl base fr) (hy:bq fr y=some u) (hc:sR Γ u us) (uA:us.length=n) (hs:aX us 0 cs ds) (ho:ba Γ us) (h4:iu j1 A=true) (h6:U.getD i []=[j1])
  (hS:∀ w,an H w0 w→SA Z w Γ [] F) (GJ:TY l mt U A (.store t (.tmp t1) y) ty as ops i) (h:km P Z l mt U r0 w0 H i sl ms) :
  km P Z l mt U r0 w0 H (i+1) sl (⟨i,t1,[],Nat,fun _ b=>.pointer (some ⟨b,0,none⟩),fun _ b=>[.row b ds e]⟩ :: pq):=by
 obtain ⟨S',hl,hR,hO⟩:=h
 subst hl
 obtain ⟨hA,⟨pos,af,QW⟩,_⟩:=GJ
 obtain ⟨ti,q1,q2⟩:=ht.h
 obtain ⟨m1,_,m3,m4⟩:=h1.sub
 have Ev:=sr (by rw [← hA]; exact qm.1 h4)
 refine ⟨S'++[⟨true,Mi Z ⟨S'.length,t1,[],Nat,fun _ b=>.pointer (some ⟨b,0,none⟩),fun _ b=>[.row b ds e]⟩⟩],by simp,(hR.sub m3 m4).aaf (b:=⟨S'.length,t1,[],Nat,fun _ b=>.pointer (some ⟨b,0,none⟩),fun _ b=>[.row b ds e]⟩) rfl (by unfold bx; rw [QW]; rfl) (hR.slot m1 Ev.1) rfl,fun j hj=>?_⟩
 by_cases bj:j < S'.length
 ·exact kh.more (hO j bj) bj
 ·obtain rfl:j=S'.length:=by omega
  intro o' s' cg ec g r w hC Cv lp hn kj xl qe
  rw [QW] at cg
  cases cg
  rw [List.getElem?_append_right (Nat.le_refl _),Nat.sub_self] at ec
  cases ec
  rw [if_pos rfl]
  refine ⟨rfl,?_⟩
  obtain ⟨b,c1,c2,c3⟩:=hR.GW m1 (hn j1 Ev.2)
  simp only at c1 c2
  replace c2:=c2.own rfl
  generalize E0:g j1=G1 at c2 c3
  cases c2 with
  | fact h _=>exact h.elim
  | @own _ ff F0 _ OG zR=>
   cases zR
   obtain ⟨rfl,bh⟩:=OG
   have hb:p7 g (U.getD S'.length [])=[b]:=by rw [h6]; simp [p7,E0]
   have hr:=n5 hR hA hv (ko hh ha kj) lp
   obtain ⟨e1,e2⟩:=hs.eq
   have GO:=hS w hC
   have j9:=vA (P:=P) (d:=none) (ty:=ty) (pos:=pos) (af:=af) (gg:=none) q1 (by rw [uA,q2]) bh e1 (x:=.tmp t1) c1 (y:=y) (by rw [bA hr hy]; exact hc.eq GO) (ho.one GO)
   unfold fl
   rw [j9,hb]
   have sL:=setRow_heap w b cs.toArray (cs.take 0++us++cs.drop (0+us.length)).toArray e _ bh
   have aag:b < w.heap.size:=bh.lt
   refine ⟨⟨rfl,rfl,rfl,Nat.le_refl _,by simp,fun j _ hj=>setRow_other w b j _ fun h=>hj (by simp [h])⟩,[b],fun b' cy=>?_,b,c1,?_,by simp⟩
   ·rw [List.mem_singleton.1 cy]
    exact ⟨.inl (by simp),by simpa using aag⟩
   ·refine .inl (HL.own (f:=[b]) ⟨rfl,?_⟩ .nil)
    rw [e2]
    exact sL
theorem R6 {mt:Nat} {t i d:Nat} {cs:LV} {sl:LQ} {ms:MM} {A:LN} {ty:TI} {as:LL} {ops:LO} {r0:NV} {w0:World} {H:LN} (hz:yg P t cs) (h1:q9 l mt U A (.alloc t) d ty as ops i) (h:km P Z l mt U r0 w0 H i sl ms) :
   km P Z l mt U r0 w0 H (i+1) sl (⟨i,d,[],Nat,fun _ b=>.pointer (some ⟨b,0,none⟩),fun _ b=>[.row b cs t]⟩ :: ms):=by
 obtain ⟨i',z,t1,t2,t3⟩:=hz.h
 refine h.mem h1 rfl rfl (fun _ _ _ h=>nomatch h) fun S' S2 hl hR g r w hC lp hn kj pos af=>qo (fl.TS (cs:=cs) t1 t2 (by rw [← t3])) ?_
 rintro v w' ⟨hC,f,hf,b,e1,e2,bh⟩
 refine ⟨hC,f,hf,b,e2,?_,by rw [e1]; simp⟩
 have:=HL.own (Z:=fun _=>False) (e:=.row b cs t) (f:=[b]) ⟨rfl,bh⟩ .nil
 rw [e1]
 exact .inl (by simpa using this)
theorem T0 {mt t n:Nat} {A:LN} {st:TI} {d:Nat} {ty:TI} {as:LL} {ops:LO} {i:Nat} {sl:LQ} {ms:MM} {r0:NV} {w0:World} {H:LN} (h:km P Z l mt U r0 w0 H i sl ms) (h1:q9 l mt U A (.call ⟨.builtin .len,#[.tmp t],#[st]⟩) d ty as ops i) (ht:yf P st) (hi:nj ms) (iw:p6 A ms=true) (hx:∀ x:nt ms,TR (mf A ms x) (ri A ms x) t n):km P Z l mt U r0 w0 H (i+1) ((i,d,.int .i64 (n:Int)) :: sl) ms:=by
 obtain ⟨S',hl,hR,hO⟩:=h
 subst hl
 obtain ⟨hA,⟨pos,af,ho⟩,_⟩:=h1
 obtain ⟨e,i',q1,_,_⟩:=ht.h
 refine ⟨S'++[sV (.int .i64 (n:Int))],by simp,hR.val (by unfold bx; rw [ho]; rfl),fun j hj=>?_⟩
 by_cases h2:j < S'.length
 ·exact kh.more (hO j h2) h2
 ·obtain rfl:j=S'.length:=by omega
  refine kh.val (v:=.int .i64 (n:Int)) ho (by simp) rfl fun g r w hC lp hn kj=>?_
  obtain ⟨x,hv,hE⟩:=yZ hR hA hi iw hn
  obtain ⟨Bc,TL⟩:=hx x
  have JC:=(sn hv yV) t _ (by rw [List.append_nil]; exact Bc)
  obtain ⟨_,_,_,_,hS⟩:=hE.front (Γ:=[]) (F:=[]) rfl
  rw [List.append_nil] at hS
  obtain ⟨b,c,rfl⟩:=TL.sound hS
  exact uD q1 (x:=.tmp t) JC
theorem R7 {mt:Nat} {t:TI} {ps:List (Nat×Operand)} {zc:LV} {pl:List (Nat×Nat)} {A:LN} {as:LL} {d:Nat} {ty:TI} {ops:LO} {i:Nat} {sl:LQ} {ms:MM} {fr:Fr} {hd Γ:QE} {B:Bs} {r0:NV} {w0:World} {H:LN} {X:Value→List Value} {ts:LN} (hh:mr l mt base=true) (hb:yY P t zc pl) (hi:nj ms) (iw:p6 A ms=true) (hj:Yx A ms ts=true) (hv:dZ A none sl base fr)
   (hx:∀ x:nt ms,wM (ri A ms x++Γ) (mf A ms x++fr) pl ps zc (X (yM (yj (mF ms x)) ts))) (h1:q9 l mt U A (.build t ps.toArray) d ty as ops i) (ha:cw r0 base) (hs:sM B Z hd Γ H w0) (h:km P Z l mt U r0 w0 H i sl ms) :
   km P Z l mt U r0 w0 H (i+1) sl (⟨i,d,ts,Unit,fun u _=>.agg (X u).toArray,fun _ _=>[]⟩ :: ms):=by
 have YC:∀ t∈ts,∃ j,r5 t ms=some j∧iu j A=true:=fun t ht=>by
  have:=List.all_eq_true.1 hj t ht
  cases hf:r5 t ms with
  | none=>rw [hf] at this; cases this
  | some j=>rw [hf] at this; exact ⟨j,rfl,this⟩
 refine h.mem h1 rfl rfl (fun S' hR t' ht=>Et h1.A hR (YC t' ht)) ?_
 intro S' S2 hl hR g r w hC lp hn kj pos af
 have hA:=h1.A
 rw [← hl] at hA
 have hbs:=n5 hR hA hv (ko hh ha kj) lp
 obtain ⟨x,YD,ub⟩:=yZ hR hA hi iw hn
 obtain ⟨F,Hd,⟨wF,AI,wm,AJ⟩,hS,hG⟩:=hs
 obtain ⟨G,_,_,_,fk⟩:=ub.front (sM.stay hS hG hC)
 have e:yM (yj (mF ms x)) ts=yM r ts:=B4 fun t ht=>by
  obtain ⟨j,h2,h3⟩:=YC t ht
  unfold yj
  rw [GR h2 h3 YD]
 have hF:=hx x
 rw [e] at hF
 have j9:=(VQ.QQ (P:=P) (hb:=hb) hF).sound fk (sn YD hbs) (some d) ty pos af none w (an.refl _ _)
 unfold fl
 rw [j9]
 exact ⟨an.refl _ _,[],fun b hb=>absurd hb List.not_mem_nil,(),rfl,.inl .nil,List.nodup_nil⟩
theorem R8 {mt:Nat} {α:Type} {t e:TI} {E:ah α} {z0:α} {bt i d:Nat} {sl:LQ} {ms:MM} {A:LN} {ty:TI} {as:LL} {ops:LO} {r0:NV} {w0:World} {H:LN} (hz:tD P t α e E z0 bt) (h1:q9 l mt U A (.buildSlice t 0 #[]) d ty as ops i) (h:km P Z l mt U r0 w0 H i sl ms) :
   km P Z l mt U r0 w0 H (i+1) sl (⟨i,d,[],Value,fun _ v=>v,fun _ v=>[.own (aL e E) v []]⟩ :: ms):=by
 obtain ⟨t1,_,i',z,t2,_⟩:=hz.h
 refine h.mem h1 rfl rfl (fun _ _ _ h=>nomatch h) fun S' S2 hl hR g r w hC lp hn kj pos af=>qo (fl.made (zU (E:=E) t1 t2)) ?_
 rintro v w' ⟨hC,f,hf,hV⟩
 refine ⟨hC,f,hf,v,rfl,?_,hV.2⟩
 have:=HL.own (Z:=fun _=>False) (e:=.own (aL e E) v []) (f:=f) hV.1 .nil
 exact .inl (by simpa using this)
theorem T1 {mt n:Nat} {α:Type} {t e:TI} {E:ah α} {z0:α} {bt i d:Nat} {sl:LQ} {ms:MM} {A:LN} {ty:TI} {as:LL} {ops:LO} {r0:NV} {w0:World} {H:LN} {x:OO} {z:Int} (hh:mr l mt base=true) (ha:cw r0 base) (hz:tD P t α e E z0 bt) (hv:dZ A none sl base fr) (hx:bq fr x=some (.int .i64 z)) (hn:mk bt z=some n) (h1:q9 l mt U A (.makeSlice t x x) d ty as ops i) (h:km P Z l mt U r0 w0 H i sl ms) :
   km P Z l mt U r0 w0 H (i+1) sl (⟨i,d,[],Value,fun _ v=>v,fun _ v=>[.own (aL e E) v (List.replicate n z0)]⟩ :: ms):=by
 obtain ⟨e1,e2,e3⟩:=En hn
 obtain ⟨t1,hE,i',z',t2,t3,t4,t5,t6,t7⟩:=hz.h
 subst e1
 refine h.mem h1 rfl rfl (fun _ _ _ h=>nomatch h) fun S' S2 hl hR g r w hC lp hn kj pos af=>?_
 have hb:=n5 hR (by rw [hl]; exact h1.A) hv (ko hh ha kj) lp
 refine qo (fl.made (GZ (E:=E) (z0:=z0) t1 t2 t3 t4 hE t5 t7 (bA hb hx) (bA hb hx) (by rw [t6]; exact e2) e3)) ?_
 rintro v w' ⟨hC,f,hf,hV⟩
 refine ⟨hC,f,hf,v,rfl,?_,hV.2⟩
 have:=HL.own (Z:=fun _=>False) (e:=.own (aL e E) v (List.replicate n z0)) (f:=f) hV.1 .nil
 exact .inl (by simpa using this)
theorem T2 {mt:Nat} {α:Type} {t e:TI} {E:ah α} {z0:α} {bt i d:Nat} {sl:LQ} {ms:MM} {A:LN} {ty:TI} {as:LL} {ops:LO} {r0:NV} {w0:World} {H:LN} {x:OO} {u:Value} {Γ:QE} {F:LN} (hh:mr l mt base=true) (ha:cw r0 base) (hz:tD P t α e E z0 bt) (hv:dZ A none sl base fr) (hx:bq fr x=some u) (ho:One Γ u) (hS:∀ w,an H w0 w→SA Z w Γ [] F) (h1:q9 l mt U A (.buildSlice t 1 #[(0,x)]) d ty as ops i) (h:km P Z l mt U r0 w0 H i sl ms) :
   km P Z l mt U r0 w0 H (i+1) sl (⟨i,d,[],Nat,fun _ b=>.slice (some ⟨b,0,none⟩) 1 1,fun _ b=>[.row b [u] e]⟩ :: ms):=by
 obtain ⟨t1,hE,i',z',t2,t3,t4,t5,t6,t7⟩:=hz.h
 refine h.mem h1 rfl rfl (fun _ _ _ h=>nomatch h) fun S' S2 hl hR g r w hC lp hn kj pos af=>?_
 have hb:=n5 hR (by rw [hl]; exact h1.A) hv (ko hh ha kj) lp
 refine qo (fl.El t1 t2 t3 t4 (bA hb hx) (ho.one (hS w hC))) ?_
 rintro v w' ⟨hC,f,hf,b,e1,e2,bh⟩
 refine ⟨hC,f,hf,b,e2,?_,by rw [e1]; simp⟩
 have:=HL.own (Z:=fun _=>False) (e:=.row b [u] e) (f:=[b]) ⟨rfl,bh⟩ .nil
 rw [e1]
 exact .inl (by simpa using this)
theorem JD {mt n:Nat} {t e:TI} {i d:Nat} {sl:LQ} {ms:MM} {A:LN} {ty:TI} {as:LL} {ops:LO} {r0:NV} {w0:World} {H:LN} {ps:List (Nat×Operand)} {us:LV} {Γ:QE} {F:LN} (hh:mr l mt base=true) (ha:cw r0 base) (hz:Jt P t e) (hv:dZ A none sl base fr) (hd:vi Γ fr 0 ps us) (hn:us.length=n) (hb:(Nat.ble 1 n && Nat.ble n 16777216)=true) (hS:∀ w,an H w0 w→SA Z w Γ [] F) (h1:q9 l mt U A (.buildSlice t n ps.toArray) d ty as ops i) (h:km P Z l mt U r0 w0 H i sl ms) :
   km P Z l mt U r0 w0 H (i+1) sl (⟨i,d,[],Nat,fun _ b=>.slice (some ⟨b,0,none⟩) n n,fun _ b=>[.row b us e]⟩ :: ms):=by
 refine h.mem h1 rfl rfl (fun _ _ _ h=>nomatch h) fun S' S2 hl hR g r w hC lp hnn kj pos af=>?_
 have cy:=n5 hR (by rw [hl]; exact h1.A) hv (ko hh ha kj) lp
 unfold fl
 rw [hd.op cy (hS w hC) hz hn hb]
 refine ⟨an.alloc _ _ _,[w.heap.size],fun b hb=>by rw [List.mem_singleton.1 hb]; simp,w.heap.size,rfl,?_,by simp⟩
 have:=HL.own (Z:=fun _=>False) (e:=.row w.heap.size us e) (f:=[w.heap.size]) ⟨rfl,heap_alloc_new w _⟩ .nil
 exact .inl (by simpa using this)
theorem R9 {mt t:Nat} {α:Type} {s e:TI} {E:ah α} {z0:α} {bt i d:Nat} {sl:LQ} {ms:MM} {A:LN} {ty:TI} {as:LL} {ops:LO} {r0:NV} {w0:World} {H:LN} (hz:tD P s α e E z0 bt) (hi:nj ms) (iw:p6 A ms=true) (hj:∃ j,r5 t ms=some j∧iu j A=true) (hx:∀ x:nt ms,Oy (mf A ms x) (ri A ms x) t) (h1:q9 l mt U A (.buildSlice s 1 #[(0,.tmp t)]) d ty as ops i) (h:km P Z l mt U r0 w0 H i sl ms) :
   km P Z l mt U r0 w0 H (i+1) sl (⟨i,d,[t],Nat,fun _ b=>.slice (some ⟨b,0,none⟩) 1 1,fun u b=>[.row b [u] e]⟩ :: ms):=by
 obtain ⟨t1,hE,i',z',t2,t3,t4,t5,t6,t7⟩:=hz.h
 refine h.mem h1 rfl rfl (fun S' hR t' ht=>by rw [List.mem_singleton.1 ht]; exact Et h1.A hR hj) ?_
 intro S' S2 hl hR g r w hC lp hn kj pos af
 obtain ⟨x,hv,hE⟩:=yZ hR (by rw [hl]; exact h1.A) hi iw hn
 obtain ⟨Bc,tL⟩:=hx x
 have JC:r t=_:=(sn hv yV) t _ (by rw [List.append_nil]; exact Bc)
 obtain ⟨_,_,_,_,hS⟩:=hE.front (Γ:=[]) (F:=[]) rfl
 rw [List.append_nil] at hS
 refine qo (fl.El t1 t2 t3 t4 (x:=.tmp t) rfl (by show (r t).oneCell'=true; rw [JC]; exact tL.one hS)) ?_
 rintro v w' ⟨hC,f,hf,b,e1,e2,bh⟩
 refine ⟨hC,f,hf,b,e2,?_,by rw [e1]; simp⟩
 have:=HL.own (Z:=fun _=>False) (e:=.row b [r t] e) (f:=[b]) ⟨rfl,bh⟩ .nil
 rw [e1]
 exact .inl (by simpa [wk,yM] using this)
theorem Sa:∀ cs:List Value,oh cs [] cs:=by
 intro cs
 induction cs with
 | nil=>exact .nil
 | cons c cs ih=>exact .cons ih
theorem Sb {mt t n:Nat} {s e:TI} {i d:Nat} {sl:LQ} {ms:MM} {A:LN} {ty:TI} {as:LL} {ops:LO} {r0:NV} {w0:World} {H:LN} (hz:Gw P s e n) (hb:(Nat.ble 1 1 && Nat.ble (1 * n) 16777216)=true) (hi:nj ms) (iw:p6 A ms=true) (hj:∃ j,r5 t ms=some j∧iu j A=true) (hx:∀ x:nt ms,Oz (mf A ms x) t n) (h1:q9 l mt U A (.buildSlice s 1 #[(0,.tmp t)]) d ty as ops i) (h:km P Z l mt U r0 w0 H i sl ms) :
   km P Z l mt U r0 w0 H (i+1) sl (⟨i,d,[t],Nat,fun _ b=>.slice (some ⟨b,0,none⟩) 1 1,fun u b=>[.row b u.cells.toList e]⟩ :: ms):=by
 refine h.mem h1 rfl rfl (fun S' hR t' ht=>by rw [List.mem_singleton.1 ht]; exact Et h1.A hR hj) ?_
 intro S' S2 hl hR g r w hC lp hn kj pos af
 obtain ⟨x,hv,hE⟩:=yZ hR (by rw [hl]; exact h1.A) hi iw hn
 obtain ⟨Bc,hlen⟩:=hx x
 rename_i cs
 have JC:r t = .agg cs.toArray:=(sn hv yV) t _ (by rw [List.append_nil]; exact Bc)
 have ot:cw r [(t,.agg cs.toArray)]:=(fun t' v' h'=>by
  simp only [look] at h'
  cases h2:Nat.beq t' t with
  | true=>rw [h2] at h'; cases h'; rw [Nat.eq_of_beq_eq_true h2]; exact JC
  | false=>rw [h2] at h'; cases h')
 have hd:wN [] [(t,.agg cs.toArray)] n 0 [(0,.tmp t)] cs:=.cons (v:=.agg cs.toArray) (by simp [bq,look]) .agg hlen .nil (Sa cs)
 have QW:(execOp (ev r) ⟨some d,.buildSlice s 1 #[(0,.tmp t)],ty,pos,af,none⟩).run P w=_:=hd.op (Z:=fun _=>False) (w:=w) (cur:=[]) (F:=[]) ot rfl hz rfl hb
 unfold fl
 rw [QW]
 refine ⟨an.alloc _ _ _,[w.heap.size],fun b hb=>by rw [List.mem_singleton.1 hb]; simp,w.heap.size,rfl,?_,by simp⟩
 have wD:(Value.agg cs.toArray).cells.toList=cs:=rfl
 have:=HL.own (Z:=fun _=>False) (e:=.row w.heap.size (r t).cells.toList e) (f:=[w.heap.size]) ⟨rfl,by rw [JC,wD]; exact heap_alloc_new w _⟩ .nil
 exact .inl (by simpa [wk,yM] using this)
theorem OI {mt:Nat} {β V:Type} {A:LN} {as:LL} {d:Nat} {f:FuncId} {xs:List Operand} {au:Array TypeId} {ty:TI} {mo:Option β} {rt:β→V→List Value} {ps:β→V→List aw} {ops:LO} {i:Nat} {sl:LQ} {ms:MM} {fr:Fr} {hd Γ:QE} {B:Bs} {r0:NV} {w0:World} {H:LN} {y:β} (hh:mr l mt base=true) (hf:bp P f) (hv:dZ A none sl base fr)
   (hc:∀ x:nt ms,Kw P f xs (mf A ms x++fr) (ri A ms x++Γ) mo rt ps) (hi:nj ms) (iw:p6 A ms=true) (hw:∀ y v,sd (ps y v)=true) (h1:q9 l mt U A (.call ⟨.value (.func f),xs.toArray,au⟩) d ty as ops i) (hy:mo=some y) (ha:cw r0 base) (hs:sM B Z hd Γ H w0) (h:km P Z l mt U r0 w0 H i sl ms) :
   Es P Z l mt U r0 w0 H i sl ms ⟨i,d,[],V,fun _ v=>n9 (rt y v),fun _=>ps y⟩:=by
 obtain ⟨S',hl,hR,hO⟩:=h
 subst hl
 refine ⟨S',rfl,hR,hO,fun V' hV=>?_⟩
 obtain ⟨hA,⟨pos,af,ho⟩,_⟩:=h1
 refine kh.OF (V:=V') ho (by simp) rfl fun g r w hC lp hn kj=>?_
 have hb:=n5 hR hA hv (ko hh ha kj) lp
 obtain ⟨x,hx,ub⟩:=yZ hR hA hi iw hn
 obtain ⟨Dx,uc,hd,hr⟩:=hc x
 obtain ⟨fn,c,f1,f2,f3⟩:=hf.h
 refine Calls.Gf f1 f2 f3 ?_
 rw [rh (sn hx hb) Dx]
 obtain ⟨F,Hd,⟨wF,AI,wm,AJ⟩,hS,hG⟩:=hs
 obtain ⟨G,jh,FV,Bd,fk⟩:=ub.front (sM.stay hS hG hC)
 rw [ra] at uc
 refine (uc.2 w (fun b=>Z b∨b∈G) [] (hr.sound (fun _ h=>h) (fun _ b hb=>.inr (Bd b hb)) fk hd.ho) List.nodup_nil (fun b hb=>absurd hb List.not_mem_nil)
  (fun b hb=>hb.elim (fun h=>Nat.lt_of_lt_of_le (hG.na b h) hC.size) fun h=>(jh b h).2) y hy).mono ?_
 rintro e w' ⟨v,he,Z2,F2,pj,jg⟩
 have Bf:HL (fun _=>False) w' (ps y v) F2:=xf (hw y v) pj
 have bj:=(Bf.front (Γ:=[]) (F:=[]) rfl).lt
 obtain ⟨f',dj,Dy⟩:=hV F2 w' r _ ⟨v,rfl,.inl Bf,jg.nd⟩
 refine ⟨_,he,jg.jc,f',fun b hb=>⟨(jg.low b (dj b hb)).resolve_left List.not_mem_nil,bj b (by simpa using dj b hb)⟩,Dy⟩
theorem Mn {mt:Nat} {β V:Type} {A:LN} {as:LL} {d:Nat} {f:FuncId} {fs bs:LV} {xo:OO} {xs:List Operand} {au:Array TypeId} {ty:TI} {mo:Option β} {rt:β→V→List Value} {ps:β→V→List aw} {ops:LO} {i:Nat} {sl:LQ} {ms:MM} {fr:Fr} {hd Γ:QE} {B:Bs} {r0:NV} {w0:World} {H:LN} {y:β} (hh:mr l mt base=true) (hf:bp P f) (hv:dZ A none sl base fr)
   (T3:bq fr xo=some (.func (.func f) fs.toArray bs.toArray)) (hc:∀ x:nt ms,Kx P f fs bs xs (mf A ms x++fr) (ri A ms x++Γ) mo rt ps) (hi:nj ms) (iw:p6 A ms=true) (hw:∀ y v,sd (ps y v)=true) (h1:q9 l mt U A (.call ⟨.value xo,xs.toArray,au⟩) d ty as ops i) (hy:mo=some y) (ha:cw r0 base) (hs:sM B Z hd Γ H w0) (h:km P Z l mt U r0 w0 H i sl ms) :
   Es P Z l mt U r0 w0 H i sl ms ⟨i,d,[],V,fun _ v=>n9 (rt y v),fun _=>ps y⟩:=by
 obtain ⟨S',hl,hR,hO⟩:=h
 subst hl
 refine ⟨S',rfl,hR,hO,fun V' hV=>?_⟩
 obtain ⟨hA,⟨pos,af,ho⟩,_⟩:=h1
 refine kh.OF (V:=V') ho (by simp) rfl fun g r w hC lp hn kj=>?_
 have hb:=n5 hR hA hv (ko hh ha kj) lp
 obtain ⟨x,hx,ub⟩:=yZ hR hA hi iw hn
 obtain ⟨Dx,k1,k2,uc,hd,hr⟩:=hc x
 obtain ⟨fn,c,f1,f2,f3⟩:=hf.h
 unfold fl
 rw [GN (bA hb T3) f1 f2 f3,rh (sn hx hb) Dx,List.append_assoc,k1.eq,k2.eq]
 obtain ⟨F,Hd,⟨wF,AI,wm,AJ⟩,hS,hG⟩:=hs
 obtain ⟨G,jh,FV,Bd,fk⟩:=ub.front (sM.stay hS hG hC)
 rw [ra] at uc
 refine (uc.2 w (fun b=>Z b∨b∈G) [] (hr.sound (fun _ h=>h) (fun _ b hb=>.inr (Bd b hb)) fk hd.ho) List.nodup_nil (fun b hb=>absurd hb List.not_mem_nil)
  (fun b hb=>hb.elim (fun h=>Nat.lt_of_lt_of_le (hG.na b h) hC.size) fun h=>(jh b h).2) y hy).mono ?_
 rintro e w' ⟨v,he,Z2,F2,pj,jg⟩
 have Bf:HL (fun _=>False) w' (ps y v) F2:=xf (hw y v) pj
 have bj:=(Bf.front (Γ:=[]) (F:=[]) rfl).lt
 obtain ⟨f',dj,Dy⟩:=hV F2 w' r _ ⟨v,rfl,.inl Bf,jg.nd⟩
 refine ⟨_,he,jg.jc,f',fun b hb=>⟨(jg.low b (dj b hb)).resolve_left List.not_mem_nil,bj b (by simpa using dj b hb)⟩,Dy⟩
theorem G0 {A:LN} {g:Nat→List Nat} {b:Nat}:∀ {ms:MM},b∈A9 A g ms→∃ a∈ms,iu a.j A=true∧b∈g a.j:=by
 intro ms
 induction ms with
 | nil=>intro h; exact absurd h List.not_mem_nil
 | cons a l ih=>
  intro h
  unfold A9 at h
  cases hb:iu a.j A with
  | true=>
   rw [hb] at h
   rcases List.mem_append.1 h with h | h
   ·exact ⟨a,by simp,hb,h⟩
   ·obtain ⟨c,h1,h2⟩:=ih h; exact ⟨c,List.mem_cons_of_mem _ h1,h2⟩
  | false=>rw [hb] at h; obtain ⟨c,h1,h2⟩:=ih h; exact ⟨c,List.mem_cons_of_mem _ h1,h2⟩
theorem CR {mt i:Nat} (h:((U.set i []).all fun us=>!(us.contains l.length))=true):zV l U mt i=true:=by
 unfold zV
 simp only [List.all_eq_true,List.mem_range,Bool.or_eq_true,Bool.not_eq_true'] at h ⊢
 intro k _
 by_cases hk:k=i
 ·exact .inl (.inr (by rw [hk]; exact Nat.beq_refl i))
 ·refine .inl (.inl ?_)
  rw [List.getD_eq_getElem?_getD]
  cases hu:U[k]? with
  | none=>rfl
  | some us=>exact h us (List.mem_of_getElem? (i:=k) (by rw [List.getElem?_set_ne (fun e=>hk e.symm)]; exact hu))
theorem HO.mono {Z':Nat→Prop} (hz:∀ b,Z b→Z' b) {Δ:QE} {F:LN} (h:HO Z w Δ F):HO Z' w Δ F:=by
 induction h with
 | nil=>exact .nil
 | own h _ ih=>exact .own (h.mono hz) ih
 | rd _ ih=>exact .rd ih
 | au _ ih=>exact .au ih
theorem Mo {mt:Nat} {β V:Type} {A:LN} {as:LL} {d:Nat} {f:FuncId} {xs:List Operand} {au:Array TypeId} {ty:TI} {mo:Option β} {rt:β→V→List Value} {ps:β→V→List aw} {ops:LO} {i:Nat} {sl:LQ} {ms:MM} {fr:Fr} {hd Γ:QE} {B:Bs} {r0:NV} {w0:World} {H:LN} {y:β} (hh:mr l mt base=true) (hf:bp P f) (hv:dZ A none sl base fr)
   (hU:U.getD i []=[l.length]) (G3:((U.set i []).all fun us=>!(us.contains l.length))=true)
   (hc:∀ x:nt ms,Dw P f xs (mf A ms x++fr) hd (ri A ms x++Γ) mo rt ps) (hi:nj ms) (iw:p6 A ms=true) (hw:∀ y v,sd (ps y v)=true) (h1:q9 l mt U A (.call ⟨.value (.func f),xs.toArray,au⟩) d ty as ops i) (hy:mo=some y) (ha:cw r0 base) (hs:sM B Z hd Γ H w0) (h:km P Z l mt U r0 w0 H i sl ms) :
   Es P Z l mt U r0 w0 H i sl ms ⟨i,d,[],V,fun _ v=>n9 (rt y v),fun _=>ps y⟩:=by
 obtain ⟨S',hl,hR,hO⟩:=h
 subst hl
 refine ⟨S',rfl,hR,hO,fun V' hV=>?_⟩
 obtain ⟨hA,⟨pos,af,ho⟩,_⟩:=h1
 intro o' s' cg ec g r w hC Cv lp hn kj xl qe
 rw [ho] at cg
 cases cg
 rw [List.getElem?_append_right (Nat.le_refl _),Nat.sub_self] at ec
 cases ec
 rw [if_pos rfl]
 refine ⟨rfl,?_⟩
 obtain ⟨Mp,Mq,OJ⟩:=Cv (CR G3)
 have hb:=n5 hR hA hv (ko hh ha kj) lp
 obtain ⟨x,hx,ub⟩:=yZ hR hA hi iw hn
 obtain ⟨Dx,uc,Mr,hr⟩:=hc x
 obtain ⟨fn,c,f1,f2,f3⟩:=hf.h
 refine Calls.Gf f1 f2 f3 ?_
 rw [rh (sn hx hb) Dx]
 obtain ⟨F,Hd,⟨wF,AI,wm,AJ⟩,hS,hG⟩:=hs
 obtain ⟨G,jh,FV,Bd,fk⟩:=ub.front (sM.stay hS hG hC)
 obtain ⟨Fd,F',Ms,_,Cy⟩:=Mr.sound (wF.gw Mp)
 have dj:∀ b∈Fd,b∈H:=fun b hb=>(AI b (Cy.mem_iff.1 (List.mem_append_left _ hb))).1
 have df:=List.nodup_append.1 hG.nd
 have hblk:p7 g (U.getD S'.length [])=H:=by rw [hU]; simp [p7,Mq]
 rw [hblk]
 rw [ra] at uc
 refine (uc.2 w (fun b=>Z b∨b∈G) Fd (hr.sound (fun _ h=>h) (fun _ b hb=>.inr (Bd b hb)) fk (Ms.mono fun _ h=>.inl h)) ((Cy.nodup_iff.2 AJ).sublist (List.sublist_append_left _ _)) (fun b hb=>?_)
  (fun b hb=>hb.elim (fun h=>Nat.lt_of_lt_of_le (hG.na b h) hC.size) fun h=>(jh b h).2) y hy).mono ?_
 ·rintro (hz | hz)
  ·exact hG.apart b (List.mem_append_left _ (dj b hb)) hz
  ·rcases List.mem_append.1 (jh b hz).1 with hz | hz
   ·obtain ⟨a,YE,va,ot⟩:=G0 hz
    have h2:=OJ a.j (sr (by rw [← hA]; exact qm.1 va)).1 b ot
    have h3:=wm b (dj b hb)
    omega
   ·exact df.2.2 b (dj b hb) b hz rfl
 ·rintro e w' ⟨v,he,Z2,F2,pj,jg⟩
  have Bf:HL (fun _=>False) w' (ps y v) F2:=xf (hw y v) pj
  have bj:=(Bf.front (Γ:=[]) (F:=[]) rfl).lt
  obtain ⟨f',G4,Dy⟩:=hV F2 w' r _ ⟨v,rfl,.inl Bf,jg.nd⟩
  exact ⟨_,he,jg.jc.mono dj,f',fun b hb=>⟨(jg.low b (G4 b hb)).imp (dj b) id,bj b (by simpa using G4 b hb)⟩,Dy⟩
theorem CQ.sub {ms AH:MM} {a:gu} {t:Nat} (h:CQ ms t a AH):a∈ms∧a.j=t∧(∀ b∈AH,b∈ms)∧(AH.map (·.j)).Sublist (ms.map (·.j))∧((ms.map (·.j)).Nodup→∀ b∈AH,b.j≠t):=by
 induction h with
 | here=>exact ⟨by simp,rfl,fun b hb=>List.mem_cons_of_mem _ hb,by simp,fun hn b hb he=>by rw [List.map_cons,List.nodup_cons] at hn; exact hn.1 (by rw [← he]; exact List.mem_map_of_mem hb)⟩
 | there _ ih=>
  obtain ⟨h1,h2,h3,h4,h5⟩:=ih
  refine ⟨List.mem_cons_of_mem _ h1,h2,fun b hb=>?_,by simpa using h4,fun hn b hb=>?_⟩
  ·rcases List.mem_cons.1 hb with rfl | hb
   ·simp
   ·exact List.mem_cons_of_mem _ (h3 b hb)
  ·rw [List.map_cons,List.nodup_cons] at hn
   rcases List.mem_cons.1 hb with rfl | hb
   ·intro he
    exact hn.1 (by rw [he,← h2]; exact List.mem_map_of_mem h1)
   ·exact h5 hn.2 b hb
theorem Mt {mt:Nat} {β V:Type} {j1:Nat} {a1:gu} {A:LN} {as:LL} {d:Nat} {f:FuncId} {xs:List Operand} {au:Array TypeId} {ty:TI} {mo:Option β} {rt:β→V→List Value} {ps:β→V→List aw} {ops:LO} {i:Nat} {sl:LQ} {ms pq:MM} {fr:Fr} {hd Γ:QE} {B:Bs} {r0:NV} {w0:World} {H:LN} {y:β} (hh:mr l mt base=true) (hf:bp P f) (hv:dZ A none sl base fr)
   (hU:U.getD i []=[j1]) (E0:CQ ms j1 a1 pq) (QV:a1.src=[]) (h4:iu j1 A=true)
   (hc:∀ (q:a1.V) (x:nt pq),Dw P f xs (mf A pq x++fr) (a1.ps undef q) (ri A pq x++Γ) mo rt ps) (hi:nj pq) (iw:p6 A pq=true) (hw:∀ y v,sd (ps y v)=true) (h1:q9 l mt U A (.call ⟨.value (.func f),xs.toArray,au⟩) d ty as ops i) (hy:mo=some y) (ha:cw r0 base) (hs:sM B Z hd Γ H w0) (h:km P Z l mt U r0 w0 H i sl ms) :
   Es P Z l mt U r0 w0 H i sl pq ⟨i,d,[],V,fun _ v=>n9 (rt y v),fun _=>ps y⟩:=by
 obtain ⟨S',hl,T4,hO⟩:=h
 subst hl
 obtain ⟨m1,m2,m3,m4,m5⟩:=E0.sub
 have hR:=T4.sub m3 m4
 refine ⟨S',rfl,hR,hO,fun V' hV=>?_⟩
 obtain ⟨hA,⟨pos,af,ho⟩,_⟩:=h1
 intro o' s' cg ec g r w hC Cv lp hn kj xl qe
 rw [ho] at cg
 cases cg
 rw [List.getElem?_append_right (Nat.le_refl _),Nat.sub_self] at ec
 cases ec
 rw [if_pos rfl]
 refine ⟨rfl,?_⟩
 have Ev:=sr (by rw [← hA]; exact qm.1 h4)
 have hb:=n5 hR hA hv (ko hh ha kj) lp
 obtain ⟨x,hx,ub⟩:=yZ hR hA hi iw hn
 obtain ⟨q,_,Cz,YF⟩:=T4.GW m1 (hn a1.j (by rw [m2]; exact Ev.2))
 have vM:wk a1 r=undef:=by unfold wk; rw [QV]; rfl
 rw [vM,m2] at Cz
 rw [m2] at YF
 obtain ⟨Dx,uc,Mr,hr⟩:=hc q x
 obtain ⟨fn,c,f1,f2,f3⟩:=hf.h
 refine Calls.Gf f1 f2 f3 ?_
 rw [rh (sn hx hb) Dx]
 obtain ⟨F,Hd,⟨wF,AI,wm,AJ⟩,hS,hG⟩:=hs
 have T5:=sM.stay hS hG hC
 obtain ⟨G,jh,FV,Bd,fk⟩:=ub.front T5
 obtain ⟨Fo,Fr,YG,Dz,hq4⟩:=Cz.all
 have hSq:SA (fun b=>Z b∨b∈Fr) w (a1.ps undef q) [] Fo:=by
  have:=hq4.front (Γ:=[]) (F:=[]) rfl
  simpa using this
 have YH:=List.nodup_append.1 (YG ▸ YF)
 obtain ⟨Fd,F',Ms,_,Cy⟩:=Mr.sound hSq
 have QY:∀ b∈Fd,b∈Fo:=fun b hb=>Cy.mem_iff.1 (List.mem_append_left _ hb)
 have dj:∀ b∈Fd,b∈g j1:=fun b hb=>by rw [YG]; exact List.mem_append_left _ (QY b hb)
 have df:=List.nodup_append.1 hG.nd
 have hblk:p7 g (U.getD S'.length [])=g j1:=by rw [hU]; simp [p7]
 rw [hblk]
 rw [ra] at uc
 have JE:∀ b∈g j1,w0.heap.size≤b∨b∈H:=fun b hb=>(qe j1 Ev.1 b hb).1
 refine (uc.2 w (fun b=>Z b∨b∈Fr++G) Fd (hr.sound (fun _ h=>h) (fun _ b hb=>.inr (List.mem_append_right _ (Bd b hb))) (fk.mono (fun _ h=>h.imp id fun h=>List.mem_append_right _ h) fun _ h=>h) (Ms.mono fun _ h=>h.imp id fun h=>List.mem_append_left _ h)) ((Cy.nodup_iff.2 YH.1).sublist (List.sublist_append_left _ _)) (fun b hb=>?_)
  (fun b hb=>hb.elim (fun h=>Nat.lt_of_lt_of_le (hG.na b h) hC.size) fun h=>(List.mem_append.1 h).elim (Dz b) fun h=>(jh b h).2) y hy).mono ?_
 ·rintro (hz | hz)
  ·rcases JE b (dj b hb) with h | h
   ·have:=hG.na b hz; omega
   ·exact hG.apart b (List.mem_append_left _ h) hz
  ·rcases List.mem_append.1 hz with hz | hz
   ·exact YH.2.2 b (QY b hb) b hz rfl
   rcases List.mem_append.1 (jh b hz).1 with hz | hz
   ·obtain ⟨a,YE,va,ot⟩:=G0 hz
    exact xl a.j (sr (by rw [← hA]; exact qm.1 va)).1 j1 Ev.1 (m5 T4.d a YE) b ot (dj b hb)
   ·rcases JE b (dj b hb) with h | h
    ·have:=hS.lt b hz; omega
    ·exact df.2.2 b h b hz rfl
 ·rintro e w' ⟨v,he,Z2,F2,pj,jg⟩
  have Bf:HL (fun _=>False) w' (ps y v) F2:=xf (hw y v) pj
  have bj:=(Bf.front (Γ:=[]) (F:=[]) rfl).lt
  obtain ⟨f',G4,Dy⟩:=hV F2 w' r _ ⟨v,rfl,.inl Bf,jg.nd⟩
  exact ⟨_,he,jg.jc.mono dj,f',fun b hb=>⟨(jg.low b (G4 b hb)).imp (dj b) id,bj b (by simpa using G4 b hb)⟩,Dy⟩
theorem SA.app {Γ Γ':QE} {F F':LN}:∀ {cur:LN},SA Z w Γ' cur F'→SA Z w Γ [] F→SA Z w (Γ'++Γ) cur (F'++F):=by
 induction Γ' generalizing F' with
 | nil=>intro cur h hs; cases h; exact hs.any
 | cons e Γ' ih=>
  intro cur h hs
  cases e with
  | own T v x=>obtain ⟨f,F1,rfl,h1,h2⟩:=h; exact ⟨f,F1++F,by rw [List.append_assoc],h1,ih h2 hs⟩
  | om e E v xs=>obtain ⟨f,F1,rfl,h1,h2⟩:=h; exact ⟨f,F1++F,by rw [List.append_assoc],h1,ih h2 hs⟩
  | row b cs e=>obtain ⟨f,F1,rfl,h1,h2⟩:=h; exact ⟨f,F1++F,by rw [List.append_assoc],h1,ih h2 hs⟩
  | gn e E v xs j u=>obtain ⟨f,F1,rfl,h1,h2⟩:=h; exact ⟨f,F1++F,by rw [List.append_assoc],h1,ih h2 hs⟩
  | rd o T v x=>exact ⟨h.1,ih h.2 hs⟩
  | ad o1 o2 v j T x=>exact ⟨h.1,ih h.2 hs⟩
  | au p cs=>exact ⟨h.1,ih h.2 hs⟩
  | hd v j u=>exact ⟨h.1,ih h.2 hs⟩
open Classical in
theorem rdN {w':World} {Zc Z2:Nat→Prop} {Fd F2 K:LN} {Δ:QE} (hl:HL Z2 w' Δ F2) (hg:Gd ⟨w,Zc,Fd⟩ Z2 F2 w') (hz:∀ b,Zc b→Z b∨b∈K) (hK:∀ b∈Fd,b∈K) :
  ∃ f,(∀ b∈f,(b∈K∨w.heap.size≤b)∧b < w'.heap.size)∧HN Z w' Δ f∧f.Nodup:=by
 have bj:=(hl.front (Γ:=[]) (F:=[]) rfl).lt
 by_cases ho:sd Δ=true
 ·exact ⟨F2,fun b hb=>⟨(hg.low b hb).imp (hK b) id,bj b (by simpa using hb)⟩,.inl (xf ho hl),hg.nd⟩
 ·let Fr:=(List.range w'.heap.size).filter fun b=>decide (Z2 b∧(b∈K∨w.heap.size≤b))
  have Dz:∀ b,b∈Fr↔b < w'.heap.size∧Z2 b∧(b∈K∨w.heap.size≤b):=fun b=>by simp [Fr]
  refine ⟨F2++Fr,fun b hb=>?_,.inr ⟨F2,Fr,rfl,⟨by simpa using ho,fun b hb=>((Dz b).1 hb).1⟩,hl.mono fun b hb=>?_⟩,?_⟩
  ·rcases List.mem_append.1 hb with hb | hb
   ·exact ⟨(hg.low b hb).imp (hK b) id,bj b (by simpa using hb)⟩
   ·exact ⟨((Dz b).1 hb).2.2,((Dz b).1 hb).1⟩
  ·rcases hg.tA b hb with h | h | h
   ·rcases hz b h with h | h
    ·exact .inl h
    ·exact .inr ((Dz b).2 ⟨hg.na b hb,hb,.inl h⟩)
   ·exact .inr ((Dz b).2 ⟨hg.na b hb,hb,.inl (hK b h)⟩)
   ·exact .inr ((Dz b).2 ⟨hg.na b hb,hb,.inr h⟩)
  ·refine vN hg.nd (List.nodup_range.filter _) fun b hb hf=>hg.apart b hb ((Dz b).1 hf).2.1
theorem KB {mt:Nat} {β V:Type} {A:LN} {as:LL} {d:Nat} {f:FuncId} {xs:List Operand} {au:Array TypeId} {ty:TI} {mo:Option β} {rt:β→V→List Value} {ps:β→V→List aw} {ops:LO} {i:Nat} {sl:LQ} {ms:MM} {fr:Fr} {hd Γ:QE} {B:Bs} {r0:NV} {w0:World} {H:LN} {y:β} (hh:mr l mt base=true) (hf:bp P f) (hv:dZ A none sl base fr)
   (hU:U.getD i []=[l.length]) (G3:((U.set i []).all fun us=>!(us.contains l.length))=true)
   (hc:∀ x:nt ms,GU P f xs (mf A ms x++fr) hd Γ mo rt ps) (hi:nj ms) (iw:p6 A ms=true) (h1:q9 l mt U A (.call ⟨.value (.func f),xs.toArray,au⟩) d ty as ops i) (hy:mo=some y) (ha:cw r0 base) (hs:sM B Z hd Γ H w0) (h:km P Z l mt U r0 w0 H i sl ms) :
   Es P Z l mt U r0 w0 H i sl ms ⟨i,d,[],V,fun _ v=>n9 (rt y v),fun _=>ps y⟩:=by
 obtain ⟨S',hl,hR,hO⟩:=h
 subst hl
 refine ⟨S',rfl,hR,hO,fun V' hV=>?_⟩
 obtain ⟨hA,⟨pos,af,ho⟩,_⟩:=h1
 intro o' s' cg ec g r w hC Cv lp hn kj xl qe
 rw [ho] at cg
 cases cg
 rw [List.getElem?_append_right (Nat.le_refl _),Nat.sub_self] at ec
 cases ec
 rw [if_pos rfl]
 refine ⟨rfl,?_⟩
 obtain ⟨Mp,Mq,OJ⟩:=Cv (CR G3)
 have hb:=n5 hR hA hv (ko hh ha kj) lp
 obtain ⟨x,hx,ub⟩:=yZ hR hA hi iw hn
 obtain ⟨Dx,uc,Mr,hr⟩:=hc x
 obtain ⟨fn,c,f1,f2,f3⟩:=hf.h
 refine Calls.Gf f1 f2 f3 ?_
 rw [rh (sn hx hb) Dx]
 obtain ⟨F,Hd,⟨wF,AI,wm,AJ⟩,hS,hG⟩:=hs
 have T5:=sM.stay hS hG hC
 obtain ⟨Fd,F',Ms,hSr,Cy⟩:=Mr.sound (wF.gw Mp)
 have dj:∀ b∈Fd,b∈H:=fun b hb=>(AI b (Cy.mem_iff.1 (List.mem_append_left _ hb))).1
 have df:=List.nodup_append.1 hG.nd
 have hblk:p7 g (U.getD S'.length [])=H:=by rw [hU]; simp [p7,Mq]
 rw [hblk]
 rw [ra] at uc
 refine (uc.2 w Z Fd (hr.sound (fun _ h=>h) (fun h=>nomatch h) (hSr.app T5) Ms) ((Cy.nodup_iff.2 AJ).sublist (List.sublist_append_left _ _)) (fun b hb=>hG.apart b (List.mem_append_left _ (dj b hb)))
  (fun b h=>Nat.lt_of_lt_of_le (hG.na b h) hC.size) y hy).mono ?_
 rintro e w' ⟨v,he,Z2,F2,pj,jg⟩
 obtain ⟨f2,k1,k2,k3⟩:=rdN (Z:=Z) (K:=H) pj jg (fun _ h=>.inl h) dj
 obtain ⟨f',G4,Dy⟩:=hV f2 w' r _ ⟨v,rfl,k2,k3⟩
 exact ⟨_,he,jg.jc.mono dj,f',fun b hb=>k1 b (G4 b hb),Dy⟩
theorem km.aah {mt:Nat} {A:LN} {op:Op} {d:Nat} {ty:TI} {as:LL} {ops:LO} {i:Nat} {sl:LQ} {ms:MM} {r0:NV} {w0:World} {H:LN} {u:Value} (h:km P Z l mt U r0 w0 H i sl ms) (hh:mr l mt base=true) (ha:cw r0 base) (h1:q9 l mt U A op d ty as ops i)
  (hV:(U.zipIdx.all fun p=>!(p.1.contains l.length) || ((cf l).getD p.2 []).contains i)=true) (hv:dZ A none sl base fr) (hq:∀ r,cw r fr→∀ pos af g w,an [] w0 w→(execOp (ev r) ⟨some d,op,ty,pos,af,g⟩).run P w = .ok (.value u) w):km P Z l mt U r0 w0 H (i+1) ((i,d,u) :: sl) ms:=by
 obtain ⟨S',hl,hR,hO⟩:=h
 subst hl
 obtain ⟨hA,⟨pos,af,ho⟩,_⟩:=h1
 refine ⟨S'++[sV u],by simp,hR.val (by unfold bx; rw [ho]; rfl),fun j hj=>?_⟩
 by_cases h2:j < S'.length
 ·exact kh.more (hO j h2) h2
 ·obtain rfl:j=S'.length:=by omega
  have hN:zV l U mt S'.length=true:=by
   unfold zV
   simp only [List.all_eq_true,List.mem_range,Bool.or_eq_true,Bool.not_eq_true'] at hV ⊢
   intro k _
   rw [List.getD_eq_getElem?_getD]
   cases hu:U[k]? with
   | none=>exact .inl (.inl rfl)
   | some us=>
    have hm:(us,k)∈U.zipIdx:=by rw [List.mem_zipIdx_iff_getElem?]; exact hu
    exact (hV _ hm).imp .inl id
  intro o' s' cg ec g r w hC Cv lp hn kj xl qe
  rw [ho] at cg
  cases cg
  rw [List.getElem?_append_right (Nat.le_refl _),Nat.sub_self] at ec
  cases ec
  rw [if_pos rfl]
  refine ⟨rfl,?_⟩
  unfold fl
  rw [hq r (n5 hR hA hv (ko hh ha kj) lp) _ _ _ w (Cv hN).1]
  exact ⟨an.refl _ _,[],fun b hb=>absurd hb List.not_mem_nil,rfl⟩
theorem Sd {mt:Nat} {hd iz:QE} {α:Type} {t e e' et:TI} {E E':ah α} {z0:α} {bt t1 t2 j2:Nat} {v u yv:Value} {j:Int} {y:α} {z:List α} {xs:List (List α)} {o1 o2:Bool} {Γx:QE} {GV:MM} {A:LN} {as:LL} {d:Nat} {ty:TI} {ops:LO} {i:Nat} {sl:LQ} {ms:MM} {Γ:QE} {B:Bs} {r0:NV} {w0:World} {H:LN} (hh:mr l mt base=true) (ha:cw r0 base) (hT:tD P t α e E z0 bt) (hU:U.getD i []=[l.length])
   (G3:((U.set i []).all fun us=>!(us.contains l.length))=true) (hv:dZ A none sl base fr) (hs:look fr t1=some u) (h2:vp ms t2 ⟨j2,t2,[],Nat,fun _ b=>.slice (some ⟨b,0,none⟩) 1 1,fun _ b=>[.row b [yv] et]⟩ GV) (h5:iu j2 A=true) (hl:Loc hd u (.row v j)) (hz:qy hd u o1 o2 E' z tV Γx) (h1:dp hd (.own (aL e' (aL e E)) v xs) iz) (hr:RT (aL e E) (aB E')) (hy:Cu [] E yv y [])
   (hf:fits bt (z.length+1)=some ()) (GJ:q9 l mt U A (.call ⟨.builtin .append,#[.tmp t1,.tmp t2],#[t,t]⟩) d ty as ops i) (ou:sM B Z hd Γ H w0) (h:km P Z l mt U r0 w0 H i sl ms) :
  km P Z l mt U r0 w0 H (i+1) sl (⟨i,d,[],Value,fun _ v'=>v',fun _ v'=>[.own (aL e E) v' (z++[y]),.own (uF e' (aL e E) j.toNat) v xs]⟩ :: ms)∧sM B Z iz Γ H w0:=by
 obtain ⟨F,Hd,⟨wF,AI,wm,AJ⟩,hS,hG⟩:=ou
 obtain ⟨fm0,F10,T6,_,aai⟩:=h1.sound wF
 refine ⟨?_,F,F10,⟨aai,fun b hb=>AI b (T6.mem_iff.1 (List.mem_append_right _ hb)),wm,(T6.nodup_iff.2 AJ).sublist (List.sublist_append_right _ _)⟩,hS,hG⟩
 obtain ⟨S',Dr,hR,hO⟩:=h
 subst Dr
 obtain ⟨hA,⟨pos,af,ho⟩,_⟩:=GJ
 obtain ⟨b1,b2⟩:=qd hf
 obtain ⟨q1,q2,ii,zz,q3,q4,q5,q6,q7,_⟩:=hT.h
 obtain ⟨n1,_,_,_⟩:=h2.sub
 refine ⟨S'++[⟨true,MV Z ⟨S'.length,d,[],Value,fun _ v'=>v',fun _ v'=>[.own (aL e E) v' (z++[y]),.own (uF e' (aL e E) j.toNat) v xs]⟩⟩],by simp,hR.mem rfl (by unfold bx; rw [ho]; rfl) (by intro t h; cases h),fun k hk=>?_⟩
 by_cases bj:k < S'.length
 ·exact kh.more (hO k bj) bj
 ·obtain rfl:k=S'.length:=by omega
  intro o' s' cg ec g r w hC Cv lp hn kj xl qe
  rw [ho] at cg
  cases cg
  rw [List.getElem?_append_right (Nat.le_refl _),Nat.sub_self] at ec
  cases ec
  rw [if_pos rfl]
  refine ⟨rfl,?_⟩
  obtain ⟨Mp,Mq,OJ⟩:=Cv (CR G3)
  have T8:=wF.gw Mp
  obtain ⟨j0,j1,j4⟩:=Loc.row hl rfl T8
  obtain ⟨du,_,⟨⟨gz,tu,_⟩,_⟩,_⟩:=hz.sound T8
  obtain ⟨fm,F1,ry,YI,_⟩:=h1.sound T8
  obtain ⟨ky,F2,nr,T9,_⟩:=hy.sound (Z:=Z) (w:=w) (F:=[]) rfl
  have Ua:ky=[]:=by
   cases ky with
   | nil=>rfl
   | cons a l=>exact absurd (nr.mem_iff.1 (List.mem_append_left _ List.mem_cons_self)) List.not_mem_nil
  subst Ua
  rw [tK YI] at j1
  obtain ⟨k,gm,a1,a2,a3⟩:=GQ rfl YI (List.getElem?_eq_getElem j1) j4
  have Ub:xs[j.toNat]=z:=hr.u4 (hr.le.le a1) tu
  rw [Ub] at a1
  have aaj:(k++gm).Nodup:=a2.nodup_iff.2 ((ry.nodup_iff.2 AJ).sublist (List.sublist_append_left _ _))
  have GG:=List.nodup_append.1 aaj
  have KC:∀ b∈k++gm,b∈H:=fun b hb=>(AI b (ry.mem_iff.1 (List.mem_append_left _ (a2.mem_iff.1 hb)))).1
  obtain ⟨b,c1,c2,c3⟩:=hR.GW n1 (hn j2 (sr (by rw [← hA]; exact qm.1 h5)).2)
  simp only at c1 c2
  replace c2:=c2.own rfl
  generalize E0:g j2=G1 at c2 c3
  cases c2 with
  | fact h _=>exact h.elim
  | @own _ ff F0 _ XH zR=>
   cases zR
   obtain ⟨rfl,bh⟩:=XH
   have hb:=n5 hR hA hv (ko hh ha kj) lp
   obtain ⟨v',w',f',j9,GX,dy,dj,G5⟩:=qf (E:=E) (d:=some d) (ty:=ty) (pos:=pos) (af:=af) (g:=none) (r:=r) (s:=.tmp t1) (x:=.tmp t2) (k:=[]) (ys:=[y]) (news:=[yv]) q1 q3 q4 (by rw [q5,q2]) (by rw [cells_one q6,q2]; rfl) (hb _ _ hs) a1 GG.1 c1 (fun i u hi=>bh.at i u hi) (su T9) (fun _ h=>absurd h List.not_mem_nil) (by simp) (by rw [q7]; exact b1) b2
   unfold fl
   rw [j9]
   have hblk:p7 g (U.getD S'.length [])=H:=by rw [hU]; simp [p7,Mq]
   rw [hblk]
   have YJ:(uF e' (aL e E) j.toNat).rep w'.heap [v] xs gm:=ah.ee _ a3 GX fun b hb hk=>GG.2.2 b hk b hb rfl
   refine ⟨GX.mono fun b hb=>KC b (List.mem_append_left _ hb),f'++gm,fun b hb=>?_,v',rfl,?_,?_⟩
   ·rcases List.mem_append.1 hb with hb | hb
    ·refine ⟨?_,ah.lt _ dy b hb⟩
     rcases dj b hb with h | h | h
     ·exact .inl (KC b (List.mem_append_left _ h))
     ·exact absurd h List.not_mem_nil
     ·exact .inr h
    ·exact ⟨.inl (KC b (List.mem_append_right _ hb)),ah.lt _ YJ b hb⟩
   ·have:=HL.own (Z:=fun _=>False) (e:=.own (aL e E) v' (z++[y])) (f:=f') dy (HL.own (e:=.own (uF e' (aL e E) j.toNat) v xs) (f:=gm) YJ .nil)
    exact .inl (by simpa using this)
   ·refine vN (G5 List.nodup_nil) GG.2.1 fun b hb hm=>?_
    rcases dj b hb with h | h | h
    ·exact GG.2.2 b h b hm rfl
    ·exact absurd h List.not_mem_nil
    ·have:=ah.lt _ a3 b hm; omega
end
end Go.Dk
namespace Go.Dk
open Go Go.Li
section
variable {R S:Type} {P:Program} {cx:Cx R} {K:dh R S} {l tail:LO} {base fr:Fr} {U:LL} {hd:QE}
def KD (P:Program) (cx:Cx R) (K:dh R S) (l:LO) (mt:Nat) (U:LL) (hd:QE) (id:Nat) (base:Fr):JA R S→Prop
 | .a as ops i sl ms Γ m=>zQ l mt U as ops i→Fin P cx K l mt U hd id base i sl ms Γ m
 | .o A op d ty as ops i sl ms Γ m=>q9 l mt U A op d ty as ops i→Fin P cx K l mt U hd id base i sl ms Γ m
 | .oc us f xs au A d ty as ops i sl ms Γ m=>U.getD i []=us→q9 l mt U A (.call ⟨.value (.func f),xs.toArray,au⟩) d ty as ops i→Fin P cx K l mt U hd id base i sl ms Γ m
 | .os A op ty as ops i sl ms Γ m=>TY l mt U A op ty as ops i→Fin P cx K l mt U hd id base i sl ms Γ m
 | .ow _ A op d ty as ops i sl ms Γ m=>q9 l mt U A op d ty as ops i→Fin P cx K l mt U hd id base i sl ms Γ m
 | .ix _ v fr x y t A d ty as ops i sl ms Γ m=>dZ A none sl base fr→bq fr x=some v→q9 l mt U A (.indexAddr t x y) d ty as ops i→Fin P cx K l mt U hd id base i sl ms Γ m
 | .lb _ v j fr t x A d ty as ops i sl ms Γ m=>dZ A none sl base fr→bq fr x=some (.pointer (some (dc v 1 j)))→NA P t→q9 l mt U A (.load t x) d ty as ops i→Fin P cx K l mt U hd id base i sl ms Γ m
 | .ap us t1 t2 t A d ty as ops i sl ms Γ m=>U.getD i []=us→q9 l mt U A (.call ⟨.builtin .append,#[.tmp t1,.tmp t2],#[t,t]⟩) d ty as ops i→Fin P cx K l mt U hd id base i sl ms Γ m
 | .la fr a lk t x A d ty as ops i sl ms Γ m=>dZ A none sl base fr→bq fr x=some (.pointer (some a))→(match lk with | none=>NA P t | some n=>AG P t n)→q9 l mt U A (.load t x) d ty as ops i→Fin P cx K l mt U hd id base i sl ms Γ m
 | .ld E z fr a t x A d ty as ops i sl ms Γ m=>dZ A none sl base fr→bq fr x=some (.pointer (some a))→NA P t→q9 l mt U A (.load t x) d ty as ops i→
   ∀ B o,m=some o→∀ r0 w0 H Z,cw r0 base→sM B Z hd Γ H w0→(∃ u,∀ w,an H w0 w→w.cell? a=some u∧∃ g,E.rep w.heap [u] z g)→km P Z l mt U r0 w0 H i sl ms→mg P cx.n l (mc P cx B K o) r0 w0
 | .p Δ as ops i sl ms Γ m=>zQ l mt U as ops i→Fin P cx K l mt U hd id base i sl ms (Δ.reverse++Γ) m
 | .cr u ps d as ops i sl ms Γ m=>zQ l mt U as ops (i+1)→bx l i=some d→
   ∀ B o,m=some o→∀ r0 w0 H Z,cw r0 base→sM B Z hd Γ H w0→Es P Z l mt U r0 w0 H i sl ms ⟨i,d,[],_,fun _=>u,fun _=>ps⟩→mg P cx.n l (mc P cx B K o) r0 w0
theorem ym {w:World} {e n:Nat} {v:Value} {us:List (List Value)} {f:LN} {j:Int} {c:LV} (hO:(aL e (ij n)).rep w.heap [v] us f) (hj:0≤j) (hu:us[j.toNat]? = some c):c.length=n∧(∀ u∈c,u.oneCell'=true)∧∀ i u,c[i]? = some u→w.cell? ((dc v n j).add i)=some u:=by
 obtain ⟨_,_,cs,f1,⟨rfl,h1,h2,_⟩,_,h3⟩:=vm (((Le.own (Le.refl (ij n)) e).le) hO) j hj hu
 exact ⟨h1,h2,h3⟩
theorem AD.sound {tq:Bool} {mt id:Nat} (hh:mr l mt base=true)
  (zR:∀ hd i sl ms Γ m,CP ms=true→Er U sl ms=true→(∀ x:nt ms,D P cx (.p (A8 sl (mF ms x)) (Ep ms x) base Γ fun fr Γ=>.tg tq (CN tail) l tail K Γ fr m))→KD P cx K l mt U hd id base (.a [] [] i sl ms Γ m))
  {J:JA R S} (h:AD tq P cx K l tail base U hd J):KD P cx K l mt U hd id base J:=by
 have stay:∀ {B:Bs} {Z:Nat→Prop} {hd Γ:QE} {H:LN} {w0:World},sM B Z hd Γ H w0→∃ F Hd,(SA Z w0 hd [] Hd∧(∀ b∈Hd,b∈H∧b < w0.heap.size)∧(∀ b∈H,b < w0.heap.size)∧Hd.Nodup)∧SA Z w0 Γ [] F∧Gd B Z (H++F) w0∧∀ w,an H w0 w→SA Z w Γ [] F:=by
  rintro B Z hd Γ H w0 ⟨F,Hd,h1,h2,h3⟩
  exact ⟨F,Hd,h1,h2,h3,fun w hC=>sM.stay h2 h3 hC⟩
 induction h with
 | nil hs he h=>exact zR _ _ _ _ _ _ hs he h
 | cons _ ih=>exact fun h=>ih h.cons
 | Kz _ ih=>exact fun h=>ih h.Kz
 | Tz h1 hv hy hc hn ec ho h4 h6 _ ih=>
  rename_i ht _
  intro h B o cg r0 w0 H Z ha hs hp
  obtain ⟨F,_,_,_,_,hK⟩:=stay hs
  exact ih h.n B o cg r0 w0 H Z ha hs (R5 hh ha ht h1 hv hy hc hn ec ho h4 h6 hK h hp)
 | ixs hv hx _ _ ih=>exact fun h1=>ih hv hx h1
 | @aab hd α A as d x y v k j t ty o1 o2 E xs ops i sl ms fr Γ iz f ht hy hr hE _ ih=>
  intro hv hx h1 B o ho r0 w0 H Z ha hs hp
  obtain ⟨z,hz,ho⟩:=bind_some ho
  replace hz:=qk hz
  obtain ⟨e,ii,q1,q2,q3⟩:=ht.h
  obtain ⟨F,Hd,⟨hL,Mu⟩,hS,hG,hK⟩:=stay hs
  obtain ⟨du,_,⟨⟨n,hn,_⟩,Mc⟩,vl⟩:=(hr z).sound hL
  obtain ⟨⟨a,c,nz⟩,bj,_⟩:=vm hn j hz.1 hz.2
  refine ih z h1.n B o ho r0 w0 H Z ha ⟨F,Hd,⟨vl (Mc hE j z hz.1 hz.2),Mu⟩,hS,hG⟩ (hp.val hh ha h1 hv fun r fq _ _ _ w hC=>?_)
  rw [ll q1 q2 ((bA fq hx).trans nz) (bA fq hy) hz.1 (by omega),q3,nz]
  rfl
 | @idx hd α A as d x y v k j t ty o1 o2 E xs ops i sl ms fr Γ Γ' f ht hy hr hE _ ih=>
  intro hv hx h1 B o ho r0 w0 H Z ha hs hp
  obtain ⟨z,hz,ho⟩:=bind_some ho
  replace hz:=qk hz
  obtain ⟨F,Hd,hL,hS,hG,hK⟩:=stay hs
  obtain ⟨du,_,⟨⟨n,hn,_⟩,Mc⟩,vl⟩:=(hr z).sound hS
  refine ih z h1.n B o ho r0 w0 H Z ha ⟨F,Hd,hL,vl (Mc hE j z hz.1 hz.2),hG⟩ (hp.val hh ha h1 hv fun r fq _ _ _ w hC=>?_)
  obtain ⟨_,_,⟨⟨n',uA,_⟩,_⟩,_⟩:=(hr z).sound (hK w hC)
  exact Ix ht.h uA hz (bA fq hx) (bA fq hy) hE w (an.refl _ _)
 | pz _ ih=>exact ih
 | @pe hd e Δ as ops i sl ms Γ m _ ih=>
  intro h1
  have h2:=ih h1
  have h3:(e :: Δ).reverse++Γ=Δ.reverse++e :: Γ:=by rw [List.reverse_cons,List.append_assoc]; rfl
  rw [h3]
  exact h2
 | @Gz hd α V Sc cl en A as d n x y v xs k j t ty ops i sl ms fr Γ Γx f ht hy hr qz hn _ ih=>
  intro hv hx hA B o ho r0 w0 H Z ha hs hp
  replace qz:SO Sc V cl en:=by cases qz; assumption
  obtain ⟨z,hz,ho⟩:=bind_some ho
  replace hz:=qk hz
  obtain ⟨e,i',h1,h2,h3⟩:=ht.h
  obtain ⟨F,Hd,hL,hS,hG,hK⟩:=stay hs
  obtain ⟨du,_,⟨⟨f0,E7,u7⟩,_⟩,_⟩:=hr.sound hS
  have hZ:∀ b∈f0,Z b:=fun b hb=>(u7 b hb).elim (fun h=>h) (fun h=>h)
  obtain ⟨⟨a,c,nz⟩,bj,cs,f1,dy,Me,j4⟩:=vm E7 j hz.1 hz.2
  have uA:(iy Sc).size=n:=hn
  rw [uA] at j4
  obtain ⟨u,rfl,sS⟩:=qz.op dy.2
  have hblk:Z (dc v n j).block:=by
   obtain ⟨base,cap,nz,fq⟩:=E7
   rcases fq with ⟨rfl,_⟩ | ⟨b,off,cr,e',fz,f',rfl,_,rfl,_⟩
   ·simp at bj; omega
   ·obtain rfl:v = .slice (some ⟨b,off,none⟩) xs.length cap:=by simpa using nz
    have:(dc (.slice (some ⟨b,off,none⟩) xs.length cap) n j).block=b:=by unfold dc; rw [vK]
    rw [this]; exact hZ b (by simp)
  have GI:fact Z w0 [] (.au (dc v n j) (cl z u)):=⟨fun i u' hi=>j4 i u' hi,fun _=>hblk⟩
  have dw:HL Z w0 (.au (dc v n j) (cl z u) :: en z u) []:=.fact GI (vj (sS Z fun b hb=>hZ b (Me b hb)))
  obtain ⟨F',wE,fk⟩:=dw.build hS
  refine ih z u hA.n B o ho r0 w0 H Z ha ⟨F',Hd,hL,fk,hG.perm (List.Perm.append_left H (by simpa using wE))⟩ (hp.val hh ha hA hv fun r fq _ _ _ w hC=>?_)
  rw [ll h1 h2 ((bA fq hx).trans nz) (bA fq hy) hz.1 (by omega),h3,nz]
  rfl
 | @TV hd α V Sc cl en A as d n e bt x y v us xs k j t ty ops i sl ms fr Γ Γ1 f ht hy h1 hg qz _ ih=>
  intro hv hx hA B o ho r0 w0 H Z ha hs hp
  replace qz:SO Sc V cl en:=by cases qz; assumption
  obtain ⟨z,hz,ho⟩:=bind_some ho
  replace hz:=qk hz
  obtain ⟨q1,i',_,q2,_,_,q3,_⟩:=ht.h
  obtain ⟨F,Hd,hL,hS,hG,hK⟩:=stay hs
  obtain ⟨f0,F1,_,hO,_⟩:=h1.sound hS
  obtain ⟨g0,hk,tu⟩:=hg.rd hS []
  obtain ⟨c,g1,e1,e2,e3⟩:=Dj j.toNat hk.2.1 hz.2
  obtain ⟨u,rfl,sS⟩:=qz.op e2
  have hlen:us.length=xs.length:=yW hk.2.1
  have bj:j.toNat < xs.length:=(List.getElem?_eq_some_iff.1 hz.2).1
  have nz:∃ a c,v = .slice (some a) us.length c:=by
   obtain ⟨b0,cap,hv,hr⟩:=hO
   obtain rfl:v = .slice b0 us.length cap:=by simpa using hv
   rcases hr with ⟨_,_,rfl,_⟩ | ⟨b,cur,f',rfl,_⟩
   ·rw [← hlen] at bj; simp at bj
   ·exact ⟨_,_,rfl⟩
  obtain ⟨a,c',rfl⟩:=nz
  have dw:HL Z w0 (.rd false (AB us j) (.bool true) (cl z u) :: en z u) []:=.fact ⟨[],⟨rfl,⟨hz.1,e1⟩,rfl⟩,fun _ h=>absurd h List.not_mem_nil⟩ (vj (sS Z fun b hb=>tu b (e3 b hb)))
  obtain ⟨F',wE,fk⟩:=dw.build hS
  refine ih z u hA.n B o ho r0 w0 H Z ha ⟨F',Hd,hL,fk,hG.perm (List.Perm.append_left H (by simpa using wE))⟩ (hp.val hh ha hA hv fun r fq _ _ _ w hC=>?_)
  rw [ll q1 q2 (bA fq hx) (bA fq hy) hz.1 (by omega),q3]
  rfl
 | @YA hd A as d n e off x v u us j cs t ty ops i sl ms fr Γ Γ1 m h1 sT hc _ ih=>
  intro hv hx ht hA B o ho r0 w0 H Z ha hs hp
  obtain ⟨F,_,_,hS,_,hK⟩:=stay hs
  refine ih hA.n B o ho r0 w0 H Z ha hs (hp.val hh ha hA hv fun r hr _ _ _ w hC=>?_)
  obtain ⟨f,F1,_,hO,_⟩:=h1.sound (hK w hC)
  obtain ⟨_,⟨_,⟨hj,hu⟩,_⟩,_⟩:=sT.rd (hK w hC) []
  exact Ld ht ((ym hO hj hu).2.2 off u hc) (bA hr hx) w (an.refl _ _)
 | @TW hd A as d n e x v u us j cs t ty ops i sl ms fr Γ Γ1 m h1 sT hc _ ih=>
  intro hv hx ht hA B o ho r0 w0 H Z ha hs hp
  obtain ⟨F,_,_,hS,_,hK⟩:=stay hs
  refine ih hA.n B o ho r0 w0 H Z ha hs (hp.val hh ha hA hv fun r hr _ _ _ w hC=>?_)
  obtain ⟨f,F1,_,hO,_⟩:=h1.sound (hK w hC)
  obtain ⟨_,⟨_,⟨hj,hu⟩,_⟩,_⟩:=sT.rd (hK w hC) []
  exact Ld ht ((ym hO hj hu).2.2 0 u hc) (bA hr hx) w (an.refl _ _)
 | load hv hx _ ih=>rename_i ht _; exact fun h1=>ih hv hx ht.h h1
 | lsw _ _ ih=>exact fun hv hx ht h1=>ih hv hx ht h1
 | @aac hd α A as d x v j E z o' t ty ops i sl ms fr Γ TU iz m hV h Du _ ih=>
  intro hv hx ht h1 B o ho r0 w0 H Z ha hs hp
  obtain ⟨F,Hd,⟨hL,Mu⟩,hS,hG,hK⟩:=stay hs
  obtain ⟨_,⟨u,k,h3,h4,h5⟩,_⟩:=(h (.bool true)).sound hL
  obtain ⟨du,⟨u',k',YK,h5',h6⟩,vl⟩:=(h u).sound hL
  rw [h3] at YK
  cases YK
  exact ih u h1.n B o ho r0 w0 H Z ha ⟨F,Hd,⟨(Du u).sound h3 (vl ⟨k',h5',h6⟩),Mu⟩,hS,hG⟩ (hp.aah hh ha h1 hV hv fun r hr _ _ _ w hC=>Ld ht h3 (bA hr hx) w hC)
 | @Tt hd α A as d x v j o E z t ty ops i sl ms fr Γ Γx m h _ ih=>
  intro hv hx ht h1 B o' ho r0 w0 H Z ha hs hp
  obtain ⟨F,Hd,hL,hS,hG,hK⟩:=stay hs
  obtain ⟨_,⟨u,k,h2,h3,_⟩,_⟩:=h.sound hS
  refine ih hv hx ht h1 B o' ho r0 w0 H Z ha hs ⟨u,fun w hC=>?_⟩ hp
  have hb:(dc v 1 j).block ∉ H:=fun hm=>(h.A6 hS).elim (fun h=>h.elim (fun h=>absurd h List.not_mem_nil) fun h=>(List.nodup_append.1 hG.nd).2.2 _ hm _ h rfl) fun h=>hG.apart _ (List.mem_append_left _ hm) h
  have hc:=hC.cell hb h2
  obtain ⟨_,⟨u',k',h4,h5,_⟩,_⟩:=h.sound (hK w hC)
  rw [hc] at h4
  cases h4
  exact ⟨hc,k',h5⟩
 | Tu h _ ih=>
  intro hv hx ht h1 B o ho r0 w0 H Z ha hs hp
  obtain ⟨F,_,_,hS,_,hK⟩:=stay hs
  exact ih h1.n B o ho r0 w0 H Z ha hs (hp.val hh ha h1 hv fun r hr _ _ _ w hC=>Ld ht (h.sound (hK w hC)) (bA hr hx) w (an.refl _ _))
 | L8 h _ ih=>
  intro hv hx ht h1 B o ho r0 w0 H Z ha hs hp
  obtain ⟨F,_,_,hS,_,hK⟩:=stay hs
  refine ih h1.n B o ho r0 w0 H Z ha hs (hp.val hh ha h1 hv fun r hr _ _ _ w hC=>?_)
  obtain ⟨h2,h3⟩:=h.sound (hK w hC)
  exact Lg ht h2 (bA hr hx) h3 w (an.refl _ _)
 | Tv _ ih=>
  intro hv hx ht h1 B o ho r0 w0 H Z ha hs hu hp
  obtain ⟨u,hu⟩:=hu
  obtain ⟨_,_,h3,_⟩:=hu w0 (an.refl _ _)
  obtain rfl:u=_:=by simpa using h3
  exact ih h1.n B o ho r0 w0 H Z ha hs (hp.val hh ha h1 hv fun r hr _ _ _ w hC=>Ld ht (hu w hC).1 (bA hr hx) w (an.refl _ _))
 | @Tw hd α A as d x v j E z o' t ty ops i sl ms fr Γ Γ1 Γ' m h Du _ ih=>
  intro hv hx ht h1 B o ho r0 w0 H Z ha hs hu hp
  obtain ⟨u,hu⟩:=hu
  obtain ⟨h2,_⟩:=hu w0 (an.refl _ _)
  obtain ⟨F,Hd,hL,hS,hG,hK⟩:=stay hs
  obtain ⟨du,⟨u',k',h4,h5,h6⟩,vl⟩:=(h u).sound hS
  rw [h2] at h4
  cases h4
  exact ih u h1.n B o ho r0 w0 H Z ha ⟨F,Hd,hL,(Du u).sound h2 (vl ⟨k',h5,h6⟩),hG⟩ (hp.val hh ha h1 hv fun r hr _ _ _ w hC=>Ld ht (hu w hC).1 (bA hr hx) w (an.refl _ _))
 | @GA hd α A as d t e ty E z0 bt ops i sl ms Γ m hz _ ih=>
  intro h1 B o ho r0 w0 H Z ha hs hp
  exact ih h1.n B o ho r0 w0 H Z ha hs (R8 hz h1 hp)
 | L7 hU _ ih=>exact fun h1=>ih hU h1
 | @aad hd β V A as d f fs bs xo xs au ty mo rt ps ops i sl ms fr Γ g hv T3 hf hc hi iw hw _ ih=>
  intro h1 B o ho r0 w0 H Z ha hs hp
  obtain @⟨uH⟩:=hf
  obtain ⟨y,hy,ho⟩:=bind_some ho
  obtain ⟨pos,af,h2⟩:=h1.o
  exact ih y h1.n (by unfold bx; rw [h2]; rfl) B o ho r0 w0 H Z ha hs (Mn hh uH hv T3 hc hi iw hw h1 hy ha hs hp)
 | @call hd β V A as d f xs au ty mo rt ps ops i sl ms fr Γ g hf hv hc hi iw hw _ ih=>
  intro _ h1 B o ho r0 w0 H Z ha hs hp
  obtain ⟨y,hy,ho⟩:=bind_some ho
  obtain ⟨pos,af,h2⟩:=h1.o
  exact ih y h1.n (by unfold bx; rw [h2]; rfl) B o ho r0 w0 H Z ha hs (OI hh hf hv hc hi iw hw h1 hy ha hs hp)
 | @XE hd β V A as d f xs au ty mo rt ps ops i sl ms fr Γ g hf hV hv hc hi iw hw _ ih=>
  intro hU h1 B o ho r0 w0 H Z ha hs hp
  obtain ⟨y,hy,ho⟩:=bind_some ho
  obtain ⟨pos,af,h2⟩:=h1.o
  exact ih y h1.n (by unfold bx; rw [h2]; rfl) B o ho r0 w0 H Z ha hs (Mo hh hf hv hU hV hc hi iw hw h1 hy ha hs hp)
 | @Ml hd β V A as d f xs au ty mo rt ps ops i sl ms fr Γ g hf hV hv hc hi iw _ ih=>
  intro hU h1 B o ho r0 w0 H Z ha hs hp
  obtain ⟨y,hy,ho⟩:=bind_some ho
  obtain ⟨pos,af,h2⟩:=h1.o
  exact ih y h1.n (by unfold bx; rw [h2]; rfl) B o ho r0 w0 H Z ha hs (KB hh hf hv hU hV hc hi iw h1 hy ha hs hp)
 | @XF hd β V j1 a1 pq A as d f xs au ty mo rt ps ops i sl ms fr Γ g hf hg QV h4 hv hc hi iw hw _ ih=>
  intro hU h1 B o ho r0 w0 H Z ha hs hp
  obtain ⟨y,hy,ho⟩:=bind_some ho
  obtain ⟨pos,af,h2⟩:=h1.o
  exact ih y h1.n (by unfold bx; rw [h2]; rfl) B o ho r0 w0 H Z ha hs (let ⟨S',e1,e2,e3⟩:=Mt hh hf hv hU hg QV h4 hc hi iw hw h1 hy ha hs hp; ⟨S',e1,e2.re (sr (by rw [← h1.A]; exact qm.1 h4)).1,e3⟩)
 | @crb hd u ps d as ops i sl ms Γ m _ ih=>
  intro h1 iz B o ho r0 w0 H Z ha hs ⟨S',hl,hR,hO,hL⟩
  subst hl
  refine ih h1 B o ho r0 w0 H Z ha hs ⟨S'++[⟨true,MV Z ⟨S'.length,d,[],Unit,fun _=>u,fun _=>ps⟩⟩],by simp,(hR.mem (b:=⟨S'.length,d,[],Unit,fun _=>u,fun _=>ps⟩) rfl iz (fun _ h=>nomatch h)).aae (s:=⟨true,MV Z ⟨S'.length,d,[],Unit,fun _=>u,fun _=>ps⟩⟩) iz (by simp) rfl (fun f w r x ⟨v,h,_⟩=>h),fun j hj=>?_⟩
  by_cases h2:j < S'.length
  ·exact kh.more (hO j h2) h2
  ·obtain rfl:j=S'.length:=by omega
   exact hL _ fun f w r x h=>⟨f,fun _ h=>h,h⟩
 | @crv hd u d as ops i sl ms Γ m _ ih=>
  intro h1 iz B o ho r0 w0 H Z ha hs ⟨S',hl,hR,hO,hL⟩
  subst hl
  refine ih h1 B o ho r0 w0 H Z ha hs ⟨_,by simp,hR.val iz,fun j hj=>?_⟩
  by_cases h2:j < S'.length
  ·exact kh.more (hO j h2) h2
  ·obtain rfl:j=S'.length:=by omega
   exact hL (pl fun _ _ x=>x=_) fun f w r x ⟨v,h,_⟩=>⟨[],fun _ h=>absurd h List.not_mem_nil,h⟩
 | @crm hd V u ps d as ops i sl ms Γ m _ ih=>
  intro h1 iz B o ho r0 w0 H Z ha hs ⟨S',hl,hR,hO,hL⟩
  subst hl
  refine ih h1 B o ho r0 w0 H Z ha hs ⟨_,by simp,hR.mem rfl iz (fun _ h=>nomatch h),fun j hj=>?_⟩
  by_cases h2:j < S'.length
  ·exact kh.more (hO j h2) h2
  ·obtain rfl:j=S'.length:=by omega
   exact hL _ fun f w r x h=>⟨f,fun _ h=>h,h⟩
 | Tx hU _ ih=>exact fun h1=>ih hU h1
 | apH G3 hv ec h2 h5 hl hz h1 hr hy _ ih=>
  rename_i hT _
  intro hU h B o ho r0 w0 H Z ha hs hp
  obtain ⟨u,hu,ho⟩:=bind_some ho
  obtain ⟨p1,p2⟩:=Sd hh ha hT hU G3 hv ec h2 h5 hl hz h1 hr hy hu h hs hp
  exact ih h.n B o ho r0 w0 H Z ha p2 p1
 | ap1 h1 h2 h3 hw h4 h5 _ ih=>
  rename_i hz _
  intro h6 h B o ho r0 w0 H Z ha hs hp
  obtain ⟨u,hu,ho⟩:=bind_some ho
  exact ih h.n B o ho r0 w0 H Z ha hs (R4 hz h1 h2 h3 h4 h5 (h6.trans hw) hu h hp)
 | sw1 _ _ ih=>exact fun h1=>ih h1
 | sw2 _ _ ih=>exact fun h1=>ih h1
 | sw4 _ _ ih=>exact fun h1=>ih h1
 | TS _ ih=>
  rename_i hz _
  intro h1 B o ho r0 w0 H Z ha hs hp
  exact ih h1.n B o ho r0 w0 H Z ha hs (R6 hz h1 hp)
 | sw5 _ _ ih=>exact fun h1=>ih h1
 | mln hi iw hx _ ih=>
  rename_i ht _
  intro h1 B o ho r0 w0 H Z ha hs hp
  exact ih h1.n B o ho r0 w0 H Z ha hs (T0 hp h1 ht hi iw hx)
 | wv hv hq _ ih=>
  intro h1 B o ho r0 w0 H Z ha hs hp
  obtain ⟨F,_,_,_,_,hK⟩:=stay hs
  exact ih h1.n B o ho r0 w0 H Z ha hs (hp.val hh ha h1 hv fun r hr _ _ _ w hC=>hq.sound (hK w hC) hr _ _ _ _ _ w (an.refl _ _))
 | wlt hv hx ho _ ih=>
  rename_i hz _
  intro h1 B o cg r0 w0 H Z ha hs hp
  obtain ⟨F,_,_,_,_,hK⟩:=stay hs
  exact ih h1.n B o cg r0 w0 H Z ha hs (T2 hh ha hz hv hx ho hK h1 hp)
 | ltn hv iz hn hb _ ih=>
  rename_i hz _
  intro h1 B o cg r0 w0 H Z ha hs hp
  obtain ⟨F,_,_,_,_,hK⟩:=stay hs
  exact ih h1.n B o cg r0 w0 H Z ha hs (JD hh ha hz hv iz hn hb hK h1 hp)
 | ltu hv iz hn hb _ ih=>
  rename_i hz _
  intro h1 B o cg r0 w0 H Z ha hs hp
  obtain ⟨F,_,_,_,_,hK⟩:=stay hs
  exact ih h1.n B o cg r0 w0 H Z ha hs (JD hh ha ⟨hz.h⟩ hv iz hn hb hK h1 hp)
 | @tE hd A as op x y k k' a b t t' d ty ops i sl ms fr Γ f hv hx hy hk _ ih=>
  intro h1 B o ho r0 w0 H Z ha hs hp
  obtain ⟨z,hz,ho⟩:=bind_some ho
  have xg:L5 op=true∨k=k':=by
   cases hk with
   | same=>exact .inr rfl
   | sh h=>exact .inl h
  exact ih z h1.n B o ho r0 w0 H Z ha hs (hp.val hh ha h1 hv fun r hr _ _ _ w hC=>Md (bA hr hx) (bA hr hy) xg hz)
 | mk hv hx _ ih=>
  rename_i hz _
  intro h1 B o ho r0 w0 H Z ha hs hp
  obtain ⟨n,hn,ho⟩:=bind_some ho
  exact ih n h1.n B o ho r0 w0 H Z ha hs (T1 hh ha hz hv hx hn h1 hp)
 | mbl hi iw _ hj hv CA _ ih=>
  rename_i hb _ _
  intro h1 B o ho r0 w0 H Z ha hs hp
  exact ih h1.n B o ho r0 w0 H Z ha hs (R7 hh hb hi iw hj hv CA h1 ha hs hp)
 | mlt hi iw hj CA _ ih=>
  rename_i hz _
  intro h1 B o ho r0 w0 H Z ha hs hp
  exact ih h1.n B o ho r0 w0 H Z ha hs (R9 hz hi iw hj CA h1 hp)
 | Yz hb hi iw hj CA _ ih=>
  rename_i hz _
  intro h1 B o ho r0 w0 H Z ha hs hp
  exact ih h1.n B o ho r0 w0 H Z ha hs (Sb hz hb hi iw hj CA h1 hp)
 | val hv hq _ ih=>
  intro h1 B o ho r0 w0 H Z ha hs hp
  obtain ⟨F,_,_,_,_,hK⟩:=stay hs
  exact ih h1.n B o ho r0 w0 H Z ha hs (hp.val hh ha h1 hv fun r hr _ _ _ w hC=>hq.sound (hK w hC) hr _ _ _ _ _ w (an.refl _ _))
end
end Go.Dk
namespace Go.Dk
open Go Go.Li
section
variable {R S:Type} {P:Program} {cx:Cx R} {K:dh R S} {l tail:LO} {base fr:Fr} {w:World} {Z:Nat→Prop}
theorem IY {n:Nat} {Q:Exit→(Nat→Value)→World→Prop} {r:NV} (hQ:∀ c,¬ Q (.panic c) r w):∀ fu,∀ c,¬ zL P n Q fu (.panic c) r w:=by
 intro fu
 induction fu with
 | nil=>exact hQ
 | cons a fu ih=>cases a <;> exact ih
theorem IZ {B:Bs} {b:Kb R S} {o:Out S R} {r:NV}:∀ c,¬ Gc P cx B b o (.panic c) r w:=by
 intro c
 cases b <;> cases o <;> exact fun h=>h
theorem sw {B:Bs} {K:dh R S} {o:Out S R} {r:NV}:∀ c,¬ mc P cx B K o (.panic c) r w:=IY IZ _
def zW (g:Nat→List Nat):List gu→List Nat
 | []=>[]
 | a :: l=>g a.j++zW g l
theorem CT {g:Nat→List Nat}:∀ {ms:MM} {b:Nat},b∈zW g ms→∃ a∈ms,b∈g a.j:=by
 intro ms
 induction ms with
 | nil=>intro b h; exact absurd h List.not_mem_nil
 | cons a ms ih=>
  intro b h
  rcases List.mem_append.1 h with h | h
  ·exact ⟨a,by simp,h⟩
  ·obtain ⟨c,h1,h2⟩:=ih h
   exact ⟨c,List.mem_cons_of_mem _ h1,h2⟩
theorem JF {Vo Vr A F:LN} (h:(Vo++Vr).Perm A):((Vo++F)++Vr).Perm (A++F):=by
 refine List.Perm.trans ?_ (h.append_right F)
 rw [List.append_assoc,List.append_assoc]
 exact List.Perm.append_left Vo List.perm_append_comm
theorem QZ {g:Nat→List Nat} {r:NV}:∀ {ms:MM},CP ms=true→(ms.map (·.j)).Nodup→(∀ a∈ms,∀ b∈ms,a.j≠b.j→sf (g a.j) (g b.j))→(∀ a∈ms,MV Z a (g a.j) w r (r a.d))→
  ∃ x:nt ms,(∀ p∈mF ms x,r p.1=p.2)∧(∃ Vo Vr,(Vo++Vr).Perm (zW g ms)∧(∀ b∈Vr,b < w.heap.size)∧HL (qc Z Vr) w (Ep ms x) Vo)∧(zW g ms).Nodup:=by
 intro ms
 induction ms with
 | nil=>intro _ _ _ _; exact ⟨(),fun p hp=>absurd hp List.not_mem_nil,⟨[],[],.refl _,fun b (h:b∈[])=>absurd h List.not_mem_nil,.nil⟩,List.nodup_nil⟩
 | cons a ms ih=>
  intro iw hd hi h
  unfold CP at iw
  rw [Bool.and_eq_true] at iw
  rw [List.map_cons,List.nodup_cons] at hd
  obtain ⟨x,hx,hl,hn⟩:=ih iw.2 hd.2 (fun b hb c hc=>hi b (List.mem_cons_of_mem _ hb) c (List.mem_cons_of_mem _ hc)) fun b hb=>h b (List.mem_cons_of_mem _ hb)
  obtain ⟨v,e1,e2,e3⟩:=h a (by simp)
  have es:wk a r=A7 a (mF ms x):=by
   have h3:=iw.1
   rw [List.all_eq_true] at h3
   refine B4 fun t ht=>?_
   unfold yj
   rw [Ox (h3 t ht) hx]
  rw [es] at e1 e2
  refine ⟨(v,x),?_,?_,vN e3 hn ?_⟩
  rotate_left
  ·obtain ⟨Fo,Fr,hf,h1,h2⟩:=e2.all
   obtain ⟨Vo,Vr,k1,k2,k3⟩:=hl
   refine ⟨Fo++Vo,Fr++Vr,?_,fun b hb=>(List.mem_append.1 hb).elim (h1 b) (k2 b),(h2.mono fun b h=>h.imp id fun h=>List.mem_append_left _ h).app (k3.mono fun b h=>h.imp id fun h=>List.mem_append_right _ h)⟩
   show List.Perm _ (g a.j++zW g ms)
   rw [hf]
   refine List.Perm.trans ?_ (k1.append_left (Fo++Fr))
   rw [List.append_assoc,List.append_assoc]
   refine List.Perm.append_left Fo ?_
   rw [← List.append_assoc,← List.append_assoc]
   exact List.Perm.append_right Vr List.perm_append_comm
  rotate_right
  ·intro p hp
   rcases List.mem_cons.1 hp with rfl | hp
   ·exact e1
   ·exact hx p hp
  ·intro b hb hm
   obtain ⟨c,h1,h2⟩:=CT hm
   exact hi a (by simp) c (List.mem_cons_of_mem _ h1) (fun e=>hd.1 (by rw [e]; exact List.mem_map_of_mem h1)) b hb h2
theorem G6 {r:NV} {f:Fr}:∀ {sl:LQ},(∀ p∈sl,r p.2.1=p.2.2)→(∀ p∈f,r p.1=p.2)→∀ p∈A8 sl f,r p.1=p.2:=by
 intro sl
 induction sl with
 | nil=>intro _ h; exact h
 | cons a sl ih=>
  intro h1 h2 p hp
  rcases List.mem_cons.1 hp with rfl | hp
  ·exact h1 a (by simp)
  ·exact ih (fun p hp=>h1 p (List.mem_cons_of_mem _ hp)) h2 p hp
theorem Se {mt id:Nat} {U:LL} {Zl:LN} {Uc:QE} (hU:((List.range mt).all fun i=>(U.getD i []).all fun u=>Nat.beq u l.length || ((cf l).getD i []).contains u)=true) (hh:mr l mt base=true) (hd:de cx.n l=true) (hA:zX l mt Zl=true) (hZ:G7 l mt Zl=true) (G8:mt≤l.length) (ht:tail=l.drop mt) {i:Nat} {sl:LQ} {ms:MM} {Γ:QE} {m:Option (Out S R)} (Ud:CP ms=true) (sS:Er U sl ms=true)
  (h:∀ x:nt ms,D P cx (.p (A8 sl (mF ms x)) (Ep ms x) base Γ fun fr Γ=>.tg false (CN tail) l tail K Γ fr m)):KD P cx K l mt U Uc id base (.a [] [] i sl ms Γ m):=by
 rintro ⟨_,h2,h3⟩ B o ho r0 w0 H Z ha hs ⟨S',hl,hR,hO⟩
 have hi:i=mt:=by
  have:=congrArg List.length h2
  simp at this
  omega
 subst hl
 obtain ⟨F,Hd,⟨wF,AI,wm,AJ⟩,hS,hG⟩:=hs
 refine Ue (N:=Z) (S:=S') (U:=U) (H:=H) hd hA hZ (fun c r w h=>sw c h) G8 hi wm hU (fun b hb=>⟨hG.na b hb,fun h=>hG.apart b (List.mem_append_left _ h) hb⟩) (fun i s hs=>hR.s i s hs) (fun j hj=>hO j (by omega)) ?_
 intro g r w hI
 have KE:∀ k j,j∈U.getD k []→∀ a∈ms,a.j≠j:=by
  intro k j hj
  unfold Er at sS
  rw [List.getD_eq_getElem?_getD] at hj
  cases hk:U[k]? with
  | none=>rw [hk] at hj; exact absurd hj List.not_mem_nil
  | some us=>
   rw [hk] at hj
   have h1:=List.all_eq_true.1 (List.all_eq_true.1 sS us (List.mem_of_getElem? hk)) j hj
   intro a ha he
   have:=List.all_eq_true.1 h1 a ha
   rw [he,Nat.beq_refl] at this
   cases this
 have hD:∀ j,j < mt→(∀ k,j ∉ U.getD k [])→xj l S' j g r w:=fun j hj hn=>hI.done j hj fun k _=>hn k
 have bj:∀ a∈ms,a.j < mt:=fun a ha=>hi ▸ hR.lt ha
 obtain ⟨x,hx,ub,Uf⟩:=QZ (g:=g) (r:=r) (w:=w) Ud hR.d (fun a ha b hb va=>hI.wG _ _ (bj a ha) (bj b hb) va) fun a ha=>by
  have:=hR.GW (S2:=[]) ha (by rw [List.append_nil]; exact hD a.j (bj a ha) (fun k hk=>KE k _ hk a ha rfl))
  exact this
 have DA:=List.nodup_append.1 hG.nd
 have qe:∀ b∈zW g ms,w0.heap.size≤b∨b∈H:=fun b hb=>by
  obtain ⟨a,h1,h2⟩:=CT hb
  exact (hI.fresh a.j (bj a h1) b h2).1.imp (fun h=>h) (·.1)
 have ew:=sM.stay hS hG hI.jc
 obtain ⟨Vo,Vr,Ug,Uh,ub⟩:=ub
 obtain ⟨F',hp,fk⟩:=ub.build (ew.mono (fun _ h=>.inl h) fun _ h=>h)
 have vO:Gd B Z (zW g ms++F) w:=by
  refine ⟨vN Uf DA.2.1 fun b hb hF=>(qe b hb).elim (fun h=>Nat.lt_irrefl _ (Nat.lt_of_lt_of_le (hS.lt b hF) h)) (fun h=>DA.2.2 b h b hF rfl),?_,fun b hb=>Nat.lt_of_lt_of_le (hG.na b hb) hI.jc.size,?_,hG.tU,hG.tA,hG.jc.then hI.jc fun b hb=>hG.low b (List.mem_append_left _ hb)⟩
  ·intro b hb hz
   rcases List.mem_append.1 hb with hb | hb
   ·exact (qe b hb).elim (fun h=>Nat.lt_irrefl _ (Nat.lt_of_lt_of_le (hG.na b hz) h)) (fun h=>hG.apart b (List.mem_append_left _ h) hz)
   ·exact hG.apart b (List.mem_append_right _ hb) hz
  ·intro b hb
   rcases List.mem_append.1 hb with hb | hb
   ·exact (qe b hb).elim (fun h=>.inr (Nat.le_trans hG.jc.size h)) (fun h=>hG.low b (List.mem_append_left _ h))
   ·exact hG.low b (List.mem_append_right _ hb)
 have OK:cw r ((A8 sl (mF ms x)).reverse++base):=by
  refine qa (G6 (fun p hp=>?_) hx) (ko hh ha hI.other)
  exact hR.yZ (S2:=[]) hp fun j _ hj=>(by rw [List.append_nil]; exact hI.tF j (hi ▸ hj))
 have:=(h x).sound B o ho r w OK ⟨_,F',fk,((vO.perm (JF Ug)).freeze Uh).perm hp⟩
 rw [ht] at this
 exact this
def Kq (q:Option (Bool×Nat×Value)) (f:Fr):Fr:=
 match q with
 | none=>f
 | some (_,d,u)=>(d,u) :: f
theorem Kp.lk {ws:LN} {q:Option (Bool×Nat×Value)} {f g:Fr} (h:Kp ws q f g):(∀ b d u,q=some (b,d,u)→b=iu d ws)→∀ t v,look g t=some v→iu t ws=false∧look (Kq q f) t=some v:=by
 induction h with
 | nil=>intro _ t v h; cases h
 | cons _ ih=>intro _ t v h; exact ih (by rintro b d u h; cases h; rfl) t v h
 | @drop ws d u f g _ ih=>
  intro hq t v h
  obtain ⟨h1,h2⟩:=ih (by rintro b d u h; cases h) t v h
  refine ⟨h1,?_⟩
  show look ((d,u) :: f) t=some v
  unfold look
  cases hb:Nat.beq t d with
  | true=>have:=hq true d u rfl; rw [Nat.eq_of_beq_eq_true hb,← this] at h1; cases h1
  | false=>exact h2
 | @ee ws d u f g _ ih=>
  intro hq t v h
  unfold look at h
  show iu t ws=false∧look ((d,u) :: f) t=some v
  unfold look
  cases hb:Nat.beq t d with
  | true=>rw [hb] at h; exact ⟨by rw [Nat.eq_of_beq_eq_true hb]; exact (hq false d u rfl).symm,h⟩
  | false=>
   rw [hb] at h
   obtain ⟨h1,h2⟩:=ih (by rintro b d u h; cases h) t v h
   unfold iu at h1
   rw [hb] at h1
   exact ⟨h1,h2⟩
theorem Kp.sound {ws:LN} {f g:Fr} {r:NV} (h:Kp ws none f g) (ha:cw r f):cw r g:=
 fun t v hl=>ha t v (h.lk (by rintro b d u h; cases h) t v hl).2
theorem Ui {id:Nat} (hd:QE) (mt:Nat) (Zl:LN) (U as:LL) {ops:LO} {Γ Γ1:QE} {fr:Fr} {m:Option (Out S R)}
  (hB:(P.follows .mixedOrders && de cx.n l && zX l mt Zl && G7 l mt Zl && Nat.ble mt l.length && (qn l U mt == as) && ((List.range mt).all fun i=>(U.getD i []).all fun u=>Nat.beq u l.length || ((cf l).getD i []).contains u))=true)
  (ho:ops=l.take mt) (ht:tail=l.drop mt) (hf:Kp (zM ops) none fr base) (hh:mr l mt base=true) (he:EO Γ hd Γ1) (G9:OW Γ hd)
  (h:AD false P cx K l tail base U hd (.a as ops 0 [] [] Γ1 m)):∀ B o,m=some o→∀ r w,cw r fr→St B Γ w→mg P cx.n l (mc P cx B K o) r w:=by
 simp only [Bool.and_eq_true] at hB
 obtain ⟨⟨⟨⟨⟨⟨_,b2⟩,b3⟩,b4⟩,b5⟩,b6⟩,b7⟩:=hB
 intro B o hm r w ha hs
 obtain ⟨Z,F,hS,hG⟩:=hs
 obtain ⟨Fd,F',h1,h2,h3⟩:=he.sound hS
 have Ha:SA Z w hd [] Fd:=by
  have:=(HO.hl G9 hS h1).front (Γ:=[]) (F:=[]) rfl
  simpa using this
 have hX:sM B Z hd Γ1 Fd w:=⟨F',Fd,⟨Ha,fun b hb=>⟨hb,Ha.lt b hb⟩,Ha.lt,(List.nodup_append.1 (hG.perm h3).nd).1⟩,h2,hG.perm h3⟩
 refine AD.sound (id:=id) hh (fun _ _ _ _ _ _ hs he h=>Se b7 hh b2 b3 b4 (Nat.le_of_ble_eq_true b5) ht hs he h) h
  ⟨by rw [List.drop_zero]; exact (eq_of_beq b6).symm,by rw [List.drop_zero]; exact ho,Nat.zero_le _⟩ B o hm r w Fd Z (hf.sound ha) hX ⟨[],rfl,⟨fun _ h=>absurd h List.not_mem_nil,fun _ h=>absurd h List.not_mem_nil,fun i s h=>by simp at h,List.nodup_nil,fun _ _ _ h1 h2=>DB l (Mw b3) h1 h2⟩,fun j hj=>absurd hj (Nat.not_lt_zero j)⟩
theorem wq {id:Nat} (hd:QE) (mt:Nat) (Zl:LN) (U as:LL) {ops:LO} {Γ Γ1:QE} {fr:Fr} {m:Option (Out S R)}
  (hB:(P.follows .mixedOrders && de cx.n l && zX l mt Zl && G7 l mt Zl && Nat.ble mt l.length && (qn l U mt == as) && ((List.range mt).all fun i=>(U.getD i []).all fun u=>Nat.beq u l.length || ((cf l).getD i []).contains u))=true)
  (ho:ops=l.take mt) (ht:tail=l.drop mt) (hf:Kp (zM ops) none fr base) (hh:mr l mt base=true) (he:EO Γ hd Γ1) (G9:OW Γ hd)
  (h:AD false P cx K l tail base U hd (.a as ops 0 [] [] Γ1 m)):Bx (lj P cx (.dr id l K Γ fr m)):=by
 have hm:P.follows .mixedOrders=true:=by
  simp only [Bool.and_eq_true] at hB
  exact hB.1.1.1.1.1.1
 rw [kv]
 intro B o vb r w ha hs
 exact (Ui (id:=id) hd mt Zl U as hB ho ht hf hh he G9 h B o vb r w ha hs).W hm
theorem Uj {id:Nat} {l0:LO} (σ π:LN) (hd:QE) (mt:Nat) (Zl:LN) (U as:LL) {ops:LO} {Γ Γ1:QE} {fr:Fr} {m:Option (Out S R)}
  (hB:(P.follows .mixedOrders && OL l0 σ π && de cx.n (p8 l0 σ π) && zX (p8 l0 σ π) mt Zl && G7 (p8 l0 σ π) mt Zl && Nat.ble mt (p8 l0 σ π).length && (qn (p8 l0 σ π) U mt == as) && ((List.range mt).all fun i=>(U.getD i []).all fun u=>Nat.beq u (p8 l0 σ π).length || ((cf (p8 l0 σ π)).getD i []).contains u))=true)
  (hl:l=p8 l0 σ π) (ho:ops=l.take mt) (ht:tail=l.drop mt) (hf:Kp (zM ops) none fr base) (hh:mr l mt base=true) (he:EO Γ hd Γ1) (G9:OW Γ hd)
  (h:AD false P cx K l tail base U hd (.a as ops 0 [] [] Γ1 m)):Bx (lj P cx (.dr id l0 K Γ fr m)):=by
 subst hl
 simp only [Bool.and_eq_true] at hB
 obtain ⟨⟨⟨⟨⟨⟨⟨b0,b1⟩,b2⟩,b3⟩,b4⟩,b5⟩,b6⟩,b7⟩:=hB
 rw [kv]
 intro B o vb r w ha hs
 refine ((Ui (id:=id) hd mt Zl U as ?_ ho ht hf hh he G9 h B o vb r w ha hs).prm b1).W b0
 simp only [Bool.and_eq_true]
 exact ⟨⟨⟨⟨⟨⟨b0,b2⟩,b3⟩,b4⟩,b5⟩,b6⟩,b7⟩
theorem any {id:Nat} (mt:Nat) (Zl:LN) (U as:LL) {ops:LO} {Γ:QE} {fr:Fr} {m:Option (Out S R)}
  (hB:(P.follows .mixedOrders && de cx.n l && zX l mt Zl && G7 l mt Zl && Nat.ble mt l.length && (qn l U mt == as) && ((List.range mt).all fun i=>(U.getD i []).all fun u=>Nat.beq u l.length || ((cf l).getD i []).contains u))=true)
  (ho:ops=l.take mt) (ht:tail=l.drop mt) (hf:Kp (zM ops) none fr base) (hh:mr l mt base=true)
  (h:AD false P cx K l tail base U [] (.a as ops 0 [] [] Γ m)):Bx (lj P cx (.dr id l K Γ fr m)):=wq [] mt Zl U as hB ho ht hf hh .nil .nil h
end
end Go.Dk
