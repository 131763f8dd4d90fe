/- A calculus of walks: regions that draw their order and make memory. No condition. -/
import Derived.Test.YtgjbmjjihmfppaaGreatDe
import Derived.Laws.Slices
namespace Go.Dk
open Go Go.Li
section
variable {w:World}
def vb {α:Type} (e:TI) (E:ag α) (j:Nat):ag (List α) where
 size:=1
 rep h cs xs f:=∃ b cap cur f1 f2 p c0 q,cs=[.slice (some ⟨b,0,none⟩) xs.length cap]∧h[b]? = some (.cells cur e (0,0))∧f=b :: (f1++f2)∧(xs.length≤cap∧cap≤maxLen∧cur.size=cap∧E.size=1)∧cur.toList.take xs.length=p++[c0]++q∧(p.length=j∧j < xs.length)∧
  (∀ i∈f1++f2,i < h.size)∧∀ h':Array Obj,(∀ i∈f1++f2,h'[i]? = h[i]?)→∀ u z k,E.rep h' [u] z k→dw E h' (p++[u]++q) (xs.set j z) (f1++k++f2)
 len:=by rintro h cs x f ⟨b,cap,cur,f1,f2,p,c0,q,rfl,_⟩; rfl
 one:=by rintro h cs x f ⟨b,cap,cur,f1,f2,p,c0,q,rfl,_⟩ v hv; simp at hv; subst hv; rfl
 congr:=by
  rintro h h' cs x f ⟨b,cap,cur,f1,f2,p,c0,q,rfl,h1,rfl,h2,h3,h4,h5,h6⟩ hb
  refine ⟨b,cap,cur,f1,f2,p,c0,q,rfl,(hb b (by simp)).trans h1,rfl,h2,h3,h4,fun i hi=>?_,fun h'' cw=>h6 h'' fun i hi=>(cw i hi).trans (hb i (List.mem_cons_of_mem _ hi))⟩
  have:=hb i (List.mem_cons_of_mem _ hi)
  rw [Array.getElem?_eq_getElem (h5 i hi)] at this
  exact (Array.getElem?_eq_some_iff.1 this).1
 lt:=by
  rintro h cs x f ⟨b,cap,cur,f1,f2,p,c0,q,rfl,h1,rfl,h2,h3,h4,h5,h6⟩ i hi
  rcases List.mem_cons.1 hi with rfl | hi
  ·exact (Array.getElem?_eq_some_iff.1 h1).1
  ·exact h5 i hi
theorem HF {α:Type} {e:TI} {E:ag α} {v u:Value} {xs:List α} {f:LN} {j:Int} {z:α} (h1:E.size=1) (hO:(aJ e E).rep w.heap [v] xs f) (hz:xs[j.toNat]? = some z) (hu:w.cell? (dc v 1 j)=some u) :
  ∃ k g,E.rep w.heap [u] z k∧(k++g).Perm f∧(vb e E j.toNat).rep w.heap [v] xs g:=by
 obtain ⟨base,cap,hv,hr⟩:=hO
 obtain rfl:v = .slice base xs.length cap:=by simpa using hv
 have bm:j.toNat < xs.length:=(List.getElem?_eq_some_iff.1 hz).1
 rcases hr with ⟨_,_,rfl,_⟩ | ⟨b,cur,f0,rfl,hg,rfl,Bo,u2,xr,ei⟩
 ·simp at bm
 ·rw [h1,Nat.mul_one] at xr ei
  have xU:dc (.slice (some ⟨b,0,none⟩) xs.length cap) 1 j = ⟨b,j.toNat,none⟩:=by
   simp only [dc,jq,Nat.zero_add,Nat.mul_one]
  rw [xU,cell_of_row w b _ cur e _ hg] at hu
  have Pe:∀ i∈f0,i < w.heap.size:=my ei
  obtain ⟨c,g0,g1,g2,p,q,BK,hc,hp,Bp,sn⟩:=Aq j.toNat z ei hz
  subst BK
  rw [h1,Nat.mul_one] at hp
  have DX:c.length=1:=by rw [E.len Bp,h1]
  obtain ⟨c0,rfl⟩ : ∃ c0,c=[c0]:=by match c,DX with | [c0],_=>exact ⟨c0,rfl⟩
  have Ux:c0=u:=by
   have h2:(cur.toList.take xs.length)[j.toNat]? = some c0:=by
    rw [hc,List.append_assoc,List.getElem?_append_right (by omega),hp,Nat.sub_self]; rfl
   rw [List.getElem?_take,if_pos bm,Array.getElem?_toList,hu] at h2
   exact (Option.some.inj h2).symm
  subst Ux
  refine ⟨g1,b :: (g0++g2),Bp,?_,b,cap,cur,g0,g2,p,c0,q,rfl,hg,rfl,⟨Bo,u2,xr,h1⟩,hc,⟨hp,bm⟩,fun i hi=>Pe i (by rcases List.mem_append.1 hi with hi | hi <;> simp [hi]),fun h' cw u z' k' hr=>sn h' [u] z' k' (fun i hi=>cw i (by simp [hi])) (fun i hi=>cw i (by simp [hi])) hr⟩
  refine (List.perm_append_comm (l₁:=g1) (l₂:=b :: (g0++g2))).trans ?_
  rw [List.cons_append]
  refine List.Perm.cons b ?_
  rw [List.append_assoc,List.append_assoc]
  exact List.Perm.append_left g0 List.perm_append_comm
end
structure ir where
 j:Nat
 d:Nat
 src:List Nat
 V:Type
 rt:Value→V→Value
 ps:Value→V→List aw
abbrev MM:=List ir
def oK:List ir→Type
 | []=>Unit
 | a :: l=>a.V×oK l
def zA (f:NV):List Nat→Value
 | []=>undef
 | [t]=>f t
 | ts=>.tuple (ts.map f).toArray
def yX (f:Fr) (t:Nat):Value:=match look f t with
 | some v=>v
 | none=>undef
def xe (a:ir) (r:NV):Value:=zA r a.src
def BN (a:ir) (f:Fr):Value:=zA (yX f) a.src
theorem CE {f g:NV}:∀ {ts:LN},(∀ t∈ts,f t=g t)→zA f ts=zA g ts:=by
 intro ts h
 match ts,h with
 | [],_=>rfl
 | [t],h=>exact h t (by simp)
 | t :: s :: ts,h=>
  show Value.tuple (List.map f (t :: s :: ts)).toArray=Value.tuple (List.map g (t :: s :: ts)).toArray
  rw [List.map_congr_left h]
def mF:(ms:MM)→oK ms→Fr
 | [],_=>[]
 | a :: l,x=>(a.d,a.rt (BN a (mF l x.2)) x.1) :: mF l x.2
def E9:(ms:MM)→oK ms→List aw
 | [],_=>[]
 | a :: l,x=>a.ps (BN a (mF l x.2)) x.1++E9 l x.2
def na (A:LN):(ms:MM)→oK ms→Fr
 | [],_=>[]
 | a :: l,x=>bif jd a.j A then (a.d,a.rt (BN a (mF l x.2)) x.1) :: na A l x.2 else na A l x.2
def r9 (A:LN):(ms:MM)→oK ms→List aw
 | [],_=>[]
 | a :: l,x=>bif jd a.j A then a.ps (BN a (mF l x.2)) x.1++r9 A l x.2 else r9 A l x.2
def sr (t:Nat):List ir→Option Nat
 | []=>none
 | a :: l=>bif Nat.beq t a.d then some a.j else sr t l
def Ay (ms:MM):List (Nat×Operand)→List Nat
 | []=>[]
 | (_,.tmp s) :: l=>match sr s ms with
  | some _=>s :: Ay ms l
  | none=>Ay ms l
 | _ :: l=>Ay ms l
def ZN (s:Nat):List Nat→Option Nat
 | []=>none
 | t :: l=>bif Nat.beq s t then some 0 else (ZN s l).map (·+1)
def aby (v:Value) (k:Nat):Value:=match v with
 | .tuple vs=>vs.toList.getD k undef
 | _=>undef
def abz (f:Fr) (ts:LN) (u:Value):Operand→Value
 | .tmp s=>match ZN s ts with
  | some k=>(match ts with
   | [_]=>u
   | _=>aby u k)
  | none=>yX f s
 | x=>match bp f x with
  | some v=>v
  | none=>undef
def YU (k:Nat) (v:Value):List Value:=bif Nat.beq k 1 then [v] else match v with
 | .agg cs=>cs.toList
 | _=>[]
def R3 (pl:List (Nat×Nat)):List (Nat×Value)→List Value→List Value
 | [],cs=>cs
 | (i,v) :: l,cs=>match Hk pl i with
  | some (off,k)=>R3 pl l (cs.take off++YU k v++cs.drop (off+k))
  | none=>cs
def U3 (pl:List (Nat×Nat)) (f:Fr) (ts:LN) (ps:List (Nat×Operand)) (zc:LV) (u:Value):List Value:=R3 pl (ps.map fun p=>(p.1,abz f ts u p.2)) zc
def ZO (A:LN) (ms:MM) (ts:LN):Bool:=ts.all fun t=>match sr t ms with
 | some j=>jd j A
 | none=>false
def qi (A:LN):List ir→Bool
 | []=>true
 | a :: l=>(bif jd a.j A then a.src.all (fun t=>match sr t l with
   | some j=>jd j A
   | none=>false) else true) && qi A l
def Dv:List ir→Bool
 | []=>true
 | a :: l=>a.src.all (fun t=>(sr t l).isSome) && Dv l
theorem HG {A:LN} {r:NV} {t:Nat}:∀ {ms:MM} {x:oK ms} {j:Nat},sr t ms=some j→jd j A=true→(∀ p∈na A ms x,r p.1=p.2)→look (mF ms x) t=some (r t):=by
 intro ms
 induction ms with
 | nil=>intro x j h; cases h
 | cons a l ih=>
  intro x j h hj hp
  unfold sr at h
  unfold mF look
  cases hb:Nat.beq t a.d with
  | true=>
   rw [hb] at h
   cases h
   have:=hp (a.d,a.rt (BN a (mF l x.2)) x.1) (by unfold na; rw [hj]; simp)
   simp only [cond_true]
   rw [Nat.eq_of_beq_eq_true hb,this]
  | false=>
   rw [hb] at h
   refine ih h hj fun p hm=>hp p ?_
   unfold na
   cases jd a.j A with
   | true=>exact List.mem_cons_of_mem _ hm
   | false=>exact hm
theorem Py {r:NV} {t:Nat}:∀ {ms:MM} {x:oK ms},(sr t ms).isSome=true→(∀ p∈mF ms x,r p.1=p.2)→look (mF ms x) t=some (r t):=by
 intro ms
 induction ms with
 | nil=>intro x h; cases h
 | cons a l ih=>
  intro x h hp
  unfold sr at h
  unfold mF at hp ⊢
  unfold look
  cases hb:Nat.beq t a.d with
  | true=>
   simp only [cond_true]
   rw [Nat.eq_of_beq_eq_true hb,hp (a.d,a.rt (BN a (mF l x.2)) x.1) (by simp)]
  | false=>
   rw [hb] at h
   exact ih h fun p hm=>hp p (List.mem_cons_of_mem _ hm)
def HN (N:Nat→Prop) (w:World) (Δ:QE) (f:LN):Prop:=HL (fun _=>False) w Δ f∨∃ Fo Fr,f=Fo++Fr∧(sQ Δ=false∧∀ b∈Fr,b < w.heap.size)∧HL (fun b=>N b∨b∈Fr) w Δ Fo
def Nd (N:Nat→Prop) (a:ir):List Nat→World→(Nat→Value)→Value→Prop:=fun f w r _=>∃ v:a.V,r a.d=a.rt (xe a r) v∧HN N w (a.ps (xe a r) v) f∧f.Nodup
def MV (N:Nat→Prop) (a:ir):List Nat→World→(Nat→Value)→Value→Prop:=fun f w r x=>∃ v:a.V,x=a.rt (xe a r) v∧HN N w (a.ps (xe a r) v) f∧f.Nodup
def R4 (N:Nat→Prop) (a:LN) (l:LO) (s:iy):Prop:=∀ f F (w w':World) (r r':NV) v,an F w w'→(∀ b∈f,b ∉ F)→(∀ b∈F,¬ N b)→(∀ j∈a,∀ t,bz l j=some t→r' t=r t)→s.V f w r v→s.V f w' r' v
theorem HH.n {N:Nat→Prop} {a:LN} {l:LO} {s:iy} (h:HH a l s):R4 N a l s:=fun f F w w' r r' v hC hn _=>h f F w w' r r' v hC hn
section
variable {P:Program} {w w':World} {Z:Nat→Prop}
theorem HL.YV {F H:LN} {Δ:QE} (h:HL (fun _=>False) w Δ F) (hC:an H w w') (hd:∀ b∈F,b ∉ H):HL (fun _=>False) w' Δ F:=by
 induction h with
 | nil=>exact .nil
 | @own e f F Δ h _ ih=>exact .own (h.ef hC (fun _ _ h=>h) fun b hb hm=>hd b (List.mem_append_left _ hm) hb) (ih fun b hb=>hd b (List.mem_append_right _ hb))
 | @fact e F Δ h _ ih=>
  refine .fact ?_ (ih hd)
  cases e with
  | rd o T v x=>
   obtain ⟨g,h1,h2⟩:=h
   have hg:g=[]:=by
    cases g with
    | nil=>rfl
    | cons b g=>exact absurd (h2 b (by simp)) (by cases o <;> simp [vF])
   subst hg
   exact ⟨[],T.ef h1 hC (fun _ h=>absurd h List.not_mem_nil),fun _ h=>absurd h List.not_mem_nil⟩
  | ad o1 o2 v j T x=>obtain ⟨_,_,u,g,_,_,h3,_⟩:=h; exact absurd h3 (by cases o1 <;> simp [vF])
  | au p cs=>
   have hc:cs=[]:=by
    cases cs with
    | nil=>rfl
    | cons c cs=>exact (h.2 (by simp)).elim
   subst hc
   exact ⟨fun j u hj=>by simp at hj,fun hn=>absurd rfl hn⟩
  | hd v j u=>exact absurd h.2.2.2 List.not_mem_nil
  | _=>exact h.elim
theorem HL.R5 {F H:LN} {Δ:QE} (h:HL Z w Δ F) (hC:an H w w') (hz:∀ b∈H,¬ Z b) (hd:∀ b∈F,b ∉ H):HL Z w' Δ F:=by
 induction h with
 | nil=>exact .nil
 | @own e f F Δ h _ ih=>exact .own (h.ef hC hz fun b hb hm=>hd b (List.mem_append_left _ hm) hb) (ih fun b hb=>hd b (List.mem_append_right _ hb))
 | @fact e F Δ h _ ih=>exact .fact (h.ef hC hz fun _ _ h=>nomatch h) (ih hd)
theorem HN.ef {N:Nat→Prop} {f H:LN} {Δ:QE} (h:HN N w Δ f) (hC:an H w w') (hd:∀ b∈f,b ∉ H) (hz:∀ b∈H,¬ N b):HN N w' Δ f:=by
 rcases h with h | ⟨Fo,Fr,rfl,h1,h2⟩
 ·exact .inl (h.YV hC hd)
 ·exact .inr ⟨Fo,Fr,rfl,⟨h1.1,fun b hb=>Nat.lt_of_lt_of_le (h1.2 b hb) hC.size⟩,h2.R5 hC (fun b hb h=>h.elim (hz b hb) fun h=>hd b (List.mem_append_right _ h) hb) fun b hb=>hd b (List.mem_append_left _ hb)⟩
theorem HN.own {N:Nat→Prop} {f:LN} {Δ:QE} (h:HN N w Δ f) (ho:sQ Δ=true):HL (fun _=>False) w Δ f:=by
 rcases h with h | ⟨_,_,_,h1,_⟩
 ·exact h
 ·rw [ho] at h1; cases h1.1
theorem HN.all {N:Nat→Prop} {f:LN} {Δ:QE} (h:HN N w Δ f):∃ Fo Fr,f=Fo++Fr∧(∀ b∈Fr,b < w.heap.size)∧HL (fun b=>N b∨b∈Fr) w Δ Fo:=by
 rcases h with h | ⟨Fo,Fr,rfl,h1,h2⟩
 ·exact ⟨f,[],by simp,fun b (h:b∈[])=>absurd h List.not_mem_nil,h.mono fun _ h=>h.elim⟩
 ·exact ⟨Fo,Fr,rfl,h1.2,h2⟩
theorem HL.up {F:LN} {Δ:QE} (h:HL (fun _=>False) w Δ F):HL Z w Δ F:=by
 induction h with
 | nil=>exact .nil
 | own h _ ih=>exact .own (h.mono fun _ h=>h.elim) ih
 | fact h _ ih=>exact .fact (h.mono (fun _ h=>h.elim) fun _ h=>h) ih
theorem HL.app {Δ Δ':QE} {F F':LN} (h:HL Z w Δ F) (k:HL Z w Δ' F'):HL Z w (Δ++Δ') (F++F'):=by
 induction h with
 | nil=>exact k
 | own h _ ih=>rw [List.append_assoc]; exact .own h ih
 | fact h _ ih=>exact .fact h ih
theorem Kw {a:ir} {r r':NV} (h:∀ t∈a.src,r' t=r t):xe a r'=xe a r:=CE h
theorem Nf {l:LO} {a:LN} {b:Bool} {m:ir} (hs:∀ t∈m.src,∃ j∈a,bz l j=some t):R4 Z a l ⟨b,MV Z m⟩:=by
 intro f F w w' r r' x hC hn hz hr ⟨v,h1,h2,h3⟩
 have e:=Kw (a:=m) (r:=r) (r':=r') fun t ht=>by
  obtain ⟨j,hj,hd⟩:=hs t ht
  exact hr j hj t hd
 refine ⟨v,by rw [e]; exact h1,by rw [e]; exact h2.ef hC hn hz,h3⟩
theorem Lo {l:LO} {a:LN} {b:Bool} {m:ir} (hd:∃ j∈a,bz l j=some m.d) (hs:∀ t∈m.src,∃ j∈a,bz l j=some t):R4 Z a l ⟨b,Nd Z m⟩:=by
 intro f F w w' r r' x hC hn hz hr ⟨v,h1,h2,h3⟩
 have e:=Kw (a:=m) (r:=r) (r':=r') fun t ht=>by
  obtain ⟨j,hj,hd⟩:=hs t ht
  exact hr j hj t hd
 obtain ⟨j,hj,hjd⟩:=hd
 refine ⟨v,by rw [e,hr j hj _ hjd]; exact h1,by rw [e]; exact h2.ef hC hn hz,h3⟩
theorem lj.more {l:LO} {m i:Nat} {U:LL} {S S':List iy} {r0:NV} {w0:World} {H:LN} (h:lj P l m S U r0 w0 H i) (hi:i < S.length):lj P l m (S++S') U r0 w0 H i:=by
 intro o s ho hs g r w hC hV hO hn ll hd hf
 rw [List.getElem?_append_left hi] at hs
 refine h o s ho hs g r w hC hV (fun j hj d jh s' ep=>hO j hj d jh s' (by rw [List.getElem?_append_left (List.getElem?_eq_some_iff.1 ep).1]; exact ep)) (fun j hj=>?_) ll hd hf
 have:=hn j hj
 refine ⟨fun d jh=>?_,fun jh s' ep cw=>?_⟩
 ·have h2:=this.1 d jh
  by_cases hl:j < S.length
  ·rw [List.getElem?_append_left hl] at h2; exact h2
  ·rw [List.getElem?_eq_none (by omega)]; trivial
 ·exact this.2 jh s' (by rw [List.getElem?_append_left (List.getElem?_eq_some_iff.1 ep).1]; exact ep) cw
end
inductive eE (A:LN):Option (Bool×Nat×Value)→List (Nat×Nat×Value)→Fr→Fr→Prop
 | nil {base:Fr}:eE A none [] base base
 | cons {j d:Nat} {u:Value} {l:LQ} {base fr:Fr} (h:eE A (some (jd j A,d,u)) l base fr):eE A none ((j,d,u) :: l) base fr
 | ef {d:Nat} {u:Value} {l:LQ} {base fr:Fr} (h:eE A none l base fr):eE A (some (true,d,u)) l base ((d,u) :: fr)
 | drop {d:Nat} {u:Value} {l:LQ} {base fr:Fr} (h:eE A none l base fr):eE A (some (false,d,u)) l base fr
theorem u3.BM {Γ Γ':QE} {v:Addr} {o:Bool} {α:Type} {E:ag α} {x:α} {e:aw} (h:u3 Γ v o E x e Γ') {Z:Nat→Prop} {w:World}:∀ {cur F:LN},SA Z w Γ cur F→(v.block∈cur∨v.block∈F)∨Z v.block:=by
 induction h with
 | @ad o1 o2 α E v j x e Γ=>
  intro cur F hS
  obtain ⟨⟨j0,j1,u,g,h1,h2,h3,h4⟩,h5⟩:=hS
  cases o1 with
  | false=>exact .inr h3
  | true=>exact .inl (.inl h3)
 | @there o2 α E v x e a Γ Γ' h ih=>
  intro cur F hS
  cases a with
  | own T v x=>obtain ⟨f,F',rfl,h2,h3⟩:=hS; exact (ih h3).imp (fun h=>.inr (List.mem_append.2 h)) id
  | om e E v xs=>obtain ⟨f,F',rfl,h2,h3⟩:=hS; exact (ih h3).imp (fun h=>.inr (List.mem_append.2 h)) id
  | row b cs e=>obtain ⟨f,F',rfl,h2,h3⟩:=hS; exact (ih h3).imp (fun h=>h.imp id (List.mem_append_right _)) id
  | ij e E v xs j u=>obtain ⟨f,F',rfl,h2,h3⟩:=hS; exact (ih h3).imp (fun h=>.inr (List.mem_append.2 h)) id
  | _=>exact ih hS.2
inductive VQ (P:Program) (Γ:QE) (fr:Fr):Op→Value→Prop
 | mv {x:OO} {v:Value} (hx:bp fr x=some v):VQ P Γ fr (.move x) v
 | add {x y:OO} {t t':TI} {a b:Int} (hx:bp fr x=some (.int .i64 a)) (hy:bp fr y=some (.int .i64 b)):VQ P Γ fr (.binOp .add t x y t') (.int .i64 (aj (a+b)))
 | sub {x y:OO} {t t':TI} {a b:Int} (hx:bp fr x=some (.int .i64 a)) (hy:bp fr y=some (.int .i64 b)):VQ P Γ fr (.binOp .sub t x y t') (.int .i64 (aj (a - b)))
 | Pm {x:OO} {a:Addr} (hx:bp fr x=some (.pointer (some a))):VQ P Γ fr (.nilCheck x) (.pointer (some a))
 | ext {x:OO} {k:Nat} {vs:LV} {v:Value} (hx:bp fr x=some (.tuple vs.toArray)) (hv:vs[k]? = some v):VQ P Γ fr (.extract x k) v
 | UG {s k off:Nat} {x:OO} {a a':Addr} [hf:qu P s k off] (hx:bp fr x=some (.pointer (some a))) (ha:Dr a off a'):VQ P Γ fr (.fieldAddr s x k) (.pointer (some a'))
 | len {x:OO} {v:Value} {t:TI} {n:Nat} [ht:yT P t] (hx:bp fr x=some v) (hr:u7 Γ v n):VQ P Γ fr (.call ⟨.builtin .len,#[x],#[t]⟩) (.int .i64 (n:Int))
 | R1 {t:TI} {ps:List (Nat×Operand)} {zc cs:LV} {pl:List (Nat×Nat)} [hb:Bt P t zc pl] (hf:xC Γ fr pl ps zc cs):VQ P Γ fr (.build t ps.toArray) (.agg cs.toArray)
 | UN {x:OO} {k k2:IntKind} {n:Int} {s t:TI} [ht:Hm P s t k2] (hx:bp fr x=some (.int k n)):VQ P Γ fr (.convert s t x) (.int k2 (k2.wrap n))
 | mul {x y:OO} {t t':TI} {a b:Int} (hx:bp fr x=some (.int .i64 a)) (hy:bp fr y=some (.int .i64 b)):VQ P Γ fr (.binOp .mul t x y t') (.int .i64 (aj (a * b)))
 | Pn {x:OO} {v:Value} {t:TI} {n k:Nat} [ht:D0 P t k] (hx:bp fr x=some v) (hr:u7 Γ v n):VQ P Γ fr (.call ⟨.builtin .len,#[x],#[t]⟩) (.int .i64 (n:Int))
 | U4 {α:Type} {S:ag α} {x:OO} {v:Value} {t:TI} {us:List (List Value)} {xs:List α} {k n e:Nat} {Γ1:QE} [ht:D0 P t k] (hx:bp fr x=some v) (hr:di Γ (.own (aJ e (ee n)) v us) Γ1) (hg:In (.rd false (qt S) (.bool true) (us,xs)) Γ):VQ P Γ fr (.call ⟨.builtin .len,#[x],#[t]⟩) (.int .i64 (xs.length:Int))
theorem VQ.sound {P:Program} {Γ:QE} {fr:Fr} {op:Op} {u:Value} (h:VQ P Γ fr op u) {Z:Nat→Prop} {w:World} {cur F:LN} (hS:SA Z w Γ cur F) {r:NV} (ha:cu r fr) (d:Option Nat) (ty:TI) (pos:String) (af:Array Edge) (g:Option (Nat×Bool)) :
  Rd P w r ⟨d,op,ty,pos,af,g⟩ u:=by
 cases h with
 | mv hx=>exact Mv _ (aT ha hx)
 | add hx hy=>exact Ba (aT ha hx) (aT ha hy)
 | sub hx hy=>exact Go.Li.Bs (aT ha hx) (aT ha hy)
 | Pm hx=>exact Nk (aT ha hx)
 | ext hx hv=>exact Ex _ (aT ha hx) (by simpa using hv)
 | @UG s k off x a a' hf hx hq=>rw [hq.eq]; exact Fp hf.h (aT ha hx)
 | @UN x k k2 n s t ht hx=>exact fun _ _=>Kv ht.h.1 ht.h.2 (aT ha hx)
 | mul hx hy=>exact Bm (aT ha hx) (aT ha hy)
 | @len x v t n ht hx hr=>
  obtain ⟨b,c,rfl⟩:=hr.sound hS
  obtain ⟨e,i,h1,_,_⟩:=ht.h
  exact fun _ _=>u9 h1 (aT ha hx)
 | @Pn x v t n k ht hx hr=>
  obtain ⟨b,c,rfl⟩:=hr.sound hS
  obtain ⟨e,i,h1,_,_⟩:=ht.h
  exact fun _ _=>u9 h1 (aT ha hx)
 | @U4 α S x v t us xs k n e' Γ1 ht hx hr hg=>
  obtain ⟨f,F1,_,hO,_⟩:=hr.sound hS
  obtain ⟨e,i,h1,_,_⟩:=ht.h
  obtain ⟨g0,hk,_⟩:=hg.rd hS []
  obtain ⟨base,cap,hv,_⟩:=hO
  obtain rfl:v = .slice base us.length cap:=by simpa using hv
  rw [← zJ hk.2.1]
  exact fun _ _=>u9 h1 (aT ha hx)
 | @R1 t ps zc cs pl hb hf=>
  obtain ⟨fs,i,z,h1,h2,h3,h4,h5⟩:=hb.h
  refine Bu ?_
  have:=hf.fill ha hS
  unfold Program.built
  rw [h3,h1]
  simp only [h4,h2]
  rw [show z.cells=zc.toArray by rw [← h5]]
  exact this
theorem eE.sound {A:LN} {q:Option (Bool×Nat×Value)} {sl:LQ} {base fr:Fr} {r:NV} (h:eE A q sl base fr) (hb:cu r base) :
  (∀ p∈sl,jd p.1 A=true→r p.2.1=p.2.2)→(∀ b d u,q=some (b,d,u)→b=true→r d=u)→cu r fr:=by
 induction h with
 | nil=>intro _ _; exact hb
 | @cons j d u l base fr _ ih=>
  intro h1 _
  refine ih hb (fun p hp=>h1 p (by simp [hp])) ?_
  rintro b d' u' he hbt
  cases he
  exact h1 (j,d,u) (by simp) hbt
 | @ef d u l base fr _ ih=>
  intro h1 h2
  intro s v hl
  unfold look at hl
  cases tD:Nat.beq s d with
  | true=>rw [tD] at hl; cases hl; rw [Nat.eq_of_beq_eq_true tD]; exact h2 true d _ rfl rfl
  | false=>rw [tD] at hl; exact ih hb h1 (fun _ _ _ h=>nomatch h) s v hl
 | drop _ ih=>intro h1 _; exact ih hb h1 (fun _ _ _ h=>nomatch h)
def BO:List (Nat×Nat×Value)→Fr→Fr
 | [],f=>f
 | (_,d,u) :: l,f=>(d,u) :: BO l f
inductive Lp (P:Program) (f:FuncId) (xs:List Operand) (fr:Fr) (Γ:QE) {β V:Type} (mo:Option β) (rt:β→V→List Value) (ps:β→V→List aw):Prop
 | mk {vs:LV} {Δ:QE} (hx:uZ fr xs=some vs) (hc:Ct P f true mo vs Δ rt ps) (hd:FO Δ) (hr:ER true Γ Δ):Lp P f xs fr Γ mo rt ps
inductive ZP (P:Program) (f:FuncId):Prop
 | mk [h:bn P f]:ZP P f
inductive Lq (P:Program) (f:FuncId) (as bs:LV) (xs:List Operand) (fr:Fr) (Γ:QE) {β V:Type} (mo:Option β) (rt:β→V→List Value) (ps:β→V→List aw):Prop
 | mk {vs us ws:LV} {Δ:QE} (hx:uZ fr xs=some vs) (h1:nm vs bs us) (h2:nm as us ws) (hc:Ct P f true mo ws Δ rt ps) (hd:FO Δ) (hr:ER true Γ Δ):Lq P f as bs xs fr Γ mo rt ps
inductive HI {β V:Type} (P:Program) (f:FuncId) (xs:List Operand) (fr:Fr) (hd Γ:QE) (mo:Option β) (rt:β→V→List Value) (ps:β→V→List aw):Prop
 | mk {vs:LV} {Δ Γ':QE} (hx:uZ fr xs=some vs) (hc:Ct P f false mo vs Δ rt ps) (ho:EO hd Δ Γ') (hr:ER false (Γ'++Γ) Δ):HI P f xs fr hd Γ mo rt ps
inductive D7 (P:Program) (f:FuncId) (xs:List Operand) (fr:Fr) (hd:QE) (Γ:QE) {β V:Type} (mo:Option β) (rt:β→V→List Value) (ps:β→V→List aw):Prop
 | mk {vs:LV} {Δ Γ':QE} (hx:uZ fr xs=some vs) (hc:Ct P f true mo vs Δ rt ps) (ho:EO hd Δ Γ') (hr:ER true Γ Δ):D7 P f xs fr hd Γ mo rt ps
inductive n9:List ir→Prop
 | nil:n9 []
 | cons {a:ir} {l:MM} (h:D2 a.V) (k:n9 l):n9 (a :: l)
theorem n9.ne {ms:MM} (h:n9 ms):Nonempty (oK ms):=by
 induction h with
 | nil=>exact ⟨()⟩
 | cons h _ ih=>obtain ⟨a⟩:=h.ne; obtain ⟨b⟩:=ih; exact ⟨(a,b)⟩
inductive F8:List ir→Nat→Bool→Prop
 | here {a:ir} {l:MM}:F8 (a :: l) a.d true
 | there {a:ir} {l:MM} {t:Nat} {b:Bool} (h:F8 l t b):F8 (a :: l) t b
 | nil {t:Nat}:F8 [] t false
inductive Pz (fr:Fr) (Γ:QE) (t:Nat):Prop
 | mk {v:Value} (h:look fr t=some v) (hc:One Γ v):Pz fr Γ t
inductive PB (fr:Fr) (t n:Nat):Prop
 | mk {cs:LV} (h:look fr t=some (.agg cs.toArray)) (hl:cs.length=n):PB fr t n
inductive U5 (fr:Fr) (Γ:QE) (t n:Nat):Prop
 | mk {v:Value} (h:look fr t=some v) (hc:u7 Γ v n):U5 fr Γ t n
inductive JA (R S:Type):Type 1
 | a (as:LL) (ops:LO) (i:Nat) (sl:LQ) (ms:MM) (Γ:QE) (m:Option (Out S R))
 | o (A:LN) (op:Op) (d:Nat) (ty:TI) (as:LL) (ops:LO) (i:Nat) (sl:LQ) (ms:MM) (Γ:QE) (m:Option (Out S R))
 | ow (b:Bool) (A:LN) (op:Op) (d:Nat) (ty:TI) (as:LL) (ops:LO) (i:Nat) (sl:LQ) (ms:MM) (Γ:QE) (m:Option (Out S R))
 | ix (b:Bool) (v:Value) (fr:Fr) (x y:OO) (t:TI) (A:LN) (d:Nat) (ty:TI) (as:LL) (ops:LO) (i:Nat) (sl:LQ) (ms:MM) (Γ:QE) (m:Option (Out S R))
 | lb (b:Bool) (v:Value) (j:Int) (fr:Fr) (t:TI) (x:OO) (A:LN) (d:Nat) (ty:TI) (as:LL) (ops:LO) (i:Nat) (sl:LQ) (ms:MM) (Γ:QE) (m:Option (Out S R))
 | ap (us:LN) (t1 t2:Nat) (t:TI) (A:LN) (d:Nat) (ty:TI) (as:LL) (ops:LO) (i:Nat) (sl:LQ) (ms:MM) (Γ:QE) (m:Option (Out S R))
 | la (fr:Fr) (ad:Addr) (lk:Option Nat) (t:TI) (x:OO) (A:LN) (d:Nat) (ty:TI) (as:LL) (ops:LO) (i:Nat) (sl:LQ) (ms:MM) (Γ:QE) (m:Option (Out S R))
 | ld {α:Type} (E:ag α) (z:α) (fr:Fr) (ad:Addr) (t:TI) (x:OO) (A:LN) (d:Nat) (ty:TI) (as:LL) (ops:LO) (i:Nat) (sl:LQ) (ms:MM) (Γ:QE) (m:Option (Out S R))
 | oc (us:LN) (f:FuncId) (xs:List Operand) (au:Array TypeId) (A:LN) (d:Nat) (ty:TI) (as:LL) (ops:LO) (i:Nat) (sl:LQ) (ms:MM) (Γ:QE) (m:Option (Out S R))
 | os (A:LN) (op:Op) (ty:TI) (as:LL) (ops:LO) (i:Nat) (sl:LQ) (ms:MM) (Γ:QE) (m:Option (Out S R))
 | cr {V:Type} (u:V→Value) (ps:V→List aw) (d:Nat) (as:LL) (ops:LO) (i:Nat) (sl:LQ) (ms:MM) (Γ:QE) (m:Option (Out S R))
 | p (Δ:QE) (as:LL) (ops:LO) (i:Nat) (sl:LQ) (ms:MM) (Γ:QE) (m:Option (Out S R))
inductive Kx:List aw→Value→Bool→Prop
 | here {α:Type} {T:ag α} {v:Value} {x:α} {Γ:QE}:Kx (.own T v x :: Γ) v true
 | there {e:aw} {v:Value} {b:Bool} {Γ:QE} (h:Kx Γ v b):Kx (e :: Γ) v b
 | nil {v:Value}:Kx [] v false
inductive vX:List ir→Nat→ir→List ir→Prop
 | here {a:ir} {l:MM}:vX (a :: l) a.d a l
 | there {a b:ir} {l l':MM} {t:Nat} (h:vX l t a l'):vX (b :: l) t a (b :: l')
inductive Dw:List ir→Nat→ir→List ir→Prop
 | here {a:ir} {l:MM}:Dw (a :: l) a.j a l
 | there {a b:ir} {l l':MM} {t:Nat} (h:Dw l t a l'):Dw (b :: l) t a (b :: l')
def PC (j i:Nat) (sl:LQ):List (Nat×Nat×Value):=sl.map fun p=>bif Nat.beq p.1 j then (i,p.2) else p
def Fb (U:LL) (_sl:LQ) (ms:MM):Bool:=U.all fun us=>us.all fun j=>ms.all fun a=>!Nat.beq a.j j
inductive AD {R S:Type} (tq:Bool) (P:Program) (cx:Cx R) (K:dk R S) (l tail:LO) (base:Fr) (U:LL):List aw→JA R S→Prop
 | nil {hd:QE} {i:Nat} {sl:LQ} {ms:MM} {Γ:QE} {m:Option (Out S R)} (Az:Dv ms=true) (he:Fb U sl ms=true) (h:∀ x:oK ms,D P cx (.p (BO sl (mF ms x)) (E9 ms x) base Γ fun fr Γ=>.tg tq (Ds tail) l tail K Γ fr m)):AD tq P cx K l tail base U hd (.a [] [] i sl ms Γ m)
 | cons {hd:QE} {A:LN} {as:LL} {op:Op} {d:Nat} {ty:TI} {pos:String} {af:Array Edge} {ops:LO} {i:Nat} {sl:LQ} {ms:MM} {Γ:QE} {m:Option (Out S R)} (h:AD tq P cx K l tail base U hd (.o A op d ty as ops i sl ms Γ m)) :
   AD tq P cx K l tail base U hd (.a (A :: as) (⟨some d,op,ty,pos,af,none⟩ :: ops) i sl ms Γ m)
 | Lr {hd:QE} {A:LN} {as:LL} {op:Op} {ty:TI} {pos:String} {af:Array Edge} {ops:LO} {i:Nat} {sl:LQ} {ms:MM} {Γ:QE} {m:Option (Out S R)} (h:AD tq P cx K l tail base U hd (.os A op ty as ops i sl ms Γ m)) :
   AD tq P cx K l tail base U hd (.a (A :: as) (⟨none,op,ty,pos,af,none⟩ :: ops) i sl ms Γ m)
 | UM {hd:QE} {t e:TI} {t1 j1 n:Nat} {y:OO} {u:Value} {us cs ds:LV} {qg:MM} {fr:Fr} {A:LN} {as:LL} {ty:TI} {ops:LO} {i:Nat} {sl:LQ} {ms:MM} {Γ:QE} {m:Option (Out S R)} [ht:vH P t n]
   (h1:vX ms t1 ⟨j1,t1,[],Nat,fun _ b=>.pointer (some ⟨b,0,none⟩),fun _ b=>[.row b cs e]⟩ qg) (hv:eE A none sl base fr) (hy:bp fr y=some u) (hc:tx Γ u us) (hn:us.length=n) (hs:uw us 0 cs ds) (ho:vP Γ us) (h4:jd j1 A=true) (h6:U.getD i []=[j1])
   (h:AD tq P cx K l tail base U hd (.a as ops (i+1) sl (⟨i,t1,[],Nat,fun _ b=>.pointer (some ⟨b,0,none⟩),fun _ b=>[.row b ds e]⟩ :: qg) Γ m)):AD tq P cx K l tail base U hd (.os A (.store t (.tmp t1) y) ty as ops i sl ms Γ m)
 | Hq {hd:QE} {α:Type} {A:LN} {as:LL} {d:Nat} {t e ty:TI} {E:ag α} {z0:α} {bt:Nat} {ops:LO} {i:Nat} {sl:LQ} {ms:MM} {Γ:QE} {m:Option (Out S R)} [hz:tX P t α e E z0 bt]
   (h:AD tq P cx K l tail base U hd (.a as ops (i+1) sl (⟨i,d,[],Value,fun _ v=>v,fun _ v=>[.own (aJ e E) v []]⟩ :: ms) Γ m)):AD tq P cx K l tail base U hd (.o A (.buildSlice t 0 #[]) d ty as ops i sl ms Γ m)
 | sw4 {hd:QE} {t st e:Nat} {α:Type} {E:ag α} {z0:α} {bt:Nat} {b:Bool} {A:LN} {as:LL} {d:Nat} {ty:TI} {ops:LO} {i:Nat} {sl:LQ} {ms:MM} {Γ:QE} {m:Option (Out S R)} [hz:tX P st α e E z0 bt] (hw:F8 ms t b) (h:AD tq P cx K l tail base U hd (.ow b A (.buildSlice st 1 #[(0,.tmp t)]) d ty as ops i sl ms Γ m)):AD tq P cx K l tail base U hd (.o A (.buildSlice st 1 #[(0,.tmp t)]) d ty as ops i sl ms Γ m)
 | ltn {hd:QE} {t e:TI} {n:Nat} {ps:List (Nat×Operand)} {us:LV} {fr:Fr} {A:LN} {as:LL} {d:Nat} {ty:TI} {ops:LO} {i:Nat} {sl:LQ} {ms:MM} {Γ:QE} {m:Option (Out S R)} [hz:Ko P t e] (hv:eE A none sl base fr) (hl:vR Γ fr 0 ps us) (hn:us.length=n) (hb:(Nat.ble 1 n && Nat.ble n 16777216)=true)
   (h:AD tq P cx K l tail base U hd (.a as ops (i+1) sl (⟨i,d,[],Nat,fun _ b=>.slice (some ⟨b,0,none⟩) n n,fun _ b=>[.row b us e]⟩ :: ms) Γ m)):AD tq P cx K l tail base U hd (.o A (.buildSlice t n ps.toArray) d ty as ops i sl ms Γ m)
 | ltu {hd:QE} {t e:TI} {n:Nat} {ps:List (Nat×Operand)} {us:LV} {fr:Fr} {A:LN} {as:LL} {d:Nat} {ty:TI} {ops:LO} {i:Nat} {sl:LQ} {ms:MM} {Γ:QE} {m:Option (Out S R)} [hz:Kr P t e] (hv:eE A none sl base fr) (hl:vR Γ fr 0 ps us) (hn:us.length=n) (hb:(Nat.ble 1 n && Nat.ble n 16777216)=true)
   (h:AD tq P cx K l tail base U hd (.a as ops (i+1) sl (⟨i,d,[],Nat,fun _ b=>.slice (some ⟨b,0,none⟩) n n,fun _ b=>[.row b us e]⟩ :: ms) Γ m)):AD tq P cx K l tail base U hd (.o A (.buildSlice t n ps.toArray) d ty as ops i sl ms Γ m)
 | sw1 {hd:QE} {t:Nat} {b:Bool} {A:LN} {as:LL} {d:Nat} {ty:TI} {ops:LO} {i:Nat} {sl:LQ} {ms:MM} {Γ:QE} {m:Option (Out S R)} (hw:F8 ms t b) (h:AD tq P cx K l tail base U hd (.ow b A (.move (.tmp t)) d ty as ops i sl ms Γ m)):AD tq P cx K l tail base U hd (.o A (.move (.tmp t)) d ty as ops i sl ms Γ m)
 | sw2 {hd:QE} {t k:Nat} {b:Bool} {A:LN} {as:LL} {d:Nat} {ty:TI} {ops:LO} {i:Nat} {sl:LQ} {ms:MM} {Γ:QE} {m:Option (Out S R)} (hw:F8 ms t b) (h:AD tq P cx K l tail base U hd (.ow b A (.extract (.tmp t) k) d ty as ops i sl ms Γ m)):AD tq P cx K l tail base U hd (.o A (.extract (.tmp t) k) d ty as ops i sl ms Γ m)
 | wlt {hd:QE} {t e:TI} {α:Type} {E:ag α} {z0:α} {bt:Nat} {u:Value} {x:OO} {fr:Fr} {A:LN} {as:LL} {d:Nat} {ty:TI} {ops:LO} {i:Nat} {sl:LQ} {ms:MM} {Γ:QE} {m:Option (Out S R)} [hz:tX P t α e E z0 bt] (hv:eE A none sl base fr) (hx:bp fr x=some u) (h1:One Γ u)
   (h:AD tq P cx K l tail base U hd (.a as ops (i+1) sl (⟨i,d,[],Nat,fun _ b=>.slice (some ⟨b,0,none⟩) 1 1,fun _ b=>[.row b [u] e]⟩ :: ms) Γ m)):AD tq P cx K l tail base U hd (.ow false A (.buildSlice t 1 #[(0,x)]) d ty as ops i sl ms Γ m)
 | sw5 {hd:QE} {t st:Nat} {b:Bool} {A:LN} {as:LL} {d:Nat} {ty:TI} {ops:LO} {i:Nat} {sl:LQ} {ms:MM} {Γ:QE} {m:Option (Out S R)} (hw:F8 ms t b) (h:AD tq P cx K l tail base U hd (.ow b A (.call ⟨.builtin .len,#[.tmp t],#[st]⟩) d ty as ops i sl ms Γ m)):AD tq P cx K l tail base U hd (.o A (.call ⟨.builtin .len,#[.tmp t],#[st]⟩) d ty as ops i sl ms Γ m)
 | mln {hd:QE} {t n:Nat} {st:TI} {A:LN} {as:LL} {d:Nat} {ty:TI} {ops:LO} {i:Nat} {sl:LQ} {ms:MM} {Γ:QE} {m:Option (Out S R)} [ht:yT P st] (hi:n9 ms) (Az:qi A ms=true) (hx:∀ x:oK ms,U5 (na A ms x) (r9 A ms x) t n) (h:AD tq P cx K l tail base U hd (.a as ops (i+1) ((i,d,.int .i64 (n:Int)) :: sl) ms Γ m)):AD tq P cx K l tail base U hd (.ow true A (.call ⟨.builtin .len,#[.tmp t],#[st]⟩) d ty as ops i sl ms Γ m)
 | U6 {hd:QE} {t:TI} {cs:LV} {A:LN} {as:LL} {d:Nat} {ty:TI} {ops:LO} {i:Nat} {sl:LQ} {ms:MM} {Γ:QE} {m:Option (Out S R)} [hz:yU P t cs] (h:AD tq P cx K l tail base U hd (.a as ops (i+1) sl (⟨i,d,[],Nat,fun _ b=>.pointer (some ⟨b,0,none⟩),fun _ b=>[.row b cs t]⟩ :: ms) Γ m)):AD tq P cx K l tail base U hd (.o A (.alloc t) d ty as ops i sl ms Γ m)
 | UL {hd:QE} {us:LN} {t1 t2:Nat} {t:TI} {A:LN} {as:LL} {d:Nat} {ty:TI} {ops:LO} {i:Nat} {sl:LQ} {ms:MM} {Γ:QE} {m:Option (Out S R)} (hU:U.getD i []=us) (h:AD tq P cx K l tail base U hd (.ap us t1 t2 t A d ty as ops i sl ms Γ m)):AD tq P cx K l tail base U hd (.o A (.call ⟨.builtin .append,#[.tmp t1,.tmp t2],#[t,t]⟩) d ty as ops i sl ms Γ m)
 | apH {hd jh:QE} {α:Type} {t e e' et:TI} {E E':ag α} {z0:α} {bt t1 t2 j2:Nat} {v u yv:Value} {j:Int} {y:α} {z:List α} {xs:List (List α)} {o1 o2:Bool} {Γx:QE} {HJ:MM} {fr:Fr} {f:Unit→Option (Out S R)} {A:LN} {as:LL} {d:Nat} {ty:TI} {ops:LO} {i:Nat} {sl:LQ} {ms:MM} {Γ:QE} [hT:tX P t α e E z0 bt]
   (hV:((U.set i []).all fun us=>!(us.contains l.length))=true) (hv:eE A none sl base fr) (hs:look fr t1=some u) (h2:vX ms t2 ⟨j2,t2,[],Nat,fun _ b=>.slice (some ⟨b,0,none⟩) 1 1,fun _ b=>[.row b [yv] et]⟩ HJ) (h5:jd j2 A=true) (hl:Loc hd u (.row v j)) (hz:qp hd u o1 o2 E' z uf Γx) (h1:di hd (.own (aJ e' (aJ e E)) v xs) jh) (hr:RT (aJ e E) (bJ E')) (hy:C4 [] E yv y [])
   (h:AD tq P cx K l tail base U jh (.a as ops (i+1) sl (⟨i,d,[],Value,fun _ v'=>v',fun _ v'=>[.own (aJ e E) v' (z++[y]),.own (vb e' (aJ e E) j.toNat) v xs]⟩ :: ms) Γ (f ()))):AD tq P cx K l tail base U hd (.ap [l.length] t1 t2 t A d ty as ops i sl ms Γ (fits bt (z.length+1)>>=f))
 | ap1 {hd:QE} {us:LN} {t e et:TI} {E:ag Int} {z0:Int} {bt t1 t2 j2 d2:Nat} {k:IntKind} {y:Int} {xs:List Int} {a1:ir} {qg HJ:MM} {f:Unit→Option (Out S R)} {A:LN} {as:LL} {d:Nat} {ty:TI} {ops:LO} {i:Nat} {sl:LQ} {ms:MM} {Γ:QE} [hz:tX P t Int e E z0 bt] (h1:vX ms t1 a1 qg) (h2:vX qg t2 ⟨j2,d2,[],Nat,fun _ b=>.slice (some ⟨b,0,none⟩) 1 1,fun _ b=>[.row b [.int k y] et]⟩ HJ) (h3:∀ u v,a1.ps u v=[.own (aJ e (aM k)) (a1.rt u v) xs]) (hu:us=[a1.j]) (h4:jd a1.j A=true) (h5:jd j2 A=true)
   (h:AD tq P cx K l tail base U hd (.a as ops (i+1) sl (⟨i,d,[],Value,fun _ v=>v,fun _ v=>[.own (aJ e (aM k)) v (xs++[y])]⟩ :: qg) Γ (f ()))):AD tq P cx K l tail base U hd (.ap us t1 t2 t A d ty as ops i sl ms Γ (fits bt (xs.length+1)>>=f))
 | wv {hd:QE} {op:Op} {u:Value} {fr:Fr} {A:LN} {as:LL} {d:Nat} {ty:TI} {ops:LO} {i:Nat} {sl:LQ} {ms:MM} {Γ:QE} {m:Option (Out S R)} (hv:eE A none sl base fr) (hq:VQ P Γ fr op u) (h:AD tq P cx K l tail base U hd (.a as ops (i+1) ((i,d,u) :: sl) ms Γ m)):AD tq P cx K l tail base U hd (.ow false A op d ty as ops i sl ms Γ m)
 | mbl {hd:QE} {t:TI} {ps:List (Nat×Operand)} {zc:LV} {pl:List (Nat×Nat)} {fr:Fr} {A:LN} {as:LL} {d:Nat} {ty:TI} {ops:LO} {i:Nat} {sl:LQ} {ms:MM} {Γ:QE} {m:Option (Out S R)} [hb:Bt P t zc pl] (hi:n9 ms) (Az:qi A ms=true) (nq:(Ay ms ps).isEmpty=false) (hj:ZO A ms (Ay ms ps)=true) (hv:eE A none sl base fr)
   (hx:∀ x:oK ms,xC (r9 A ms x++Γ) (na A ms x++fr) pl ps zc (U3 pl fr (Ay ms ps) ps zc (zA (yX (mF ms x)) (Ay ms ps))))
   (h:AD tq P cx K l tail base U hd (.a as ops (i+1) sl (⟨i,d,Ay ms ps,Unit,fun u _=>.agg (U3 pl fr (Ay ms ps) ps zc u).toArray,fun _ _=>[]⟩ :: ms) Γ m)):AD tq P cx K l tail base U hd (.o A (.build t ps.toArray) d ty as ops i sl ms Γ m)
 | mlt {hd:QE} {t:Nat} {Ng e:TI} {α:Type} {E:ag α} {z0:α} {bt:Nat} {A:LN} {as:LL} {d:Nat} {ty:TI} {ops:LO} {i:Nat} {sl:LQ} {ms:MM} {Γ:QE} {m:Option (Out S R)} [hz:tX P Ng α e E z0 bt] (hi:n9 ms) (Az:qi A ms=true) (hj:∃ j,sr t ms=some j∧jd j A=true) (hx:∀ x:oK ms,Pz (na A ms x) (r9 A ms x) t)
   (h:AD tq P cx K l tail base U hd (.a as ops (i+1) sl (⟨i,d,[t],Nat,fun _ b=>.slice (some ⟨b,0,none⟩) 1 1,fun u b=>[.row b [u] e]⟩ :: ms) Γ m)):AD tq P cx K l tail base U hd (.ow true A (.buildSlice Ng 1 #[(0,.tmp t)]) d ty as ops i sl ms Γ m)
 | ZQ {hd:QE} {t n:Nat} {Ng e:TI} {A:LN} {as:LL} {d:Nat} {ty:TI} {ops:LO} {i:Nat} {sl:LQ} {ms:MM} {Γ:QE} {m:Option (Out S R)} [hz:Hl P Ng e n] (hb:(Nat.ble 1 1 && Nat.ble (1 * n) 16777216)=true) (hi:n9 ms) (Az:qi A ms=true) (hj:∃ j,sr t ms=some j∧jd j A=true) (hx:∀ x:oK ms,PB (na A ms x) t n)
   (h:AD tq P cx K l tail base U hd (.a as ops (i+1) sl (⟨i,d,[t],Nat,fun _ b=>.slice (some ⟨b,0,none⟩) 1 1,fun u b=>[.row b u.cells.toList e]⟩ :: ms) Γ m)):AD tq P cx K l tail base U hd (.o A (.buildSlice Ng 1 #[(0,.tmp t)]) d ty as ops i sl ms Γ m)
 | mk {hd:QE} {t e:TI} {α:Type} {E:ag α} {z0:α} {bt:Nat} {x:OO} {z:Int} {fr:Fr} {f:Nat→Option (Out S R)} {A:LN} {as:LL} {d:Nat} {ty:TI} {ops:LO} {i:Nat} {sl:LQ} {ms:MM} {Γ:QE} [hz:tX P t α e E z0 bt] (hv:eE A none sl base fr) (hx:bp fr x=some (.int .i64 z))
   (h:∀ n,AD tq P cx K l tail base U hd (.a as ops (i+1) sl (⟨i,d,[],Value,fun _ v=>v,fun _ v=>[.own (aJ e E) v (List.replicate n z0)]⟩ :: ms) Γ (f n))):AD tq P cx K l tail base U hd (.o A (.makeSlice t x x) d ty as ops i sl ms Γ (mk bt z>>=f))
 | ixs {hd:QE} {b:Bool} {v:Value} {x y:OO} {t:TI} {fr:Fr} {A:LN} {as:LL} {d:Nat} {ty:TI} {ops:LO} {i:Nat} {sl:LQ} {ms:MM} {Γ:QE} {m:Option (Out S R)} (hv:eE A none sl base fr) (hx:bp fr x=some v) (hw:Kx hd v b) (h:AD tq P cx K l tail base U hd (.ix b v fr x y t A d ty as ops i sl ms Γ m)):AD tq P cx K l tail base U hd (.o A (.indexAddr t x y) d ty as ops i sl ms Γ m)
 | idx {hd:QE} {α:Type} {A:LN} {as:LL} {d:Nat} {x y:OO} {v:Value} {k:IntKind} {j:Int} {t ty:TI} {o1 o2:Bool} {E:ag α} {xs:List α} {ops:LO} {i:Nat} {sl:LQ} {ms:MM} {fr:Fr} {Γ:QE} {Γ':α→List aw} {f:α→Option (Out S R)} [ht:yT P t]
   (hy:bp fr y=some (.int k j)) (hr:∀ z,qp Γ v o1 o2 E xs (.ad o1 o2 v j E z) (Γ' z)) (hE:E.size=1)
   (h:∀ z,AD tq P cx K l tail base U hd (.a as ops (i+1) ((i,d,.pointer (some (dc v 1 j))) :: sl) ms (Γ' z) (f z))):AD tq P cx K l tail base U hd (.ix false v fr x y t A d ty as ops i sl ms Γ (idx xs j>>=f))
 | abA {hd:QE} {α:Type} {A:LN} {as:LL} {d:Nat} {x y:OO} {v:Value} {k:IntKind} {j:Int} {t ty:TI} {o1 o2:Bool} {E:ag α} {xs:List α} {ops:LO} {i:Nat} {sl:LQ} {ms:MM} {fr:Fr} {Γ:QE} {jh:α→List aw} {f:α→Option (Out S R)} [ht:yT P t]
   (hy:bp fr y=some (.int k j)) (hr:∀ z,qp hd v o1 o2 E xs (.ad o1 o2 v j E z) (jh z)) (hE:E.size=1)
   (h:∀ z,AD tq P cx K l tail base U (jh z) (.a as ops (i+1) ((i,d,.pointer (some (dc v 1 j))) :: sl) ms Γ (f z))):AD tq P cx K l tail base U hd (.ix true v fr x y t A d ty as ops i sl ms Γ (idx xs j>>=f))
 | load {hd:QE} {A:LN} {as:LL} {d:Nat} {x:OO} {a:Addr} {t ty:TI} {lk:Option Nat} {ops:LO} {i:Nat} {sl:LQ} {ms:MM} {fr:Fr} {Γ:QE} {m:Option (Out S R)} [ht:LK P t lk] (hv:eE A none sl base fr) (hx:bp fr x=some (.pointer (some a)))
   (h:AD tq P cx K l tail base U hd (.la fr a lk t x A d ty as ops i sl ms Γ m)):AD tq P cx K l tail base U hd (.o A (.load t x) d ty as ops i sl ms Γ m)
 | lsw {hd:QE} {b:Bool} {v:Value} {j:Int} {x:OO} {t:TI} {fr:Fr} {A:LN} {as:LL} {d:Nat} {ty:TI} {ops:LO} {i:Nat} {sl:LQ} {ms:MM} {Γ:QE} {m:Option (Out S R)} (hw:Kx hd v b) (h:AD tq P cx K l tail base U hd (.lb b v j fr t x A d ty as ops i sl ms Γ m)):AD tq P cx K l tail base U hd (.la fr (dc v 1 j) none t x A d ty as ops i sl ms Γ m)
 | UH {hd:QE} {α:Type} {A:LN} {as:LL} {d:Nat} {x:OO} {v:Value} {j:Int} {o:Bool} {E:ag α} {z:α} {t ty:TI} {ops:LO} {i:Nat} {sl:LQ} {ms:MM} {fr:Fr} {Γ Γx:QE} {m:Option (Out S R)} (h:u3 Γ (dc v 1 j) o E z uf Γx)
   (k:AD tq P cx K l tail base U hd (.ld E z fr (dc v 1 j) t x A d ty as ops i sl ms Γ m)):AD tq P cx K l tail base U hd (.lb false v j fr t x A d ty as ops i sl ms Γ m)
 | abB {hd:QE} {α:Type} {A:LN} {as:LL} {d:Nat} {x:OO} {v:Value} {j:Int} {E:ag α} {z:List α} {o:Bool} {t ty:TI} {ops:LO} {i:Nat} {sl:LQ} {ms:MM} {fr:Fr} {Γ:QE} {U7 jh:Value→List aw} {m:Option (Out S R)} (hV:((U.zipIdx.all fun p=>!(p.1.contains l.length) || ((cf l).getD p.2 []).contains i))=true) (h:∀ u,u3 hd (dc v 1 j) o (bJ E) z (.rd o (bJ E) u z) (U7 u)) (h2:∀ u,zw (U7 u) v j u (jh u))
   (k:∀ u,AD tq P cx K l tail base U (jh u) (.a as ops (i+1) ((i,d,u) :: sl) ms Γ m)):AD tq P cx K l tail base U hd (.lb true v j fr t x A d ty as ops i sl ms Γ m)
 | UI {hd:QE} {A:LN} {as:LL} {d:Nat} {x:OO} {a:Addr} {u:Value} {t ty:TI} {ops:LO} {i:Nat} {sl:LQ} {ms:MM} {fr:Fr} {Γ:QE} {m:Option (Out S R)} (h:vN Γ a u)
   (k:AD tq P cx K l tail base U hd (.a as ops (i+1) ((i,d,u) :: sl) ms Γ m)):AD tq P cx K l tail base U hd (.la fr a none t x A d ty as ops i sl ms Γ m)
 | M4 {hd:QE} {A:LN} {as:LL} {d n:Nat} {x:OO} {a:Addr} {ds:LV} {t ty:TI} {ops:LO} {i:Nat} {sl:LQ} {ms:MM} {fr:Fr} {Γ:QE} {m:Option (Out S R)} (h:vQ Γ a n ds)
   (k:AD tq P cx K l tail base U hd (.a as ops (i+1) ((i,d,.agg ds.toArray) :: sl) ms Γ m)):AD tq P cx K l tail base U hd (.la fr a (some n) t x A d ty as ops i sl ms Γ m)
 | UJ {hd:QE} {A:LN} {as:LL} {d:Nat} {x:OO} {a:Addr} {k:IntKind} {z:Int} {t ty:TI} {ops:LO} {i:Nat} {sl:LQ} {ms:MM} {fr:Fr} {Γ:QE} {m:Option (Out S R)}
   (h:AD tq P cx K l tail base U hd (.a as ops (i+1) ((i,d,.int k z) :: sl) ms Γ m)):AD tq P cx K l tail base U hd (.ld (aM k) z fr a t x A d ty as ops i sl ms Γ m)
 | UK {hd:QE} {α:Type} {A:LN} {as:LL} {d:Nat} {x:OO} {v:Value} {j:Int} {E:ag α} {z:List α} {o:Bool} {t ty:TI} {ops:LO} {i:Nat} {sl:LQ} {ms:MM} {fr:Fr} {Γ:QE} {Γ1 Γ':Value→List aw} {m:Option (Out S R)} (h:∀ u,u3 Γ (dc v 1 j) o (bJ E) z (.rd o (bJ E) u z) (Γ1 u)) (h2:∀ u,zw (Γ1 u) v j u (Γ' u))
   (k:∀ u,AD tq P cx K l tail base U hd (.a as ops (i+1) ((i,d,u) :: sl) ms (Γ' u) m)):AD tq P cx K l tail base U hd (.ld (bJ E) z fr (dc v 1 j) t x A d ty as ops i sl ms Γ m)
 | M3 {hd:QE} {us:LN} {A:LN} {as:LL} {d:Nat} {f:FuncId} {xs:List Operand} {au:Array TypeId} {ty:TI} {ops:LO} {i:Nat} {sl:LQ} {ms:MM} {Γ:QE} {m:Option (Out S R)} (hU:U.getD i []=us) (h:AD tq P cx K l tail base U hd (.oc us f xs au A d ty as ops i sl ms Γ m)):AD tq P cx K l tail base U hd (.o A (.call ⟨.value (.func f),xs.toArray,au⟩) d ty as ops i sl ms Γ m)
 | abC {hd:QE} {β V:Type} {A:LN} {as:LL} {d:Nat} {f:FuncId} {fs bs:LV} {xo:OO} {xs:List Operand} {au:Array TypeId} {ty:TI} {mo:Option β} {rt:β→V→List Value} {ps:β→V→List aw} {ops:LO} {i:Nat} {sl:LQ} {ms:MM} {fr:Fr} {Γ:QE} {g:β→Option (Out S R)}
   (hv:eE A none sl base fr) (hx:bp fr xo=some (.func (.func f) fs.toArray bs.toArray)) (hf:ZP P f) (hc:∀ x:oK ms,Lq P f fs bs xs (na A ms x++fr) (r9 A ms x++Γ) mo rt ps) (hi:n9 ms) (Az:qi A ms=true) (ho:∀ y v,sQ (ps y v)=true)
   (h:∀ y,AD tq P cx K l tail base U hd (.cr (fun v=>pr (rt y v)) (ps y) d as ops i sl ms Γ (g y))):AD tq P cx K l tail base U hd (.o A (.call ⟨.value xo,xs.toArray,au⟩) d ty as ops i sl ms Γ (mo>>=g))
 | call {hd:QE} {β V:Type} {A:LN} {as:LL} {d:Nat} {f:FuncId} {xs:List Operand} {au:Array TypeId} {ty:TI} {mo:Option β} {rt:β→V→List Value} {ps:β→V→List aw} {ops:LO} {i:Nat} {sl:LQ} {ms:MM} {fr:Fr} {Γ:QE} {g:β→Option (Out S R)} [hf:bn P f]
   (hv:eE A none sl base fr) (hc:∀ x:oK ms,Lp P f xs (na A ms x++fr) (r9 A ms x++Γ) mo rt ps) (hi:n9 ms) (Az:qi A ms=true) (ho:∀ y v,sQ (ps y v)=true)
   (h:∀ y,AD tq P cx K l tail base U hd (.cr (fun v=>pr (rt y v)) (ps y) d as ops i sl ms Γ (g y))):AD tq P cx K l tail base U hd (.oc [] f xs au A d ty as ops i sl ms Γ (mo>>=g))
 | YW {hd:QE} {β V:Type} {A:LN} {as:LL} {d:Nat} {f:FuncId} {xs:List Operand} {au:Array TypeId} {ty:TI} {mo:Option β} {rt:β→V→List Value} {ps:β→V→List aw} {ops:LO} {i:Nat} {sl:LQ} {ms:MM} {fr:Fr} {Γ:QE} {g:β→Option (Out S R)} [hf:bn P f]
   (hV:((U.set i []).all fun us=>!(us.contains l.length))=true) (hv:eE A none sl base fr) (hc:∀ x:oK ms,D7 P f xs (na A ms x++fr) hd (r9 A ms x++Γ) mo rt ps) (hi:n9 ms) (Az:qi A ms=true) (ho:∀ y v,sQ (ps y v)=true)
   (h:∀ y,AD tq P cx K l tail base U hd (.cr (fun v=>pr (rt y v)) (ps y) d as ops i sl ms Γ (g y))):AD tq P cx K l tail base U hd (.oc [l.length] f xs au A d ty as ops i sl ms Γ (mo>>=g))
 | YX {hd:QE} {β V:Type} {j1:Nat} {a1:ir} {qg:MM} {A:LN} {as:LL} {d:Nat} {f:FuncId} {xs:List Operand} {au:Array TypeId} {ty:TI} {mo:Option β} {rt:β→V→List Value} {ps:β→V→List aw} {ops:LO} {i:Nat} {sl:LQ} {ms:MM} {fr:Fr} {Γ:QE} {g:β→Option (Out S R)} [hf:bn P f]
   (h1:Dw ms j1 a1 qg) (R6:a1.src=[]) (h4:jd j1 A=true) (hv:eE A none sl base fr) (hc:∀ (q:a1.V) (x:oK qg),D7 P f xs (na A qg x++fr) (a1.ps undef q) (r9 A qg x++Γ) mo rt ps) (hi:n9 qg) (Az:qi A qg=true) (ho:∀ y v,sQ (ps y v)=true)
   (h:∀ y,AD tq P cx K l tail base U hd (.cr (fun v=>pr (rt y v)) (ps y) d as ops i (PC j1 i sl) qg Γ (g y))):AD tq P cx K l tail base U hd (.oc [j1] f xs au A d ty as ops i sl ms Γ (mo>>=g))
 | crv {hd:QE} {u:Unit→Value} {d:Nat} {as:LL} {ops:LO} {i:Nat} {sl:LQ} {ms:MM} {Γ:QE} {m:Option (Out S R)} (h:AD tq P cx K l tail base U hd (.a as ops (i+1) ((i,d,u ()) :: sl) ms Γ m)):AD tq P cx K l tail base U hd (.cr u (fun _=>[]) d as ops i sl ms Γ m)
 | crb {hd:QE} {u:Unit→Value} {ps:Unit→List aw} {d:Nat} {as:LL} {ops:LO} {i:Nat} {sl:LQ} {ms:MM} {Γ:QE} {m:Option (Out S R)} (h:AD tq P cx K l tail base U hd (.a as ops (i+1) ((i,d,u ()) :: sl) (⟨i,d,[],Unit,fun _=>u,fun _=>ps⟩ :: ms) Γ m)):AD tq P cx K l tail base U hd (.cr u ps d as ops i sl ms Γ m)
 | crm {hd:QE} {V:Type} {u:V→Value} {ps:V→List aw} {d:Nat} {as:LL} {ops:LO} {i:Nat} {sl:LQ} {ms:MM} {Γ:QE} {m:Option (Out S R)} (h:AD tq P cx K l tail base U hd (.a as ops (i+1) sl (⟨i,d,[],V,fun _=>u,fun _=>ps⟩ :: ms) Γ m)):AD tq P cx K l tail base U hd (.cr u ps d as ops i sl ms Γ m)
 | val {hd:QE} {A:LN} {as:LL} {op:Op} {d:Nat} {ty:TI} {u:Value} {ops:LO} {i:Nat} {sl:LQ} {ms:MM} {fr:Fr} {Γ:QE} {m:Option (Out S R)} (hv:eE A none sl base fr) (hq:VQ P Γ fr op u)
   (h:AD tq P cx K l tail base U hd (.a as ops (i+1) ((i,d,u) :: sl) ms Γ m)):AD tq P cx K l tail base U hd (.o A op d ty as ops i sl ms Γ m)
 | ug {hd:QE} {A:LN} {as:LL} {op:BinOp} {x y:OO} {k k':IntKind} {a b:Int} {t t':TI} {d:Nat} {ty:TI} {ops:LO} {i:Nat} {sl:LQ} {ms:MM} {fr:Fr} {Γ:QE} {f:Int→Option (Out S R)} (hv:eE A none sl base fr) (hx:bp fr x=some (.int k a)) (hy:bp fr y=some (.int k' b)) (hk:R0 op k k')
   (h:∀ z,AD tq P cx K l tail base U hd (.a as ops (i+1) ((i,d,.int k z) :: sl) ms Γ (f z))):AD tq P cx K l tail base U hd (.o A (.binOp op t x y t') d ty as ops i sl ms Γ (vI op k a b>>=f))
 | pz {hd:QE} {as:LL} {ops:LO} {i:Nat} {sl:LQ} {ms:MM} {Γ:QE} {m:Option (Out S R)} (h:AD tq P cx K l tail base U hd (.a as ops i sl ms Γ m)):AD tq P cx K l tail base U hd (.p [] as ops i sl ms Γ m)
 | pe {hd:QE} {e:aw} {Δ:QE} {as:LL} {ops:LO} {i:Nat} {sl:LQ} {ms:MM} {Γ:QE} {m:Option (Out S R)} (h:AD tq P cx K l tail base U hd (.p Δ as ops i sl ms (e :: Γ) m)):AD tq P cx K l tail base U hd (.p (e :: Δ) as ops i sl ms Γ m)
 | Hp {hd:QE} {α V:Type} {Sc:ag α} {cl:α→V→List Value} {en:α→V→List aw} {A:LN} {as:LL} {d n:Nat} {x y:OO} {v:Value} {xs:List α} {k:IntKind} {j:Int} {t ty:TI} {ops:LO} {i:Nat} {sl:LQ} {ms:MM} {fr:Fr} {Γ Γx:QE} {f:α→Option (Out S R)} [ht:D0 P t n]
   (hy:bp fr y=some (.int k j)) (hr:qp Γ v false false (iq Sc) xs uf Γx) (hs:FY Sc V cl en) (hn:Sc.size=n)
   (h:∀ z u,AD tq P cx K l tail base U hd (.p (.au (dc v n j) (cl z u) :: en z u) as ops (i+1) ((i,d,.pointer (some (dc v n j))) :: sl) ms Γ (f z))):AD tq P cx K l tail base U hd (.ix false v fr x y t A d ty as ops i sl ms Γ (idx xs j>>=f))
 | U8 {hd:QE} {α V:Type} {Sc:ag α} {cl:α→V→List Value} {en:α→V→List aw} {A:LN} {as:LL} {d n e bt:Nat} {x y:OO} {v:Value} {us:List (List Value)} {xs:List α} {k:IntKind} {j:Int} {t ty:TI} {ops:LO} {i:Nat} {sl:LQ} {ms:MM} {fr:Fr} {Γ Γ1:QE} {f:α→Option (Out S R)} [ht:Bv P t e n bt]
   (hy:bp fr y=some (.int k j)) (h1:di Γ (.own (aJ e (ee n)) v us) Γ1) (hg:In (.rd false (qt Sc) (.bool true) (us,xs)) Γ) (hs:FY Sc V cl en)
   (h:∀ z u,AD tq P cx K l tail base U hd (.p (.rd false (Bq us j) (.bool true) (cl z u) :: en z u) as ops (i+1) ((i,d,.pointer (some (dc v n j))) :: sl) ms Γ (f z))):AD tq P cx K l tail base U hd (.ix false v fr x y t A d ty as ops i sl ms Γ (idx xs j>>=f))
 | ZR {hd:QE} {A:LN} {as:LL} {d n e off:Nat} {x:OO} {v u:Value} {us:List (List Value)} {j:Int} {cs:LV} {t ty:TI} {ops:LO} {i:Nat} {sl:LQ} {ms:MM} {fr:Fr} {Γ Γ1:QE} {m:Option (Out S R)} (h1:di Γ (.own (aJ e (ee n)) v us) Γ1) (hp:In (.rd false (Bq us j) (.bool true) cs) Γ) (hc:cs[off]? = some u)
   (k:AD tq P cx K l tail base U hd (.a as ops (i+1) ((i,d,u) :: sl) ms Γ m)):AD tq P cx K l tail base U hd (.la fr ((dc v n j).add off) none t x A d ty as ops i sl ms Γ m)
 | U9 {hd:QE} {A:LN} {as:LL} {d n e:Nat} {x:OO} {v u:Value} {us:List (List Value)} {j:Int} {cs:LV} {t ty:TI} {ops:LO} {i:Nat} {sl:LQ} {ms:MM} {fr:Fr} {Γ Γ1:QE} {m:Option (Out S R)} (h1:di Γ (.own (aJ e (ee n)) v us) Γ1) (hp:In (.rd false (Bq us j) (.bool true) cs) Γ) (hc:cs[0]? = some u)
   (k:AD tq P cx K l tail base U hd (.a as ops (i+1) ((i,d,u) :: sl) ms Γ m)):AD tq P cx K l tail base U hd (.la fr (dc v n j) none t x A d ty as ops i sl ms Γ m)
 | Nh {hd:QE} {β V:Type} {A:LN} {as:LL} {d:Nat} {f:FuncId} {xs:List Operand} {au:Array TypeId} {ty:TI} {mo:Option β} {rt:β→V→List Value} {ps:β→V→List aw} {ops:LO} {i:Nat} {sl:LQ} {ms:MM} {fr:Fr} {Γ:QE} {g:β→Option (Out S R)} [hf:bn P f]
   (hV:((U.set i []).all fun us=>!(us.contains l.length))=true) (hv:eE A none sl base fr) (hc:∀ x:oK ms,HI P f xs (na A ms x++fr) hd Γ mo rt ps) (hi:n9 ms) (Az:qi A ms=true)
   (h:∀ y,AD tq P cx K l tail base U hd (.cr (fun v=>pr (rt y v)) (ps y) d as ops i sl ms Γ (g y))):AD tq P cx K l tail base U hd (.oc [l.length] f xs au A d ty as ops i sl ms Γ (mo>>=g))
end Go.Dk
namespace Go.Dk
open Go Go.Li
theorem ri {t:Nat} {l:LN}:jd t l=true↔t∈l:=by
 induction l with
 | nil=>simp [jd]
 | cons a l ih=>
  unfold jd
  cases hb:Nat.beq t a with
  | true=>simp [Nat.eq_of_beq_eq_true hb]
  | false=>simp only [cond_false,ih,List.mem_cons]; exact ⟨.inr,fun h=>h.resolve_left fun e=>by rw [e,Nat.beq_refl] at hb; cases hb⟩
def rj (l:LO) (U:LL) (mt:Nat):List (List Nat):=(List.range mt).map fun i=>((cf l).getD i []).filter (vc l U mt i)
theorem s7 {l:LO} {U:LL} {mt i j:Nat} (h:j∈(rj l U mt).getD i []):j∈(cf l).getD i []∧vc l U mt i j=true:=by
 unfold rj at h
 rw [List.getD_eq_getElem?_getD,List.getElem?_map] at h
 by_cases hi:i < mt
 ·rw [List.getElem?_range hi] at h
  exact List.mem_filter.1 h
 ·rw [List.getElem?_eq_none (by simpa using hi)] at h
  exact absurd h List.not_mem_nil
variable {Z:Nat→Prop}
structure ji (Z:Nat→Prop) (l:LO) (S:List iy) (sl:LQ) (ms:MM):Prop where
 v:∀ p∈sl,∃ j,(j=p.1∨j∈(cf l).getD p.1 [])∧bz l j=some p.2.1∧∃ s,S[j]? = some s∧s.b=true∧∀ f w r x,s.V f w r x→x=p.2.2
 m:∀ a∈ms,(S[a.j]? = some ⟨true,MV Z a⟩∧bz l a.j=some a.d)∨(S[a.j]? = some ⟨true,Nd Z a⟩∧bz l a.j=none∧∃ k∈(cf l).getD a.j [],bz l k=some a.d)
 s:∀ i s,S[i]? = some s→R4 Z ((cf l).getD i []) l s
 d:(ms.map (·.j)).Nodup
 t:∀ i j k,j∈(cf l).getD k []→k∈(cf l).getD i []→j∈(cf l).getD i []
theorem ji.lt {l:LO} {S:List iy} {sl:LQ} {ms:MM} (h:ji Z l S sl ms) {a:ir} (ha:a∈ms):a.j < S.length:=by
 rcases h.m a ha with h | h <;> exact (List.getElem?_eq_some_iff.1 h.1).1
theorem ji.HK {l:LO} {S S2:List iy} {sl:LQ} {ms:MM} (h:ji Z l S sl ms) {a:ir} (ha:a∈ms) {g:Nat→List Nat} {r:NV} {w:World} (hd:x9 l (S++S2) a.j g r w):MV Z a (g a.j) w r (r a.d):=by
 rcases h.m a ha with h1 | h1
 ·have h2:=hd.1 a.d h1.2
  rw [List.getElem?_append_left (List.getElem?_eq_some_iff.1 h1.1).1,h1.1] at h2
  exact h2
 ·obtain ⟨x,hx⟩:=hd.2 h1.2.1 _ (by rw [List.getElem?_append_left (List.getElem?_eq_some_iff.1 h1.1).1]; exact h1.1) rfl
  exact hx
theorem ji.slot {l:LO} {S:List iy} {sl:LQ} {ms:MM} (h:ji Z l S sl ms) {a:ir} (ha:a∈ms) {i:Nat} (hi:a.j∈(cf l).getD i []):∃ k∈(cf l).getD i [],bz l k=some a.d:=by
 rcases h.m a ha with h1 | ⟨_,_,k,hk,hd⟩
 ·exact ⟨a.j,hi,h1.2⟩
 ·exact ⟨k,h.t i k a.j hk hi,hd⟩
theorem ji.ui {l:LO} {S S2:List iy} {sl:LQ} {ms:MM} (h:ji Z l S sl ms) {a:ir} (ha:a∈ms):((S++S2)[a.j]? = some ⟨true,MV Z a⟩∧bz l a.j=some a.d)∨((S++S2)[a.j]? = some ⟨true,Nd Z a⟩∧bz l a.j=none∧∃ k∈(cf l).getD a.j [],bz l k=some a.d):=by
 rw [List.getElem?_append_left (h.lt ha)]
 exact h.m a ha
theorem ji.PD {l:LO} {S S2:List iy} {sl:LQ} {ms:MM} (h:ji Z l S sl ms) {p:Nat×Nat×Value} (hp:p∈sl):∃ j,(j=p.1∨j∈(cf l).getD p.1 [])∧bz l j=some p.2.1∧∃ s,(S++S2)[j]? = some s∧s.b=true∧∀ f w r x,s.V f w r x→x=p.2.2:=by
 obtain ⟨j,hj,h1,s,h2,h3⟩:=h.v p hp
 exact ⟨j,hj,h1,s,by rw [List.getElem?_append_left (List.getElem?_eq_some_iff.1 h2).1]; exact h2,h3⟩
theorem ji.zL {l:LO} {S S2:List iy} {sl:LQ} {ms:MM} (h:ji Z l S sl ms) {p:Nat×Nat×Value} (hp:p∈sl) {r:NV} (ho:∀ j,(j=p.1∨j∈(cf l).getD p.1 [])→j < S.length→Old l (S++S2) j r):r p.2.1=p.2.2:=by
 obtain ⟨j,hj,h1,s,h2,h3,h4⟩:=h.v p hp
 have hl:=(List.getElem?_eq_some_iff.1 h2).1
 have:=ho j hj hl _ h1 s (by rw [List.getElem?_append_left hl]; exact h2)
 rw [if_pos h3] at this
 obtain ⟨f,w,hV⟩:=this
 exact h4 f w r _ hV
theorem ji.val {l:LO} {S:List iy} {sl:LQ} {ms:MM} (h:ji Z l S sl ms) {d:Nat} {u:Value} (hd:bz l S.length=some d):ji Z l (S++[sV u]) ((S.length,d,u) :: sl) ms:=by
 refine ⟨?_,fun a ha=>h.ui ha,?_,h.d,h.t⟩
 ·intro p hp
  rcases List.mem_cons.1 hp with rfl | hp
  ·exact ⟨S.length,.inl rfl,hd,sV u,by simp,rfl,fun _ _ _ _ h=>h⟩
  ·exact h.PD hp
 ·intro i s hs
  by_cases hi:i < S.length
  ·rw [List.getElem?_append_left hi] at hs; exact h.s i s hs
  ·rw [List.getElem?_append_right (by omega)] at hs
   have ya:i - S.length=0:=by
    have:=(List.getElem?_eq_some_iff.1 hs).1
    simp at this; omega
   rw [ya] at hs
   cases hs
   exact HH.n Ls
theorem ji.mem {l:LO} {S:List iy} {sl:LQ} {ms:MM} (h:ji Z l S sl ms) {b:ir} (hj:b.j=S.length) (hd:bz l S.length=some b.d) (jf:∀ t∈b.src,∃ j∈(cf l).getD S.length [],bz l j=some t):ji Z l (S++[⟨true,MV Z b⟩]) sl (b :: ms):=by
 have bm:∀ a∈ms,a.j < S.length:=fun a ha=>h.lt ha
 refine ⟨fun p hp=>?_,?_,?_,?_,h.t⟩
 ·exact h.PD hp
 ·intro a ha
  rcases List.mem_cons.1 ha with rfl | ha
  ·exact .inl ⟨by rw [hj]; simp,by rw [hj]; exact hd⟩
  ·exact h.ui ha
 ·intro i s hs
  by_cases hi:i < S.length
  ·rw [List.getElem?_append_left hi] at hs; exact h.s i s hs
  ·rw [List.getElem?_append_right (by omega)] at hs
   have ya:i - S.length=0:=by
    have:=(List.getElem?_eq_some_iff.1 hs).1
    simp at this; omega
   have Va:i=S.length:=by omega
   rw [ya] at hs
   cases hs
   rw [Va]
   exact Nf jf
 ·rw [List.map_cons,List.nodup_cons]
  refine ⟨fun hm=>?_,h.d⟩
  obtain ⟨a,ha,he⟩:=List.mem_map.1 hm
  have:=bm a ha
  omega
theorem ji.abD {l:LO} {S:List iy} {sl:LQ} {ms:MM} (h:ji Z l S sl ms) {j d:Nat} {u:Value} (hd:bz l j=some d) {s:iy} (hs:S[j]? = some s) (hb:s.b=true) (hV:∀ f w r x,s.V f w r x→x=u):ji Z l S ((j,d,u) :: sl) ms:=
 ⟨fun p hp=>by
  rcases List.mem_cons.1 hp with rfl | hp
  ·exact ⟨j,.inl rfl,hd,s,hs,hb,hV⟩
  ·exact h.v p hp,h.m,h.s,h.d,h.t⟩
theorem ji.re {l:LO} {S:List iy} {sl:LQ} {ms:MM} (h:ji Z l S sl ms) {j i:Nat} (hj:j∈(cf l).getD i []):ji Z l S (PC j i sl) ms:=by
 refine ⟨fun p hp=>?_,h.m,h.s,h.d,h.t⟩
 obtain ⟨q,hq,rfl⟩:=List.mem_map.1 hp
 obtain ⟨k,hk,h1⟩:=h.v q hq
 cases hb:Nat.beq q.1 j with
 | false=>exact ⟨k,hk,h1⟩
 | true=>
  refine ⟨k,.inr ?_,h1⟩
  have ZS:=Nat.eq_of_beq_eq_true hb
  show k∈(cf l).getD i []
  rcases hk with rfl | hk
  ·rw [ZS]; exact hj
  ·rw [ZS] at hk; exact h.t i k j hk hj
theorem ji.abE {l:LO} {S:List iy} {sl:LQ} {ms:MM} (h:ji Z l S sl ms) {b:ir} (hj:b.j=S.length) (hd:bz l S.length=none) (hk:∃ k∈(cf l).getD S.length [],bz l k=some b.d) (jf:b.src=[]):ji Z l (S++[⟨true,Nd Z b⟩]) sl (b :: ms):=by
 have bm:∀ a∈ms,a.j < S.length:=fun a ha=>h.lt ha
 refine ⟨fun p hp=>?_,?_,?_,?_,h.t⟩
 ·exact h.PD hp
 ·intro a ha
  rcases List.mem_cons.1 ha with rfl | ha
  ·exact .inr ⟨by rw [hj]; simp,by rw [hj]; exact hd,by rw [hj]; exact hk⟩
  ·exact h.ui ha
 ·intro i s hs
  by_cases hi:i < S.length
  ·rw [List.getElem?_append_left hi] at hs; exact h.s i s hs
  ·rw [List.getElem?_append_right (by omega)] at hs
   have ya:i - S.length=0:=by
    have:=(List.getElem?_eq_some_iff.1 hs).1
    simp at this; omega
   have Va:i=S.length:=by omega
   rw [ya] at hs
   cases hs
   rw [Va]
   exact Lo hk fun t ht=>by rw [jf] at ht; cases ht
 ·rw [List.map_cons,List.nodup_cons]
  refine ⟨fun hm=>?_,h.d⟩
  obtain ⟨a,ha,he⟩:=List.mem_map.1 hm
  have:=bm a ha
  omega
theorem l6 {l:LO} {m:Nat} {base:Fr} {r r0:NV} (hh:nr l m base=true) (ha:cu r0 base) (ho:∀ t,(∀ j,j < m→bz l j≠some t)→r t=r0 t):cu r base:=by
 intro t v hl
 have hm:∃ u,(t,u)∈base:=by
  clear hh ha
  induction base with
  | nil=>cases hl
  | cons p base ih=>
   obtain ⟨a,u⟩:=p
   unfold look at hl
   cases hb:Nat.beq t a with
   | true=>exact ⟨u,by rw [Nat.eq_of_beq_eq_true hb]; simp⟩
   | false=>rw [hb] at hl; obtain ⟨u',h⟩:=ih hl; exact ⟨u',by simp [h]⟩
 obtain ⟨u,hu⟩:=hm
 rw [ho t fun j hj=>Ni hh (t,u) hu j hj]
 exact ha t v hl
section
variable {P:Program} {l:LO} {mt:Nat} {S:List iy} {sl:LQ} {ms:MM} {base fr:Fr} {r r0:NV} {w w0:World} {g:Nat→List Nat} {i:Nat} {A:LN} {U:LL}
theorem pj (hR:ji Z l S sl ms) (hA:A=(rj l U mt).getD i []) (hv:eE A none sl base fr) (hb:cu r base) {S':List iy} (hO:∀ j∈(cf l).getD i [],Old l (S++S') j r):cu r fr:=by
 refine hv.sound hb ?_ (fun _ _ _ h=>nomatch h)
 intro p hp hm
 have hi:=(s7 (by rw [← hA]; exact ri.1 hm)).1
 exact hR.zL hp fun j hj _=>hO j (hj.elim (fun e=>e ▸ hi) fun hj=>hR.t i j p.1 hj hi)
theorem PE {H:LN} {o:Oper} {u:Value} (hh:nr l mt base=true) (ha:cu r0 base) (hR:ji Z l S sl ms) (ho:l[S.length]? = some o) (hg:o.guard=none) (hA:A=(rj l U mt).getD S.length []) (hv:eE A none sl base fr)
  (h:∀ r,cu r fr→∀ w,an H w0 w→(execOp (ev r) o).run P w = .ok (.value u) w):lj P l mt (S++[sV u]) U r0 w0 H S.length:=
 lj.val ho (by simp) hg fun g r w hC hO hn ll=>h r (pj hR hA hv (l6 hh ha ll) hO) w hC
end
end Go.Dk
namespace Go.Dk
open Go Go.Li
section
variable {R S:Type} {P:Program} {cx:Cx R} {K:dk R S} {l tail:LO} {base fr:Fr} {w:World} {Z:Nat→Prop} {U:LL}
def lp (P:Program) (Z:Nat→Prop) (l:LO) (mt:Nat) (U:LL) (r0:NV) (w0:World) (H:LN) (i:Nat) (sl:LQ) (ms:MM):Prop:=
 ∃ S:List iy,S.length=i∧ji Z l S sl ms∧∀ j,j < i→lj P l mt S U r0 w0 H j
def th (B:Bs) (Z:Nat→Prop) (hd Γ:QE) (H:LN) (w:World):Prop:=∃ F Hd,(SA Z w hd [] Hd∧(∀ b∈Hd,b∈H∧b < w.heap.size)∧(∀ b∈H,b < w.heap.size)∧Hd.Nodup)∧SA Z w Γ [] F∧Gd B Z (H++F) w
theorem th.stay {B:Bs} {Γ:QE} {F H:LN} {w w':World} (hS:SA Z w Γ [] F) (hG:Gd B Z (H++F) w) (hC:an H w w'):SA Z w' Γ [] F:=
 hS.ef hC (fun b hb=>hG.apart b (List.mem_append_left _ hb)) (fun _ _=>List.not_mem_nil) (fun b hb hf=>(List.nodup_append.1 hG.nd).2.2 b hb b hf rfl)
def Fin (P:Program) (cx:Cx R) (K:dk R S) (l:LO) (mt:Nat) (U:LL) (hd:QE) (_id:Nat) (base:Fr) (i:Nat) (sl:LQ) (ms:MM) (Γ:QE) (m:Option (Out S R)):Prop:=
 ∀ B o,m=some o→∀ r0 w0 H Z,cu r0 base→th B Z hd Γ H w0→lp P Z l mt U r0 w0 H i sl ms→nb P cx.n l (mx P cx B K o) r0 w0
theorem lp.re {mt:Nat} {r0:NV} {w0:World} {H:LN} {i k j:Nat} {sl:LQ} {ms:MM} (h:lp P Z l mt U r0 w0 H k sl ms) (hj:j∈(cf l).getD i []):lp P Z l mt U r0 w0 H k (PC j i sl) ms:=by
 obtain ⟨S,h1,h2,h3⟩:=h
 exact ⟨S,h1,h2.re hj,h3⟩
structure AA (l:LO) (mt:Nat) (U:LL) (as:LL) (ops:LO) (i:Nat):Prop where
 a:as=(rj l U mt).drop i
 o:ops=(l.take mt).drop i
 le:i≤mt
structure Vb (l:LO) (mt:Nat) (U:LL) (A:LN) (op:Op) (ty:TI) (as:LL) (ops:LO) (i:Nat):Prop where
 A:A=(rj l U mt).getD i []
 o:∃ pos af,l[i]? = some ⟨none,op,ty,pos,af,none⟩
 n:AA l mt U as ops (i+1)
theorem AA.Lr {mt:Nat} {A:LN} {as:LL} {op:Op} {ty:TI} {pos:String} {af:Array Edge} {ops:LO} {i:Nat} (h:AA l mt U (A :: as) (⟨none,op,ty,pos,af,none⟩ :: ops) i):Vb l mt U A op ty as ops i:=by
 obtain ⟨h1,h2,h3⟩:=h
 have e1:(rj l U mt)[i]? = some A:=by
  have:=congrArg (fun x=>x[0]?) h1
  simpa using this.symm
 have e2:(l.take mt)[i]? = some ⟨none,op,ty,pos,af,none⟩:=by
  have:=congrArg (fun x=>x[0]?) h2
  simpa using this.symm
 have t1:as=(rj l U mt).drop (i+1):=by
  have:=congrArg List.tail h1
  simpa [List.tail_drop] using this
 have t2:ops=(l.take mt).drop (i+1):=by
  have:=congrArg List.tail h2
  simpa [List.tail_drop] using this
 have hi:i < mt:=by
  have:=(List.getElem?_eq_some_iff.1 e1).1
  simpa [rj] using this
 rw [List.getElem?_take,if_pos hi] at e2
 exact ⟨by rw [List.getD_eq_getElem?_getD,e1]; rfl,⟨pos,af,e2⟩,t1,t2,hi⟩
structure r5 (l:LO) (mt:Nat) (U:LL) (A:LN) (op:Op) (d:Nat) (ty:TI) (as:LL) (ops:LO) (i:Nat):Prop where
 A:A=(rj l U mt).getD i []
 o:∃ pos af,l[i]? = some ⟨some d,op,ty,pos,af,none⟩
 n:AA l mt U as ops (i+1)
theorem AA.cons {mt:Nat} {A:LN} {as:LL} {op:Op} {d:Nat} {ty:TI} {pos:String} {af:Array Edge} {ops:LO} {i:Nat} (h:AA l mt U (A :: as) (⟨some d,op,ty,pos,af,none⟩ :: ops) i):r5 l mt U A op d ty as ops i:=by
 obtain ⟨h1,h2,h3⟩:=h
 have e1:(rj l U mt)[i]? = some A:=by
  have:=congrArg (fun x=>x[0]?) h1
  simpa using this.symm
 have e2:(l.take mt)[i]? = some ⟨some d,op,ty,pos,af,none⟩:=by
  have:=congrArg (fun x=>x[0]?) h2
  simpa using this.symm
 have t1:as=(rj l U mt).drop (i+1):=by
  have:=congrArg List.tail h1
  simpa [List.tail_drop] using this
 have t2:ops=(l.take mt).drop (i+1):=by
  have:=congrArg List.tail h2
  simpa [List.tail_drop] using this
 have hi:i < mt:=by
  have:=(List.getElem?_eq_some_iff.1 e1).1
  simpa [rj] using this
 rw [List.getElem?_take,if_pos hi] at e2
 exact ⟨by rw [List.getD_eq_getElem?_getD,e1]; rfl,⟨pos,af,e2⟩,t1,t2,hi⟩
theorem lp.val {mt:Nat} {A:LN} {op:Op} {d:Nat} {ty:TI} {as:LL} {ops:LO} {i:Nat} {sl:LQ} {ms:MM} {r0:NV} {w0:World} {H:LN} {u:Value} (h:lp P Z l mt U r0 w0 H i sl ms) (hh:nr l mt base=true) (ha:cu r0 base) (h1:r5 l mt U A op d ty as ops i)
  (hv:eE A none sl base fr) (hq:∀ r,cu r fr→∀ pos af g w,an H w0 w→(execOp (ev r) ⟨some d,op,ty,pos,af,g⟩).run P w = .ok (.value u) w):lp P Z l mt U r0 w0 H (i+1) ((i,d,u) :: sl) ms:=by
 obtain ⟨S',hl,hR,hO⟩:=h
 subst hl
 obtain ⟨hA,⟨pos,af,ho⟩,_⟩:=h1
 refine ⟨S'++[sV u],by simp,hR.val (by unfold bz; rw [ho]; rfl),fun j hj=>?_⟩
 by_cases h2:j < S'.length
 ·exact lj.more (hO j h2) h2
 ·obtain rfl:j=S'.length:=by omega
  exact PE hh ha hR ho rfl hA hv fun r hr=>hq r hr _ _ _
def Fc (P:Program) (Z:Nat→Prop) (l:LO) (mt:Nat) (U:LL) (r0:NV) (w0:World) (H:LN) (i:Nat) (sl:LQ) (ms:MM) (a:ir):Prop:=
 ∃ S:List iy,S.length=i∧ji Z l S sl ms∧(∀ j,j < i→lj P l mt S U r0 w0 H j)∧
  ∀ V:List Nat→World→(Nat→Value)→Value→Prop,(∀ f w r x,MV Z a f w r x→∃ f',(∀ b∈f',b∈f)∧V f' w r x)→lj P l mt (S++[⟨true,V⟩]) U r0 w0 H i
theorem HL.front {Δ Γ:QE} {Fd F:LN} (h:HL Z w Δ Fd) (hs:SA Z w Γ [] F):SA Z w (Δ++Γ) [] (Fd++F):=by
 induction h with
 | nil=>exact hs
 | own h _ ih=>rw [List.append_assoc]; exact SA.cons ih h
 | fact h _ ih=>exact SA.fact ih h
def BP (A:LN) (g:Nat→List Nat):List ir→List Nat
 | []=>[]
 | a :: l=>bif jd a.j A then g a.j++BP A g l else BP A g l
def HV (Z:Nat→Prop) (w:World) (Δ:QE) (B:LN):Prop:=∃ Vo Vr,(∀ b∈Vo++Vr,b∈B)∧(∀ b∈Vr,b < w.heap.size)∧HL (fun b=>Z b∨b∈Vr) w Δ Vo
theorem HV.front {Δ Γ:QE} {B F:LN} (h:HV Z w Δ B) (hs:SA Z w Γ [] F):∃ G:List Nat,(∀ b∈G,b∈B++F∧b < w.heap.size)∧∃ F':List Nat,(∀ b∈F',b∈G)∧SA (fun b=>Z b∨b∈G) w (Δ++Γ) [] F':=by
 obtain ⟨Vo,Vr,h1,h2,h3⟩:=h
 have hS:=h3.front (hs.mono (Z':=fun b=>Z b∨b∈Vr) (fun _ h=>.inl h) fun _ h=>h)
 refine ⟨Vr++(Vo++F),fun b hb=>?_,Vo++F,fun b hb=>List.mem_append_right _ hb,hS.mono (fun b h=>h.imp id fun h=>List.mem_append_left _ h) fun _ h=>h⟩
 rcases List.mem_append.1 hb with hb | hb
 ·exact ⟨List.mem_append_left _ (h1 b (List.mem_append_right _ hb)),h2 b hb⟩
 ·refine ⟨?_,hS.lt b hb⟩
  rcases List.mem_append.1 hb with hb | hb
  ·exact List.mem_append_left _ (h1 b (List.mem_append_left _ hb))
  ·exact List.mem_append_right _ hb
theorem HV.app {Δ Δ':QE} {f B:LN} (h:HN Z w Δ f) (k:HV Z w Δ' B):HV Z w (Δ++Δ') (f++B):=by
 obtain ⟨Fo,Fr,rfl,h1,h2⟩:=h.all
 obtain ⟨Vo,Vr,k1,k2,k3⟩:=k
 refine ⟨Fo++Vo,Fr++Vr,fun b hb=>?_,fun b hb=>(List.mem_append.1 hb).elim (h1 b) (k2 b),(h2.mono fun b h=>h.imp id fun h=>List.mem_append_left _ h).app (k3.mono fun b h=>h.imp id fun h=>List.mem_append_right _ h)⟩
 have:=fun h=>k1 b h
 simp only [List.mem_append] at hb this ⊢
 rcases hb with (h | h) | h | h
 ·exact .inl (.inl h)
 ·exact .inr (this (.inl h))
 ·exact .inl (.inr h)
 ·exact .inr (this (.inr h))
theorem YY {A:LN} {g:Nat→List Nat} {r:NV}:∀ {ms:MM},n9 ms→qi A ms=true→(∀ a∈ms,jd a.j A=true→MV Z a (g a.j) w r (r a.d))→
  ∃ x:oK ms,(∀ p∈na A ms x,r p.1=p.2)∧HV Z w (r9 A ms x) (BP A g ms):=by
 intro ms
 induction ms with
 | nil=>intro _ _ _; exact ⟨(),fun p hp=>absurd hp List.not_mem_nil,[],[],fun b (h:b∈[])=>absurd h List.not_mem_nil,fun b (h:b∈[])=>absurd h List.not_mem_nil,.nil⟩
 | cons a ms ih=>
  intro hi jf h
  unfold qi at jf
  rw [Bool.and_eq_true] at jf
  cases hi with
  | cons h1 h2=>
   obtain ⟨x,hx,hl⟩:=ih h2 jf.2 fun b hb=>h b (List.mem_cons_of_mem _ hb)
   cases hb:jd a.j A with
   | false=>
    obtain ⟨v⟩:=h1.ne
    refine ⟨(v,x),?_,?_⟩
    ·simp only [na,hb,cond_false]; exact hx
    ·simp only [r9,BP,hb,cond_false]; exact hl
   | true=>
    obtain ⟨v,e1,e2,_⟩:=h a (by simp) hb
    have es:xe a r=BN a (mF ms x):=by
     have h3:=jf.1
     rw [hb,cond_true,List.all_eq_true] at h3
     refine CE fun t ht=>?_
     have h4:=h3 t ht
     cases hj:sr t ms with
     | none=>rw [hj] at h4; cases h4
     | some j=>rw [hj] at h4; unfold yX; rw [HG hj h4 hx]
    rw [es] at e1 e2
    refine ⟨(v,x),?_,?_⟩
    ·simp only [na,hb,cond_true]
     intro p hp
     rcases List.mem_cons.1 hp with rfl | hp
     ·exact e1
     ·exact hx p hp
    ·simp only [r9,BP,hb,cond_true]; exact HV.app e2 hl
theorem PF {t j:Nat}:∀ {ms:MM},sr t ms=some j→∃ a∈ms,a.j=j∧a.d=t:=by
 intro ms
 induction ms with
 | nil=>intro h; cases h
 | cons a l ih=>
  intro h
  unfold sr at h
  cases hb:Nat.beq t a.d with
  | true=>rw [hb] at h; cases h; exact ⟨a,by simp,rfl,(Nat.eq_of_beq_eq_true hb).symm⟩
  | false=>rw [hb] at h; obtain ⟨b,h1,h2⟩:=ih h; exact ⟨b,List.mem_cons_of_mem _ h1,h2⟩
theorem Fe {mt i:Nat} {A:LN} (hA:A=(rj l U mt).getD i []) {S':List iy} {sl:LQ} {ms:MM} {t:Nat} (hR:ji Z l S' sl ms) (hj:∃ j,sr t ms=some j∧jd j A=true):∃ j∈(cf l).getD i [],bz l j=some t:=by
 obtain ⟨j,h1,h2⟩:=hj
 obtain ⟨a,ha,rfl,rfl⟩:=PF h1
 exact hR.slot ha (s7 (by rw [← hA]; exact ri.1 h2)).1
theorem zL {mt:Nat} {A:LN} {S' S2:List iy} {sl:LQ} {ms:MM} {g:Nat→List Nat} {r:NV} (hR:ji Z l S' sl ms) (hA:A=(rj l U mt).getD S'.length []) (hi:n9 ms) (jf:qi A ms=true) (hn:∀ j,vc l U mt S'.length j=true→x9 l (S'++S2) j g r w) :
  ∃ x:oK ms,(∀ p∈na A ms x,r p.1=p.2)∧HV Z w (r9 A ms x) (BP A g ms):=
 YY hi jf fun a hm hb=>by
  exact hR.HK hm (hn a.j (s7 (by rw [← hA]; exact ri.1 hb)).2)
theorem lp.mem {mt:Nat} {A:LN} {op:Op} {d:Nat} {ty:TI} {as:LL} {ops:LO} {i:Nat} {sl:LQ} {ms:MM} {r0:NV} {w0:World} {H:LN} {a:ir} (h:lp P Z l mt U r0 w0 H i sl ms) (h1:r5 l mt U A op d ty as ops i) (haj:a.j=i) (had:a.d=d)
  (jf:∀ S',ji Z l S' sl ms→∀ t∈a.src,∃ j∈(cf l).getD i [],bz l j=some t)
  (hq:∀ S' S2,S'.length=i→ji Z l S' sl ms→∀ (g:Nat→List Nat) (r:NV) (w:World),an H w0 w→(∀ j∈(cf l).getD S'.length [],Old l (S'++S2) j r)→(∀ j,vc l U mt S'.length j=true→x9 l (S'++S2) j g r w)→(∀ t,(∀ j,j < mt→bz l j≠some t)→r t=r0 t)→∀ pos af,
   gq P ⟨some d,op,ty,pos,af,none⟩ r w fun v w'=>an [] w w'∧∃ f,(∀ b∈f,w.heap.size≤b∧b < w'.heap.size)∧MV Z a f w' r v):lp P Z l mt U r0 w0 H (i+1) sl (a :: ms):=by
 obtain ⟨S',hl,hR,hO⟩:=h
 subst hl
 subst had
 obtain ⟨hA,⟨pos,af,ho⟩,_⟩:=h1
 refine ⟨S'++[⟨true,MV Z a⟩],by simp,hR.mem haj (by unfold bz; rw [ho]; rfl) (jf S' hR),fun j hj=>?_⟩
 by_cases h2:j < S'.length
 ·exact lj.more (hO j h2) h2
 ·obtain rfl:j=S'.length:=by omega
  exact lj.PG (V:=MV Z a) ho (by simp) rfl fun g r w hC hO hn ll=>hq S' _ rfl hR g r w hC hO hn ll pos af
theorem vX.sub {ms By:MM} {a:ir} {t:Nat} (h:vX ms t a By):a∈ms∧a.d=t∧(∀ b∈By,b∈ms)∧(By.map (·.j)).Sublist (ms.map (·.j)):=by
 induction h with
 | here=>exact ⟨by simp,rfl,fun b hb=>List.mem_cons_of_mem _ hb,by simp⟩
 | there _ ih=>
  obtain ⟨h1,h2,h3,h4⟩:=ih
  refine ⟨List.mem_cons_of_mem _ h1,h2,fun b hb=>?_,by simpa using h4⟩
  rcases List.mem_cons.1 hb with rfl | hb
  ·simp
  ·exact List.mem_cons_of_mem _ (h3 b hb)
theorem ji.sub {S':List iy} {sl:LQ} {ms By:MM} (h:ji Z l S' sl ms) (hm:∀ b∈By,b∈ms) (hn:(By.map (·.j)).Sublist (ms.map (·.j))):ji Z l S' sl By:=⟨h.v,fun a ha=>h.m a (hm a ha),h.s,h.d.sublist hn,h.t⟩
theorem Ts {mt:Nat} {t e et:TI} {E:ag Int} {z0:Int} {bt t1 t2 j2 d2 i d:Nat} {k:IntKind} {y:Int} {xs:List Int} {a1:ir} {ms qg HJ:MM} {sl:LQ} {A:LN} {ty:TI} {as:LL} {ops:LO} {r0:NV} {w0:World} {H:LN} (hz:tX P t Int e E z0 bt) (h1:vX ms t1 a1 qg) (h2:vX qg t2 ⟨j2,d2,[],Nat,fun _ b=>.slice (some ⟨b,0,none⟩) 1 1,fun _ b=>[.row b [.int k y] et]⟩ HJ) (h3:∀ u v,a1.ps u v=[.own (aJ e (aM k)) (a1.rt u v) xs]) (h4:jd a1.j A=true) (h5:jd j2 A=true) (h6:U.getD i []=[a1.j])
  (hf:fits bt (xs.length+1)=some ()) (Hz:r5 l mt U A (.call ⟨.builtin .append,#[.tmp t1,.tmp t2],#[t,t]⟩) d ty as ops i) (h:lp P Z l mt U r0 w0 H i sl ms) :
  lp P Z l mt U r0 w0 H (i+1) sl (⟨i,d,[],Value,fun _ v=>v,fun _ v=>[.own (aJ e (aM k)) v (xs++[y])]⟩ :: qg):=by
 obtain ⟨S',hl,hR,hO⟩:=h
 subst hl
 obtain ⟨hA,⟨pos,af,ho⟩,_⟩:=Hz
 obtain ⟨b1,b2⟩:=qw hf
 obtain ⟨q1,hE,i',z,q3,q4,q5,q6,q7,q8⟩:=hz.h
 obtain ⟨m1,m2,m3,m4⟩:=h1.sub
 obtain ⟨n1,n2,_,_⟩:=h2.sub
 refine ⟨S'++[⟨true,MV Z ⟨S'.length,d,[],Value,fun _ v=>v,fun _ v=>[.own (aJ e (aM k)) v (xs++[y])]⟩⟩],by simp,(hR.sub m3 m4).mem rfl (by unfold bz; rw [ho]; rfl) (by intro t h; cases h),fun j hj=>?_⟩
 by_cases bm:j < S'.length
 ·exact lj.more (hO j bm) bm
 ·obtain rfl:j=S'.length:=by omega
  intro o' s' cg ep g r w hC C7 mg hn ll yb qx
  rw [ho] at cg
  cases cg
  rw [List.getElem?_append_right (Nat.le_refl _),Nat.sub_self] at ep
  cases ep
  rw [if_pos rfl]
  refine ⟨rfl,?_⟩
  have get:∀ a∈ms,jd a.j A=true→MV Z a (g a.j) w r (r a.d):=fun a hm hb=>by
   exact hR.HK hm (hn a.j (s7 (by rw [← hA]; exact ri.1 hb)).2)
  obtain ⟨v1,c1,c2,c3⟩:=get a1 m1 h4
  obtain ⟨v2,f1,f2,f3⟩:=get _ (m3 _ n1) h5
  rw [h3,← c1,m2] at c2
  rw [m2] at c1
  simp only at f1 f2
  subst n2
  replace c2:=c2.own rfl
  replace f2:=f2.own rfl
  generalize FX:g a1.j=G1 at c2 c3
  generalize ju:g j2=G2 at f2 f3
  cases c2 with
  | fact h _=>exact h.elim
  | @own _ ff F0 _ PH AB=>
   cases AB
   rw [List.append_nil] at c3
   cases f2 with
   | fact h _=>exact h.elim
   | @own _ gg F0 _ bg AB=>
    cases AB
    obtain ⟨rfl,bg⟩:=bg
    have hb:qj g (U.getD S'.length [])=ff:=by rw [h6]; simp [qj,FX]
    refine rm (gq.vW (E:=aM k) (F:=ff) q1 q3 q4 q5 rfl q6 (s:=.tmp t1) (x:=.tmp d2) rfl ⟨PH,c3⟩ (fun b hb=>hb) f1 bg ⟨rfl,rfl⟩ (by rw [q7]; exact b1) b2) ?_
    rintro v w' ⟨HM,f',ve,hV⟩
    rw [hb]
    refine ⟨HM,f',ve,v,rfl,?_,hV.2⟩
    have:=HL.own (Z:=fun _=>False) (e:=.own (aJ e (aM k)) v (xs++[y])) (f:=f') hV.1 .nil
    exact .inl (by simpa using this)
theorem gq.CD {α:Type} {E:ag α} {F f k:LN} {t e:TI} {s x:OO} {i:TypeInfo} {z:Value} {sv yv:Value} {xs ys:List α} {r:NV} {w:World} {d:Option Nat} {ty:TI} {pos:String} {af:Array Edge} (Vc:∀ {h cs x f},E.rep h cs x f→f=[])
  (ht:P.underlying t=some (.slice e)) (hi:P.info? e=some i) (hz:i.zero=some z) (hs:i.size=1) (hE:E.size=1) (zM:z.oneCell'=true)
  (wJ:ev r s=sv) (hO:Ff (aJ e E) xs f w sv) (hF:∀ b∈f,b∈F) (hx:ev r x=yv) (hy:(bJ E).rep w.heap [yv] ys k)
  (hb:(xs.length+ys.length) * i.bytes≤140737488355328) (yY:xs.length+ys.length≤maxLen) :
  gq P ⟨d,.call ⟨.builtin .append,#[s,x],#[t,t]⟩,ty,pos,af,none⟩ r w fun v w'=>an F w w'∧∃ f',(∀ b∈f',(b∈F∨w.heap.size≤b)∧b < w'.heap.size)∧Ff (aJ e E) (xs++ys) f' w' v:=by
 have sR:=F9 hy
 rcases Nat.eq_zero_or_pos ys.length with C8 | C8
 ·obtain rfl:ys=[]:=List.eq_nil_of_length_eq_zero C8
  obtain ⟨b0,c0,HP⟩:=vS hy
  obtain ⟨base,cap,hv,hr⟩:=hO.1
  obtain rfl:sv = .slice base xs.length cap:=by simpa using hv
  have PI:xs.length≤cap:=by
   rcases hr with ⟨_,rfl,rfl,_⟩ | ⟨_,_,_,_,_,_,h,_⟩
   ·simp
   ·exact h
  have lg:=zN (P:=P) (w:=w) (ty:=ty) ht hi (b:=base) (a:=b0) (c:=c0) PI
  subst HP
  have AE:(execOp (ev r) ⟨d,.call ⟨.builtin .append,#[s,x],#[t,t]⟩,ty,pos,af,none⟩).run P w = .ok (.value (.slice base xs.length cap)) w:=by
   simp only [execOp,resolve,invoke,builtin,Sem.run_bind,Sem.run_pure,Result.andThen_ok,List.map_toArray,List.map_cons,List.map_nil,wJ,hx,List.length_nil,lg]
  unfold gq
  rw [AE]
  exact ⟨an.refl _ _,f,fun b hb=>⟨.inl (hF b hb),ag.lt _ hO.1 b hb⟩,by rw [List.append_nil]; exact hO⟩
 ·rcases sR with rfl | ⟨a,c,news,g1,HP,AF,ei,_⟩
  ·simp at C8
  ·obtain ⟨rfl,_⟩:=BQ (h':=w.heap) Vc ei
   obtain ⟨v,w',f',h,hC,G5,dg,da⟩:=qy (d:=d) (ty:=ty) (pos:=pos) (af:=af) (g:=none) ht hi hz (by rw [hs,hE]) (by rw [cells_one zM,hE]; rfl) wJ hO.1 hO.2 (hx.trans HP) AF ei (fun _ h=>nomatch h) C8 hb yY
   unfold gq
   rw [h]
   refine ⟨hC.mono hF,f',fun b hb=>⟨?_,ag.lt _ G5 b hb⟩,G5,da List.nodup_nil⟩
   rcases dg b hb with h | h | h
   ·exact .inl (hF b h)
   ·cases h
   ·exact .inr h
theorem wm {t:TI} {x y:OO} {i:TypeInfo} {b off:Nat} {cs us:LV} {e:TI} {r:NV} {d:Option Nat} {ty:TI} {pos:String} {af:Array Edge} {gg:Option (Nat×Bool)}
  (hi:P.info? t=some i) (hs:us.length=i.size) (bg:Row w b cs e) (hl:off+us.length≤cs.length) (hx:ev r x = .pointer (some ⟨b,off,none⟩)) (hy:(ev r y).cells.toList=us) (hu:∀ u∈us,u.oneCell'=true) :
  (execOp (ev r) ⟨d,.store t x y,ty,pos,af,gg⟩).run P w = .ok .skip (w.setRow b (cs.take off++us++cs.drop (off+us.length)).toArray):=by
 have h:=run_storeCells_at P b off e us 0 cs.toArray w bg (by simpa using hl) hu
 simp only [Nat.add_zero] at h
 have tE:(ev r y).cells=us.toArray:=by rw [← hy]
 simp only [execOp,Instr.storeAt,Instr.sureAddr,hx,storeVar]
 simp [tE,sizeOf,typeInfo,hi,hs,h]
theorem Tt {mt:Nat} {t e:TI} {t1 j1 n i:Nat} {y:OO} {u:Value} {us cs ds:LV} {ms qg:MM} {sl:LQ} {A:LN} {ty:TI} {as:LL} {ops:LO} {r0:NV} {w0:World} {H:LN} {Γ:QE} {F:LN} (hh:nr l mt base=true) (ha:cu r0 base) (ht:vH P t n)
  (h1:vX ms t1 ⟨j1,t1,[],Nat,fun _ b=>.pointer (some ⟨b,0,none⟩),fun _ b=>[.row b cs e]⟩ qg) (hv:eE A none sl base fr) (hy:bp fr y=some u) (hc:tx Γ u us) (wH:us.length=n) (hs:uw us 0 cs ds) (ho:vP Γ us) (h4:jd j1 A=true) (h6:U.getD i []=[j1])
  (hS:∀ w,an H w0 w→SA Z w Γ [] F) (Hz:Vb l mt U A (.store t (.tmp t1) y) ty as ops i) (h:lp P Z l mt U r0 w0 H i sl ms) :
  lp P Z l mt U r0 w0 H (i+1) sl (⟨i,t1,[],Nat,fun _ b=>.pointer (some ⟨b,0,none⟩),fun _ b=>[.row b ds e]⟩ :: qg):=by
 obtain ⟨S',hl,hR,hO⟩:=h
 subst hl
 obtain ⟨hA,⟨pos,af,Kz⟩,_⟩:=Hz
 obtain ⟨ti,q1,q2⟩:=ht.h
 obtain ⟨m1,_,m3,m4⟩:=h1.sub
 have Fg:=s7 (by rw [← hA]; exact ri.1 h4)
 refine ⟨S'++[⟨true,Nd Z ⟨S'.length,t1,[],Nat,fun _ b=>.pointer (some ⟨b,0,none⟩),fun _ b=>[.row b ds e]⟩⟩],by simp,(hR.sub m3 m4).abE (b:=⟨S'.length,t1,[],Nat,fun _ b=>.pointer (some ⟨b,0,none⟩),fun _ b=>[.row b ds e]⟩) rfl (by unfold bz; rw [Kz]; rfl) (hR.slot m1 Fg.1) rfl,fun j hj=>?_⟩
 by_cases bm:j < S'.length
 ·exact lj.more (hO j bm) bm
 ·obtain rfl:j=S'.length:=by omega
  intro o' s' cg ep g r w hC C7 mg hn ll yb qx
  rw [Kz] at cg
  cases cg
  rw [List.getElem?_append_right (Nat.le_refl _),Nat.sub_self] at ep
  cases ep
  rw [if_pos rfl]
  refine ⟨rfl,?_⟩
  obtain ⟨b,c1,c2,c3⟩:=hR.HK m1 (hn j1 Fg.2)
  simp only at c1 c2
  replace c2:=c2.own rfl
  generalize FX:g j1=G1 at c2 c3
  cases c2 with
  | fact h _=>exact h.elim
  | @own _ ff F0 _ PH AB=>
   cases AB
   obtain ⟨rfl,bg⟩:=PH
   have hb:qj g (U.getD S'.length [])=[b]:=by rw [h6]; simp [qj,FX]
   have hr:=pj hR hA hv (l6 hh ha ll) mg
   obtain ⟨e1,e2⟩:=hs.eq
   have HE:=hS w hC
   have lg:=wm (P:=P) (d:=none) (ty:=ty) (pos:=pos) (af:=af) (gg:=none) q1 (by rw [wH,q2]) bg e1 (x:=.tmp t1) c1 (y:=y) (by rw [aT hr hy]; exact hc.eq HE) (ho.one HE)
   unfold gq
   rw [lg,hb]
   have tf:=setRow_heap w b cs.toArray (cs.take 0++us++cs.drop (0+us.length)).toArray e _ bg
   have abF:b < w.heap.size:=bg.lt
   refine ⟨⟨rfl,rfl,rfl,Nat.le_refl _,by simp,fun j _ hj=>setRow_other w b j _ fun h=>hj (by simp [h])⟩,[b],fun b' cw=>?_,b,c1,?_,by simp⟩
   ·rw [List.mem_singleton.1 cw]
    exact ⟨.inl (by simp),by simpa using abF⟩
   ·refine .inl (HL.own (f:=[b]) ⟨rfl,?_⟩ .nil)
    rw [e2]
    exact tf
theorem Tu {mt:Nat} {t i d:Nat} {cs:LV} {sl:LQ} {ms:MM} {A:LN} {ty:TI} {as:LL} {ops:LO} {r0:NV} {w0:World} {H:LN} (hz:yU P t cs) (h1:r5 l mt U A (.alloc t) d ty as ops i) (h:lp P Z l mt U r0 w0 H i sl ms) :
   lp P Z l mt U r0 w0 H (i+1) sl (⟨i,d,[],Nat,fun _ b=>.pointer (some ⟨b,0,none⟩),fun _ b=>[.row b cs t]⟩ :: ms):=by
 obtain ⟨i',z,t1,t2,t3⟩:=hz.h
 refine h.mem h1 rfl rfl (fun _ _ _ h=>nomatch h) fun S' S2 hl hR g r w hC mg hn ll pos af=>rm (gq.U6 (cs:=cs) t1 t2 (by rw [← t3])) ?_
 rintro v w' ⟨hC,f,hf,b,e1,e2,bg⟩
 refine ⟨hC,f,hf,b,e2,?_,by rw [e1]; simp⟩
 have:=HL.own (Z:=fun _=>False) (e:=.row b cs t) (f:=[b]) ⟨rfl,bg⟩ .nil
 rw [e1]
 exact .inl (by simpa using this)
theorem Vd {mt t n:Nat} {A:LN} {st:TI} {d:Nat} {ty:TI} {as:LL} {ops:LO} {i:Nat} {sl:LQ} {ms:MM} {r0:NV} {w0:World} {H:LN} (h:lp P Z l mt U r0 w0 H i sl ms) (h1:r5 l mt U A (.call ⟨.builtin .len,#[.tmp t],#[st]⟩) d ty as ops i) (ht:yT P st) (hi:n9 ms) (jf:qi A ms=true) (hx:∀ x:oK ms,U5 (na A ms x) (r9 A ms x) t n):lp P Z l mt U r0 w0 H (i+1) ((i,d,.int .i64 (n:Int)) :: sl) ms:=by
 obtain ⟨S',hl,hR,hO⟩:=h
 subst hl
 obtain ⟨hA,⟨pos,af,ho⟩,_⟩:=h1
 obtain ⟨e,i',q1,_,_⟩:=ht.h
 refine ⟨S'++[sV (.int .i64 (n:Int))],by simp,hR.val (by unfold bz; rw [ho]; rfl),fun j hj=>?_⟩
 by_cases h2:j < S'.length
 ·exact lj.more (hO j h2) h2
 ·obtain rfl:j=S'.length:=by omega
  refine lj.val (v:=.int .i64 (n:Int)) ho (by simp) rfl fun g r w hC mg hn ll=>?_
  obtain ⟨x,hv,hE⟩:=zL hR hA hi jf hn
  obtain ⟨BR,UZ⟩:=hx x
  have Ga:=(s6 hv zI) t _ (by rw [List.append_nil]; exact BR)
  obtain ⟨_,_,_,_,hS⟩:=hE.front (Γ:=[]) (F:=[]) rfl
  rw [List.append_nil] at hS
  obtain ⟨b,c,rfl⟩:=UZ.sound hS
  exact u9 q1 (x:=.tmp t) Ga
theorem Tv {mt:Nat} {t:TI} {ps:List (Nat×Operand)} {zc:LV} {pl:List (Nat×Nat)} {A:LN} {as:LL} {d:Nat} {ty:TI} {ops:LO} {i:Nat} {sl:LQ} {ms:MM} {fr:Fr} {hd Γ:QE} {B:Bs} {r0:NV} {w0:World} {H:LN} {X:Value→List Value} {ts:LN} (hh:nr l mt base=true) (hb:Bt P t zc pl) (hi:n9 ms) (jf:qi A ms=true) (hj:ZO A ms ts=true) (hv:eE A none sl base fr)
   (hx:∀ x:oK ms,xC (r9 A ms x++Γ) (na A ms x++fr) pl ps zc (X (zA (yX (mF ms x)) ts))) (h1:r5 l mt U A (.build t ps.toArray) d ty as ops i) (ha:cu r0 base) (hs:th B Z hd Γ H w0) (h:lp P Z l mt U r0 w0 H i sl ms) :
   lp P Z l mt U r0 w0 H (i+1) sl (⟨i,d,ts,Unit,fun u _=>.agg (X u).toArray,fun _ _=>[]⟩ :: ms):=by
 have ZT:∀ t∈ts,∃ j,sr t ms=some j∧jd j A=true:=fun t ht=>by
  have:=List.all_eq_true.1 hj t ht
  cases hf:sr t ms with
  | none=>rw [hf] at this; cases this
  | some j=>rw [hf] at this; exact ⟨j,rfl,this⟩
 refine h.mem h1 rfl rfl (fun S' hR t' ht=>Fe h1.A hR (ZT t' ht)) ?_
 intro S' S2 hl hR g r w hC mg hn ll pos af
 have hA:=h1.A
 rw [← hl] at hA
 have hbs:=pj hR hA hv (l6 hh ha ll) mg
 obtain ⟨x,ZU,uM⟩:=zL hR hA hi jf hn
 obtain ⟨F,Hd,⟨xw,Bz,xf,BA⟩,hS,hG⟩:=hs
 obtain ⟨G,_,_,_,fc⟩:=uM.front (th.stay hS hG hC)
 have e:zA (yX (mF ms x)) ts=zA r ts:=CE fun t ht=>by
  obtain ⟨j,h2,h3⟩:=ZT t ht
  unfold yX
  rw [HG h2 h3 ZU]
 have hF:=hx x
 rw [e] at hF
 have lg:=(VQ.R1 (P:=P) (hb:=hb) hF).sound fc (s6 ZU hbs) (some d) ty pos af none w (an.refl _ _)
 unfold gq
 rw [lg]
 exact ⟨an.refl _ _,[],fun b hb=>absurd hb List.not_mem_nil,(),rfl,.inl .nil,List.nodup_nil⟩
theorem Tw {mt:Nat} {α:Type} {t e:TI} {E:ag α} {z0:α} {bt i d:Nat} {sl:LQ} {ms:MM} {A:LN} {ty:TI} {as:LL} {ops:LO} {r0:NV} {w0:World} {H:LN} (hz:tX P t α e E z0 bt) (h1:r5 l mt U A (.buildSlice t 0 #[]) d ty as ops i) (h:lp P Z l mt U r0 w0 H i sl ms) :
   lp P Z l mt U r0 w0 H (i+1) sl (⟨i,d,[],Value,fun _ v=>v,fun _ v=>[.own (aJ e E) v []]⟩ :: ms):=by
 obtain ⟨t1,_,i',z,t2,_⟩:=hz.h
 refine h.mem h1 rfl rfl (fun _ _ _ h=>nomatch h) fun S' S2 hl hR g r w hC mg hn ll pos af=>rm (gq.made (AH (E:=E) t1 t2)) ?_
 rintro v w' ⟨hC,f,hf,hV⟩
 refine ⟨hC,f,hf,v,rfl,?_,hV.2⟩
 have:=HL.own (Z:=fun _=>False) (e:=.own (aJ e E) v []) (f:=f) hV.1 .nil
 exact .inl (by simpa using this)
theorem Ve {mt n:Nat} {α:Type} {t e:TI} {E:ag α} {z0:α} {bt i d:Nat} {sl:LQ} {ms:MM} {A:LN} {ty:TI} {as:LL} {ops:LO} {r0:NV} {w0:World} {H:LN} {x:OO} {z:Int} (hh:nr l mt base=true) (ha:cu r0 base) (hz:tX P t α e E z0 bt) (hv:eE A none sl base fr) (hx:bp fr x=some (.int .i64 z)) (hn:mk bt z=some n) (h1:r5 l mt U A (.makeSlice t x x) d ty as ops i) (h:lp P Z l mt U r0 w0 H i sl ms) :
   lp P Z l mt U r0 w0 H (i+1) sl (⟨i,d,[],Value,fun _ v=>v,fun _ v=>[.own (aJ e E) v (List.replicate n z0)]⟩ :: ms):=by
 obtain ⟨e1,e2,e3⟩:=E6 hn
 obtain ⟨t1,hE,i',z',t2,t3,t4,t5,t6,t7⟩:=hz.h
 subst e1
 refine h.mem h1 rfl rfl (fun _ _ _ h=>nomatch h) fun S' S2 hl hR g r w hC mg hn ll pos af=>?_
 have hb:=pj hR (by rw [hl]; exact h1.A) hv (l6 hh ha ll) mg
 refine rm (gq.made (HQ (E:=E) (z0:=z0) t1 t2 t3 t4 hE t5 t7 (aT hb hx) (aT hb hx) (by rw [t6]; exact e2) e3)) ?_
 rintro v w' ⟨hC,f,hf,hV⟩
 refine ⟨hC,f,hf,v,rfl,?_,hV.2⟩
 have:=HL.own (Z:=fun _=>False) (e:=.own (aJ e E) v (List.replicate n z0)) (f:=f) hV.1 .nil
 exact .inl (by simpa using this)
theorem Vf {mt:Nat} {α:Type} {t e:TI} {E:ag α} {z0:α} {bt i d:Nat} {sl:LQ} {ms:MM} {A:LN} {ty:TI} {as:LL} {ops:LO} {r0:NV} {w0:World} {H:LN} {x:OO} {u:Value} {Γ:QE} {F:LN} (hh:nr l mt base=true) (ha:cu r0 base) (hz:tX P t α e E z0 bt) (hv:eE A none sl base fr) (hx:bp fr x=some u) (ho:One Γ u) (hS:∀ w,an H w0 w→SA Z w Γ [] F) (h1:r5 l mt U A (.buildSlice t 1 #[(0,x)]) d ty as ops i) (h:lp P Z l mt U r0 w0 H i sl ms) :
   lp P Z l mt U r0 w0 H (i+1) sl (⟨i,d,[],Nat,fun _ b=>.slice (some ⟨b,0,none⟩) 1 1,fun _ b=>[.row b [u] e]⟩ :: ms):=by
 obtain ⟨t1,hE,i',z',t2,t3,t4,t5,t6,t7⟩:=hz.h
 refine h.mem h1 rfl rfl (fun _ _ _ h=>nomatch h) fun S' S2 hl hR g r w hC mg hn ll pos af=>?_
 have hb:=pj hR (by rw [hl]; exact h1.A) hv (l6 hh ha ll) mg
 refine rm (gq.E5 t1 t2 t3 t4 (aT hb hx) (ho.one (hS w hC))) ?_
 rintro v w' ⟨hC,f,hf,b,e1,e2,bg⟩
 refine ⟨hC,f,hf,b,e2,?_,by rw [e1]; simp⟩
 have:=HL.own (Z:=fun _=>False) (e:=.row b [u] e) (f:=[b]) ⟨rfl,bg⟩ .nil
 rw [e1]
 exact .inl (by simpa using this)
theorem KA {mt n:Nat} {t e:TI} {i d:Nat} {sl:LQ} {ms:MM} {A:LN} {ty:TI} {as:LL} {ops:LO} {r0:NV} {w0:World} {H:LN} {ps:List (Nat×Operand)} {us:LV} {Γ:QE} {F:LN} (hh:nr l mt base=true) (ha:cu r0 base) (hz:Ko P t e) (hv:eE A none sl base fr) (hd:vR Γ fr 0 ps us) (hn:us.length=n) (hb:(Nat.ble 1 n && Nat.ble n 16777216)=true) (hS:∀ w,an H w0 w→SA Z w Γ [] F) (h1:r5 l mt U A (.buildSlice t n ps.toArray) d ty as ops i) (h:lp P Z l mt U r0 w0 H i sl ms) :
   lp P Z l mt U r0 w0 H (i+1) sl (⟨i,d,[],Nat,fun _ b=>.slice (some ⟨b,0,none⟩) n n,fun _ b=>[.row b us e]⟩ :: ms):=by
 refine h.mem h1 rfl rfl (fun _ _ _ h=>nomatch h) fun S' S2 hl hR g r w hC mg hnn ll pos af=>?_
 have cw:=pj hR (by rw [hl]; exact h1.A) hv (l6 hh ha ll) mg
 unfold gq
 rw [hd.op cw (hS w hC) hz hn hb]
 refine ⟨an.alloc _ _ _,[w.heap.size],fun b hb=>by rw [List.mem_singleton.1 hb]; simp,w.heap.size,rfl,?_,by simp⟩
 have:=HL.own (Z:=fun _=>False) (e:=.row w.heap.size us e) (f:=[w.heap.size]) ⟨rfl,heap_alloc_new w _⟩ .nil
 exact .inl (by simpa using this)
theorem Tx {mt t:Nat} {α:Type} {s e:TI} {E:ag α} {z0:α} {bt i d:Nat} {sl:LQ} {ms:MM} {A:LN} {ty:TI} {as:LL} {ops:LO} {r0:NV} {w0:World} {H:LN} (hz:tX P s α e E z0 bt) (hi:n9 ms) (jf:qi A ms=true) (hj:∃ j,sr t ms=some j∧jd j A=true) (hx:∀ x:oK ms,Pz (na A ms x) (r9 A ms x) t) (h1:r5 l mt U A (.buildSlice s 1 #[(0,.tmp t)]) d ty as ops i) (h:lp P Z l mt U r0 w0 H i sl ms) :
   lp P Z l mt U r0 w0 H (i+1) sl (⟨i,d,[t],Nat,fun _ b=>.slice (some ⟨b,0,none⟩) 1 1,fun u b=>[.row b [u] e]⟩ :: ms):=by
 obtain ⟨t1,hE,i',z',t2,t3,t4,t5,t6,t7⟩:=hz.h
 refine h.mem h1 rfl rfl (fun S' hR t' ht=>by rw [List.mem_singleton.1 ht]; exact Fe h1.A hR hj) ?_
 intro S' S2 hl hR g r w hC mg hn ll pos af
 obtain ⟨x,hv,hE⟩:=zL hR (by rw [hl]; exact h1.A) hi jf hn
 obtain ⟨BR,ux⟩:=hx x
 have Ga:r t=_:=(s6 hv zI) t _ (by rw [List.append_nil]; exact BR)
 obtain ⟨_,_,_,_,hS⟩:=hE.front (Γ:=[]) (F:=[]) rfl
 rw [List.append_nil] at hS
 refine rm (gq.E5 t1 t2 t3 t4 (x:=.tmp t) rfl (by show (r t).oneCell'=true; rw [Ga]; exact ux.one hS)) ?_
 rintro v w' ⟨hC,f,hf,b,e1,e2,bg⟩
 refine ⟨hC,f,hf,b,e2,?_,by rw [e1]; simp⟩
 have:=HL.own (Z:=fun _=>False) (e:=.row b [r t] e) (f:=[b]) ⟨rfl,bg⟩ .nil
 rw [e1]
 exact .inl (by simpa [xe,zA] using this)
theorem Tz:∀ cs:List Value,nm cs [] cs:=by
 intro cs
 induction cs with
 | nil=>exact .nil
 | cons c cs ih=>exact .cons ih
theorem TA {mt t n:Nat} {s e:TI} {i d:Nat} {sl:LQ} {ms:MM} {A:LN} {ty:TI} {as:LL} {ops:LO} {r0:NV} {w0:World} {H:LN} (hz:Hl P s e n) (hb:(Nat.ble 1 1 && Nat.ble (1 * n) 16777216)=true) (hi:n9 ms) (jf:qi A ms=true) (hj:∃ j,sr t ms=some j∧jd j A=true) (hx:∀ x:oK ms,PB (na A ms x) t n) (h1:r5 l mt U A (.buildSlice s 1 #[(0,.tmp t)]) d ty as ops i) (h:lp P Z l mt U r0 w0 H i sl ms) :
   lp P Z l mt U r0 w0 H (i+1) sl (⟨i,d,[t],Nat,fun _ b=>.slice (some ⟨b,0,none⟩) 1 1,fun u b=>[.row b u.cells.toList e]⟩ :: ms):=by
 refine h.mem h1 rfl rfl (fun S' hR t' ht=>by rw [List.mem_singleton.1 ht]; exact Fe h1.A hR hj) ?_
 intro S' S2 hl hR g r w hC mg hn ll pos af
 obtain ⟨x,hv,hE⟩:=zL hR (by rw [hl]; exact h1.A) hi jf hn
 obtain ⟨BR,hlen⟩:=hx x
 rename_i cs
 have Ga:r t = .agg cs.toArray:=(s6 hv zI) t _ (by rw [List.append_nil]; exact BR)
 have pw:cu r [(t,.agg cs.toArray)]:=(fun t' v' h'=>by
  simp only [look] at h'
  cases h2:Nat.beq t' t with
  | true=>rw [h2] at h'; cases h'; rw [Nat.eq_of_beq_eq_true h2]; exact Ga
  | false=>rw [h2] at h'; cases h')
 have hd:xD [] [(t,.agg cs.toArray)] n 0 [(0,.tmp t)] cs:=.cons (v:=.agg cs.toArray) (by simp [bp,look]) .agg hlen .nil (Tz cs)
 have Kz:(execOp (ev r) ⟨some d,.buildSlice s 1 #[(0,.tmp t)],ty,pos,af,none⟩).run P w=_:=hd.op (Z:=fun _=>False) (w:=w) (cur:=[]) (F:=[]) pw rfl hz rfl hb
 unfold gq
 rw [Kz]
 refine ⟨an.alloc _ _ _,[w.heap.size],fun b hb=>by rw [List.mem_singleton.1 hb]; simp,w.heap.size,rfl,?_,by simp⟩
 have xr:(Value.agg cs.toArray).cells.toList=cs:=rfl
 have:=HL.own (Z:=fun _=>False) (e:=.row w.heap.size (r t).cells.toList e) (f:=[w.heap.size]) ⟨rfl,by rw [Ga,xr]; exact heap_alloc_new w _⟩ .nil
 exact .inl (by simpa [xe,zA] using this)
theorem PJ {mt:Nat} {β V:Type} {A:LN} {as:LL} {d:Nat} {f:FuncId} {xs:List Operand} {au:Array TypeId} {ty:TI} {mo:Option β} {rt:β→V→List Value} {ps:β→V→List aw} {ops:LO} {i:Nat} {sl:LQ} {ms:MM} {fr:Fr} {hd Γ:QE} {B:Bs} {r0:NV} {w0:World} {H:LN} {y:β} (hh:nr l mt base=true) (hf:bn P f) (hv:eE A none sl base fr)
   (hc:∀ x:oK ms,Lp P f xs (na A ms x++fr) (r9 A ms x++Γ) mo rt ps) (hi:n9 ms) (jf:qi A ms=true) (hw:∀ y v,sQ (ps y v)=true) (h1:r5 l mt U A (.call ⟨.value (.func f),xs.toArray,au⟩) d ty as ops i) (hy:mo=some y) (ha:cu r0 base) (hs:th B Z hd Γ H w0) (h:lp P Z l mt U r0 w0 H i sl ms) :
   Fc P Z l mt U r0 w0 H i sl ms ⟨i,d,[],V,fun _ v=>pr (rt y v),fun _=>ps y⟩:=by
 obtain ⟨S',hl,hR,hO⟩:=h
 subst hl
 refine ⟨S',rfl,hR,hO,fun V' hV=>?_⟩
 obtain ⟨hA,⟨pos,af,ho⟩,_⟩:=h1
 refine lj.PG (V:=V') ho (by simp) rfl fun g r w hC mg hn ll=>?_
 have hb:=pj hR hA hv (l6 hh ha ll) mg
 obtain ⟨x,hx,uM⟩:=zL hR hA hi jf hn
 obtain ⟨D8,uN,hd,hr⟩:=hc x
 obtain ⟨fn,c,f1,f2,f3⟩:=hf.h
 refine Calls.G4 f1 f2 f3 ?_
 rw [sY (s6 hx hb) D8]
 obtain ⟨F,Hd,⟨xw,Bz,xf,BA⟩,hS,hG⟩:=hs
 obtain ⟨G,jv,FV,BS,fc⟩:=uM.front (th.stay hS hG hC)
 rw [r6] at uN
 refine (uN.2 w (fun b=>Z b∨b∈G) [] (hr.sound (fun _ h=>h) (fun _ b hb=>.inr (BS b hb)) fc hd.ho) List.nodup_nil (fun b hb=>absurd hb List.not_mem_nil)
  (fun b hb=>hb.elim (fun h=>Nat.lt_of_lt_of_le (hG.nz b h) hC.size) fun h=>(jv b h).2) y hy).mono ?_
 rintro e w' ⟨v,he,Z2,F2,qf,ju⟩
 have BT:HL (fun _=>False) w' (ps y v) F2:=xZ (hw y v) qf
 have bm:=(BT.front (Γ:=[]) (F:=[]) rfl).lt
 obtain ⟨f',dg,D9⟩:=hV F2 w' r _ ⟨v,rfl,.inl BT,ju.nd⟩
 refine ⟨_,he,ju.jk,f',fun b hb=>⟨(ju.low b (dg b hb)).resolve_left List.not_mem_nil,bm b (by simpa using dg b hb)⟩,D9⟩
theorem Nj {mt:Nat} {β V:Type} {A:LN} {as:LL} {d:Nat} {f:FuncId} {fs bs:LV} {xo:OO} {xs:List Operand} {au:Array TypeId} {ty:TI} {mo:Option β} {rt:β→V→List Value} {ps:β→V→List aw} {ops:LO} {i:Nat} {sl:LQ} {ms:MM} {fr:Fr} {hd Γ:QE} {B:Bs} {r0:NV} {w0:World} {H:LN} {y:β} (hh:nr l mt base=true) (hf:bn P f) (hv:eE A none sl base fr)
   (Vg:bp fr xo=some (.func (.func f) fs.toArray bs.toArray)) (hc:∀ x:oK ms,Lq P f fs bs xs (na A ms x++fr) (r9 A ms x++Γ) mo rt ps) (hi:n9 ms) (jf:qi A ms=true) (hw:∀ y v,sQ (ps y v)=true) (h1:r5 l mt U A (.call ⟨.value xo,xs.toArray,au⟩) d ty as ops i) (hy:mo=some y) (ha:cu r0 base) (hs:th B Z hd Γ H w0) (h:lp P Z l mt U r0 w0 H i sl ms) :
   Fc P Z l mt U r0 w0 H i sl ms ⟨i,d,[],V,fun _ v=>pr (rt y v),fun _=>ps y⟩:=by
 obtain ⟨S',hl,hR,hO⟩:=h
 subst hl
 refine ⟨S',rfl,hR,hO,fun V' hV=>?_⟩
 obtain ⟨hA,⟨pos,af,ho⟩,_⟩:=h1
 refine lj.PG (V:=V') ho (by simp) rfl fun g r w hC mg hn ll=>?_
 have hb:=pj hR hA hv (l6 hh ha ll) mg
 obtain ⟨x,hx,uM⟩:=zL hR hA hi jf hn
 obtain ⟨D8,k1,k2,uN,hd,hr⟩:=hc x
 obtain ⟨fn,c,f1,f2,f3⟩:=hf.h
 unfold gq
 rw [HD (aT hb Vg) f1 f2 f3,sY (s6 hx hb) D8,List.append_assoc,k1.eq,k2.eq]
 obtain ⟨F,Hd,⟨xw,Bz,xf,BA⟩,hS,hG⟩:=hs
 obtain ⟨G,jv,FV,BS,fc⟩:=uM.front (th.stay hS hG hC)
 rw [r6] at uN
 refine (uN.2 w (fun b=>Z b∨b∈G) [] (hr.sound (fun _ h=>h) (fun _ b hb=>.inr (BS b hb)) fc hd.ho) List.nodup_nil (fun b hb=>absurd hb List.not_mem_nil)
  (fun b hb=>hb.elim (fun h=>Nat.lt_of_lt_of_le (hG.nz b h) hC.size) fun h=>(jv b h).2) y hy).mono ?_
 rintro e w' ⟨v,he,Z2,F2,qf,ju⟩
 have BT:HL (fun _=>False) w' (ps y v) F2:=xZ (hw y v) qf
 have bm:=(BT.front (Γ:=[]) (F:=[]) rfl).lt
 obtain ⟨f',dg,D9⟩:=hV F2 w' r _ ⟨v,rfl,.inl BT,ju.nd⟩
 refine ⟨_,he,ju.jk,f',fun b hb=>⟨(ju.low b (dg b hb)).resolve_left List.not_mem_nil,bm b (by simpa using dg b hb)⟩,D9⟩
theorem HR {A:LN} {g:Nat→List Nat} {b:Nat}:∀ {ms:MM},b∈BP A g ms→∃ a∈ms,jd a.j A=true∧b∈g a.j:=by
 intro ms
 induction ms with
 | nil=>intro h; exact absurd h List.not_mem_nil
 | cons a l ih=>
  intro h
  unfold BP at h
  cases hb:jd a.j A with
  | true=>
   rw [hb] at h
   rcases List.mem_append.1 h with h | h
   ·exact ⟨a,by simp,hb,h⟩
   ·obtain ⟨c,h1,h2⟩:=ih h; exact ⟨c,List.mem_cons_of_mem _ h1,h2⟩
  | false=>rw [hb] at h; obtain ⟨c,h1,h2⟩:=ih h; exact ⟨c,List.mem_cons_of_mem _ h1,h2⟩
theorem Dx {mt i:Nat} (h:((U.set i []).all fun us=>!(us.contains l.length))=true):AI l U mt i=true:=by
 unfold AI
 simp only [List.all_eq_true,List.mem_range,Bool.or_eq_true,Bool.not_eq_true'] at h ⊢
 intro k _
 by_cases hk:k=i
 ·exact .inl (.inr (by rw [hk]; exact Nat.beq_refl i))
 ·refine .inl (.inl ?_)
  rw [List.getD_eq_getElem?_getD]
  cases hu:U[k]? with
  | none=>rfl
  | some us=>exact h us (List.mem_of_getElem? (i:=k) (by rw [List.getElem?_set_ne (fun e=>hk e.symm)]; exact hu))
theorem HO.mono {Z':Nat→Prop} (hz:∀ b,Z b→Z' b) {Δ:QE} {F:LN} (h:HO Z w Δ F):HO Z' w Δ F:=by
 induction h with
 | nil=>exact .nil
 | own h _ ih=>exact .own (h.mono hz) ih
 | rd _ ih=>exact .rd ih
 | au _ ih=>exact .au ih
theorem Nl {mt:Nat} {β V:Type} {A:LN} {as:LL} {d:Nat} {f:FuncId} {xs:List Operand} {au:Array TypeId} {ty:TI} {mo:Option β} {rt:β→V→List Value} {ps:β→V→List aw} {ops:LO} {i:Nat} {sl:LQ} {ms:MM} {fr:Fr} {hd Γ:QE} {B:Bs} {r0:NV} {w0:World} {H:LN} {y:β} (hh:nr l mt base=true) (hf:bn P f) (hv:eE A none sl base fr)
   (hU:U.getD i []=[l.length]) (HS:((U.set i []).all fun us=>!(us.contains l.length))=true)
   (hc:∀ x:oK ms,D7 P f xs (na A ms x++fr) hd (r9 A ms x++Γ) mo rt ps) (hi:n9 ms) (jf:qi A ms=true) (hw:∀ y v,sQ (ps y v)=true) (h1:r5 l mt U A (.call ⟨.value (.func f),xs.toArray,au⟩) d ty as ops i) (hy:mo=some y) (ha:cu r0 base) (hs:th B Z hd Γ H w0) (h:lp P Z l mt U r0 w0 H i sl ms) :
   Fc P Z l mt U r0 w0 H i sl ms ⟨i,d,[],V,fun _ v=>pr (rt y v),fun _=>ps y⟩:=by
 obtain ⟨S',hl,hR,hO⟩:=h
 subst hl
 refine ⟨S',rfl,hR,hO,fun V' hV=>?_⟩
 obtain ⟨hA,⟨pos,af,ho⟩,_⟩:=h1
 intro o' s' cg ep g r w hC C7 mg hn ll yb qx
 rw [ho] at cg
 cases cg
 rw [List.getElem?_append_right (Nat.le_refl _),Nat.sub_self] at ep
 cases ep
 rw [if_pos rfl]
 refine ⟨rfl,?_⟩
 obtain ⟨Nn,No,PK⟩:=C7 (Dx HS)
 have hb:=pj hR hA hv (l6 hh ha ll) mg
 obtain ⟨x,hx,uM⟩:=zL hR hA hi jf hn
 obtain ⟨D8,uN,Np,hr⟩:=hc x
 obtain ⟨fn,c,f1,f2,f3⟩:=hf.h
 refine Calls.G4 f1 f2 f3 ?_
 rw [sY (s6 hx hb) D8]
 obtain ⟨F,Hd,⟨xw,Bz,xf,BA⟩,hS,hG⟩:=hs
 obtain ⟨G,jv,FV,BS,fc⟩:=uM.front (th.stay hS hG hC)
 obtain ⟨Fd,F',Nq,_,C9⟩:=Np.sound (xw.iw Nn)
 have dg:∀ b∈Fd,b∈H:=fun b hb=>(Bz b (C9.mem_iff.1 (List.mem_append_left _ hb))).1
 have da:=List.nodup_append.1 hG.nd
 have hblk:qj g (U.getD S'.length [])=H:=by rw [hU]; simp [qj,No]
 rw [hblk]
 rw [r6] at uN
 refine (uN.2 w (fun b=>Z b∨b∈G) Fd (hr.sound (fun _ h=>h) (fun _ b hb=>.inr (BS b hb)) fc (Nq.mono fun _ h=>.inl h)) ((C9.nodup_iff.2 BA).sublist (List.sublist_append_left _ _)) (fun b hb=>?_)
  (fun b hb=>hb.elim (fun h=>Nat.lt_of_lt_of_le (hG.nz b h) hC.size) fun h=>(jv b h).2) y hy).mono ?_
 ·rintro (hz | hz)
  ·exact hG.apart b (List.mem_append_left _ (dg b hb)) hz
  ·rcases List.mem_append.1 (jv b hz).1 with hz | hz
   ·obtain ⟨a,ZV,py,pw⟩:=HR hz
    have h2:=PK a.j (s7 (by rw [← hA]; exact ri.1 py)).1 b pw
    have h3:=xf b (dg b hb)
    omega
   ·exact da.2.2 b (dg b hb) b hz rfl
 ·rintro e w' ⟨v,he,Z2,F2,qf,ju⟩
  have BT:HL (fun _=>False) w' (ps y v) F2:=xZ (hw y v) qf
  have bm:=(BT.front (Γ:=[]) (F:=[]) rfl).lt
  obtain ⟨f',HT,D9⟩:=hV F2 w' r _ ⟨v,rfl,.inl BT,ju.nd⟩
  exact ⟨_,he,ju.jk.mono dg,f',fun b hb=>⟨(ju.low b (HT b hb)).imp (dg b) id,bm b (by simpa using HT b hb)⟩,D9⟩
theorem Dw.sub {ms By:MM} {a:ir} {t:Nat} (h:Dw ms t a By):a∈ms∧a.j=t∧(∀ b∈By,b∈ms)∧(By.map (·.j)).Sublist (ms.map (·.j))∧((ms.map (·.j)).Nodup→∀ b∈By,b.j≠t):=by
 induction h with
 | here=>exact ⟨by simp,rfl,fun b hb=>List.mem_cons_of_mem _ hb,by simp,fun hn b hb he=>by rw [List.map_cons,List.nodup_cons] at hn; exact hn.1 (by rw [← he]; exact List.mem_map_of_mem hb)⟩
 | there _ ih=>
  obtain ⟨h1,h2,h3,h4,h5⟩:=ih
  refine ⟨List.mem_cons_of_mem _ h1,h2,fun b hb=>?_,by simpa using h4,fun hn b hb=>?_⟩
  ·rcases List.mem_cons.1 hb with rfl | hb
   ·simp
   ·exact List.mem_cons_of_mem _ (h3 b hb)
  ·rw [List.map_cons,List.nodup_cons] at hn
   rcases List.mem_cons.1 hb with rfl | hb
   ·intro he
    exact hn.1 (by rw [he,← h2]; exact List.mem_map_of_mem h1)
   ·exact h5 hn.2 b hb
theorem Nr {mt:Nat} {β V:Type} {j1:Nat} {a1:ir} {A:LN} {as:LL} {d:Nat} {f:FuncId} {xs:List Operand} {au:Array TypeId} {ty:TI} {mo:Option β} {rt:β→V→List Value} {ps:β→V→List aw} {ops:LO} {i:Nat} {sl:LQ} {ms qg:MM} {fr:Fr} {hd Γ:QE} {B:Bs} {r0:NV} {w0:World} {H:LN} {y:β} (hh:nr l mt base=true) (hf:bn P f) (hv:eE A none sl base fr)
   (hU:U.getD i []=[j1]) (FX:Dw ms j1 a1 qg) (R6:a1.src=[]) (h4:jd j1 A=true)
   (hc:∀ (q:a1.V) (x:oK qg),D7 P f xs (na A qg x++fr) (a1.ps undef q) (r9 A qg x++Γ) mo rt ps) (hi:n9 qg) (jf:qi A qg=true) (hw:∀ y v,sQ (ps y v)=true) (h1:r5 l mt U A (.call ⟨.value (.func f),xs.toArray,au⟩) d ty as ops i) (hy:mo=some y) (ha:cu r0 base) (hs:th B Z hd Γ H w0) (h:lp P Z l mt U r0 w0 H i sl ms) :
   Fc P Z l mt U r0 w0 H i sl qg ⟨i,d,[],V,fun _ v=>pr (rt y v),fun _=>ps y⟩:=by
 obtain ⟨S',hl,Vh,hO⟩:=h
 subst hl
 obtain ⟨m1,m2,m3,m4,m5⟩:=FX.sub
 have hR:=Vh.sub m3 m4
 refine ⟨S',rfl,hR,hO,fun V' hV=>?_⟩
 obtain ⟨hA,⟨pos,af,ho⟩,_⟩:=h1
 intro o' s' cg ep g r w hC C7 mg hn ll yb qx
 rw [ho] at cg
 cases cg
 rw [List.getElem?_append_right (Nat.le_refl _),Nat.sub_self] at ep
 cases ep
 rw [if_pos rfl]
 refine ⟨rfl,?_⟩
 have Fg:=s7 (by rw [← hA]; exact ri.1 h4)
 have hb:=pj hR hA hv (l6 hh ha ll) mg
 obtain ⟨x,hx,uM⟩:=zL hR hA hi jf hn
 obtain ⟨q,_,Da,ZW⟩:=Vh.HK m1 (hn a1.j (by rw [m2]; exact Fg.2))
 have wJ:xe a1 r=undef:=by unfold xe; rw [R6]; rfl
 rw [wJ,m2] at Da
 rw [m2] at ZW
 obtain ⟨D8,uN,Np,hr⟩:=hc q x
 obtain ⟨fn,c,f1,f2,f3⟩:=hf.h
 refine Calls.G4 f1 f2 f3 ?_
 rw [sY (s6 hx hb) D8]
 obtain ⟨F,Hd,⟨xw,Bz,xf,BA⟩,hS,hG⟩:=hs
 have Vi:=th.stay hS hG hC
 obtain ⟨G,jv,FV,BS,fc⟩:=uM.front Vi
 obtain ⟨Fo,Fr,ZX,Ea,hq4⟩:=Da.all
 have hSq:SA (fun b=>Z b∨b∈Fr) w (a1.ps undef q) [] Fo:=by
  have:=hq4.front (Γ:=[]) (F:=[]) rfl
  simpa using this
 have ZY:=List.nodup_append.1 (ZX ▸ ZW)
 obtain ⟨Fd,F',Nq,_,C9⟩:=Np.sound hSq
 have R7:∀ b∈Fd,b∈Fo:=fun b hb=>C9.mem_iff.1 (List.mem_append_left _ hb)
 have dg:∀ b∈Fd,b∈g j1:=fun b hb=>by rw [ZX]; exact List.mem_append_left _ (R7 b hb)
 have da:=List.nodup_append.1 hG.nd
 have hblk:qj g (U.getD S'.length [])=g j1:=by rw [hU]; simp [qj]
 rw [hblk]
 rw [r6] at uN
 have KB:∀ b∈g j1,w0.heap.size≤b∨b∈H:=fun b hb=>(qx j1 Fg.1 b hb).1
 refine (uN.2 w (fun b=>Z b∨b∈Fr++G) Fd (hr.sound (fun _ h=>h) (fun _ b hb=>.inr (List.mem_append_right _ (BS b hb))) (fc.mono (fun _ h=>h.imp id fun h=>List.mem_append_right _ h) fun _ h=>h) (Nq.mono fun _ h=>h.imp id fun h=>List.mem_append_left _ h)) ((C9.nodup_iff.2 ZY.1).sublist (List.sublist_append_left _ _)) (fun b hb=>?_)
  (fun b hb=>hb.elim (fun h=>Nat.lt_of_lt_of_le (hG.nz b h) hC.size) fun h=>(List.mem_append.1 h).elim (Ea b) fun h=>(jv b h).2) y hy).mono ?_
 ·rintro (hz | hz)
  ·rcases KB b (dg b hb) with h | h
   ·have:=hG.nz b hz; omega
   ·exact hG.apart b (List.mem_append_left _ h) hz
  ·rcases List.mem_append.1 hz with hz | hz
   ·exact ZY.2.2 b (R7 b hb) b hz rfl
   rcases List.mem_append.1 (jv b hz).1 with hz | hz
   ·obtain ⟨a,ZV,py,pw⟩:=HR hz
    exact yb a.j (s7 (by rw [← hA]; exact ri.1 py)).1 j1 Fg.1 (m5 Vh.d a ZV) b pw (dg b hb)
   ·rcases KB b (dg b hb) with h | h
    ·have:=hS.lt b hz; omega
    ·exact da.2.2 b h b hz rfl
 ·rintro e w' ⟨v,he,Z2,F2,qf,ju⟩
  have BT:HL (fun _=>False) w' (ps y v) F2:=xZ (hw y v) qf
  have bm:=(BT.front (Γ:=[]) (F:=[]) rfl).lt
  obtain ⟨f',HT,D9⟩:=hV F2 w' r _ ⟨v,rfl,.inl BT,ju.nd⟩
  exact ⟨_,he,ju.jk.mono dg,f',fun b hb=>⟨(ju.low b (HT b hb)).imp (dg b) id,bm b (by simpa using HT b hb)⟩,D9⟩
theorem SA.app {Γ Γ':QE} {F F':LN}:∀ {cur:LN},SA Z w Γ' cur F'→SA Z w Γ [] F→SA Z w (Γ'++Γ) cur (F'++F):=by
 induction Γ' generalizing F' with
 | nil=>intro cur h hs; cases h; exact hs.any
 | cons e Γ' ih=>
  intro cur h hs
  cases e with
  | own T v x=>obtain ⟨f,F1,rfl,h1,h2⟩:=h; exact ⟨f,F1++F,by rw [List.append_assoc],h1,ih h2 hs⟩
  | om e E v xs=>obtain ⟨f,F1,rfl,h1,h2⟩:=h; exact ⟨f,F1++F,by rw [List.append_assoc],h1,ih h2 hs⟩
  | row b cs e=>obtain ⟨f,F1,rfl,h1,h2⟩:=h; exact ⟨f,F1++F,by rw [List.append_assoc],h1,ih h2 hs⟩
  | ij e E v xs j u=>obtain ⟨f,F1,rfl,h1,h2⟩:=h; exact ⟨f,F1++F,by rw [List.append_assoc],h1,ih h2 hs⟩
  | rd o T v x=>exact ⟨h.1,ih h.2 hs⟩
  | ad o1 o2 v j T x=>exact ⟨h.1,ih h.2 hs⟩
  | au p cs=>exact ⟨h.1,ih h.2 hs⟩
  | hd v j u=>exact ⟨h.1,ih h.2 hs⟩
open Classical in
theorem rdN {w':World} {Zc Z2:Nat→Prop} {Fd F2 K:LN} {Δ:QE} (hl:HL Z2 w' Δ F2) (hg:Gd ⟨w,Zc,Fd⟩ Z2 F2 w') (hz:∀ b,Zc b→Z b∨b∈K) (hK:∀ b∈Fd,b∈K) :
  ∃ f,(∀ b∈f,(b∈K∨w.heap.size≤b)∧b < w'.heap.size)∧HN Z w' Δ f∧f.Nodup:=by
 have bm:=(hl.front (Γ:=[]) (F:=[]) rfl).lt
 by_cases ho:sQ Δ=true
 ·exact ⟨F2,fun b hb=>⟨(hg.low b hb).imp (hK b) id,bm b (by simpa using hb)⟩,.inl (xZ ho hl),hg.nd⟩
 ·let Fr:=(List.range w'.heap.size).filter fun b=>decide (Z2 b∧(b∈K∨w.heap.size≤b))
  have Ea:∀ b,b∈Fr↔b < w'.heap.size∧Z2 b∧(b∈K∨w.heap.size≤b):=fun b=>by simp [Fr]
  refine ⟨F2++Fr,fun b hb=>?_,.inr ⟨F2,Fr,rfl,⟨by simpa using ho,fun b hb=>((Ea b).1 hb).1⟩,hl.mono fun b hb=>?_⟩,?_⟩
  ·rcases List.mem_append.1 hb with hb | hb
   ·exact ⟨(hg.low b hb).imp (hK b) id,bm b (by simpa using hb)⟩
   ·exact ⟨((Ea b).1 hb).2.2,((Ea b).1 hb).1⟩
  ·rcases hg.uc b hb with h | h | h
   ·rcases hz b h with h | h
    ·exact .inl h
    ·exact .inr ((Ea b).2 ⟨hg.nz b hb,hb,.inl h⟩)
   ·exact .inr ((Ea b).2 ⟨hg.nz b hb,hb,.inl (hK b h)⟩)
   ·exact .inr ((Ea b).2 ⟨hg.nz b hb,hb,.inr h⟩)
  ·refine wK hg.nd (List.nodup_range.filter _) fun b hb hf=>hg.apart b hb ((Ea b).1 hf).2.1
theorem Lt {mt:Nat} {β V:Type} {A:LN} {as:LL} {d:Nat} {f:FuncId} {xs:List Operand} {au:Array TypeId} {ty:TI} {mo:Option β} {rt:β→V→List Value} {ps:β→V→List aw} {ops:LO} {i:Nat} {sl:LQ} {ms:MM} {fr:Fr} {hd Γ:QE} {B:Bs} {r0:NV} {w0:World} {H:LN} {y:β} (hh:nr l mt base=true) (hf:bn P f) (hv:eE A none sl base fr)
   (hU:U.getD i []=[l.length]) (HS:((U.set i []).all fun us=>!(us.contains l.length))=true)
   (hc:∀ x:oK ms,HI P f xs (na A ms x++fr) hd Γ mo rt ps) (hi:n9 ms) (jf:qi A ms=true) (h1:r5 l mt U A (.call ⟨.value (.func f),xs.toArray,au⟩) d ty as ops i) (hy:mo=some y) (ha:cu r0 base) (hs:th B Z hd Γ H w0) (h:lp P Z l mt U r0 w0 H i sl ms) :
   Fc P Z l mt U r0 w0 H i sl ms ⟨i,d,[],V,fun _ v=>pr (rt y v),fun _=>ps y⟩:=by
 obtain ⟨S',hl,hR,hO⟩:=h
 subst hl
 refine ⟨S',rfl,hR,hO,fun V' hV=>?_⟩
 obtain ⟨hA,⟨pos,af,ho⟩,_⟩:=h1
 intro o' s' cg ep g r w hC C7 mg hn ll yb qx
 rw [ho] at cg
 cases cg
 rw [List.getElem?_append_right (Nat.le_refl _),Nat.sub_self] at ep
 cases ep
 rw [if_pos rfl]
 refine ⟨rfl,?_⟩
 obtain ⟨Nn,No,PK⟩:=C7 (Dx HS)
 have hb:=pj hR hA hv (l6 hh ha ll) mg
 obtain ⟨x,hx,uM⟩:=zL hR hA hi jf hn
 obtain ⟨D8,uN,Np,hr⟩:=hc x
 obtain ⟨fn,c,f1,f2,f3⟩:=hf.h
 refine Calls.G4 f1 f2 f3 ?_
 rw [sY (s6 hx hb) D8]
 obtain ⟨F,Hd,⟨xw,Bz,xf,BA⟩,hS,hG⟩:=hs
 have Vi:=th.stay hS hG hC
 obtain ⟨Fd,F',Nq,hSr,C9⟩:=Np.sound (xw.iw Nn)
 have dg:∀ b∈Fd,b∈H:=fun b hb=>(Bz b (C9.mem_iff.1 (List.mem_append_left _ hb))).1
 have da:=List.nodup_append.1 hG.nd
 have hblk:qj g (U.getD S'.length [])=H:=by rw [hU]; simp [qj,No]
 rw [hblk]
 rw [r6] at uN
 refine (uN.2 w Z Fd (hr.sound (fun _ h=>h) (fun h=>nomatch h) (hSr.app Vi) Nq) ((C9.nodup_iff.2 BA).sublist (List.sublist_append_left _ _)) (fun b hb=>hG.apart b (List.mem_append_left _ (dg b hb)))
  (fun b h=>Nat.lt_of_lt_of_le (hG.nz b h) hC.size) y hy).mono ?_
 rintro e w' ⟨v,he,Z2,F2,qf,ju⟩
 obtain ⟨f2,k1,k2,k3⟩:=rdN (Z:=Z) (K:=H) qf ju (fun _ h=>.inl h) dg
 obtain ⟨f',HT,D9⟩:=hV f2 w' r _ ⟨v,rfl,k2,k3⟩
 exact ⟨_,he,ju.jk.mono dg,f',fun b hb=>k1 b (HT b hb),D9⟩
theorem lp.abG {mt:Nat} {A:LN} {op:Op} {d:Nat} {ty:TI} {as:LL} {ops:LO} {i:Nat} {sl:LQ} {ms:MM} {r0:NV} {w0:World} {H:LN} {u:Value} (h:lp P Z l mt U r0 w0 H i sl ms) (hh:nr l mt base=true) (ha:cu r0 base) (h1:r5 l mt U A op d ty as ops i)
  (hV:(U.zipIdx.all fun p=>!(p.1.contains l.length) || ((cf l).getD p.2 []).contains i)=true) (hv:eE A none sl base fr) (hq:∀ r,cu r fr→∀ pos af g w,an [] w0 w→(execOp (ev r) ⟨some d,op,ty,pos,af,g⟩).run P w = .ok (.value u) w):lp P Z l mt U r0 w0 H (i+1) ((i,d,u) :: sl) ms:=by
 obtain ⟨S',hl,hR,hO⟩:=h
 subst hl
 obtain ⟨hA,⟨pos,af,ho⟩,_⟩:=h1
 refine ⟨S'++[sV u],by simp,hR.val (by unfold bz; rw [ho]; rfl),fun j hj=>?_⟩
 by_cases h2:j < S'.length
 ·exact lj.more (hO j h2) h2
 ·obtain rfl:j=S'.length:=by omega
  have hN:AI l U mt S'.length=true:=by
   unfold AI
   simp only [List.all_eq_true,List.mem_range,Bool.or_eq_true,Bool.not_eq_true'] at hV ⊢
   intro k _
   rw [List.getD_eq_getElem?_getD]
   cases hu:U[k]? with
   | none=>exact .inl (.inl rfl)
   | some us=>
    have hm:(us,k)∈U.zipIdx:=by rw [List.mem_zipIdx_iff_getElem?]; exact hu
    exact (hV _ hm).imp .inl id
  intro o' s' cg ep g r w hC C7 mg hn ll yb qx
  rw [ho] at cg
  cases cg
  rw [List.getElem?_append_right (Nat.le_refl _),Nat.sub_self] at ep
  cases ep
  rw [if_pos rfl]
  refine ⟨rfl,?_⟩
  unfold gq
  rw [hq r (pj hR hA hv (l6 hh ha ll) mg) _ _ _ w (C7 hN).1]
  exact ⟨an.refl _ _,[],fun b hb=>absurd hb List.not_mem_nil,rfl⟩
theorem TB {mt:Nat} {hd jh:QE} {α:Type} {t e e' et:TI} {E E':ag α} {z0:α} {bt t1 t2 j2:Nat} {v u yv:Value} {j:Int} {y:α} {z:List α} {xs:List (List α)} {o1 o2:Bool} {Γx:QE} {HJ:MM} {A:LN} {as:LL} {d:Nat} {ty:TI} {ops:LO} {i:Nat} {sl:LQ} {ms:MM} {Γ:QE} {B:Bs} {r0:NV} {w0:World} {H:LN} (hh:nr l mt base=true) (ha:cu r0 base) (hT:tX P t α e E z0 bt) (hU:U.getD i []=[l.length])
   (HS:((U.set i []).all fun us=>!(us.contains l.length))=true) (hv:eE A none sl base fr) (hs:look fr t1=some u) (h2:vX ms t2 ⟨j2,t2,[],Nat,fun _ b=>.slice (some ⟨b,0,none⟩) 1 1,fun _ b=>[.row b [yv] et]⟩ HJ) (h5:jd j2 A=true) (hl:Loc hd u (.row v j)) (hz:qp hd u o1 o2 E' z uf Γx) (h1:di hd (.own (aJ e' (aJ e E)) v xs) jh) (hr:RT (aJ e E) (bJ E')) (hy:C4 [] E yv y [])
   (hf:fits bt (z.length+1)=some ()) (Hz:r5 l mt U A (.call ⟨.builtin .append,#[.tmp t1,.tmp t2],#[t,t]⟩) d ty as ops i) (oy:th B Z hd Γ H w0) (h:lp P Z l mt U r0 w0 H i sl ms) :
  lp P Z l mt U r0 w0 H (i+1) sl (⟨i,d,[],Value,fun _ v'=>v',fun _ v'=>[.own (aJ e E) v' (z++[y]),.own (vb e' (aJ e E) j.toNat) v xs]⟩ :: ms)∧th B Z jh Γ H w0:=by
 obtain ⟨F,Hd,⟨xw,Bz,xf,BA⟩,hS,hG⟩:=oy
 obtain ⟨fm0,F10,Vj,_,abH⟩:=h1.sound xw
 refine ⟨?_,F,F10,⟨abH,fun b hb=>Bz b (Vj.mem_iff.1 (List.mem_append_right _ hb)),xf,(Vj.nodup_iff.2 BA).sublist (List.sublist_append_right _ _)⟩,hS,hG⟩
 obtain ⟨S',D4,hR,hO⟩:=h
 subst D4
 obtain ⟨hA,⟨pos,af,ho⟩,_⟩:=Hz
 obtain ⟨b1,b2⟩:=qw hf
 obtain ⟨q1,q2,ii,zz,q3,q4,q5,q6,q7,_⟩:=hT.h
 obtain ⟨n1,_,_,_⟩:=h2.sub
 refine ⟨S'++[⟨true,MV Z ⟨S'.length,d,[],Value,fun _ v'=>v',fun _ v'=>[.own (aJ e E) v' (z++[y]),.own (vb e' (aJ e E) j.toNat) v xs]⟩⟩],by simp,hR.mem rfl (by unfold bz; rw [ho]; rfl) (by intro t h; cases h),fun k hk=>?_⟩
 by_cases bm:k < S'.length
 ·exact lj.more (hO k bm) bm
 ·obtain rfl:k=S'.length:=by omega
  intro o' s' cg ep g r w hC C7 mg hn ll yb qx
  rw [ho] at cg
  cases cg
  rw [List.getElem?_append_right (Nat.le_refl _),Nat.sub_self] at ep
  cases ep
  rw [if_pos rfl]
  refine ⟨rfl,?_⟩
  obtain ⟨Nn,No,PK⟩:=C7 (Dx HS)
  have Vk:=xw.iw Nn
  obtain ⟨j0,j1,ko⟩:=Loc.row hl rfl Vk
  obtain ⟨dx,_,⟨⟨gz,se,_⟩,_⟩,_⟩:=hz.sound Vk
  obtain ⟨fm,F1,sf,ZZ,_⟩:=h1.sound Vk
  obtain ⟨ky,F2,ox,Vl,_⟩:=hy.sound (Z:=Z) (w:=w) (F:=[]) rfl
  have Vm:ky=[]:=by
   cases ky with
   | nil=>rfl
   | cons a l=>exact absurd (ox.mem_iff.1 (List.mem_append_left _ List.mem_cons_self)) List.not_mem_nil
  subst Vm
  rw [tA ZZ] at j1
  obtain ⟨k,gm,a1,a2,a3⟩:=HF rfl ZZ (List.getElem?_eq_getElem j1) ko
  have Vn:xs[j.toNat]=z:=hr.vG (hr.le.le a1) se
  rw [Vn] at a1
  have abI:(k++gm).Nodup:=a2.nodup_iff.2 ((sf.nodup_iff.2 BA).sublist (List.sublist_append_left _ _))
  have Hv:=List.nodup_append.1 abI
  have Lu:∀ b∈k++gm,b∈H:=fun b hb=>(Bz b (sf.mem_iff.1 (List.mem_append_left _ (a2.mem_iff.1 hb)))).1
  obtain ⟨b,c1,c2,c3⟩:=hR.HK n1 (hn j2 (s7 (by rw [← hA]; exact ri.1 h5)).2)
  simp only at c1 c2
  replace c2:=c2.own rfl
  generalize FX:g j2=G1 at c2 c3
  cases c2 with
  | fact h _=>exact h.elim
  | @own _ ff F0 _ YZ AB=>
   cases AB
   obtain ⟨rfl,bg⟩:=YZ
   have hb:=pj hR hA hv (l6 hh ha ll) mg
   obtain ⟨v',w',f',lg,HM,ei,dg,HU⟩:=qy (E:=E) (d:=some d) (ty:=ty) (pos:=pos) (af:=af) (g:=none) (r:=r) (s:=.tmp t1) (x:=.tmp t2) (k:=[]) (ys:=[y]) (news:=[yv]) q1 q3 q4 (by rw [q5,q2]) (by rw [cells_one q6,q2]; rfl) (hb _ _ hs) a1 Hv.1 c1 (fun i u hi=>bg.at i u hi) (s8 Vl) (fun _ h=>absurd h List.not_mem_nil) (by simp) (by rw [q7]; exact b1) b2
   unfold gq
   rw [lg]
   have hblk:qj g (U.getD S'.length [])=H:=by rw [hU]; simp [qj,No]
   rw [hblk]
   have Z1:(vb e' (aJ e E) j.toNat).rep w'.heap [v] xs gm:=ag.ef _ a3 HM fun b hb hk=>Hv.2.2 b hk b hb rfl
   refine ⟨HM.mono fun b hb=>Lu b (List.mem_append_left _ hb),f'++gm,fun b hb=>?_,v',rfl,?_,?_⟩
   ·rcases List.mem_append.1 hb with hb | hb
    ·refine ⟨?_,ag.lt _ ei b hb⟩
     rcases dg b hb with h | h | h
     ·exact .inl (Lu b (List.mem_append_left _ h))
     ·exact absurd h List.not_mem_nil
     ·exact .inr h
    ·exact ⟨.inl (Lu b (List.mem_append_right _ hb)),ag.lt _ Z1 b hb⟩
   ·have:=HL.own (Z:=fun _=>False) (e:=.own (aJ e E) v' (z++[y])) (f:=f') ei (HL.own (e:=.own (vb e' (aJ e E) j.toNat) v xs) (f:=gm) Z1 .nil)
    exact .inl (by simpa using this)
   ·refine wK (HU List.nodup_nil) Hv.2.1 fun b hb hm=>?_
    rcases dg b hb with h | h | h
    ·exact Hv.2.2 b h b hm rfl
    ·exact absurd h List.not_mem_nil
    ·have:=ag.lt _ a3 b hm; omega
end
end Go.Dk
namespace Go.Dk
open Go Go.Li
section
variable {R S:Type} {P:Program} {cx:Cx R} {K:dk R S} {l tail:LO} {base fr:Fr} {U:LL} {hd:QE}
def Lv (P:Program) (cx:Cx R) (K:dk R S) (l:LO) (mt:Nat) (U:LL) (hd:QE) (id:Nat) (base:Fr):JA R S→Prop
 | .a as ops i sl ms Γ m=>AA l mt U as ops i→Fin P cx K l mt U hd id base i sl ms Γ m
 | .o A op d ty as ops i sl ms Γ m=>r5 l mt U A op d ty as ops i→Fin P cx K l mt U hd id base i sl ms Γ m
 | .oc us f xs au A d ty as ops i sl ms Γ m=>U.getD i []=us→r5 l mt U A (.call ⟨.value (.func f),xs.toArray,au⟩) d ty as ops i→Fin P cx K l mt U hd id base i sl ms Γ m
 | .os A op ty as ops i sl ms Γ m=>Vb l mt U A op ty as ops i→Fin P cx K l mt U hd id base i sl ms Γ m
 | .ow _ A op d ty as ops i sl ms Γ m=>r5 l mt U A op d ty as ops i→Fin P cx K l mt U hd id base i sl ms Γ m
 | .ix _ v fr x y t A d ty as ops i sl ms Γ m=>eE A none sl base fr→bp fr x=some v→r5 l mt U A (.indexAddr t x y) d ty as ops i→Fin P cx K l mt U hd id base i sl ms Γ m
 | .lb _ v j fr t x A d ty as ops i sl ms Γ m=>eE A none sl base fr→bp fr x=some (.pointer (some (dc v 1 j)))→NA P t→r5 l mt U A (.load t x) d ty as ops i→Fin P cx K l mt U hd id base i sl ms Γ m
 | .ap us t1 t2 t A d ty as ops i sl ms Γ m=>U.getD i []=us→r5 l mt U A (.call ⟨.builtin .append,#[.tmp t1,.tmp t2],#[t,t]⟩) d ty as ops i→Fin P cx K l mt U hd id base i sl ms Γ m
 | .la fr a lk t x A d ty as ops i sl ms Γ m=>eE A none sl base fr→bp fr x=some (.pointer (some a))→(match lk with | none=>NA P t | some n=>AG P t n)→r5 l mt U A (.load t x) d ty as ops i→Fin P cx K l mt U hd id base i sl ms Γ m
 | .ld E z fr a t x A d ty as ops i sl ms Γ m=>eE A none sl base fr→bp fr x=some (.pointer (some a))→NA P t→r5 l mt U A (.load t x) d ty as ops i→
   ∀ B o,m=some o→∀ r0 w0 H Z,cu r0 base→th B Z hd Γ H w0→(∃ u,∀ w,an H w0 w→w.cell? a=some u∧∃ g,E.rep w.heap [u] z g)→lp P Z l mt U r0 w0 H i sl ms→nb P cx.n l (mx P cx B K o) r0 w0
 | .p Δ as ops i sl ms Γ m=>AA l mt U as ops i→Fin P cx K l mt U hd id base i sl ms (Δ.reverse++Γ) m
 | .cr u ps d as ops i sl ms Γ m=>AA l mt U as ops (i+1)→bz l i=some d→
   ∀ B o,m=some o→∀ r0 w0 H Z,cu r0 base→th B Z hd Γ H w0→Fc P Z l mt U r0 w0 H i sl ms ⟨i,d,[],_,fun _=>u,fun _=>ps⟩→nb P cx.n l (mx P cx B K o) r0 w0
theorem yZ {w:World} {e n:Nat} {v:Value} {us:List (List Value)} {f:LN} {j:Int} {c:LV} (hO:(aJ e (ee n)).rep w.heap [v] us f) (hj:0≤j) (hu:us[j.toNat]? = some c):c.length=n∧(∀ u∈c,u.oneCell'=true)∧∀ i u,c[i]? = some u→w.cell? ((dc v n j).add i)=some u:=by
 obtain ⟨_,_,cs,f1,⟨rfl,h1,h2,_⟩,_,h3⟩:=tP (((Le.own (Le.refl (ee n)) e).le) hO) j hj hu
 exact ⟨h1,h2,h3⟩
theorem AD.sound {tq:Bool} {mt id:Nat} (hh:nr l mt base=true)
  (AB:∀ hd i sl ms Γ m,Dv ms=true→Fb U sl ms=true→(∀ x:oK ms,D P cx (.p (BO sl (mF ms x)) (E9 ms x) base Γ fun fr Γ=>.tg tq (Ds tail) l tail K Γ fr m))→Lv P cx K l mt U hd id base (.a [] [] i sl ms Γ m))
  {J:JA R S} (h:AD tq P cx K l tail base U hd J):Lv P cx K l mt U hd id base J:=by
 have stay:∀ {B:Bs} {Z:Nat→Prop} {hd Γ:QE} {H:LN} {w0:World},th B Z hd Γ H w0→∃ F Hd,(SA Z w0 hd [] Hd∧(∀ b∈Hd,b∈H∧b < w0.heap.size)∧(∀ b∈H,b < w0.heap.size)∧Hd.Nodup)∧SA Z w0 Γ [] F∧Gd B Z (H++F) w0∧∀ w,an H w0 w→SA Z w Γ [] F:=by
  rintro B Z hd Γ H w0 ⟨F,Hd,h1,h2,h3⟩
  exact ⟨F,Hd,h1,h2,h3,fun w hC=>th.stay h2 h3 hC⟩
 induction h with
 | nil hs he h=>exact AB _ _ _ _ _ _ hs he h
 | cons _ ih=>exact fun h=>ih h.cons
 | Lr _ ih=>exact fun h=>ih h.Lr
 | UM h1 hv hy hc hn ep ho h4 h6 _ ih=>
  rename_i ht _
  intro h B o cg r0 w0 H Z ha hs hp
  obtain ⟨F,_,_,_,_,hK⟩:=stay hs
  exact ih h.n B o cg r0 w0 H Z ha hs (Tt hh ha ht h1 hv hy hc hn ep ho h4 h6 hK h hp)
 | ixs hv hx _ _ ih=>exact fun h1=>ih hv hx h1
 | @abA hd α A as d x y v k j t ty o1 o2 E xs ops i sl ms fr Γ jh f ht hy hr hE _ ih=>
  intro hv hx h1 B o ho r0 w0 H Z ha hs hp
  obtain ⟨z,hz,ho⟩:=bind_some ho
  replace hz:=rh hz
  obtain ⟨e,ii,q1,q2,q3⟩:=ht.h
  obtain ⟨F,Hd,⟨hL,Ns⟩,hS,hG,hK⟩:=stay hs
  obtain ⟨dx,_,⟨⟨n,hn,_⟩,M8⟩,vU⟩:=(hr z).sound hL
  obtain ⟨⟨a,c,o9⟩,bm,_⟩:=tP hn j hz.1 hz.2
  refine ih z h1.n B o ho r0 w0 H Z ha ⟨F,Hd,⟨vU (M8 hE j z hz.1 hz.2),Ns⟩,hS,hG⟩ (hp.val hh ha h1 hv fun r fh _ _ _ w hC=>?_)
  rw [mf q1 q2 ((aT fh hx).trans o9) (aT fh hy) hz.1 (by omega),q3,o9]
  rfl
 | @idx hd α A as d x y v k j t ty o1 o2 E xs ops i sl ms fr Γ Γ' f ht hy hr hE _ ih=>
  intro hv hx h1 B o ho r0 w0 H Z ha hs hp
  obtain ⟨z,hz,ho⟩:=bind_some ho
  replace hz:=rh hz
  obtain ⟨F,Hd,hL,hS,hG,hK⟩:=stay hs
  obtain ⟨dx,_,⟨⟨n,hn,_⟩,M8⟩,vU⟩:=(hr z).sound hS
  refine ih z h1.n B o ho r0 w0 H Z ha ⟨F,Hd,hL,vU (M8 hE j z hz.1 hz.2),hG⟩ (hp.val hh ha h1 hv fun r fh _ _ _ w hC=>?_)
  obtain ⟨_,_,⟨⟨n',wH,_⟩,_⟩,_⟩:=(hr z).sound (hK w hC)
  exact Ix ht.h wH hz (aT fh hx) (aT fh hy) hE w (an.refl _ _)
 | pz _ ih=>exact ih
 | @pe hd e Δ as ops i sl ms Γ m _ ih=>
  intro h1
  have h2:=ih h1
  have h3:(e :: Δ).reverse++Γ=Δ.reverse++e :: Γ:=by rw [List.reverse_cons,List.append_assoc]; rfl
  rw [h3]
  exact h2
 | @Hp hd α V Sc cl en A as d n x y v xs k j t ty ops i sl ms fr Γ Γx f ht hy hr nn hn _ ih=>
  intro hv hx hA B o ho r0 w0 H Z ha hs hp
  replace nn:SO Sc V cl en:=by cases nn; assumption
  obtain ⟨z,hz,ho⟩:=bind_some ho
  replace hz:=rh hz
  obtain ⟨e,i',h1,h2,h3⟩:=ht.h
  obtain ⟨F,Hd,hL,hS,hG,hK⟩:=stay hs
  obtain ⟨dx,_,⟨⟨f0,C5,vJ⟩,_⟩,_⟩:=hr.sound hS
  have hZ:∀ b∈f0,Z b:=fun b hb=>(vJ b hb).elim (fun h=>h) (fun h=>h)
  obtain ⟨⟨a,c,o9⟩,bm,cs,f1,ei,Na,ko⟩:=tP C5 j hz.1 hz.2
  have wH:(iq Sc).size=n:=hn
  rw [wH] at ko
  obtain ⟨u,rfl,tB⟩:=nn.op ei.2
  have hblk:Z (dc v n j).block:=by
   obtain ⟨base,cap,o9,fh⟩:=C5
   rcases fh with ⟨rfl,_⟩ | ⟨b,off,cr,e',fz,f',rfl,_,rfl,_⟩
   ·simp at bm; omega
   ·obtain rfl:v = .slice (some ⟨b,off,none⟩) xs.length cap:=by simpa using o9
    have:(dc (.slice (some ⟨b,off,none⟩) xs.length cap) n j).block=b:=by unfold dc; rw [wG]
    rw [this]; exact hZ b (by simp)
  have Hy:fact Z w0 [] (.au (dc v n j) (cl z u)):=⟨fun i u' hi=>ko i u' hi,fun _=>hblk⟩
  have du:HL Z w0 (.au (dc v n j) (cl z u) :: en z u) []:=.fact Hy (vT (tB Z fun b hb=>hZ b (Na b hb)))
  obtain ⟨F',uL,fc⟩:=du.build hS
  refine ih z u hA.n B o ho r0 w0 H Z ha ⟨F',Hd,hL,fc,hG.perm (List.Perm.append_left H (by simpa using uL))⟩ (hp.val hh ha hA hv fun r fh _ _ _ w hC=>?_)
  rw [mf h1 h2 ((aT fh hx).trans o9) (aT fh hy) hz.1 (by omega),h3,o9]
  rfl
 | @U8 hd α V Sc cl en A as d n e bt x y v us xs k j t ty ops i sl ms fr Γ Γ1 f ht hy h1 hg nn _ ih=>
  intro hv hx hA B o ho r0 w0 H Z ha hs hp
  replace nn:SO Sc V cl en:=by cases nn; assumption
  obtain ⟨z,hz,ho⟩:=bind_some ho
  replace hz:=rh hz
  obtain ⟨q1,i',_,q2,_,_,q3,_⟩:=ht.h
  obtain ⟨F,Hd,hL,hS,hG,hK⟩:=stay hs
  obtain ⟨f0,F1,_,hO,_⟩:=h1.sound hS
  obtain ⟨g0,hk,se⟩:=hg.rd hS []
  obtain ⟨c,g1,e1,e2,e3⟩:=DY j.toNat hk.2.1 hz.2
  obtain ⟨u,rfl,tB⟩:=nn.op e2
  have hlen:us.length=xs.length:=zJ hk.2.1
  have bm:j.toNat < xs.length:=(List.getElem?_eq_some_iff.1 hz.2).1
  have o9:∃ a c,v = .slice (some a) us.length c:=by
   obtain ⟨b0,cap,hv,hr⟩:=hO
   obtain rfl:v = .slice b0 us.length cap:=by simpa using hv
   rcases hr with ⟨_,_,rfl,_⟩ | ⟨b,cur,f',rfl,_⟩
   ·rw [← hlen] at bm; simp at bm
   ·exact ⟨_,_,rfl⟩
  obtain ⟨a,c',rfl⟩:=o9
  have du:HL Z w0 (.rd false (Bq us j) (.bool true) (cl z u) :: en z u) []:=.fact ⟨[],⟨rfl,⟨hz.1,e1⟩,rfl⟩,fun _ h=>absurd h List.not_mem_nil⟩ (vT (tB Z fun b hb=>se b (e3 b hb)))
  obtain ⟨F',uL,fc⟩:=du.build hS
  refine ih z u hA.n B o ho r0 w0 H Z ha ⟨F',Hd,hL,fc,hG.perm (List.Perm.append_left H (by simpa using uL))⟩ (hp.val hh ha hA hv fun r fh _ _ _ w hC=>?_)
  rw [mf q1 q2 (aT fh hx) (aT fh hy) hz.1 (by omega),q3]
  rfl
 | @ZR hd A as d n e off x v u us j cs t ty ops i sl ms fr Γ Γ1 m h1 tC hc _ ih=>
  intro hv hx ht hA B o ho r0 w0 H Z ha hs hp
  obtain ⟨F,_,_,hS,_,hK⟩:=stay hs
  refine ih hA.n B o ho r0 w0 H Z ha hs (hp.val hh ha hA hv fun r hr _ _ _ w hC=>?_)
  obtain ⟨f,F1,_,hO,_⟩:=h1.sound (hK w hC)
  obtain ⟨_,⟨_,⟨hj,hu⟩,_⟩,_⟩:=tC.rd (hK w hC) []
  exact Ld ht ((yZ hO hj hu).2.2 off u hc) (aT hr hx) w (an.refl _ _)
 | @U9 hd A as d n e x v u us j cs t ty ops i sl ms fr Γ Γ1 m h1 tC hc _ ih=>
  intro hv hx ht hA B o ho r0 w0 H Z ha hs hp
  obtain ⟨F,_,_,hS,_,hK⟩:=stay hs
  refine ih hA.n B o ho r0 w0 H Z ha hs (hp.val hh ha hA hv fun r hr _ _ _ w hC=>?_)
  obtain ⟨f,F1,_,hO,_⟩:=h1.sound (hK w hC)
  obtain ⟨_,⟨_,⟨hj,hu⟩,_⟩,_⟩:=tC.rd (hK w hC) []
  exact Ld ht ((yZ hO hj hu).2.2 0 u hc) (aT hr hx) w (an.refl _ _)
 | load hv hx _ ih=>rename_i ht _; exact fun h1=>ih hv hx ht.h h1
 | lsw _ _ ih=>exact fun hv hx ht h1=>ih hv hx ht h1
 | @abB hd α A as d x v j E z o' t ty ops i sl ms fr Γ U7 jh m hV h D6 _ ih=>
  intro hv hx ht h1 B o ho r0 w0 H Z ha hs hp
  obtain ⟨F,Hd,⟨hL,Ns⟩,hS,hG,hK⟩:=stay hs
  obtain ⟨_,⟨u,k,h3,h4,h5⟩,_⟩:=(h (.bool true)).sound hL
  obtain ⟨dx,⟨u',k',Z4,h5',h6⟩,vU⟩:=(h u).sound hL
  rw [h3] at Z4
  cases Z4
  exact ih u h1.n B o ho r0 w0 H Z ha ⟨F,Hd,⟨(D6 u).sound h3 (vU ⟨k',h5',h6⟩),Ns⟩,hS,hG⟩ (hp.abG hh ha h1 hV hv fun r hr _ _ _ w hC=>Ld ht h3 (aT hr hx) w hC)
 | @UH hd α A as d x v j o E z t ty ops i sl ms fr Γ Γx m h _ ih=>
  intro hv hx ht h1 B o' ho r0 w0 H Z ha hs hp
  obtain ⟨F,Hd,hL,hS,hG,hK⟩:=stay hs
  obtain ⟨_,⟨u,k,h2,h3,_⟩,_⟩:=h.sound hS
  refine ih hv hx ht h1 B o' ho r0 w0 H Z ha hs ⟨u,fun w hC=>?_⟩ hp
  have hb:(dc v 1 j).block ∉ H:=fun hm=>(h.BM hS).elim (fun h=>h.elim (fun h=>absurd h List.not_mem_nil) fun h=>(List.nodup_append.1 hG.nd).2.2 _ hm _ h rfl) fun h=>hG.apart _ (List.mem_append_left _ hm) h
  have hc:=hC.cell hb h2
  obtain ⟨_,⟨u',k',h4,h5,_⟩,_⟩:=h.sound (hK w hC)
  rw [hc] at h4
  cases h4
  exact ⟨hc,k',h5⟩
 | UI h _ ih=>
  intro hv hx ht h1 B o ho r0 w0 H Z ha hs hp
  obtain ⟨F,_,_,hS,_,hK⟩:=stay hs
  exact ih h1.n B o ho r0 w0 H Z ha hs (hp.val hh ha h1 hv fun r hr _ _ _ w hC=>Ld ht (h.sound (hK w hC)) (aT hr hx) w (an.refl _ _))
 | M4 h _ ih=>
  intro hv hx ht h1 B o ho r0 w0 H Z ha hs hp
  obtain ⟨F,_,_,hS,_,hK⟩:=stay hs
  refine ih h1.n B o ho r0 w0 H Z ha hs (hp.val hh ha h1 hv fun r hr _ _ _ w hC=>?_)
  obtain ⟨h2,h3⟩:=h.sound (hK w hC)
  exact Lg ht h2 (aT hr hx) h3 w (an.refl _ _)
 | UJ _ ih=>
  intro hv hx ht h1 B o ho r0 w0 H Z ha hs hu hp
  obtain ⟨u,hu⟩:=hu
  obtain ⟨_,_,h3,_⟩:=hu w0 (an.refl _ _)
  obtain rfl:u=_:=by simpa using h3
  exact ih h1.n B o ho r0 w0 H Z ha hs (hp.val hh ha h1 hv fun r hr _ _ _ w hC=>Ld ht (hu w hC).1 (aT hr hx) w (an.refl _ _))
 | @UK hd α A as d x v j E z o' t ty ops i sl ms fr Γ Γ1 Γ' m h D6 _ ih=>
  intro hv hx ht h1 B o ho r0 w0 H Z ha hs hu hp
  obtain ⟨u,hu⟩:=hu
  obtain ⟨h2,_⟩:=hu w0 (an.refl _ _)
  obtain ⟨F,Hd,hL,hS,hG,hK⟩:=stay hs
  obtain ⟨dx,⟨u',k',h4,h5,h6⟩,vU⟩:=(h u).sound hS
  rw [h2] at h4
  cases h4
  exact ih u h1.n B o ho r0 w0 H Z ha ⟨F,Hd,hL,(D6 u).sound h2 (vU ⟨k',h5,h6⟩),hG⟩ (hp.val hh ha h1 hv fun r hr _ _ _ w hC=>Ld ht (hu w hC).1 (aT hr hx) w (an.refl _ _))
 | @Hq hd α A as d t e ty E z0 bt ops i sl ms Γ m hz _ ih=>
  intro h1 B o ho r0 w0 H Z ha hs hp
  exact ih h1.n B o ho r0 w0 H Z ha hs (Tw hz h1 hp)
 | M3 hU _ ih=>exact fun h1=>ih hU h1
 | @abC hd β V A as d f fs bs xo xs au ty mo rt ps ops i sl ms fr Γ g hv Vg hf hc hi jf hw _ ih=>
  intro h1 B o ho r0 w0 H Z ha hs hp
  obtain @⟨ve⟩:=hf
  obtain ⟨y,hy,ho⟩:=bind_some ho
  obtain ⟨pos,af,h2⟩:=h1.o
  exact ih y h1.n (by unfold bz; rw [h2]; rfl) B o ho r0 w0 H Z ha hs (Nj hh ve hv Vg hc hi jf hw h1 hy ha hs hp)
 | @call hd β V A as d f xs au ty mo rt ps ops i sl ms fr Γ g hf hv hc hi jf hw _ ih=>
  intro _ h1 B o ho r0 w0 H Z ha hs hp
  obtain ⟨y,hy,ho⟩:=bind_some ho
  obtain ⟨pos,af,h2⟩:=h1.o
  exact ih y h1.n (by unfold bz; rw [h2]; rfl) B o ho r0 w0 H Z ha hs (PJ hh hf hv hc hi jf hw h1 hy ha hs hp)
 | @YW hd β V A as d f xs au ty mo rt ps ops i sl ms fr Γ g hf hV hv hc hi jf hw _ ih=>
  intro hU h1 B o ho r0 w0 H Z ha hs hp
  obtain ⟨y,hy,ho⟩:=bind_some ho
  obtain ⟨pos,af,h2⟩:=h1.o
  exact ih y h1.n (by unfold bz; rw [h2]; rfl) B o ho r0 w0 H Z ha hs (Nl hh hf hv hU hV hc hi jf hw h1 hy ha hs hp)
 | @Nh hd β V A as d f xs au ty mo rt ps ops i sl ms fr Γ g hf hV hv hc hi jf _ ih=>
  intro hU h1 B o ho r0 w0 H Z ha hs hp
  obtain ⟨y,hy,ho⟩:=bind_some ho
  obtain ⟨pos,af,h2⟩:=h1.o
  exact ih y h1.n (by unfold bz; rw [h2]; rfl) B o ho r0 w0 H Z ha hs (Lt hh hf hv hU hV hc hi jf h1 hy ha hs hp)
 | @YX hd β V j1 a1 qg A as d f xs au ty mo rt ps ops i sl ms fr Γ g hf hg R6 h4 hv hc hi jf hw _ ih=>
  intro hU h1 B o ho r0 w0 H Z ha hs hp
  obtain ⟨y,hy,ho⟩:=bind_some ho
  obtain ⟨pos,af,h2⟩:=h1.o
  exact ih y h1.n (by unfold bz; rw [h2]; rfl) B o ho r0 w0 H Z ha hs (let ⟨S',e1,e2,e3⟩:=Nr hh hf hv hU hg R6 h4 hc hi jf hw h1 hy ha hs hp; ⟨S',e1,e2.re (s7 (by rw [← h1.A]; exact ri.1 h4)).1,e3⟩)
 | @crb hd u ps d as ops i sl ms Γ m _ ih=>
  intro h1 jh B o ho r0 w0 H Z ha hs ⟨S',hl,hR,hO,hL⟩
  subst hl
  refine ih h1 B o ho r0 w0 H Z ha hs ⟨S'++[⟨true,MV Z ⟨S'.length,d,[],Unit,fun _=>u,fun _=>ps⟩⟩],by simp,(hR.mem (b:=⟨S'.length,d,[],Unit,fun _=>u,fun _=>ps⟩) rfl jh (fun _ h=>nomatch h)).abD (s:=⟨true,MV Z ⟨S'.length,d,[],Unit,fun _=>u,fun _=>ps⟩⟩) jh (by simp) rfl (fun f w r x ⟨v,h,_⟩=>h),fun j hj=>?_⟩
  by_cases h2:j < S'.length
  ·exact lj.more (hO j h2) h2
  ·obtain rfl:j=S'.length:=by omega
   exact hL _ fun f w r x h=>⟨f,fun _ h=>h,h⟩
 | @crv hd u d as ops i sl ms Γ m _ ih=>
  intro h1 jh B o ho r0 w0 H Z ha hs ⟨S',hl,hR,hO,hL⟩
  subst hl
  refine ih h1 B o ho r0 w0 H Z ha hs ⟨_,by simp,hR.val jh,fun j hj=>?_⟩
  by_cases h2:j < S'.length
  ·exact lj.more (hO j h2) h2
  ·obtain rfl:j=S'.length:=by omega
   exact hL (pl fun _ _ x=>x=_) fun f w r x ⟨v,h,_⟩=>⟨[],fun _ h=>absurd h List.not_mem_nil,h⟩
 | @crm hd V u ps d as ops i sl ms Γ m _ ih=>
  intro h1 jh B o ho r0 w0 H Z ha hs ⟨S',hl,hR,hO,hL⟩
  subst hl
  refine ih h1 B o ho r0 w0 H Z ha hs ⟨_,by simp,hR.mem rfl jh (fun _ h=>nomatch h),fun j hj=>?_⟩
  by_cases h2:j < S'.length
  ·exact lj.more (hO j h2) h2
  ·obtain rfl:j=S'.length:=by omega
   exact hL _ fun f w r x h=>⟨f,fun _ h=>h,h⟩
 | UL hU _ ih=>exact fun h1=>ih hU h1
 | apH HS hv ep h2 h5 hl hz h1 hr hy _ ih=>
  rename_i hT _
  intro hU h B o ho r0 w0 H Z ha hs hp
  obtain ⟨u,hu,ho⟩:=bind_some ho
  obtain ⟨p1,p2⟩:=TB hh ha hT hU HS hv ep h2 h5 hl hz h1 hr hy hu h hs hp
  exact ih h.n B o ho r0 w0 H Z ha p2 p1
 | ap1 h1 h2 h3 hw h4 h5 _ ih=>
  rename_i hz _
  intro h6 h B o ho r0 w0 H Z ha hs hp
  obtain ⟨u,hu,ho⟩:=bind_some ho
  exact ih h.n B o ho r0 w0 H Z ha hs (Ts hz h1 h2 h3 h4 h5 (h6.trans hw) hu h hp)
 | sw1 _ _ ih=>exact fun h1=>ih h1
 | sw2 _ _ ih=>exact fun h1=>ih h1
 | sw4 _ _ ih=>exact fun h1=>ih h1
 | U6 _ ih=>
  rename_i hz _
  intro h1 B o ho r0 w0 H Z ha hs hp
  exact ih h1.n B o ho r0 w0 H Z ha hs (Tu hz h1 hp)
 | sw5 _ _ ih=>exact fun h1=>ih h1
 | mln hi jf hx _ ih=>
  rename_i ht _
  intro h1 B o ho r0 w0 H Z ha hs hp
  exact ih h1.n B o ho r0 w0 H Z ha hs (Vd hp h1 ht hi jf hx)
 | wv hv hq _ ih=>
  intro h1 B o ho r0 w0 H Z ha hs hp
  obtain ⟨F,_,_,_,_,hK⟩:=stay hs
  exact ih h1.n B o ho r0 w0 H Z ha hs (hp.val hh ha h1 hv fun r hr _ _ _ w hC=>hq.sound (hK w hC) hr _ _ _ _ _ w (an.refl _ _))
 | wlt hv hx ho _ ih=>
  rename_i hz _
  intro h1 B o cg r0 w0 H Z ha hs hp
  obtain ⟨F,_,_,_,_,hK⟩:=stay hs
  exact ih h1.n B o cg r0 w0 H Z ha hs (Vf hh ha hz hv hx ho hK h1 hp)
 | ltn hv jh hn hb _ ih=>
  rename_i hz _
  intro h1 B o cg r0 w0 H Z ha hs hp
  obtain ⟨F,_,_,_,_,hK⟩:=stay hs
  exact ih h1.n B o cg r0 w0 H Z ha hs (KA hh ha hz hv jh hn hb hK h1 hp)
 | ltu hv jh hn hb _ ih=>
  rename_i hz _
  intro h1 B o cg r0 w0 H Z ha hs hp
  obtain ⟨F,_,_,_,_,hK⟩:=stay hs
  exact ih h1.n B o cg r0 w0 H Z ha hs (KA hh ha ⟨hz.h⟩ hv jh hn hb hK h1 hp)
 | @ug hd A as op x y k k' a b t t' d ty ops i sl ms fr Γ f hv hx hy hk _ ih=>
  intro h1 B o ho r0 w0 H Z ha hs hp
  obtain ⟨z,hz,ho⟩:=bind_some ho
  have x6:M0 op=true∨k=k':=by
   cases hk with
   | same=>exact .inr rfl
   | sh h=>exact .inl h
  exact ih z h1.n B o ho r0 w0 H Z ha hs (hp.val hh ha h1 hv fun r hr _ _ _ w hC=>M9 (aT hr hx) (aT hr hy) x6 hz)
 | mk hv hx _ ih=>
  rename_i hz _
  intro h1 B o ho r0 w0 H Z ha hs hp
  obtain ⟨n,hn,ho⟩:=bind_some ho
  exact ih n h1.n B o ho r0 w0 H Z ha hs (Ve hh ha hz hv hx hn h1 hp)
 | mbl hi jf _ hj hv Db _ ih=>
  rename_i hb _ _
  intro h1 B o ho r0 w0 H Z ha hs hp
  exact ih h1.n B o ho r0 w0 H Z ha hs (Tv hh hb hi jf hj hv Db h1 ha hs hp)
 | mlt hi jf hj Db _ ih=>
  rename_i hz _
  intro h1 B o ho r0 w0 H Z ha hs hp
  exact ih h1.n B o ho r0 w0 H Z ha hs (Tx hz hi jf hj Db h1 hp)
 | ZQ hb hi jf hj Db _ ih=>
  rename_i hz _
  intro h1 B o ho r0 w0 H Z ha hs hp
  exact ih h1.n B o ho r0 w0 H Z ha hs (TA hz hb hi jf hj Db h1 hp)
 | val hv hq _ ih=>
  intro h1 B o ho r0 w0 H Z ha hs hp
  obtain ⟨F,_,_,_,_,hK⟩:=stay hs
  exact ih h1.n B o ho r0 w0 H Z ha hs (hp.val hh ha h1 hv fun r hr _ _ _ w hC=>hq.sound (hK w hC) hr _ _ _ _ _ w (an.refl _ _))
end
end Go.Dk
namespace Go.Dk
open Go Go.Li
section
variable {R S:Type} {P:Program} {cx:Cx R} {K:dk R S} {l tail:LO} {base fr:Fr} {w:World} {Z:Nat→Prop}
theorem JP {n:Nat} {Q:Exit→(Nat→Value)→World→Prop} {r:NV} (hQ:∀ c,¬ Q (.panic c) r w):∀ gu,∀ c,¬ Au P n Q gu (.panic c) r w:=by
 intro gu
 induction gu with
 | nil=>exact hQ
 | cons a gu ih=>cases a <;> exact ih
theorem JR {B:Bs} {b:Kb R S} {o:Out S R} {r:NV}:∀ c,¬ G0 P cx B b o (.panic c) r w:=by
 intro c
 cases b <;> cases o <;> exact fun h=>h
theorem s9 {B:Bs} {K:dk R S} {o:Out S R} {r:NV}:∀ c,¬ mx P cx B K o (.panic c) r w:=JP JR _
def AJ (g:Nat→List Nat):List ir→List Nat
 | []=>[]
 | a :: l=>g a.j++AJ g l
theorem Dy {g:Nat→List Nat}:∀ {ms:MM} {b:Nat},b∈AJ g ms→∃ a∈ms,b∈g a.j:=by
 intro ms
 induction ms with
 | nil=>intro b h; exact absurd h List.not_mem_nil
 | cons a ms ih=>
  intro b h
  rcases List.mem_append.1 h with h | h
  ·exact ⟨a,by simp,h⟩
  ·obtain ⟨c,h1,h2⟩:=ih h
   exact ⟨c,List.mem_cons_of_mem _ h1,h2⟩
theorem KC {Vo Vr A F:LN} (h:(Vo++Vr).Perm A):((Vo++F)++Vr).Perm (A++F):=by
 refine List.Perm.trans ?_ (h.append_right F)
 rw [List.append_assoc,List.append_assoc]
 exact List.Perm.append_left Vo List.perm_append_comm
theorem R8 {g:Nat→List Nat} {r:NV}:∀ {ms:MM},Dv ms=true→(ms.map (·.j)).Nodup→(∀ a∈ms,∀ b∈ms,a.j≠b.j→sS (g a.j) (g b.j))→(∀ a∈ms,MV Z a (g a.j) w r (r a.d))→
  ∃ x:oK ms,(∀ p∈mF ms x,r p.1=p.2)∧(∃ Vo Vr,(Vo++Vr).Perm (AJ g ms)∧(∀ b∈Vr,b < w.heap.size)∧HL (r4 Z Vr) w (E9 ms x) Vo)∧(AJ g ms).Nodup:=by
 intro ms
 induction ms with
 | nil=>intro _ _ _ _; exact ⟨(),fun p hp=>absurd hp List.not_mem_nil,⟨[],[],.refl _,fun b (h:b∈[])=>absurd h List.not_mem_nil,.nil⟩,List.nodup_nil⟩
 | cons a ms ih=>
  intro jf hd hi h
  unfold Dv at jf
  rw [Bool.and_eq_true] at jf
  rw [List.map_cons,List.nodup_cons] at hd
  obtain ⟨x,hx,hl,hn⟩:=ih jf.2 hd.2 (fun b hb c hc=>hi b (List.mem_cons_of_mem _ hb) c (List.mem_cons_of_mem _ hc)) fun b hb=>h b (List.mem_cons_of_mem _ hb)
  obtain ⟨v,e1,e2,e3⟩:=h a (by simp)
  have es:xe a r=BN a (mF ms x):=by
   have h3:=jf.1
   rw [List.all_eq_true] at h3
   refine CE fun t ht=>?_
   unfold yX
   rw [Py (h3 t ht) hx]
  rw [es] at e1 e2
  refine ⟨(v,x),?_,?_,wK e3 hn ?_⟩
  rotate_left
  ·obtain ⟨Fo,Fr,hf,h1,h2⟩:=e2.all
   obtain ⟨Vo,Vr,k1,k2,k3⟩:=hl
   refine ⟨Fo++Vo,Fr++Vr,?_,fun b hb=>(List.mem_append.1 hb).elim (h1 b) (k2 b),(h2.mono fun b h=>h.imp id fun h=>List.mem_append_left _ h).app (k3.mono fun b h=>h.imp id fun h=>List.mem_append_right _ h)⟩
   show List.Perm _ (g a.j++AJ g ms)
   rw [hf]
   refine List.Perm.trans ?_ (k1.append_left (Fo++Fr))
   rw [List.append_assoc,List.append_assoc]
   refine List.Perm.append_left Fo ?_
   rw [← List.append_assoc,← List.append_assoc]
   exact List.Perm.append_right Vr List.perm_append_comm
  rotate_right
  ·intro p hp
   rcases List.mem_cons.1 hp with rfl | hp
   ·exact e1
   ·exact hx p hp
  ·intro b hb hm
   obtain ⟨c,h1,h2⟩:=Dy hm
   exact hi a (by simp) c (List.mem_cons_of_mem _ h1) (fun e=>hd.1 (by rw [e]; exact List.mem_map_of_mem h1)) b hb h2
theorem HW {r:NV} {f:Fr}:∀ {sl:LQ},(∀ p∈sl,r p.2.1=p.2.2)→(∀ p∈f,r p.1=p.2)→∀ p∈BO sl f,r p.1=p.2:=by
 intro sl
 induction sl with
 | nil=>intro _ h; exact h
 | cons a sl ih=>
  intro h1 h2 p hp
  rcases List.mem_cons.1 hp with rfl | hp
  ·exact h1 a (by simp)
  ·exact ih (fun p hp=>h1 p (List.mem_cons_of_mem _ hp)) h2 p hp
theorem TC {mt id:Nat} {U:LL} {Zl:LN} {Vp:QE} (hU:((List.range mt).all fun i=>(U.getD i []).all fun u=>Nat.beq u l.length || ((cf l).getD i []).contains u)=true) (hh:nr l mt base=true) (hd:de cx.n l=true) (hA:AK l mt Zl=true) (hZ:HX l mt Zl=true) (HY:mt≤l.length) (ht:tail=l.drop mt) {i:Nat} {sl:LQ} {ms:MM} {Γ:QE} {m:Option (Out S R)} (Vq:Dv ms=true) (tB:Fb U sl ms=true)
  (h:∀ x:oK ms,D P cx (.p (BO sl (mF ms x)) (E9 ms x) base Γ fun fr Γ=>.tg false (Ds tail) l tail K Γ fr m)):Lv P cx K l mt U Vp id base (.a [] [] i sl ms Γ m):=by
 rintro ⟨_,h2,h3⟩ B o ho r0 w0 H Z ha hs ⟨S',hl,hR,hO⟩
 have hi:i=mt:=by
  have:=congrArg List.length h2
  simp at this
  omega
 subst hl
 obtain ⟨F,Hd,⟨xw,Bz,xf,BA⟩,hS,hG⟩:=hs
 refine Vs (N:=Z) (S:=S') (U:=U) (H:=H) hd hA hZ (fun c r w h=>s9 c h) HY hi xf hU (fun b hb=>⟨hG.nz b hb,fun h=>hG.apart b (List.mem_append_left _ h) hb⟩) (fun i s hs=>hR.s i s hs) (fun j hj=>hO j (by omega)) ?_
 intro g r w hI
 have Lw:∀ k j,j∈U.getD k []→∀ a∈ms,a.j≠j:=by
  intro k j hj
  unfold Fb at tB
  rw [List.getD_eq_getElem?_getD] at hj
  cases hk:U[k]? with
  | none=>rw [hk] at hj; exact absurd hj List.not_mem_nil
  | some us=>
   rw [hk] at hj
   have h1:=List.all_eq_true.1 (List.all_eq_true.1 tB us (List.mem_of_getElem? hk)) j hj
   intro a ha he
   have:=List.all_eq_true.1 h1 a ha
   rw [he,Nat.beq_refl] at this
   cases this
 have hD:∀ j,j < mt→(∀ k,j ∉ U.getD k [])→x9 l S' j g r w:=fun j hj hn=>hI.done j hj fun k _=>hn k
 have bm:∀ a∈ms,a.j < mt:=fun a ha=>hi ▸ hR.lt ha
 obtain ⟨x,hx,uM,Vt⟩:=R8 (g:=g) (r:=r) (w:=w) Vq hR.d (fun a ha b hb py=>hI.xx _ _ (bm a ha) (bm b hb) py) fun a ha=>by
  have:=hR.HK (S2:=[]) ha (by rw [List.append_nil]; exact hD a.j (bm a ha) (fun k hk=>Lw k _ hk a ha rfl))
  exact this
 have Eb:=List.nodup_append.1 hG.nd
 have qx:∀ b∈AJ g ms,w0.heap.size≤b∨b∈H:=fun b hb=>by
  obtain ⟨a,h1,h2⟩:=Dy hb
  exact (hI.fresh a.j (bm a h1) b h2).1.imp (fun h=>h) (·.1)
 have ez:=th.stay hS hG hI.jk
 obtain ⟨Vo,Vr,Vu,Vv,uM⟩:=uM
 obtain ⟨F',hp,fc⟩:=uM.build (ez.mono (fun _ h=>.inl h) fun _ h=>h)
 have wL:Gd B Z (AJ g ms++F) w:=by
  refine ⟨wK Vt Eb.2.1 fun b hb hF=>(qx b hb).elim (fun h=>Nat.lt_irrefl _ (Nat.lt_of_lt_of_le (hS.lt b hF) h)) (fun h=>Eb.2.2 b h b hF rfl),?_,fun b hb=>Nat.lt_of_lt_of_le (hG.nz b hb) hI.jk.size,?_,hG.uH,hG.uc,hG.jk.then hI.jk fun b hb=>hG.low b (List.mem_append_left _ hb)⟩
  ·intro b hb hz
   rcases List.mem_append.1 hb with hb | hb
   ·exact (qx b hb).elim (fun h=>Nat.lt_irrefl _ (Nat.lt_of_lt_of_le (hG.nz b hz) h)) (fun h=>hG.apart b (List.mem_append_left _ h) hz)
   ·exact hG.apart b (List.mem_append_right _ hb) hz
  ·intro b hb
   rcases List.mem_append.1 hb with hb | hb
   ·exact (qx b hb).elim (fun h=>.inr (Nat.le_trans hG.jk.size h)) (fun h=>hG.low b (List.mem_append_left _ h))
   ·exact hG.low b (List.mem_append_right _ hb)
 have PL:cu r ((BO sl (mF ms x)).reverse++base):=by
  refine qo (HW (fun p hp=>?_) hx) (l6 hh ha hI.other)
  exact hR.zL (S2:=[]) hp fun j _ hj=>(by rw [List.append_nil]; exact hI.ui j (hi ▸ hj))
 have:=(h x).sound B o ho r w PL ⟨_,F',fc,((wL.perm (KC Vu)).freeze Vv).perm hp⟩
 rw [ht] at this
 exact this
def Kq (q:Option (Bool×Nat×Value)) (f:Fr):Fr:=
 match q with
 | none=>f
 | some (_,d,u)=>(d,u) :: f
theorem Kp.lk {ws:LN} {q:Option (Bool×Nat×Value)} {f g:Fr} (h:Kp ws q f g):(∀ b d u,q=some (b,d,u)→b=jd d ws)→∀ t v,look g t=some v→jd t ws=false∧look (Kq q f) t=some v:=by
 induction h with
 | nil=>intro _ t v h; cases h
 | cons _ ih=>intro _ t v h; exact ih (by rintro b d u h; cases h; rfl) t v h
 | @drop ws d u f g _ ih=>
  intro hq t v h
  obtain ⟨h1,h2⟩:=ih (by rintro b d u h; cases h) t v h
  refine ⟨h1,?_⟩
  show look ((d,u) :: f) t=some v
  unfold look
  cases hb:Nat.beq t d with
  | true=>have:=hq true d u rfl; rw [Nat.eq_of_beq_eq_true hb,← this] at h1; cases h1
  | false=>exact h2
 | @ef ws d u f g _ ih=>
  intro hq t v h
  unfold look at h
  show jd t ws=false∧look ((d,u) :: f) t=some v
  unfold look
  cases hb:Nat.beq t d with
  | true=>rw [hb] at h; exact ⟨by rw [Nat.eq_of_beq_eq_true hb]; exact (hq false d u rfl).symm,h⟩
  | false=>
   rw [hb] at h
   obtain ⟨h1,h2⟩:=ih (by rintro b d u h; cases h) t v h
   unfold jd at h1
   rw [hb] at h1
   exact ⟨h1,h2⟩
theorem Kp.sound {ws:LN} {f g:Fr} {r:NV} (h:Kp ws none f g) (ha:cu r f):cu r g:=
 fun t v hl=>ha t v (h.lk (by rintro b d u h; cases h) t v hl).2
theorem Vw {id:Nat} (hd:QE) (mt:Nat) (Zl:LN) (U as:LL) {ops:LO} {Γ Γ1:QE} {fr:Fr} {m:Option (Out S R)}
  (hB:(P.follows .mixedOrders && de cx.n l && AK l mt Zl && HX l mt Zl && Nat.ble mt l.length && (rj l U mt == as) && ((List.range mt).all fun i=>(U.getD i []).all fun u=>Nat.beq u l.length || ((cf l).getD i []).contains u))=true)
  (ho:ops=l.take mt) (ht:tail=l.drop mt) (hf:Kp (Aw ops) none fr base) (hh:nr l mt base=true) (he:EO Γ hd Γ1) (HZ:OW Γ hd)
  (h:AD false P cx K l tail base U hd (.a as ops 0 [] [] Γ1 m)):∀ B o,m=some o→∀ r w,cu r fr→St B Γ w→nb P cx.n l (mx P cx B K o) r w:=by
 simp only [Bool.and_eq_true] at hB
 obtain ⟨⟨⟨⟨⟨⟨_,b2⟩,b3⟩,b4⟩,b5⟩,b6⟩,b7⟩:=hB
 intro B o hm r w ha hs
 obtain ⟨Z,F,hS,hG⟩:=hs
 obtain ⟨Fd,F',h1,h2,h3⟩:=he.sound hS
 have H0:SA Z w hd [] Fd:=by
  have:=(HO.hl HZ hS h1).front (Γ:=[]) (F:=[]) rfl
  simpa using this
 have hX:th B Z hd Γ1 Fd w:=⟨F',Fd,⟨H0,fun b hb=>⟨hb,H0.lt b hb⟩,H0.lt,(List.nodup_append.1 (hG.perm h3).nd).1⟩,h2,hG.perm h3⟩
 refine AD.sound (id:=id) hh (fun _ _ _ _ _ _ hs he h=>TC b7 hh b2 b3 b4 (Nat.le_of_ble_eq_true b5) ht hs he h) h
  ⟨by rw [List.drop_zero]; exact (eq_of_beq b6).symm,by rw [List.drop_zero]; exact ho,Nat.zero_le _⟩ B o hm r w Fd Z (hf.sound ha) hX ⟨[],rfl,⟨fun _ h=>absurd h List.not_mem_nil,fun _ h=>absurd h List.not_mem_nil,fun i s h=>by simp at h,List.nodup_nil,fun _ _ _ h1 h2=>Ec l (Nu b3) h1 h2⟩,fun j hj=>absurd hj (Nat.not_lt_zero j)⟩
theorem xg {id:Nat} (hd:QE) (mt:Nat) (Zl:LN) (U as:LL) {ops:LO} {Γ Γ1:QE} {fr:Fr} {m:Option (Out S R)}
  (hB:(P.follows .mixedOrders && de cx.n l && AK l mt Zl && HX l mt Zl && Nat.ble mt l.length && (rj l U mt == as) && ((List.range mt).all fun i=>(U.getD i []).all fun u=>Nat.beq u l.length || ((cf l).getD i []).contains u))=true)
  (ho:ops=l.take mt) (ht:tail=l.drop mt) (hf:Kp (Aw ops) none fr base) (hh:nr l mt base=true) (he:EO Γ hd Γ1) (HZ:OW Γ hd)
  (h:AD false P cx K l tail base U hd (.a as ops 0 [] [] Γ1 m)):Bx (me P cx (.dr id l K Γ fr m)):=by
 have hm:P.follows .mixedOrders=true:=by
  simp only [Bool.and_eq_true] at hB
  exact hB.1.1.1.1.1.1
 rw [mc]
 intro B o vL r w ha hs
 exact (Vw (id:=id) hd mt Zl U as hB ho ht hf hh he HZ h B o vL r w ha hs).W hm
theorem Vx {id:Nat} {l0:LO} (σ π:LN) (hd:QE) (mt:Nat) (Zl:LN) (U as:LL) {ops:LO} {Γ Γ1:QE} {fr:Fr} {m:Option (Out S R)}
  (hB:(P.follows .mixedOrders && PM l0 σ π && de cx.n (qk l0 σ π) && AK (qk l0 σ π) mt Zl && HX (qk l0 σ π) mt Zl && Nat.ble mt (qk l0 σ π).length && (rj (qk l0 σ π) U mt == as) && ((List.range mt).all fun i=>(U.getD i []).all fun u=>Nat.beq u (qk l0 σ π).length || ((cf (qk l0 σ π)).getD i []).contains u))=true)
  (hl:l=qk l0 σ π) (ho:ops=l.take mt) (ht:tail=l.drop mt) (hf:Kp (Aw ops) none fr base) (hh:nr l mt base=true) (he:EO Γ hd Γ1) (HZ:OW Γ hd)
  (h:AD false P cx K l tail base U hd (.a as ops 0 [] [] Γ1 m)):Bx (me P cx (.dr id l0 K Γ fr m)):=by
 subst hl
 simp only [Bool.and_eq_true] at hB
 obtain ⟨⟨⟨⟨⟨⟨⟨b0,b1⟩,b2⟩,b3⟩,b4⟩,b5⟩,b6⟩,b7⟩:=hB
 rw [mc]
 intro B o vL r w ha hs
 refine ((Vw (id:=id) hd mt Zl U as ?_ ho ht hf hh he HZ h B o vL r w ha hs).prm b1).W b0
 simp only [Bool.and_eq_true]
 exact ⟨⟨⟨⟨⟨⟨b0,b2⟩,b3⟩,b4⟩,b5⟩,b6⟩,b7⟩
theorem any {id:Nat} (mt:Nat) (Zl:LN) (U as:LL) {ops:LO} {Γ:QE} {fr:Fr} {m:Option (Out S R)}
  (hB:(P.follows .mixedOrders && de cx.n l && AK l mt Zl && HX l mt Zl && Nat.ble mt l.length && (rj l U mt == as) && ((List.range mt).all fun i=>(U.getD i []).all fun u=>Nat.beq u l.length || ((cf l).getD i []).contains u))=true)
  (ho:ops=l.take mt) (ht:tail=l.drop mt) (hf:Kp (Aw ops) none fr base) (hh:nr l mt base=true)
  (h:AD false P cx K l tail base U [] (.a as ops 0 [] [] Γ m)):Bx (me P cx (.dr id l K Γ fr m)):=xg [] mt Zl U as hB ho ht hf hh .nil .nil h
end
end Go.Dk
