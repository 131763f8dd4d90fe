/- A calculus of walks: regions that draw their order and make memory. No condition. -/
import Derived.Test.YtcnehblmgfbfoaaGreatDe
import Derived.Laws.Slices
namespace Go.Dk
open Go Go.Li
section
variable {w:World}
end
structure fw where
 j:Nat
 d:Nat
 src:List Nat
 V:Type
 rt:Value→V→Value
 ps:Value→V→List ay
abbrev MM:=List fw
def nu:List fw→Type
 | []=>Unit
 | a :: l=>a.V×nu l
def wK (f:NV):List Nat→Value
 | []=>undef
 | [t]=>f t
 | ts=>.tuple (ts.map f).toArray
def u2 (f:Fr) (t:Nat):Value:=match look f t with
 | some v=>v
 | none=>undef
def wL (a:fw) (r:NV):Value:=wK r a.src
def xU (a:fw) (f:Fr):Value:=wK (u2 f) a.src
theorem yE {f g:NV}:∀ {ts:LN},(∀ t∈ts,f t=g t)→wK f ts=wK g ts:=by
 intro ts h
 match ts,h with
 | [],_=>rfl
 | [t],h=>exact h t (by simp)
 | t :: s :: ts,h=>
  show Value.tuple (List.map f (t :: s :: ts)).toArray=Value.tuple (List.map g (t :: s :: ts)).toArray
  rw [List.map_congr_left h]
def mF:(ms:MM)→nu ms→Fr
 | [],_=>[]
 | a :: l,x=>(a.d,a.rt (xU a (mF l x.2)) x.1) :: mF l x.2
def xV:(ms:MM)→nu ms→List ay
 | [],_=>[]
 | a :: l,x=>a.ps (xU a (mF l x.2)) x.1++xV l x.2
def ou (A:LN):(ms:MM)→nu ms→Fr
 | [],_=>[]
 | a :: l,x=>bif gq a.j A then (a.d,a.rt (xU a (mF l x.2)) x.1) :: ou A l x.2 else ou A l x.2
def qP (A:LN):(ms:MM)→nu ms→List ay
 | [],_=>[]
 | a :: l,x=>bif gq a.j A then a.ps (xU a (mF l x.2)) x.1++qP A l x.2 else qP A l x.2
def qg (t:Nat):List fw→Option Nat
 | []=>none
 | a :: l=>bif Nat.beq t a.d then some a.j else qg t l
def wM (ms:MM):List (Nat×Operand)→List Nat
 | []=>[]
 | (_,.tmp s) :: l=>match qg s ms with
  | some _=>s :: wM ms l
  | none=>wM ms l
 | _ :: l=>wM ms l
def Vv (s:Nat):List Nat→Option Nat
 | []=>none
 | t :: l=>bif Nat.beq s t then some 0 else (Vv s l).map (·+1)
def WC (v:Value) (k:Nat):Value:=match v with
 | .tuple vs=>vs.toList.getD k undef
 | _=>undef
def WD (f:Fr) (ts:LN) (u:Value):Operand→Value
 | .tmp s=>match Vv s ts with
  | some k=>(match ts with
   | [_]=>u
   | _=>WC u k)
  | none=>u2 f s
 | x=>match bz f x with
  | some v=>v
  | none=>undef
def TF (k:Nat) (v:Value):List Value:=bif Nat.beq k 1 then [v] else match v with
 | .agg cs=>cs.toList
 | _=>[]
def Nn (pl:List (Nat×Nat)):List (Nat×Value)→List Value→List Value
 | [],cs=>cs
 | (i,v) :: l,cs=>match CN pl i with
  | some (off,k)=>Nn pl l (cs.take off++TF k v++cs.drop (off+k))
  | none=>cs
def PY (pl:List (Nat×Nat)) (f:Fr) (ts:LN) (ps:List (Nat×Operand)) (zc:LV) (u:Value):List Value:=Nn pl (ps.map fun p=>(p.1,WD f ts u p.2)) zc
def Vw (A:LN) (ms:MM) (ts:LN):Bool:=ts.all fun t=>match qg t ms with
 | some j=>gq j A
 | none=>false
def rR (A:LN):List fw→Bool
 | []=>true
 | a :: l=>(bif gq a.j A then a.src.all (fun t=>match qg t l with
   | some j=>gq j A
   | none=>false) else true) && rR A l
def wN:List fw→Bool
 | []=>true
 | a :: l=>a.src.all (fun t=>(qg t l).isSome) && wN l
theorem C3 {A:LN} {r:NV} {t:Nat}:∀ {ms:MM} {x:nu ms} {j:Nat},qg t ms=some j→gq j A=true→(∀ p∈ou A ms x,r p.1=p.2)→look (mF ms x) t=some (r t):=by
 intro ms
 induction ms with
 | nil=>intro x j h; cases h
 | cons a l ih=>
  intro x j h hj hp
  unfold qg at h
  unfold mF look
  cases hb:Nat.beq t a.d with
  | true=>
   rw [hb] at h
   cases h
   have:=hp (a.d,a.rt (xU a (mF l x.2)) x.1) (by unfold ou; rw [hj]; simp)
   simp only [cond_true]
   rw [Nat.eq_of_beq_eq_true hb,this]
  | false=>
   rw [hb] at h
   refine ih h hj fun p hm=>hp p ?_
   unfold ou
   cases gq a.j A with
   | true=>exact List.mem_cons_of_mem _ hm
   | false=>exact hm
theorem KQ {r:NV} {t:Nat}:∀ {ms:MM} {x:nu ms},(qg t ms).isSome=true→(∀ p∈mF ms x,r p.1=p.2)→look (mF ms x) t=some (r t):=by
 intro ms
 induction ms with
 | nil=>intro x h; cases h
 | cons a l ih=>
  intro x h hp
  unfold qg at h
  unfold mF at hp ⊢
  unfold look
  cases hb:Nat.beq t a.d with
  | true=>
   simp only [cond_true]
   rw [Nat.eq_of_beq_eq_true hb,hp (a.d,a.rt (xU a (mF l x.2)) x.1) (by simp)]
  | false=>
   rw [hb] at h
   exact ih h fun p hm=>hp p (List.mem_cons_of_mem _ hm)
def HN (N:Nat→Prop) (w:World) (Δ:QE) (f:LN):Prop:=HL (fun _=>False) w Δ f∨∃ Fo Fr,f=Fo++Fr∧(sO Δ=false∧∀ b∈Fr,b < w.heap.size)∧HL (fun b=>N b∨b∈Fr) w Δ Fo
def II (N:Nat→Prop) (a:fw):List Nat→World→(Nat→Value)→Value→Prop:=fun f w r _=>∃ v:a.V,r a.d=a.rt (wL a r) v∧HN N w (a.ps (wL a r) v) f∧f.Nodup
def MV (N:Nat→Prop) (a:fw):List Nat→World→(Nat→Value)→Value→Prop:=fun f w r x=>∃ v:a.V,x=a.rt (wL a r) v∧HN N w (a.ps (wL a r) v) f∧f.Nodup
def IJ (N:Nat→Prop) (a:LN) (l:LO) (s:ep):Prop:=∀ f F (w w':World) (r r':NV) v,aq F w w'→(∀ b∈f,b ∉ F)→(∀ b∈F,¬ N b)→(∀ j∈a,∀ t,bh l j=some t→r' t=r t)→s.V f w r v→s.V f w' r' v
theorem C4.n {N:Nat→Prop} {a:LN} {l:LO} {s:ep} (h:C4 a l s):IJ N a l s:=fun f F w w' r r' v hC hn _=>h f F w w' r r' v hC hn
section
variable {P:Program} {w w':World} {Z:Nat→Prop}
theorem HL.TG {F H:LN} {Δ:QE} (h:HL (fun _=>False) w Δ F) (hC:aq H w w') (hd:∀ b∈F,b ∉ H):HL (fun _=>False) w' Δ F:=by
 induction h with
 | nil=>exact .nil
 | @own e f F Δ h _ ih=>exact .own (h.dq hC (fun _ _ h=>h) fun b hb hm=>hd b (List.mem_append_left _ hm) hb) (ih fun b hb=>hd b (List.mem_append_right _ hb))
 | @fact e F Δ h _ ih=>
  refine .fact ?_ (ih hd)
  cases e with
  | rd o T v x=>
   obtain ⟨g,h1,h2⟩:=h
   have hg:g=[]:=by
    cases g with
    | nil=>rfl
    | cons b g=>exact absurd (h2 b (by simp)) (by cases o <;> simp [rM])
   subst hg
   exact ⟨[],T.dq h1 hC (fun _ h=>absurd h List.not_mem_nil),fun _ h=>absurd h List.not_mem_nil⟩
  | ad o1 o2 v j T x=>obtain ⟨_,_,u,g,_,_,h3,_⟩:=h; exact absurd h3 (by cases o1 <;> simp [rM])
  | bb p cs=>
   have hc:cs=[]:=by
    cases cs with
    | nil=>rfl
    | cons c cs=>exact (h.2 (by simp)).elim
   subst hc
   exact ⟨fun j u hj=>by simp at hj,fun hn=>absurd rfl hn⟩
  | hd v j u=>exact absurd h.2.2.2 List.not_mem_nil
  | _=>exact h.elim
theorem HL.TH {F H:LN} {Δ:QE} (h:HL Z w Δ F) (hC:aq H w w') (hz:∀ b∈H,¬ Z b) (hd:∀ b∈F,b ∉ H):HL Z w' Δ F:=by
 induction h with
 | nil=>exact .nil
 | @own e f F Δ h _ ih=>exact .own (h.dq hC hz fun b hb hm=>hd b (List.mem_append_left _ hm) hb) (ih fun b hb=>hd b (List.mem_append_right _ hb))
 | @fact e F Δ h _ ih=>exact .fact (h.dq hC hz fun _ _ h=>nomatch h) (ih hd)
theorem HN.dq {N:Nat→Prop} {f H:LN} {Δ:QE} (h:HN N w Δ f) (hC:aq H w w') (hd:∀ b∈f,b ∉ H) (hz:∀ b∈H,¬ N b):HN N w' Δ f:=by
 rcases h with h | ⟨Fo,Fr,rfl,h1,h2⟩
 ·exact .inl (h.TG hC hd)
 ·exact .inr ⟨Fo,Fr,rfl,⟨h1.1,fun b hb=>Nat.lt_of_lt_of_le (h1.2 b hb) hC.size⟩,h2.TH hC (fun b hb h=>h.elim (hz b hb) fun h=>hd b (List.mem_append_right _ h) hb) fun b hb=>hd b (List.mem_append_left _ hb)⟩
theorem HN.own {N:Nat→Prop} {f:LN} {Δ:QE} (h:HN N w Δ f) (ho:sO Δ=true):HL (fun _=>False) w Δ f:=by
 rcases h with h | ⟨_,_,_,h1,_⟩
 ·exact h
 ·rw [ho] at h1; cases h1.1
theorem HN.all {N:Nat→Prop} {f:LN} {Δ:QE} (h:HN N w Δ f):∃ Fo Fr,f=Fo++Fr∧(∀ b∈Fr,b < w.heap.size)∧HL (fun b=>N b∨b∈Fr) w Δ Fo:=by
 rcases h with h | ⟨Fo,Fr,rfl,h1,h2⟩
 ·exact ⟨f,[],by simp,fun b (h:b∈[])=>absurd h List.not_mem_nil,h.mono fun _ h=>h.elim⟩
 ·exact ⟨Fo,Fr,rfl,h1.2,h2⟩
theorem HL.up {F:LN} {Δ:QE} (h:HL (fun _=>False) w Δ F):HL Z w Δ F:=by
 induction h with
 | nil=>exact .nil
 | own h _ ih=>exact .own (h.mono fun _ h=>h.elim) ih
 | fact h _ ih=>exact .fact (h.mono (fun _ h=>h.elim) fun _ h=>h) ih
theorem HL.app {Δ Δ':QE} {F F':LN} (h:HL Z w Δ F) (k:HL Z w Δ' F'):HL Z w (Δ++Δ') (F++F'):=by
 induction h with
 | nil=>exact k
 | own h _ ih=>rw [List.append_assoc]; exact .own h ih
 | fact h _ ih=>exact .fact h ih
theorem Gh {a:fw} {r r':NV} (h:∀ t∈a.src,r' t=r t):wL a r'=wL a r:=yE h
theorem IK {l:LO} {a:LN} {b:Bool} {m:fw} (hs:∀ t∈m.src,∃ j∈a,bh l j=some t):IJ Z a l ⟨b,MV Z m⟩:=by
 intro f F w w' r r' x hC hn hz hr ⟨v,h1,h2,h3⟩
 have e:=Gh (a:=m) (r:=r) (r':=r') fun t ht=>by
  obtain ⟨j,hj,hd⟩:=hs t ht
  exact hr j hj t hd
 refine ⟨v,by rw [e]; exact h1,by rw [e]; exact h2.dq hC hn hz,h3⟩
theorem He {l:LO} {a:LN} {b:Bool} {m:fw} (hd:∃ j∈a,bh l j=some m.d) (hs:∀ t∈m.src,∃ j∈a,bh l j=some t):IJ Z a l ⟨b,II Z m⟩:=by
 intro f F w w' r r' x hC hn hz hr ⟨v,h1,h2,h3⟩
 have e:=Gh (a:=m) (r:=r) (r':=r') fun t ht=>by
  obtain ⟨j,hj,hd⟩:=hs t ht
  exact hr j hj t hd
 obtain ⟨j,hj,hjd⟩:=hd
 refine ⟨v,by rw [e,hr j hj _ hjd]; exact h1,by rw [e]; exact h2.dq hC hn hz,h3⟩
theorem fy.more {l:LO} {m i:Nat} {U:LL} {S S':List ep} {r0:NV} {w0:World} {H:LN} (h:fy P l m S U r0 w0 H i) (hi:i < S.length):fy P l m (S++S') U r0 w0 H i:=by
 intro o s ho hs g r w hC hV hO hn jw hd hf
 rw [List.getElem?_append_left hi] at hs
 refine h o s ho hs g r w hC hV (fun j hj d ie s' jk=>hO j hj d ie s' (by rw [List.getElem?_append_left (List.getElem?_eq_some_iff.1 jk).1]; exact jk)) (fun j hj=>?_) jw hd hf
 have:=hn j hj
 refine ⟨fun d ie=>?_,fun ie s' jk cg=>?_⟩
 ·have h2:=this.1 d ie
  by_cases hl:j < S.length
  ·rw [List.getElem?_append_left hl] at h2; exact h2
  ·rw [List.getElem?_eq_none (by omega)]; trivial
 ·exact this.2 ie s' (by rw [List.getElem?_append_left (List.getElem?_eq_some_iff.1 jk).1]; exact jk) cg
end
inductive fI (A:LN):Option (Bool×Nat×Value)→List (Nat×Nat×Value)→Fr→Fr→Prop
 | nil {base:Fr}:fI A none [] base base
 | cons {j d:Nat} {u:Value} {l:LQ} {base fr:Fr} (h:fI A (some (gq j A,d,u)) l base fr):fI A none ((j,d,u) :: l) base fr
 | dq {d:Nat} {u:Value} {l:LQ} {base fr:Fr} (h:fI A none l base fr):fI A (some (true,d,u)) l base ((d,u) :: fr)
 | drop {d:Nat} {u:Value} {l:LQ} {base fr:Fr} (h:fI A none l base fr):fI A (some (false,d,u)) l base fr
theorem td.xR {Γ Γ':QE} {v:Addr} {o:Bool} {α:Type} {E:ah α} {x:α} {e:ay} (h:td Γ v o E x e Γ') {Z:Nat→Prop} {w:World}:∀ {cur F:LN},SA Z w Γ cur F→(v.block∈cur∨v.block∈F)∨Z v.block:=by
 induction h with
 | @ad o1 o2 α E v j x e Γ=>
  intro cur F hS
  obtain ⟨⟨j0,j1,u,g,h1,h2,h3,h4⟩,h5⟩:=hS
  cases o1 with
  | false=>exact .inr h3
  | true=>exact .inl (.inl h3)
 | @there o2 α E v x e a Γ Γ' h ih=>
  intro cur F hS
  cases a with
  | own T v x=>obtain ⟨f,F',rfl,h2,h3⟩:=hS; exact (ih h3).imp (fun h=>.inr (List.mem_append.2 h)) id
  | om e E v xs=>obtain ⟨f,F',rfl,h2,h3⟩:=hS; exact (ih h3).imp (fun h=>.inr (List.mem_append.2 h)) id
  | row b cs e=>obtain ⟨f,F',rfl,h2,h3⟩:=hS; exact (ih h3).imp (fun h=>h.imp id (List.mem_append_right _)) id
  | eb e E v xs j u=>obtain ⟨f,F',rfl,h2,h3⟩:=hS; exact (ih h3).imp (fun h=>.inr (List.mem_append.2 h)) id
  | _=>exact ih hS.2
inductive VQ (P:Program) (Γ:QE) (fr:Fr):Op→Value→Prop
 | mv {x:OO} {v:Value} (hx:bz fr x=some v):VQ P Γ fr (.move x) v
 | as {x:OO} {v:Value} (hx:bz fr x=some v):VQ P Γ fr (.assign x) v
 | pick {c x y:OO} {b:Bool} {v:Value} (hc:bz fr c=some (.bool b)) (hx:(bif b then bz fr x else bz fr y)=some v):VQ P Γ fr (.pick c x y) v
 | not {x:OO} {t:TI} {b:Bool} (hx:bz fr x=some (.bool b)):VQ P Γ fr (.unOp .not t x) (.bool (!b))
 | KE {x:OO} {a:Addr} (hx:bz fr x=some (.pointer (some a))):VQ P Γ fr (.nilCheck x) (.pointer (some a))
 | PE {s k off:Nat} {x:OO} {a a':Addr} [hf:jc P s k off] (hx:bz fr x=some (.pointer (some a))) (ha:zp a off a'):VQ P Γ fr (.fieldAddr s x k) (.pointer (some a'))
 | len {x:OO} {v:Value} {t:TI} {n:Nat} [ht:vK P t] (hx:bz fr x=some v) (hr:te Γ v n):VQ P Γ fr (.call ⟨.builtin .len,#[x],#[t]⟩) (.int .i64 (n:Int))
 | Ng {t:TI} {ps:List (Nat×Operand)} {zc cs:LV} {pl:List (Nat×Nat)} [hb:xT P t zc pl] (hf:tI Γ fr pl ps zc cs):VQ P Γ fr (.build t ps.toArray) (.agg cs.toArray)
 | Vx {κ υ:Type} {x y:OO} {v:Value} {t:TI} {bq:BEq κ} {ek:κ→Value} {eu:υ→Value} {xs:List (κ×υ)} {a:κ} {z0:υ} [ht:Iz P t κ υ bq ek eu] [hz:PC P t υ eu z0] (hx:bz fr x=some v) (hy:bz fr y=some (ek a)) (hr:BJ ek eu Γ v xs):VQ P Γ fr (.lookup t x y false) (eu ((rS xs a).getD z0))
theorem VQ.sound {P:Program} {Γ:QE} {fr:Fr} {op:Op} {u:Value} (h:VQ P Γ fr op u) {Z:Nat→Prop} {w:World} {cur F:LN} (hS:SA Z w Γ cur F) {r:NV} (ha:cn r fr) (d:Option Nat) (ty:TI) (pos:String) (af:Array Edge) (g:Option (Nat×Bool)) :
  Rd P w r ⟨d,op,ty,pos,af,g⟩ u:=by
 cases h with
 | mv hx=>exact Mv _ (cB ha hx)
 | as hx=>exact Av _ (cB ha hx)
 | @pick c x y b v hc hx=>
  intro w' _
  rw [Gg (cB ha hc)]
  cases b
  ·rw [← cB ha hx]; rfl
  ·rw [← cB ha hx]; rfl
 | not hx=>exact Nt (cB ha hx)
 | KE hx=>exact Nk (cB ha hx)
 | @PE s k off x a a' hf hx hq=>rw [hq.eq]; exact Fp hf.h (cB ha hx)
 | @len x v t n ht hx hr=>
  obtain ⟨b,c,rfl⟩:=hr.sound hS
  obtain ⟨e,i,h1,_,_⟩:=ht.h
  exact fun _ _=>zQ h1 (cB ha hx)
 | @Vx κ υ x y v t bq ek eu xs a z0 ht hz hx hy hr=>
  obtain ⟨f,hm⟩:=hr.sound hS
  obtain ⟨kt,vt,kd,h1,h2,h3⟩:=ht.h
  obtain ⟨kt',vt',i,g1,g2,g3⟩:=hz.h
  rw [h1] at g1
  cases g1
  exact fun w' hC=>Hf (ek:=ek) (sT:=eu) h3 h1 h2 g2 g3 (by rw [cB ha hx]; exact ah.dq _ hm hC fun _ _=>List.not_mem_nil) (cB ha hy)
 | @Ng t ps zc cs pl hb hf=>
  obtain ⟨fs,i,z,h1,h2,h3,h4,h5⟩:=hb.h
  refine Bu ?_
  have:=hf.fill ha hS
  unfold Program.built
  rw [h3,h1]
  simp only [h4,h2]
  rw [show z.cells=zc.toArray by rw [← h5]]
  exact this
theorem fI.sound {A:LN} {q:Option (Bool×Nat×Value)} {sl:LQ} {base fr:Fr} {r:NV} (h:fI A q sl base fr) (hb:cn r base) :
  (∀ p∈sl,gq p.1 A=true→r p.2.1=p.2.2)→(∀ b d u,q=some (b,d,u)→b=true→r d=u)→cn r fr:=by
 induction h with
 | nil=>intro _ _; exact hb
 | @cons j d u l base fr _ ih=>
  intro h1 _
  refine ih hb (fun p hp=>h1 p (by simp [hp])) ?_
  rintro b d' u' he hbt
  cases he
  exact h1 (j,d,u) (by simp) hbt
 | @dq d u l base fr _ ih=>
  intro h1 h2
  intro s v hl
  unfold look at hl
  cases C5:Nat.beq s d with
  | true=>rw [C5] at hl; cases hl; rw [Nat.eq_of_beq_eq_true C5]; exact h2 true d _ rfl rfl
  | false=>rw [C5] at hl; exact ih hb h1 (fun _ _ _ h=>nomatch h) s v hl
 | drop _ ih=>intro h1 _; exact ih hb h1 (fun _ _ _ h=>nomatch h)
def vv:List (Nat×Nat×Value)→Fr→Fr
 | [],f=>f
 | (_,d,u) :: l,f=>(d,u) :: vv l f
inductive Hg (P:Program) (f:FuncId) (xs:List Operand) (fr:Fr) (Γ:QE) {β V:Type} (mo:Option β) (rt:β→V→List Value) (ps:β→V→List ay):Prop
 | mk {vs:LV} {Δ:QE} (hx:vp fr xs=some vs) (hc:Ct P f true mo vs Δ rt ps) (hd:FO Δ) (hr:ER true Γ Δ):Hg P f xs fr Γ mo rt ps
inductive Vy (P:Program) (f:FuncId):Prop
 | mk [h:bm P f]:Vy P f
inductive Hh (P:Program) (f:FuncId) (as bs:LV) (xs:List Operand) (fr:Fr) (Γ:QE) {β V:Type} (mo:Option β) (rt:β→V→List Value) (ps:β→V→List ay):Prop
 | mk {vs us ws:LV} {Δ:QE} (hx:vp fr xs=some vs) (h1:gj vs bs us) (h2:gj as us ws) (hc:Ct P f true mo ws Δ rt ps) (hd:FO Δ) (hr:ER true Γ Δ):Hh P f as bs xs fr Γ mo rt ps
inductive qh:List fw→Prop
 | nil:qh []
 | cons {a:fw} {l:MM} (h:zN a.V) (k:qh l):qh (a :: l)
theorem qh.ne {ms:MM} (h:qh ms):Nonempty (nu ms):=by
 induction h with
 | nil=>exact ⟨()⟩
 | cons h _ ih=>obtain ⟨a⟩:=h.ne; obtain ⟨b⟩:=ih; exact ⟨(a,b)⟩
inductive C6:List fw→Nat→Bool→Prop
 | here {a:fw} {l:MM}:C6 (a :: l) a.d true
 | there {a:fw} {l:MM} {t:Nat} {b:Bool} (h:C6 l t b):C6 (a :: l) t b
 | nil {t:Nat}:C6 [] t false
inductive KR (fr:Fr) (Γ:QE) (t:Nat):Prop
 | mk {v:Value} (h:look fr t=some v) (hc:One Γ v):KR fr Γ t
inductive PZ (fr:Fr) (Γ:QE) (t n:Nat):Prop
 | mk {v:Value} (h:look fr t=some v) (hc:te Γ v n):PZ fr Γ t n
inductive JA (R S:Type):Type 1
 | a (as:LL) (ops:LO) (i:Nat) (sl:LQ) (ms:MM) (Γ:QE) (m:Option (Out S R))
 | o (A:LN) (op:Op) (d:Nat) (ty:TI) (as:LL) (ops:LO) (i:Nat) (sl:LQ) (ms:MM) (Γ:QE) (m:Option (Out S R))
 | ow (b:Bool) (A:LN) (op:Op) (d:Nat) (ty:TI) (as:LL) (ops:LO) (i:Nat) (sl:LQ) (ms:MM) (Γ:QE) (m:Option (Out S R))
 | ix (b:Bool) (v:Value) (fr:Fr) (x y:OO) (t:TI) (A:LN) (d:Nat) (ty:TI) (as:LL) (ops:LO) (i:Nat) (sl:LQ) (ms:MM) (Γ:QE) (m:Option (Out S R))
 | lb (b:Bool) (v:Value) (j:Int) (fr:Fr) (t:TI) (x:OO) (A:LN) (d:Nat) (ty:TI) (as:LL) (ops:LO) (i:Nat) (sl:LQ) (ms:MM) (Γ:QE) (m:Option (Out S R))
 | ap (us:LN) (t1 t2:Nat) (t:TI) (A:LN) (d:Nat) (ty:TI) (as:LL) (ops:LO) (i:Nat) (sl:LQ) (ms:MM) (Γ:QE) (m:Option (Out S R))
 | la (fr:Fr) (ad:Addr) (lk:Option Nat) (t:TI) (x:OO) (A:LN) (d:Nat) (ty:TI) (as:LL) (ops:LO) (i:Nat) (sl:LQ) (ms:MM) (Γ:QE) (m:Option (Out S R))
 | ld {α:Type} (E:ah α) (z:α) (fr:Fr) (ad:Addr) (t:TI) (x:OO) (A:LN) (d:Nat) (ty:TI) (as:LL) (ops:LO) (i:Nat) (sl:LQ) (ms:MM) (Γ:QE) (m:Option (Out S R))
 | oc (us:LN) (f:FuncId) (xs:List Operand) (bb:Array TypeId) (A:LN) (d:Nat) (ty:TI) (as:LL) (ops:LO) (i:Nat) (sl:LQ) (ms:MM) (Γ:QE) (m:Option (Out S R))
 | os (A:LN) (op:Op) (ty:TI) (as:LL) (ops:LO) (i:Nat) (sl:LQ) (ms:MM) (Γ:QE) (m:Option (Out S R))
 | cr {V:Type} (u:V→Value) (ps:V→List ay) (d:Nat) (as:LL) (ops:LO) (i:Nat) (sl:LQ) (ms:MM) (Γ:QE) (m:Option (Out S R))
 | p (Δ:QE) (as:LL) (ops:LO) (i:Nat) (sl:LQ) (ms:MM) (Γ:QE) (m:Option (Out S R))
inductive Gi:List ay→Value→Bool→Prop
 | here {α:Type} {T:ah α} {v:Value} {x:α} {Γ:QE}:Gi (.own T v x :: Γ) v true
 | there {e:ay} {v:Value} {b:Bool} {Γ:QE} (h:Gi Γ v b):Gi (e :: Γ) v b
 | nil {v:Value}:Gi [] v false
inductive sz:List fw→Nat→fw→List fw→Prop
 | here {a:fw} {l:MM}:sz (a :: l) a.d a l
 | there {a b:fw} {l l':MM} {t:Nat} (h:sz l t a l'):sz (b :: l) t a (b :: l')
inductive C7:List fw→Nat→fw→List fw→Prop
 | here {a:fw} {l:MM}:C7 (a :: l) a.j a l
 | there {a b:fw} {l l':MM} {t:Nat} (h:C7 l t a l'):C7 (b :: l) t a (b :: l')
def C8 (sl:LQ) (j d:Nat) (b:Bool):Bool:=sl.any fun q=>Nat.beq q.1 j && (Nat.beq q.2.1 d && (match q.2.2 with | .bool c=>(bif b then c else !c) | _=>false))
theorem BO {sl:LQ} {j d:Nat} {b:Bool} (h:C8 sl j d b=true):(j,d,.bool b)∈sl:=by
 unfold C8 at h
 rw [List.any_eq_true] at h
 obtain ⟨⟨j',d',v⟩,hq,h⟩:=h
 rw [Bool.and_eq_true,Bool.and_eq_true] at h
 obtain ⟨h1,h2,h3⟩:=h
 obtain rfl:j'=j:=Nat.eq_of_beq_eq_true h1
 obtain rfl:d'=d:=Nat.eq_of_beq_eq_true h2
 cases v with
 | bool c=>cases b <;> cases c <;> first | exact hq | (cases h3; done)
 | _=>cases h3
def No (sl:LQ):List Nat→Bool
 | [j,d,b]=>C8 sl (j - 1000000) (d - 1000000) (Nat.beq b 1000001)
 | _=>true
def Vz (U:LL) (sl:LQ):Bool:=bif Nat.ble 1000000 ((U.getLastD []).headD 0) then No sl (U.getLastD []) else true
def vw (U:LL) (sl:LQ) (ms:MM):Bool:=(U.all fun us=>us.all fun j=>ms.all fun a=>!Nat.beq a.j j) && Vz U sl
inductive AD {R S:Type} (tq:Bool) (P:Program) (cx:Cx R) (K:cq R S) (l tail:LO) (base:Fr) (U:LL):List ay→JA R S→Prop
 | nil {hd:QE} {i:Nat} {sl:LQ} {ms:MM} {Γ:QE} {m:Option (Out S R)} (C9:wN ms=true) (he:vw U sl ms=true) (h:∀ x:nu ms,D P cx (.p (vv sl (mF ms x)) (xV ms x) base Γ fun fr Γ=>.tg tq (wG tail) l tail K Γ fr m)):AD tq P cx K l tail base U hd (.a [] [] i sl ms Γ m)
 | gbt {hd:QE} {j d:Nat} {b:Bool} {q:Nat×Nat×Value} {as:LL} {ops:LO} {i:Nat} {sl:LQ} {ms:MM} {Γ:QE} {m:Option (Out S R)} (h:AD tq P cx K l tail base U hd (.a as ops i (q :: (j,d,.bool true) :: sl) ms Γ m)):AD tq P cx K l tail base U hd (.a as ops i ((j,d,.bool b) :: q :: sl) ms Γ (bif b then m else none))
 | gbf {hd:QE} {j d:Nat} {b:Bool} {q:Nat×Nat×Value} {as:LL} {ops:LO} {i:Nat} {sl:LQ} {ms:MM} {Γ:QE} {m:Option (Out S R)} (h:AD tq P cx K l tail base U hd (.a as ops i (q :: (j,d,.bool false) :: sl) ms Γ m)):AD tq P cx K l tail base U hd (.a as ops i ((j,d,.bool b) :: q :: sl) ms Γ (bif b then none else m))
 | skp {hd:QE} {A:LN} {dst:Option Nat} {op:Op} {ty:TI} {pos:String} {af:Array Edge} {j d:Nat} {p:Bool} {as:LL} {ops:LO} {i:Nat} {sl:LQ} {ms:MM} {Γ:QE} {m:Option (Out S R)} (ie:bh l j=some d) (hb:C8 sl j d (!p)=true) (hA:gq j A=true) (h:AD tq P cx K l tail base U hd (.a as ops (i+1) sl ms Γ m)):AD tq P cx K l tail base U hd (.a (A :: as) (⟨dst,op,ty,pos,af,some (j,p)⟩ :: ops) i sl ms Γ m)
 | cons {hd:QE} {A:LN} {as:LL} {op:Op} {d:Nat} {ty:TI} {pos:String} {af:Array Edge} {ops:LO} {i:Nat} {sl:LQ} {ms:MM} {Γ:QE} {m:Option (Out S R)} (h:AD tq P cx K l tail base U hd (.o A op d ty as ops i sl ms Γ m)) :
   AD tq P cx K l tail base U hd (.a (A :: as) (⟨some d,op,ty,pos,af,none⟩ :: ops) i sl ms Γ m)
 | Hi {hd:QE} {A:LN} {as:LL} {op:Op} {ty:TI} {pos:String} {af:Array Edge} {ops:LO} {i:Nat} {sl:LQ} {ms:MM} {Γ:QE} {m:Option (Out S R)} (h:AD tq P cx K l tail base U hd (.os A op ty as ops i sl ms Γ m)) :
   AD tq P cx K l tail base U hd (.a (A :: as) (⟨none,op,ty,pos,af,none⟩ :: ops) i sl ms Γ m)
 | PK {hd:QE} {t e:TI} {t1 j1 n:Nat} {y:OO} {u:Value} {us cs ds:LV} {IL:MM} {fr:Fr} {A:LN} {as:LL} {ty:TI} {ops:LO} {i:Nat} {sl:LQ} {ms:MM} {Γ:QE} {m:Option (Out S R)} [ht:sS P t n]
   (h1:sz ms t1 ⟨j1,t1,[],Nat,fun _ b=>.pointer (some ⟨b,0,none⟩),fun _ b=>[.row b cs e]⟩ IL) (hv:fI A none sl base fr) (hy:bz fr y=some u) (hc:qf Γ u us) (hn:us.length=n) (hs:rb us 0 cs ds) (ho:ud Γ us) (h4:gq j1 A=true) (h6:U.getD i []=[j1])
   (h:AD tq P cx K l tail base U hd (.a as ops (i+1) sl (⟨i,t1,[],Nat,fun _ b=>.pointer (some ⟨b,0,none⟩),fun _ b=>[.row b ds e]⟩ :: IL) Γ m)):AD tq P cx K l tail base U hd (.os A (.store t (.tmp t1) y) ty as ops i sl ms Γ m)
 | sw4 {hd:QE} {t st e:Nat} {α:Type} {E:ah α} {z0:α} {bt:Nat} {b:Bool} {A:LN} {as:LL} {d:Nat} {ty:TI} {ops:LO} {i:Nat} {sl:LQ} {ms:MM} {Γ:QE} {m:Option (Out S R)} [hz:qG P st α e E z0 bt] (hw:C6 ms t b) (h:AD tq P cx K l tail base U hd (.ow b A (.buildSlice st 1 #[(0,.tmp t)]) d ty as ops i sl ms Γ m)):AD tq P cx K l tail base U hd (.o A (.buildSlice st 1 #[(0,.tmp t)]) d ty as ops i sl ms Γ m)
 | ltn {hd:QE} {t e:TI} {n:Nat} {ps:List (Nat×Operand)} {us:LV} {fr:Fr} {A:LN} {as:LL} {d:Nat} {ty:TI} {ops:LO} {i:Nat} {sl:LQ} {ms:MM} {Γ:QE} {m:Option (Out S R)} [hz:BI P t e] (hv:fI A none sl base fr) (hl:sx Γ fr 0 ps us) (hn:us.length=n) (hb:(Nat.ble 1 n && Nat.ble n 16777216)=true)
   (h:AD tq P cx K l tail base U hd (.a as ops (i+1) sl (⟨i,d,[],Nat,fun _ b=>.slice (some ⟨b,0,none⟩) n n,fun _ b=>[.row b us e]⟩ :: ms) Γ m)):AD tq P cx K l tail base U hd (.o A (.buildSlice t n ps.toArray) d ty as ops i sl ms Γ m)
 | ltu {hd:QE} {t e:TI} {n:Nat} {ps:List (Nat×Operand)} {us:LV} {fr:Fr} {A:LN} {as:LL} {d:Nat} {ty:TI} {ops:LO} {i:Nat} {sl:LQ} {ms:MM} {Γ:QE} {m:Option (Out S R)} [hz:F9 P t e] (hv:fI A none sl base fr) (hl:sx Γ fr 0 ps us) (hn:us.length=n) (hb:(Nat.ble 1 n && Nat.ble n 16777216)=true)
   (h:AD tq P cx K l tail base U hd (.a as ops (i+1) sl (⟨i,d,[],Nat,fun _ b=>.slice (some ⟨b,0,none⟩) n n,fun _ b=>[.row b us e]⟩ :: ms) Γ m)):AD tq P cx K l tail base U hd (.o A (.buildSlice t n ps.toArray) d ty as ops i sl ms Γ m)
 | sw1 {hd:QE} {t:Nat} {b:Bool} {A:LN} {as:LL} {d:Nat} {ty:TI} {ops:LO} {i:Nat} {sl:LQ} {ms:MM} {Γ:QE} {m:Option (Out S R)} (hw:C6 ms t b) (h:AD tq P cx K l tail base U hd (.ow b A (.move (.tmp t)) d ty as ops i sl ms Γ m)):AD tq P cx K l tail base U hd (.o A (.move (.tmp t)) d ty as ops i sl ms Γ m)
 | wlt {hd:QE} {t e:TI} {α:Type} {E:ah α} {z0:α} {bt:Nat} {u:Value} {x:OO} {fr:Fr} {A:LN} {as:LL} {d:Nat} {ty:TI} {ops:LO} {i:Nat} {sl:LQ} {ms:MM} {Γ:QE} {m:Option (Out S R)} [hz:qG P t α e E z0 bt] (hv:fI A none sl base fr) (hx:bz fr x=some u) (h1:One Γ u)
   (h:AD tq P cx K l tail base U hd (.a as ops (i+1) sl (⟨i,d,[],Nat,fun _ b=>.slice (some ⟨b,0,none⟩) 1 1,fun _ b=>[.row b [u] e]⟩ :: ms) Γ m)):AD tq P cx K l tail base U hd (.ow false A (.buildSlice t 1 #[(0,x)]) d ty as ops i sl ms Γ m)
 | sw5 {hd:QE} {t st:Nat} {b:Bool} {A:LN} {as:LL} {d:Nat} {ty:TI} {ops:LO} {i:Nat} {sl:LQ} {ms:MM} {Γ:QE} {m:Option (Out S R)} (hw:C6 ms t b) (h:AD tq P cx K l tail base U hd (.ow b A (.call ⟨.builtin .len,#[.tmp t],#[st]⟩) d ty as ops i sl ms Γ m)):AD tq P cx K l tail base U hd (.o A (.call ⟨.builtin .len,#[.tmp t],#[st]⟩) d ty as ops i sl ms Γ m)
 | mln {hd:QE} {t n:Nat} {st:TI} {A:LN} {as:LL} {d:Nat} {ty:TI} {ops:LO} {i:Nat} {sl:LQ} {ms:MM} {Γ:QE} {m:Option (Out S R)} [ht:vK P st] (hi:qh ms) (C9:rR A ms=true) (hx:∀ x:nu ms,PZ (ou A ms x) (qP A ms x) t n) (h:AD tq P cx K l tail base U hd (.a as ops (i+1) ((i,d,.int .i64 (n:Int)) :: sl) ms Γ m)):AD tq P cx K l tail base U hd (.ow true A (.call ⟨.builtin .len,#[.tmp t],#[st]⟩) d ty as ops i sl ms Γ m)
 | Np {hd:QE} {t:TI} {cs:LV} {A:LN} {as:LL} {d:Nat} {ty:TI} {ops:LO} {i:Nat} {sl:LQ} {ms:MM} {Γ:QE} {m:Option (Out S R)} [hz:xq P t cs] (h:AD tq P cx K l tail base U hd (.a as ops (i+1) sl (⟨i,d,[],Nat,fun _ b=>.pointer (some ⟨b,0,none⟩),fun _ b=>[.row b cs t]⟩ :: ms) Γ m)):AD tq P cx K l tail base U hd (.o A (.alloc t) d ty as ops i sl ms Γ m)
 | PJ {hd:QE} {us:LN} {t1 t2:Nat} {t:TI} {A:LN} {as:LL} {d:Nat} {ty:TI} {ops:LO} {i:Nat} {sl:LQ} {ms:MM} {Γ:QE} {m:Option (Out S R)} (hU:U.getD i []=us) (h:AD tq P cx K l tail base U hd (.ap us t1 t2 t A d ty as ops i sl ms Γ m)):AD tq P cx K l tail base U hd (.o A (.call ⟨.builtin .append,#[.tmp t1,.tmp t2],#[t,t]⟩) d ty as ops i sl ms Γ m)
 | wv {hd:QE} {op:Op} {u:Value} {fr:Fr} {A:LN} {as:LL} {d:Nat} {ty:TI} {ops:LO} {i:Nat} {sl:LQ} {ms:MM} {Γ:QE} {m:Option (Out S R)} (hv:fI A none sl base fr) (hq:VQ P Γ fr op u) (h:AD tq P cx K l tail base U hd (.a as ops (i+1) ((i,d,u) :: sl) ms Γ m)):AD tq P cx K l tail base U hd (.ow false A op d ty as ops i sl ms Γ m)
 | mbl {hd:QE} {t:TI} {ps:List (Nat×Operand)} {zc:LV} {pl:List (Nat×Nat)} {fr:Fr} {A:LN} {as:LL} {d:Nat} {ty:TI} {ops:LO} {i:Nat} {sl:LQ} {ms:MM} {Γ:QE} {m:Option (Out S R)} [hb:xT P t zc pl] (hi:qh ms) (C9:rR A ms=true) (mh:(wM ms ps).isEmpty=false) (hj:Vw A ms (wM ms ps)=true) (hv:fI A none sl base fr)
   (hx:∀ x:nu ms,tI (qP A ms x++Γ) (ou A ms x++fr) pl ps zc (PY pl fr (wM ms ps) ps zc (wK (u2 (mF ms x)) (wM ms ps))))
   (h:AD tq P cx K l tail base U hd (.a as ops (i+1) sl (⟨i,d,wM ms ps,Unit,fun u _=>.agg (PY pl fr (wM ms ps) ps zc u).toArray,fun _ _=>[]⟩ :: ms) Γ m)):AD tq P cx K l tail base U hd (.o A (.build t ps.toArray) d ty as ops i sl ms Γ m)
 | mlt {hd:QE} {t:Nat} {VA e:TI} {α:Type} {E:ah α} {z0:α} {bt:Nat} {A:LN} {as:LL} {d:Nat} {ty:TI} {ops:LO} {i:Nat} {sl:LQ} {ms:MM} {Γ:QE} {m:Option (Out S R)} [hz:qG P VA α e E z0 bt] (hi:qh ms) (C9:rR A ms=true) (hj:∃ j,qg t ms=some j∧gq j A=true) (hx:∀ x:nu ms,KR (ou A ms x) (qP A ms x) t)
   (h:AD tq P cx K l tail base U hd (.a as ops (i+1) sl (⟨i,d,[t],Nat,fun _ b=>.slice (some ⟨b,0,none⟩) 1 1,fun u b=>[.row b [u] e]⟩ :: ms) Γ m)):AD tq P cx K l tail base U hd (.ow true A (.buildSlice VA 1 #[(0,.tmp t)]) d ty as ops i sl ms Γ m)
 | mk {hd:QE} {t e:TI} {α:Type} {E:ah α} {z0:α} {bt:Nat} {x:OO} {z:Int} {fr:Fr} {f:Nat→Option (Out S R)} {A:LN} {as:LL} {d:Nat} {ty:TI} {ops:LO} {i:Nat} {sl:LQ} {ms:MM} {Γ:QE} [hz:qG P t α e E z0 bt] (hv:fI A none sl base fr) (hx:bz fr x=some (.int .i64 z))
   (h:∀ n,AD tq P cx K l tail base U hd (.a as ops (i+1) sl (⟨i,d,[],Value,fun _ v=>v,fun _ v=>[.own (aL e E) v (List.replicate n z0)]⟩ :: ms) Γ (f n))):AD tq P cx K l tail base U hd (.o A (.makeSlice t x x) d ty as ops i sl ms Γ (mk bt z>>=f))
 | ixs {hd:QE} {b:Bool} {v:Value} {x y:OO} {t:TI} {fr:Fr} {A:LN} {as:LL} {d:Nat} {ty:TI} {ops:LO} {i:Nat} {sl:LQ} {ms:MM} {Γ:QE} {m:Option (Out S R)} (hv:fI A none sl base fr) (hx:bz fr x=some v) (hw:Gi hd v b) (h:AD tq P cx K l tail base U hd (.ix b v fr x y t A d ty as ops i sl ms Γ m)):AD tq P cx K l tail base U hd (.o A (.indexAddr t x y) d ty as ops i sl ms Γ m)
 | idx {hd:QE} {α:Type} {A:LN} {as:LL} {d:Nat} {x y:OO} {v:Value} {k:IntKind} {j:Int} {t ty:TI} {o1 o2:Bool} {E:ah α} {xs:List α} {ops:LO} {i:Nat} {sl:LQ} {ms:MM} {fr:Fr} {Γ:QE} {Γ':α→List ay} {f:α→Option (Out S R)} [ht:vK P t]
   (hy:bz fr y=some (.int k j)) (hr:∀ z,qD Γ v o1 o2 E xs (.ad o1 o2 v j E z) (Γ' z)) (hE:E.size=1)
   (h:∀ z,AD tq P cx K l tail base U hd (.a as ops (i+1) ((i,d,.pointer (some (fi v 1 j))) :: sl) ms (Γ' z) (f z))):AD tq P cx K l tail base U hd (.ix false v fr x y t A d ty as ops i sl ms Γ (idx xs j>>=f))
 | load {hd:QE} {A:LN} {as:LL} {d:Nat} {x:OO} {a:Addr} {t ty:TI} {lk:Option Nat} {ops:LO} {i:Nat} {sl:LQ} {ms:MM} {fr:Fr} {Γ:QE} {m:Option (Out S R)} [ht:LK P t lk] (hv:fI A none sl base fr) (hx:bz fr x=some (.pointer (some a)))
   (h:AD tq P cx K l tail base U hd (.la fr a lk t x A d ty as ops i sl ms Γ m)):AD tq P cx K l tail base U hd (.o A (.load t x) d ty as ops i sl ms Γ m)
 | lsw {hd:QE} {b:Bool} {v:Value} {j:Int} {x:OO} {t:TI} {fr:Fr} {A:LN} {as:LL} {d:Nat} {ty:TI} {ops:LO} {i:Nat} {sl:LQ} {ms:MM} {Γ:QE} {m:Option (Out S R)} (hw:Gi hd v b) (h:AD tq P cx K l tail base U hd (.lb b v j fr t x A d ty as ops i sl ms Γ m)):AD tq P cx K l tail base U hd (.la fr (fi v 1 j) none t x A d ty as ops i sl ms Γ m)
 | PF {hd:QE} {α:Type} {A:LN} {as:LL} {d:Nat} {x:OO} {v:Value} {j:Int} {o:Bool} {E:ah α} {z:α} {t ty:TI} {ops:LO} {i:Nat} {sl:LQ} {ms:MM} {fr:Fr} {Γ Γx:QE} {m:Option (Out S R)} (h:td Γ (fi v 1 j) o E z uW Γx)
   (k:AD tq P cx K l tail base U hd (.ld E z fr (fi v 1 j) t x A d ty as ops i sl ms Γ m)):AD tq P cx K l tail base U hd (.lb false v j fr t x A d ty as ops i sl ms Γ m)
 | PG {hd:QE} {A:LN} {as:LL} {d:Nat} {x:OO} {a:Addr} {u:Value} {t ty:TI} {ops:LO} {i:Nat} {sl:LQ} {ms:MM} {fr:Fr} {Γ:QE} {m:Option (Out S R)} (h:su Γ a u)
   (k:AD tq P cx K l tail base U hd (.a as ops (i+1) ((i,d,u) :: sl) ms Γ m)):AD tq P cx K l tail base U hd (.la fr a none t x A d ty as ops i sl ms Γ m)
 | IC {hd:QE} {A:LN} {as:LL} {d n:Nat} {x:OO} {a:Addr} {ds:LV} {t ty:TI} {ops:LO} {i:Nat} {sl:LQ} {ms:MM} {fr:Fr} {Γ:QE} {m:Option (Out S R)} (h:sw Γ a n ds)
   (k:AD tq P cx K l tail base U hd (.a as ops (i+1) ((i,d,.agg ds.toArray) :: sl) ms Γ m)):AD tq P cx K l tail base U hd (.la fr a (some n) t x A d ty as ops i sl ms Γ m)
 | PH {hd:QE} {A:LN} {as:LL} {d:Nat} {x:OO} {a:Addr} {k:IntKind} {z:Int} {t ty:TI} {ops:LO} {i:Nat} {sl:LQ} {ms:MM} {fr:Fr} {Γ:QE} {m:Option (Out S R)}
   (h:AD tq P cx K l tail base U hd (.a as ops (i+1) ((i,d,.int k z) :: sl) ms Γ m)):AD tq P cx K l tail base U hd (.ld (aK k) z fr a t x A d ty as ops i sl ms Γ m)
 | PI {hd:QE} {α:Type} {A:LN} {as:LL} {d:Nat} {x:OO} {v:Value} {j:Int} {E:ah α} {z:List α} {o:Bool} {t ty:TI} {ops:LO} {i:Nat} {sl:LQ} {ms:MM} {fr:Fr} {Γ:QE} {Γ1 Γ':Value→List ay} {m:Option (Out S R)} (h:∀ u,td Γ (fi v 1 j) o (bB E) z (.rd o (bB E) u z) (Γ1 u)) (h2:∀ u,xQ (Γ1 u) v j u (Γ' u))
   (k:∀ u,AD tq P cx K l tail base U hd (.a as ops (i+1) ((i,d,u) :: sl) ms (Γ' u) m)):AD tq P cx K l tail base U hd (.ld (bB E) z fr (fi v 1 j) t x A d ty as ops i sl ms Γ m)
 | IB {hd:QE} {us:LN} {A:LN} {as:LL} {d:Nat} {f:FuncId} {xs:List Operand} {bb:Array TypeId} {ty:TI} {ops:LO} {i:Nat} {sl:LQ} {ms:MM} {Γ:QE} {m:Option (Out S R)} (hU:U.getD i []=us) (h:AD tq P cx K l tail base U hd (.oc us f xs bb A d ty as ops i sl ms Γ m)):AD tq P cx K l tail base U hd (.o A (.call ⟨.value (.func f),xs.toArray,bb⟩) d ty as ops i sl ms Γ m)
 | WE {hd:QE} {β V:Type} {A:LN} {as:LL} {d:Nat} {f:FuncId} {fs bs:LV} {xo:OO} {xs:List Operand} {bb:Array TypeId} {ty:TI} {mo:Option β} {rt:β→V→List Value} {ps:β→V→List ay} {ops:LO} {i:Nat} {sl:LQ} {ms:MM} {fr:Fr} {Γ:QE} {g:β→Option (Out S R)}
   (hv:fI A none sl base fr) (hx:bz fr xo=some (.func (.func f) fs.toArray bs.toArray)) (hf:Vy P f) (hc:∀ x:nu ms,Hh P f fs bs xs (ou A ms x++fr) (qP A ms x++Γ) mo rt ps) (hi:qh ms) (C9:rR A ms=true) (ho:∀ y v,sO (ps y v)=true)
   (h:∀ y,AD tq P cx K l tail base U hd (.cr (fun v=>rN (rt y v)) (ps y) d as ops i sl ms Γ (g y))):AD tq P cx K l tail base U hd (.o A (.call ⟨.value xo,xs.toArray,bb⟩) d ty as ops i sl ms Γ (mo>>=g))
 | call {hd:QE} {β V:Type} {A:LN} {as:LL} {d:Nat} {f:FuncId} {xs:List Operand} {bb:Array TypeId} {ty:TI} {mo:Option β} {rt:β→V→List Value} {ps:β→V→List ay} {ops:LO} {i:Nat} {sl:LQ} {ms:MM} {fr:Fr} {Γ:QE} {g:β→Option (Out S R)} [hf:bm P f]
   (hv:fI A none sl base fr) (hc:∀ x:nu ms,Hg P f xs (ou A ms x++fr) (qP A ms x++Γ) mo rt ps) (hi:qh ms) (C9:rR A ms=true) (ho:∀ y v,sO (ps y v)=true)
   (h:∀ y,AD tq P cx K l tail base U hd (.cr (fun v=>rN (rt y v)) (ps y) d as ops i sl ms Γ (g y))):AD tq P cx K l tail base U hd (.oc [] f xs bb A d ty as ops i sl ms Γ (mo>>=g))
 | crv {hd:QE} {u:Unit→Value} {d:Nat} {as:LL} {ops:LO} {i:Nat} {sl:LQ} {ms:MM} {Γ:QE} {m:Option (Out S R)} (h:AD tq P cx K l tail base U hd (.a as ops (i+1) ((i,d,u ()) :: sl) ms Γ m)):AD tq P cx K l tail base U hd (.cr u (fun _=>[]) d as ops i sl ms Γ m)
 | crm {hd:QE} {V:Type} {u:V→Value} {ps:V→List ay} {d:Nat} {as:LL} {ops:LO} {i:Nat} {sl:LQ} {ms:MM} {Γ:QE} {m:Option (Out S R)} (h:AD tq P cx K l tail base U hd (.a as ops (i+1) sl (⟨i,d,[],V,fun _=>u,fun _=>ps⟩ :: ms) Γ m)):AD tq P cx K l tail base U hd (.cr u ps d as ops i sl ms Γ m)
 | val {hd:QE} {A:LN} {as:LL} {op:Op} {d:Nat} {ty:TI} {u:Value} {ops:LO} {i:Nat} {sl:LQ} {ms:MM} {fr:Fr} {Γ:QE} {m:Option (Out S R)} (hv:fI A none sl base fr) (hq:VQ P Γ fr op u)
   (h:AD tq P cx K l tail base U hd (.a as ops (i+1) ((i,d,u) :: sl) ms Γ m)):AD tq P cx K l tail base U hd (.o A op d ty as ops i sl ms Γ m)
 | VB {hd ie:QE} {α:Type} {t e et:TI} {E:ah α} {z0:α} {bt t1 t2 j2:Nat} {v yv:Value} {y:α} {z:List α} {fr:Fr} {zU:MM} {f:Unit→Option (Out S R)} {A:LN} {as:LL} {d:Nat} {ty:TI} {ops:LO} {i:Nat} {sl:LQ} {ms:MM} {Γ:QE} [hT:qG P t α e E z0 bt]
   (hV:((U.set i []).all fun us=>!(us.contains l.length))=true) (hv:fI A none sl base fr) (hs:look fr t1=some v) (h2:sz ms t2 ⟨j2,t2,[],Nat,fun _ b=>.slice (some ⟨b,0,none⟩) 1 1,fun _ b=>[.row b [yv] et]⟩ zU) (h5:gq j2 A=true) (h1:dy hd (.own (aL e E) v z) ie) (hy:zO [] E yv y [])
   (h:AD tq P cx K l tail base U ie (.a as ops (i+1) sl (⟨i,d,[],Value,fun _ v'=>v',fun _ v'=>[.own (aL e E) v' (z++[y])]⟩ :: ms) Γ (f ()))):AD tq P cx K l tail base U hd (.ap [l.length] t1 t2 t A d ty as ops i sl ms Γ (fits bt (z.length+1)>>=f))
 | VC {hd ie:QE} {t e e3 et:TI} {kk:IntKind} {z0:List Int} {bt t1 t2 t3 j2 j3 n:Nat} {v:Value} {us:LV} {ys:List Int} {z:List (List Int)} {fr:Fr} {zU IN:MM} {f:Unit→Option (Out S R)} {A:LN} {as:LL} {d:Nat} {ty:TI} {ops:LO} {i:Nat} {sl:LQ} {ms:MM} {Γ:QE} [hT:qG P t (List Int) e (aL e3 (aK kk)) z0 bt]
   (hV:((U.set i []).all fun us=>!(us.contains l.length))=true) (hv:fI A none sl base fr) (hs:look fr t1=some v) (h2:sz ms t2 ⟨j2,t2,[t3],Nat,fun _ b=>.slice (some ⟨b,0,none⟩) 1 1,fun u b=>[.row b [u] et]⟩ zU) (h3:sz zU t3 ⟨j3,t3,[],Nat,fun _ b=>.slice (some ⟨b,0,none⟩) n n,fun _ b=>[.row b us e3]⟩ IN) (h5:gq j2 A=true) (h6:gq j3 A=true) (h1:dy hd (.own (aL e (aL e3 (aK kk))) v z) ie) (hi:yY kk us ys) (hn:us.length=n) (hb:Nat.ble n 16777216=true)
   (h:AD tq P cx K l tail base U ie (.a as ops (i+1) sl (⟨i,d,[],Value,fun _ v'=>v',fun _ v'=>[.own (aL e (aL e3 (aK kk))) v' (z++[ys])]⟩ :: IN) Γ (f ()))):AD tq P cx K l tail base U hd (.ap [l.length,j3] t1 t2 t A d ty as ops i sl ms Γ (fits bt (z.length+1)>>=f))
end Go.Dk
namespace Go.Dk
open Go Go.Li
theorem qi {t:Nat} {l:LN}:gq t l=true↔t∈l:=by
 induction l with
 | nil=>simp [gq]
 | cons a l ih=>
  unfold gq
  cases hb:Nat.beq t a with
  | true=>simp [Nat.eq_of_beq_eq_true hb]
  | false=>simp only [cond_false,ih,List.mem_cons]; exact ⟨.inr,fun h=>h.resolve_left fun e=>by rw [e,Nat.beq_refl] at hb; cases hb⟩
def iu (l:LO) (U:LL) (mt:Nat):List (List Nat):=(List.range mt).map fun i=>(List.range l.length).filter (ov l U mt i)
theorem rv {l:LO} {U:LL} {mt i j:Nat} (h:j∈(iu l U mt).getD i []):j∈(bp l).getD i []∧ov l U mt i j=true:=by
 unfold iu at h
 rw [List.getD_eq_getElem?_getD,List.getElem?_map] at h
 by_cases hi:i < mt
 ·rw [List.getElem?_range hi] at h
  have h1:=(List.mem_filter.1 h).2
  refine ⟨?_,h1⟩
  unfold ov at h1
  rw [Bool.and_eq_true] at h1
  simpa using h1.1
 ·rw [List.getElem?_eq_none (by simpa using hi)] at h
  exact absurd h List.not_mem_nil
variable {Z:Nat→Prop}
structure gv (Z:Nat→Prop) (l:LO) (S:List ep) (sl:LQ) (ms:MM):Prop where
 v:∀ p∈sl,∃ j,(j=p.1∨j∈(bp l).getD p.1 [])∧bh l j=some p.2.1∧∃ s,S[j]? = some s∧s.b=true∧∀ f w r x,s.V f w r x→x=p.2.2
 m:∀ a∈ms,(S[a.j]? = some ⟨true,MV Z a⟩∧bh l a.j=some a.d)∨(S[a.j]? = some ⟨true,II Z a⟩∧bh l a.j=none∧∃ k∈(bp l).getD a.j [],bh l k=some a.d)
 s:∀ i s,S[i]? = some s→IJ Z ((bp l).getD i []) l s
 d:(ms.map (·.j)).Nodup
 t:∀ i j k,j∈(bp l).getD k []→k∈(bp l).getD i []→j∈(bp l).getD i []
theorem gv.lt {l:LO} {S:List ep} {sl:LQ} {ms:MM} (h:gv Z l S sl ms) {a:fw} (ha:a∈ms):a.j < S.length:=by
 rcases h.m a ha with h | h <;> exact (List.getElem?_eq_some_iff.1 h.1).1
theorem gv.Da {l:LO} {S S2:List ep} {sl:LQ} {ms:MM} (h:gv Z l S sl ms) {a:fw} (ha:a∈ms) {g:Nat→List Nat} {r:NV} {w:World} (hd:rT l (S++S2) a.j g r w):MV Z a (g a.j) w r (r a.d):=by
 rcases h.m a ha with h1 | h1
 ·have h2:=hd.1 a.d h1.2
  rw [List.getElem?_append_left (List.getElem?_eq_some_iff.1 h1.1).1,h1.1] at h2
  exact h2
 ·obtain ⟨x,hx⟩:=hd.2 h1.2.1 _ (by rw [List.getElem?_append_left (List.getElem?_eq_some_iff.1 h1.1).1]; exact h1.1) rfl
  exact hx
theorem gv.slot {l:LO} {S:List ep} {sl:LQ} {ms:MM} (h:gv Z l S sl ms) {a:fw} (ha:a∈ms) {i:Nat} (hi:a.j∈(bp l).getD i []):∃ k∈(bp l).getD i [],bh l k=some a.d:=by
 rcases h.m a ha with h1 | ⟨_,_,k,hk,hd⟩
 ·exact ⟨a.j,hi,h1.2⟩
 ·exact ⟨k,h.t i k a.j hk hi,hd⟩
theorem gv.qI {l:LO} {S S2:List ep} {sl:LQ} {ms:MM} (h:gv Z l S sl ms) {a:fw} (ha:a∈ms):((S++S2)[a.j]? = some ⟨true,MV Z a⟩∧bh l a.j=some a.d)∨((S++S2)[a.j]? = some ⟨true,II Z a⟩∧bh l a.j=none∧∃ k∈(bp l).getD a.j [],bh l k=some a.d):=by
 rw [List.getElem?_append_left (h.lt ha)]
 exact h.m a ha
theorem gv.Hj {l:LO} {S S2:List ep} {sl:LQ} {ms:MM} (h:gv Z l S sl ms) {p:Nat×Nat×Value} (hp:p∈sl):∃ j,(j=p.1∨j∈(bp l).getD p.1 [])∧bh l j=some p.2.1∧∃ s,(S++S2)[j]? = some s∧s.b=true∧∀ f w r x,s.V f w r x→x=p.2.2:=by
 obtain ⟨j,hj,h1,s,h2,h3⟩:=h.v p hp
 exact ⟨j,hj,h1,s,by rw [List.getElem?_append_left (List.getElem?_eq_some_iff.1 h2).1]; exact h2,h3⟩
theorem gv.xW {l:LO} {S S2:List ep} {sl:LQ} {ms:MM} (h:gv Z l S sl ms) {p:Nat×Nat×Value} (hp:p∈sl) {r:NV} (ho:∀ j,(j=p.1∨j∈(bp l).getD p.1 [])→j < S.length→Old l (S++S2) j r):r p.2.1=p.2.2:=by
 obtain ⟨j,hj,h1,s,h2,h3,h4⟩:=h.v p hp
 have hl:=(List.getElem?_eq_some_iff.1 h2).1
 have:=ho j hj hl _ h1 s (by rw [List.getElem?_append_left hl]; exact h2)
 rw [if_pos h3] at this
 obtain ⟨f,w,hV⟩:=this
 exact h4 f w r _ hV
theorem gv.val {l:LO} {S:List ep} {sl:LQ} {ms:MM} (h:gv Z l S sl ms) {d:Nat} {u:Value} (hd:bh l S.length=some d):gv Z l (S++[sV u]) ((S.length,d,u) :: sl) ms:=by
 refine ⟨?_,fun a ha=>h.qI ha,?_,h.d,h.t⟩
 ·intro p hp
  rcases List.mem_cons.1 hp with rfl | hp
  ·exact ⟨S.length,.inl rfl,hd,sV u,by simp,rfl,fun _ _ _ _ h=>h⟩
  ·exact h.Hj hp
 ·intro i s hs
  by_cases hi:i < S.length
  ·rw [List.getElem?_append_left hi] at hs; exact h.s i s hs
  ·rw [List.getElem?_append_right (by omega)] at hs
   have vM:i - S.length=0:=by
    have:=(List.getElem?_eq_some_iff.1 hs).1
    simp at this; omega
   rw [vM] at hs
   cases hs
   exact C4.n Hk
theorem gv.mem {l:LO} {S:List ep} {sl:LQ} {ms:MM} (h:gv Z l S sl ms) {b:fw} (hj:b.j=S.length) (hd:bh l S.length=some b.d) (jx:∀ t∈b.src,∃ j∈(bp l).getD S.length [],bh l j=some t):gv Z l (S++[⟨true,MV Z b⟩]) sl (b :: ms):=by
 have bo:∀ a∈ms,a.j < S.length:=fun a ha=>h.lt ha
 refine ⟨fun p hp=>?_,?_,?_,?_,h.t⟩
 ·exact h.Hj hp
 ·intro a ha
  rcases List.mem_cons.1 ha with rfl | ha
  ·exact .inl ⟨by rw [hj]; simp,by rw [hj]; exact hd⟩
  ·exact h.qI ha
 ·intro i s hs
  by_cases hi:i < S.length
  ·rw [List.getElem?_append_left hi] at hs; exact h.s i s hs
  ·rw [List.getElem?_append_right (by omega)] at hs
   have vM:i - S.length=0:=by
    have:=(List.getElem?_eq_some_iff.1 hs).1
    simp at this; omega
   have P0:i=S.length:=by omega
   rw [vM] at hs
   cases hs
   rw [P0]
   exact IK jx
 ·rw [List.map_cons,List.nodup_cons]
  refine ⟨fun hm=>?_,h.d⟩
  obtain ⟨a,ha,he⟩:=List.mem_map.1 hm
  have:=bo a ha
  omega
theorem gv.WG {l:LO} {S:List ep} {sl:LQ} {ms:MM} (h:gv Z l S sl ms) {b:fw} (hj:b.j=S.length) (hd:bh l S.length=none) (hk:∃ k∈(bp l).getD S.length [],bh l k=some b.d) (jx:b.src=[]):gv Z l (S++[⟨true,II Z b⟩]) sl (b :: ms):=by
 have bo:∀ a∈ms,a.j < S.length:=fun a ha=>h.lt ha
 refine ⟨fun p hp=>?_,?_,?_,?_,h.t⟩
 ·exact h.Hj hp
 ·intro a ha
  rcases List.mem_cons.1 ha with rfl | ha
  ·exact .inr ⟨by rw [hj]; simp,by rw [hj]; exact hd,by rw [hj]; exact hk⟩
  ·exact h.qI ha
 ·intro i s hs
  by_cases hi:i < S.length
  ·rw [List.getElem?_append_left hi] at hs; exact h.s i s hs
  ·rw [List.getElem?_append_right (by omega)] at hs
   have vM:i - S.length=0:=by
    have:=(List.getElem?_eq_some_iff.1 hs).1
    simp at this; omega
   have P0:i=S.length:=by omega
   rw [vM] at hs
   cases hs
   rw [P0]
   exact He hk fun t ht=>by rw [jx] at ht; cases ht
 ·rw [List.map_cons,List.nodup_cons]
  refine ⟨fun hm=>?_,h.d⟩
  obtain ⟨a,ha,he⟩:=List.mem_map.1 hm
  have:=bo a ha
  omega
theorem km {l:LO} {m:Nat} {base:Fr} {r r0:NV} (hh:j4 l m base=true) (ha:cn r0 base) (ho:∀ t,(∀ j,j < m→bh l j≠some t)→r t=r0 t):cn r base:=by
 intro t v hl
 have hm:∃ u,(t,u)∈base:=by
  clear hh ha
  induction base with
  | nil=>cases hl
  | cons p base ih=>
   obtain ⟨a,u⟩:=p
   unfold look at hl
   cases hb:Nat.beq t a with
   | true=>exact ⟨u,by rw [Nat.eq_of_beq_eq_true hb]; simp⟩
   | false=>rw [hb] at hl; obtain ⟨u',h⟩:=ih hl; exact ⟨u',by simp [h]⟩
 obtain ⟨u,hu⟩:=hm
 rw [ho t fun j hj=>IP hh (t,u) hu j hj]
 exact ha t v hl
section
variable {P:Program} {l:LO} {mt:Nat} {S:List ep} {sl:LQ} {ms:MM} {base fr:Fr} {r r0:NV} {w w0:World} {g:Nat→List Nat} {i:Nat} {A:LN} {U:LL}
theorem px (hR:gv Z l S sl ms) (hA:A=(iu l U mt).getD i []) (hv:fI A none sl base fr) (hb:cn r base) {S':List ep} (hO:∀ j∈(bp l).getD i [],Old l (S++S') j r):cn r fr:=by
 refine hv.sound hb ?_ (fun _ _ _ h=>nomatch h)
 intro p hp hm
 have hi:=(rv (by rw [← hA]; exact qi.1 hm)).1
 exact hR.xW hp fun j hj _=>hO j (hj.elim (fun e=>e ▸ hi) fun hj=>hR.t i j p.1 hj hi)
theorem KS {H:LN} {o:Oper} {u:Value} (hh:j4 l mt base=true) (ha:cn r0 base) (hR:gv Z l S sl ms) (ho:l[S.length]? = some o) (hg:o.guard=none) (hA:A=(iu l U mt).getD S.length []) (hv:fI A none sl base fr)
  (h:∀ r,cn r fr→∀ w,aq H w0 w→(execOp (ev r) o).run P w = .ok (.value u) w):fy P l mt (S++[sV u]) U r0 w0 H S.length:=
 fy.val ho (by simp) hg fun g r w hC hO hn jw=>h r (px hR hA hv (km hh ha jw) hO) w hC
end
end Go.Dk
namespace Go.Dk
open Go Go.Li
section
variable {R S:Type} {P:Program} {cx:Cx R} {K:cq R S} {l tail:LO} {base fr:Fr} {w:World} {Z:Nat→Prop} {U:LL}
def j6 (P:Program) (Z:Nat→Prop) (l:LO) (mt:Nat) (U:LL) (r0:NV) (w0:World) (H:LN) (i:Nat) (sl:LQ) (ms:MM):Prop:=
 ∃ S:List ep,S.length=i∧gv Z l S sl ms∧∀ j,j < i→fy P l mt S U r0 w0 H j
def qJ (B:Bs) (Z:Nat→Prop) (hd Γ:QE) (H:LN) (w:World):Prop:=∃ F Hd,(SA Z w hd [] Hd∧(∀ b∈Hd,b∈H∧b < w.heap.size)∧(∀ b∈H,b < w.heap.size)∧Hd.Nodup)∧SA Z w Γ [] F∧Gd B Z (H++F) w
theorem qJ.stay {B:Bs} {Γ:QE} {F H:LN} {w w':World} (hS:SA Z w Γ [] F) (hG:Gd B Z (H++F) w) (hC:aq H w w'):SA Z w' Γ [] F:=
 hS.dq hC (fun b hb=>hG.apart b (List.mem_append_left _ hb)) (fun _ _=>List.not_mem_nil) (fun b hb hf=>(List.nodup_append.1 hG.nd).2.2 b hb b hf rfl)
def Fin (P:Program) (cx:Cx R) (K:cq R S) (l l0:LO) (mt:Nat) (U:LL) (hd:QE) (_id:Nat) (base:Fr) (i:Nat) (sl:LQ) (ms:MM) (Γ:QE) (m:Option (Out S R)):Prop:=
 ∀ B o,m=some o→∀ r0 w0 H Z,cn r0 base→qJ B Z hd Γ H w0→j6 P Z l mt U r0 w0 H i sl ms→nv P cx.n l0 (iT P cx B K o) r0 w0
structure tf (l:LO) (mt:Nat) (U:LL) (as:LL) (ops:LO) (i:Nat):Prop where
 a:as=(iu l U mt).drop i
 o:ops=(l.take mt).drop i
 le:i≤mt
structure P1 (l:LO) (mt:Nat) (U:LL) (A:LN) (op:Op) (ty:TI) (as:LL) (ops:LO) (i:Nat):Prop where
 A:A=(iu l U mt).getD i []
 o:∃ pos af,l[i]? = some ⟨none,op,ty,pos,af,none⟩
 n:tf l mt U as ops (i+1)
theorem tf.Hi {mt:Nat} {A:LN} {as:LL} {op:Op} {ty:TI} {pos:String} {af:Array Edge} {ops:LO} {i:Nat} (h:tf l mt U (A :: as) (⟨none,op,ty,pos,af,none⟩ :: ops) i):P1 l mt U A op ty as ops i:=by
 obtain ⟨h1,h2,h3⟩:=h
 have e1:(iu l U mt)[i]? = some A:=by
  have:=congrArg (fun x=>x[0]?) h1
  simpa using this.symm
 have e2:(l.take mt)[i]? = some ⟨none,op,ty,pos,af,none⟩:=by
  have:=congrArg (fun x=>x[0]?) h2
  simpa using this.symm
 have t1:as=(iu l U mt).drop (i+1):=by
  have:=congrArg List.tail h1
  simpa [List.tail_drop] using this
 have t2:ops=(l.take mt).drop (i+1):=by
  have:=congrArg List.tail h2
  simpa [List.tail_drop] using this
 have hi:i < mt:=by
  have:=(List.getElem?_eq_some_iff.1 e1).1
  simpa [iu] using this
 rw [List.getElem?_take,if_pos hi] at e2
 exact ⟨by rw [List.getD_eq_getElem?_getD,e1]; rfl,⟨pos,af,e2⟩,t1,t2,hi⟩
structure qK (l:LO) (mt:Nat) (U:LL) (A:LN) (op:Op) (d:Nat) (ty:TI) (as:LL) (ops:LO) (i:Nat):Prop where
 A:A=(iu l U mt).getD i []
 o:∃ pos af,l[i]? = some ⟨some d,op,ty,pos,af,none⟩
 n:tf l mt U as ops (i+1)
theorem tf.cons {mt:Nat} {A:LN} {as:LL} {op:Op} {d:Nat} {ty:TI} {pos:String} {af:Array Edge} {ops:LO} {i:Nat} (h:tf l mt U (A :: as) (⟨some d,op,ty,pos,af,none⟩ :: ops) i):qK l mt U A op d ty as ops i:=by
 obtain ⟨h1,h2,h3⟩:=h
 have e1:(iu l U mt)[i]? = some A:=by
  have:=congrArg (fun x=>x[0]?) h1
  simpa using this.symm
 have e2:(l.take mt)[i]? = some ⟨some d,op,ty,pos,af,none⟩:=by
  have:=congrArg (fun x=>x[0]?) h2
  simpa using this.symm
 have t1:as=(iu l U mt).drop (i+1):=by
  have:=congrArg List.tail h1
  simpa [List.tail_drop] using this
 have t2:ops=(l.take mt).drop (i+1):=by
  have:=congrArg List.tail h2
  simpa [List.tail_drop] using this
 have hi:i < mt:=by
  have:=(List.getElem?_eq_some_iff.1 e1).1
  simpa [iu] using this
 rw [List.getElem?_take,if_pos hi] at e2
 exact ⟨by rw [List.getD_eq_getElem?_getD,e1]; rfl,⟨pos,af,e2⟩,t1,t2,hi⟩
theorem tf.next {mt:Nat} {A:LN} {as:LL} {o:Oper} {ops:LO} {i:Nat} (h:tf l mt U (A :: as) (o :: ops) i):A=(iu l U mt).getD i []∧l[i]? = some o∧tf l mt U as ops (i+1):=by
 obtain ⟨h1,h2,h3⟩:=h
 have e1:(iu l U mt)[i]? = some A:=by
  have:=congrArg (fun x=>x[0]?) h1
  simpa using this.symm
 have e2:(l.take mt)[i]? = some o:=by
  have:=congrArg (fun x=>x[0]?) h2
  simpa using this.symm
 have t1:as=(iu l U mt).drop (i+1):=by
  have:=congrArg List.tail h1
  simpa [List.tail_drop] using this
 have t2:ops=(l.take mt).drop (i+1):=by
  have:=congrArg List.tail h2
  simpa [List.tail_drop] using this
 have hi:i < mt:=by
  have:=(List.getElem?_eq_some_iff.1 e1).1
  simpa [iu] using this
 rw [List.getElem?_take,if_pos hi] at e2
 exact ⟨by rw [List.getD_eq_getElem?_getD,e1]; rfl,e2,t1,t2,hi⟩
theorem j6.swap {mt:Nat} {i:Nat} {p q:Nat×Nat×Value} {sl:LQ} {ms:MM} {r0:NV} {w0:World} {H:LN} (h:j6 P Z l mt U r0 w0 H i (p :: q :: sl) ms):j6 P Z l mt U r0 w0 H i (q :: p :: sl) ms:=by
 obtain ⟨S,h1,h2,h3⟩:=h
 refine ⟨S,h1,⟨fun a ha=>h2.v a ?_,h2.m,h2.s,h2.d,h2.t⟩,h3⟩
 rcases List.mem_cons.1 ha with rfl | ha
 ·simp
 ·rcases List.mem_cons.1 ha with rfl | ha
  ·simp
  ·exact List.mem_cons_of_mem _ (List.mem_cons_of_mem _ ha)
theorem j6.skip {mt:Nat} {A:LN} {j d:Nat} {p:Bool} {dst:Option Nat} {op:Op} {ty:TI} {pos:String} {af:Array Edge} {i:Nat} {sl:LQ} {ms:MM} {r0:NV} {w0:World} {H:LN} (h:j6 P Z l mt U r0 w0 H i sl ms) (hA:A=(iu l U mt).getD i []) (ho:l[i]? = some ⟨dst,op,ty,pos,af,some (j,p)⟩)
  (hd:bh l j=some d) (hb:C8 sl j d (!p)=true) (hj:gq j A=true):j6 P Z l mt U r0 w0 H (i+1) sl ms:=by
 obtain ⟨S',hl,hR,hO⟩:=h
 subst hl
 have xr:j∈(bp l).getD S'.length []:=(rv (by rw [← hA]; exact qi.1 hj)).1
 have hm:=BO hb
 have hR2:gv Z l (S'++[⟨false,fun _ _ _ _=>True⟩]) sl ms:=by
  refine ⟨fun q hq=>hR.Hj hq,fun a ha=>hR.qI ha,fun i s hs=>?_,hR.d,hR.t⟩
  by_cases hi:i < S'.length
  ·rw [List.getElem?_append_left hi] at hs; exact hR.s i s hs
  ·rw [List.getElem?_append_right (by omega)] at hs
   have vM:i - S'.length=0:=by
    have:=(List.getElem?_eq_some_iff.1 hs).1
    simp at this; omega
   rw [vM] at hs
   cases hs
   exact fun _ _ _ _ _ _ _ _ _ _ _ _=>trivial
 refine ⟨S'++[⟨false,fun _ _ _ _=>True⟩],by simp,hR2,fun k hk=>?_⟩
 by_cases h2:k < S'.length
 ·exact fy.more (hO k h2) h2
 ·obtain rfl:k=S'.length:=by omega
  intro o s db hs g r w hC hV kn hn jw mx hf
  rw [ho] at db
  obtain rfl:=Option.some.inj db
  rw [List.getElem?_append_right (Nat.le_refl _),Nat.sub_self] at hs
  obtain rfl:_=s:=Option.some.inj hs
  rw [if_neg (by simp)]
  have hr:r d = .bool (!p):=hR.xW (S2:=[⟨false,fun _ _ _ _=>True⟩]) hm fun q hq _=>kn q (hq.elim (fun e=>e ▸ xr) fun e=>hR.t _ _ _ e xr)
  unfold Region.wanted
  dsimp only
  rw [G7 hd,hr]
  cases p <;> rfl
theorem j6.val {mt:Nat} {A:LN} {op:Op} {d:Nat} {ty:TI} {as:LL} {ops:LO} {i:Nat} {sl:LQ} {ms:MM} {r0:NV} {w0:World} {H:LN} {u:Value} (h:j6 P Z l mt U r0 w0 H i sl ms) (hh:j4 l mt base=true) (ha:cn r0 base) (h1:qK l mt U A op d ty as ops i)
  (hv:fI A none sl base fr) (hq:∀ r,cn r fr→∀ pos af g w,aq H w0 w→(execOp (ev r) ⟨some d,op,ty,pos,af,g⟩).run P w = .ok (.value u) w):j6 P Z l mt U r0 w0 H (i+1) ((i,d,u) :: sl) ms:=by
 obtain ⟨S',hl,hR,hO⟩:=h
 subst hl
 obtain ⟨hA,⟨pos,af,ho⟩,_⟩:=h1
 refine ⟨S'++[sV u],by simp,hR.val (by unfold bh; rw [ho]; rfl),fun j hj=>?_⟩
 by_cases h2:j < S'.length
 ·exact fy.more (hO j h2) h2
 ·obtain rfl:j=S'.length:=by omega
  exact KS hh ha hR ho rfl hA hv fun r hr=>hq r hr _ _ _
def KT (P:Program) (Z:Nat→Prop) (l:LO) (mt:Nat) (U:LL) (r0:NV) (w0:World) (H:LN) (i:Nat) (sl:LQ) (ms:MM) (a:fw):Prop:=
 ∃ S:List ep,S.length=i∧gv Z l S sl ms∧(∀ j,j < i→fy P l mt S U r0 w0 H j)∧
  ∀ V:List Nat→World→(Nat→Value)→Value→Prop,(∀ f w r x,MV Z a f w r x→∃ f',(∀ b∈f',b∈f)∧V f' w r x)→fy P l mt (S++[⟨true,V⟩]) U r0 w0 H i
theorem HL.front {Δ Γ:QE} {Fd F:LN} (h:HL Z w Δ Fd) (hs:SA Z w Γ [] F):SA Z w (Δ++Γ) [] (Fd++F):=by
 induction h with
 | nil=>exact hs
 | own h _ ih=>rw [List.append_assoc]; exact SA.cons ih h
 | fact h _ ih=>exact SA.fact ih h
def AW (A:LN) (g:Nat→List Nat):List fw→List Nat
 | []=>[]
 | a :: l=>bif gq a.j A then g a.j++AW A g l else AW A g l
def HV (Z:Nat→Prop) (w:World) (Δ:QE) (B:LN):Prop:=∃ Vo Vr,(∀ b∈Vo++Vr,b∈B)∧(∀ b∈Vr,b < w.heap.size)∧HL (fun b=>Z b∨b∈Vr) w Δ Vo
theorem HV.front {Δ Γ:QE} {B F:LN} (h:HV Z w Δ B) (hs:SA Z w Γ [] F):∃ G:List Nat,(∀ b∈G,b∈B++F∧b < w.heap.size)∧∃ F':List Nat,(∀ b∈F',b∈G)∧SA (fun b=>Z b∨b∈G) w (Δ++Γ) [] F':=by
 obtain ⟨Vo,Vr,h1,h2,h3⟩:=h
 have hS:=h3.front (hs.mono (Z':=fun b=>Z b∨b∈Vr) (fun _ h=>.inl h) fun _ h=>h)
 refine ⟨Vr++(Vo++F),fun b hb=>?_,Vo++F,fun b hb=>List.mem_append_right _ hb,hS.mono (fun b h=>h.imp id fun h=>List.mem_append_left _ h) fun _ h=>h⟩
 rcases List.mem_append.1 hb with hb | hb
 ·exact ⟨List.mem_append_left _ (h1 b (List.mem_append_right _ hb)),h2 b hb⟩
 ·refine ⟨?_,hS.lt b hb⟩
  rcases List.mem_append.1 hb with hb | hb
  ·exact List.mem_append_left _ (h1 b (List.mem_append_left _ hb))
  ·exact List.mem_append_right _ hb
theorem HV.app {Δ Δ':QE} {f B:LN} (h:HN Z w Δ f) (k:HV Z w Δ' B):HV Z w (Δ++Δ') (f++B):=by
 obtain ⟨Fo,Fr,rfl,h1,h2⟩:=h.all
 obtain ⟨Vo,Vr,k1,k2,k3⟩:=k
 refine ⟨Fo++Vo,Fr++Vr,fun b hb=>?_,fun b hb=>(List.mem_append.1 hb).elim (h1 b) (k2 b),(h2.mono fun b h=>h.imp id fun h=>List.mem_append_left _ h).app (k3.mono fun b h=>h.imp id fun h=>List.mem_append_right _ h)⟩
 have:=fun h=>k1 b h
 simp only [List.mem_append] at hb this ⊢
 rcases hb with (h | h) | h | h
 ·exact .inl (.inl h)
 ·exact .inr (this (.inl h))
 ·exact .inl (.inr h)
 ·exact .inr (this (.inr h))
theorem TJ {A:LN} {g:Nat→List Nat} {r:NV}:∀ {ms:MM},qh ms→rR A ms=true→(∀ a∈ms,gq a.j A=true→MV Z a (g a.j) w r (r a.d))→
  ∃ x:nu ms,(∀ p∈ou A ms x,r p.1=p.2)∧HV Z w (qP A ms x) (AW A g ms):=by
 intro ms
 induction ms with
 | nil=>intro _ _ _; exact ⟨(),fun p hp=>absurd hp List.not_mem_nil,[],[],fun b (h:b∈[])=>absurd h List.not_mem_nil,fun b (h:b∈[])=>absurd h List.not_mem_nil,.nil⟩
 | cons a ms ih=>
  intro hi jx h
  unfold rR at jx
  rw [Bool.and_eq_true] at jx
  cases hi with
  | cons h1 h2=>
   obtain ⟨x,hx,hl⟩:=ih h2 jx.2 fun b hb=>h b (List.mem_cons_of_mem _ hb)
   cases hb:gq a.j A with
   | false=>
    obtain ⟨v⟩:=h1.ne
    refine ⟨(v,x),?_,?_⟩
    ·simp only [ou,hb,cond_false]; exact hx
    ·simp only [qP,AW,hb,cond_false]; exact hl
   | true=>
    obtain ⟨v,e1,e2,_⟩:=h a (by simp) hb
    have es:wL a r=xU a (mF ms x):=by
     have h3:=jx.1
     rw [hb,cond_true,List.all_eq_true] at h3
     refine yE fun t ht=>?_
     have h4:=h3 t ht
     cases hj:qg t ms with
     | none=>rw [hj] at h4; cases h4
     | some j=>rw [hj] at h4; unfold u2; rw [C3 hj h4 hx]
    rw [es] at e1 e2
    refine ⟨(v,x),?_,?_⟩
    ·simp only [ou,hb,cond_true]
     intro p hp
     rcases List.mem_cons.1 hp with rfl | hp
     ·exact e1
     ·exact hx p hp
    ·simp only [qP,AW,hb,cond_true]; exact HV.app e2 hl
theorem KU {t j:Nat}:∀ {ms:MM},qg t ms=some j→∃ a∈ms,a.j=j∧a.d=t:=by
 intro ms
 induction ms with
 | nil=>intro h; cases h
 | cons a l ih=>
  intro h
  unfold qg at h
  cases hb:Nat.beq t a.d with
  | true=>rw [hb] at h; cases h; exact ⟨a,by simp,rfl,(Nat.eq_of_beq_eq_true hb).symm⟩
  | false=>rw [hb] at h; obtain ⟨b,h1,h2⟩:=ih h; exact ⟨b,List.mem_cons_of_mem _ h1,h2⟩
theorem Gj {mt i:Nat} {A:LN} (hA:A=(iu l U mt).getD i []) {S':List ep} {sl:LQ} {ms:MM} {t:Nat} (hR:gv Z l S' sl ms) (hj:∃ j,qg t ms=some j∧gq j A=true):∃ j∈(bp l).getD i [],bh l j=some t:=by
 obtain ⟨j,h1,h2⟩:=hj
 obtain ⟨a,ha,rfl,rfl⟩:=KU h1
 exact hR.slot ha (rv (by rw [← hA]; exact qi.1 h2)).1
theorem xW {mt:Nat} {A:LN} {S' S2:List ep} {sl:LQ} {ms:MM} {g:Nat→List Nat} {r:NV} (hR:gv Z l S' sl ms) (hA:A=(iu l U mt).getD S'.length []) (hi:qh ms) (jx:rR A ms=true) (hn:∀ j,ov l U mt S'.length j=true→rT l (S'++S2) j g r w) :
  ∃ x:nu ms,(∀ p∈ou A ms x,r p.1=p.2)∧HV Z w (qP A ms x) (AW A g ms):=
 TJ hi jx fun a hm hb=>by
  exact hR.Da hm (hn a.j (rv (by rw [← hA]; exact qi.1 hb)).2)
theorem j6.mem {mt:Nat} {A:LN} {op:Op} {d:Nat} {ty:TI} {as:LL} {ops:LO} {i:Nat} {sl:LQ} {ms:MM} {r0:NV} {w0:World} {H:LN} {a:fw} (h:j6 P Z l mt U r0 w0 H i sl ms) (h1:qK l mt U A op d ty as ops i) (haj:a.j=i) (had:a.d=d)
  (jx:∀ S',gv Z l S' sl ms→∀ t∈a.src,∃ j∈(bp l).getD i [],bh l j=some t)
  (hq:∀ S' S2,S'.length=i→gv Z l S' sl ms→∀ (g:Nat→List Nat) (r:NV) (w:World),aq H w0 w→(∀ j∈(bp l).getD S'.length [],Old l (S'++S2) j r)→(∀ j,ov l U mt S'.length j=true→rT l (S'++S2) j g r w)→(∀ t,(∀ j,j < mt→bh l j≠some t)→r t=r0 t)→∀ pos af,
   eg P ⟨some d,op,ty,pos,af,none⟩ r w fun v w'=>aq [] w w'∧∃ f,(∀ b∈f,w.heap.size≤b∧b < w'.heap.size)∧MV Z a f w' r v):j6 P Z l mt U r0 w0 H (i+1) sl (a :: ms):=by
 obtain ⟨S',hl,hR,hO⟩:=h
 subst hl
 subst had
 obtain ⟨hA,⟨pos,af,ho⟩,_⟩:=h1
 refine ⟨S'++[⟨true,MV Z a⟩],by simp,hR.mem haj (by unfold bh; rw [ho]; rfl) (jx S' hR),fun j hj=>?_⟩
 by_cases h2:j < S'.length
 ·exact fy.more (hO j h2) h2
 ·obtain rfl:j=S'.length:=by omega
  exact fy.KV (V:=MV Z a) ho (by simp) rfl fun g r w hC hO hn jw=>hq S' _ rfl hR g r w hC hO hn jw pos af
theorem sz.sub {ms xt:MM} {a:fw} {t:Nat} (h:sz ms t a xt):a∈ms∧a.d=t∧(∀ b∈xt,b∈ms)∧(xt.map (·.j)).Sublist (ms.map (·.j)):=by
 induction h with
 | here=>exact ⟨by simp,rfl,fun b hb=>List.mem_cons_of_mem _ hb,by simp⟩
 | there _ ih=>
  obtain ⟨h1,h2,h3,h4⟩:=ih
  refine ⟨List.mem_cons_of_mem _ h1,h2,fun b hb=>?_,by simpa using h4⟩
  rcases List.mem_cons.1 hb with rfl | hb
  ·simp
  ·exact List.mem_cons_of_mem _ (h3 b hb)
theorem gv.sub {S':List ep} {sl:LQ} {ms xt:MM} (h:gv Z l S' sl ms) (hm:∀ b∈xt,b∈ms) (hn:(xt.map (·.j)).Sublist (ms.map (·.j))):gv Z l S' sl xt:=⟨h.v,fun a ha=>h.m a (hm a ha),h.s,h.d.sublist hn,h.t⟩
theorem eg.yD {α:Type} {E:ah α} {F f k:LN} {t e:TI} {s x:OO} {i:TypeInfo} {z:Value} {sv yv:Value} {xs ys:List α} {r:NV} {w:World} {d:Option Nat} {ty:TI} {pos:String} {af:Array Edge} (P2:∀ {h cs x f},E.rep h cs x f→f=[])
  (ht:P.underlying t=some (.slice e)) (hi:P.info? e=some i) (hz:i.zero=some z) (hs:i.size=1) (hE:E.size=1) (vN:z.oneCell'=true)
  (uh:ev r s=sv) (hO:AX (aL e E) xs f w sv) (hF:∀ b∈f,b∈F) (hx:ev r x=yv) (hy:(bB E).rep w.heap [yv] ys k)
  (hb:(xs.length+ys.length) * i.bytes≤140737488355328) (u3:xs.length+ys.length≤maxLen) :
  eg P ⟨d,.call ⟨.builtin .append,#[s,x],#[t,t]⟩,ty,pos,af,none⟩ r w fun v w'=>aq F w w'∧∃ f',(∀ b∈f',(b∈F∨w.heap.size≤b)∧b < w'.heap.size)∧AX (aL e E) (xs++ys) f' w' v:=by
 have o9:=BP hy
 rcases Nat.eq_zero_or_pos ys.length with yZ | yZ
 ·obtain rfl:ys=[]:=List.eq_nil_of_length_eq_zero yZ
  obtain ⟨b0,c0,Db⟩:=sy hy
  obtain ⟨base,cap,hv,hr⟩:=hO.1
  obtain rfl:sv = .slice base xs.length cap:=by simpa using hv
  have Dc:xs.length≤cap:=by
   rcases hr with ⟨_,rfl,rfl,_⟩ | ⟨_,_,_,_,_,_,h,_⟩
   ·simp
   ·exact h
  have ox:=vO (P:=P) (w:=w) (ty:=ty) ht hi (b:=base) (a:=b0) (c:=c0) Dc
  subst Db
  have TK:(execOp (ev r) ⟨d,.call ⟨.builtin .append,#[s,x],#[t,t]⟩,ty,pos,af,none⟩).run P w = .ok (.value (.slice base xs.length cap)) w:=by
   simp only [execOp,resolve,invoke,builtin,Sem.run_bind,Sem.run_pure,Result.andThen_ok,List.map_toArray,List.map_cons,List.map_nil,uh,hx,List.length_nil,ox]
  unfold eg
  rw [TK]
  exact ⟨aq.refl _ _,f,fun b hb=>⟨.inl (hF b hb),ah.lt _ hO.1 b hb⟩,by rw [List.append_nil]; exact hO⟩
 ·rcases o9 with rfl | ⟨a,c,news,g1,Db,wO,e6,_⟩
  ·simp at yZ
  ·obtain ⟨rfl,_⟩:=xX (h':=w.heap) P2 e6
   obtain ⟨v,w',f',h,hC,Cz,ei,ey⟩:=qx (d:=d) (ty:=ty) (pos:=pos) (af:=af) (g:=none) ht hi hz (by rw [hs,hE]) (by rw [cells_one vN,hE]; rfl) uh hO.1 hO.2 (hx.trans Db) wO e6 (fun _ h=>nomatch h) yZ hb u3
   unfold eg
   rw [h]
   refine ⟨hC.mono hF,f',fun b hb=>⟨?_,ah.lt _ Cz b hb⟩,Cz,ey List.nodup_nil⟩
   rcases ei b hb with h | h | h
   ·exact .inl (hF b h)
   ·cases h
   ·exact .inr h
theorem vx {t:TI} {x y:OO} {i:TypeInfo} {b off:Nat} {cs us:LV} {e:TI} {r:NV} {d:Option Nat} {ty:TI} {pos:String} {af:Array Edge} {gg:Option (Nat×Bool)}
  (hi:P.info? t=some i) (hs:us.length=i.size) (br:Row w b cs e) (hl:off+us.length≤cs.length) (hx:ev r x = .pointer (some ⟨b,off,none⟩)) (hy:(ev r y).cells.toList=us) (hu:∀ u∈us,u.oneCell'=true) :
  (execOp (ev r) ⟨d,.store t x y,ty,pos,af,gg⟩).run P w = .ok .skip (w.setRow b (cs.take off++us++cs.drop (off+us.length)).toArray):=by
 have h:=run_storeCells_at P b off e us 0 cs.toArray w br (by simpa using hl) hu
 simp only [Nat.add_zero] at h
 have hy':(ev r y).cells=us.toArray:=by rw [← hy]
 simp only [execOp,Instr.storeAt,Instr.sureAddr,hx,storeVar]
 simp [hy',sizeOf,typeInfo,hi,hs,h]
theorem Ox {mt:Nat} {t e:TI} {t1 j1 n i:Nat} {y:OO} {u:Value} {us cs ds:LV} {ms IL:MM} {sl:LQ} {A:LN} {ty:TI} {as:LL} {ops:LO} {r0:NV} {w0:World} {H:LN} {Γ:QE} {F:LN} (hh:j4 l mt base=true) (ha:cn r0 base) (ht:sS P t n)
  (h1:sz ms t1 ⟨j1,t1,[],Nat,fun _ b=>.pointer (some ⟨b,0,none⟩),fun _ b=>[.row b cs e]⟩ IL) (hv:fI A none sl base fr) (hy:bz fr y=some u) (hc:qf Γ u us) (sQ:us.length=n) (hs:rb us 0 cs ds) (ho:ud Γ us) (h4:gq j1 A=true) (h6:U.getD i []=[j1])
  (hS:∀ w,aq H w0 w→SA Z w Γ [] F) (qH:P1 l mt U A (.store t (.tmp t1) y) ty as ops i) (h:j6 P Z l mt U r0 w0 H i sl ms) :
  j6 P Z l mt U r0 w0 H (i+1) sl (⟨i,t1,[],Nat,fun _ b=>.pointer (some ⟨b,0,none⟩),fun _ b=>[.row b ds e]⟩ :: IL):=by
 obtain ⟨S',hl,hR,hO⟩:=h
 subst hl
 obtain ⟨hA,⟨pos,af,VD⟩,_⟩:=qH
 obtain ⟨ti,q1,q2⟩:=ht.h
 obtain ⟨m1,_,m3,m4⟩:=h1.sub
 have P3:=rv (by rw [← hA]; exact qi.1 h4)
 refine ⟨S'++[⟨true,II Z ⟨S'.length,t1,[],Nat,fun _ b=>.pointer (some ⟨b,0,none⟩),fun _ b=>[.row b ds e]⟩⟩],by simp,(hR.sub m3 m4).WG (b:=⟨S'.length,t1,[],Nat,fun _ b=>.pointer (some ⟨b,0,none⟩),fun _ b=>[.row b ds e]⟩) rfl (by unfold bh; rw [VD]; rfl) (hR.slot m1 P3.1) rfl,fun j hj=>?_⟩
 by_cases bo:j < S'.length
 ·exact fy.more (hO j bo) bo
 ·obtain rfl:j=S'.length:=by omega
  intro o' s' db jk g r w hC Nq kn hn jw AY qa
  rw [VD] at db
  cases db
  rw [List.getElem?_append_right (Nat.le_refl _),Nat.sub_self] at jk
  cases jk
  rw [if_pos rfl]
  refine ⟨rfl,?_⟩
  obtain ⟨b,c1,c2,c3⟩:=hR.Da m1 (hn j1 P3.2)
  simp only at c1 c2
  replace c2:=c2.own rfl
  generalize Iv:g j1=G1 at c2 c3
  cases c2 with
  | fact h _=>exact h.elim
  | @own _ ff F0 _ WH zr=>
   cases zr
   obtain ⟨rfl,br⟩:=WH
   have hb:qQ g (U.getD S'.length [])=[b]:=by rw [h6]; simp [qQ,Iv]
   have hr:=px hR hA hv (km hh ha jw) kn
   obtain ⟨e1,e2⟩:=hs.eq
   have C1:=hS w hC
   have ox:=vx (P:=P) (d:=none) (ty:=ty) (pos:=pos) (af:=af) (gg:=none) q1 (by rw [sQ,q2]) br e1 (x:=.tmp t1) c1 (y:=y) (by rw [cB hr hy]; exact hc.eq C1) (ho.one C1)
   unfold eg
   rw [ox,hb]
   have tJ:=setRow_heap w b cs.toArray (cs.take 0++us++cs.drop (0+us.length)).toArray e _ br
   have WI:b < w.heap.size:=br.lt
   refine ⟨⟨rfl,rfl,rfl,Nat.le_refl _,by simp,fun j _ hj=>setRow_other w b j _ fun h=>hj (by simp [h])⟩,[b],fun b' cg=>?_,b,c1,?_,by simp⟩
   ·rw [List.mem_singleton.1 cg]
    exact ⟨.inl (by simp),by simpa using WI⟩
   ·refine .inl (HL.own (f:=[b]) ⟨rfl,?_⟩ .nil)
    rw [e2]
    exact tJ
theorem Oy {mt:Nat} {t i d:Nat} {cs:LV} {sl:LQ} {ms:MM} {A:LN} {ty:TI} {as:LL} {ops:LO} {r0:NV} {w0:World} {H:LN} (hz:xq P t cs) (h1:qK l mt U A (.alloc t) d ty as ops i) (h:j6 P Z l mt U r0 w0 H i sl ms) :
   j6 P Z l mt U r0 w0 H (i+1) sl (⟨i,d,[],Nat,fun _ b=>.pointer (some ⟨b,0,none⟩),fun _ b=>[.row b cs t]⟩ :: ms):=by
 obtain ⟨i',z,t1,t2,t3⟩:=hz.h
 refine h.mem h1 rfl rfl (fun _ _ _ h=>nomatch h) fun S' S2 hl hR g r w hC kn hn jw pos af=>qj (eg.Np (cs:=cs) t1 t2 (by rw [← t3])) ?_
 rintro v w' ⟨hC,f,hf,b,e1,e2,br⟩
 refine ⟨hC,f,hf,b,e2,?_,by rw [e1]; simp⟩
 have:=HL.own (Z:=fun _=>False) (e:=.row b cs t) (f:=[b]) ⟨rfl,br⟩ .nil
 rw [e1]
 exact .inl (by simpa using this)
theorem P4 {mt t n:Nat} {A:LN} {st:TI} {d:Nat} {ty:TI} {as:LL} {ops:LO} {i:Nat} {sl:LQ} {ms:MM} {r0:NV} {w0:World} {H:LN} (h:j6 P Z l mt U r0 w0 H i sl ms) (h1:qK l mt U A (.call ⟨.builtin .len,#[.tmp t],#[st]⟩) d ty as ops i) (ht:vK P st) (hi:qh ms) (jx:rR A ms=true) (hx:∀ x:nu ms,PZ (ou A ms x) (qP A ms x) t n):j6 P Z l mt U r0 w0 H (i+1) ((i,d,.int .i64 (n:Int)) :: sl) ms:=by
 obtain ⟨S',hl,hR,hO⟩:=h
 subst hl
 obtain ⟨hA,⟨pos,af,ho⟩,_⟩:=h1
 obtain ⟨e,i',q1,_,_⟩:=ht.h
 refine ⟨S'++[sV (.int .i64 (n:Int))],by simp,hR.val (by unfold bh; rw [ho]; rfl),fun j hj=>?_⟩
 by_cases h2:j < S'.length
 ·exact fy.more (hO j h2) h2
 ·obtain rfl:j=S'.length:=by omega
  refine fy.val (v:=.int .i64 (n:Int)) ho (by simp) rfl fun g r w hC kn hn jw=>?_
  obtain ⟨x,hv,hE⟩:=xW hR hA hi jx hn
  obtain ⟨P5,PV⟩:=hx x
  have IQ:=(tV hv yB) t _ (by rw [List.append_nil]; exact P5)
  obtain ⟨_,_,_,_,hS⟩:=hE.front (Γ:=[]) (F:=[]) rfl
  rw [List.append_nil] at hS
  obtain ⟨b,c,rfl⟩:=PV.sound hS
  exact zQ q1 (x:=.tmp t) IQ
theorem Oz {mt:Nat} {t:TI} {ps:List (Nat×Operand)} {zc:LV} {pl:List (Nat×Nat)} {A:LN} {as:LL} {d:Nat} {ty:TI} {ops:LO} {i:Nat} {sl:LQ} {ms:MM} {fr:Fr} {hd Γ:QE} {B:Bs} {r0:NV} {w0:World} {H:LN} {X:Value→List Value} {ts:LN} (hh:j4 l mt base=true) (hb:xT P t zc pl) (hi:qh ms) (jx:rR A ms=true) (hj:Vw A ms ts=true) (hv:fI A none sl base fr)
   (hx:∀ x:nu ms,tI (qP A ms x++Γ) (ou A ms x++fr) pl ps zc (X (wK (u2 (mF ms x)) ts))) (h1:qK l mt U A (.build t ps.toArray) d ty as ops i) (ha:cn r0 base) (hs:qJ B Z hd Γ H w0) (h:j6 P Z l mt U r0 w0 H i sl ms) :
   j6 P Z l mt U r0 w0 H (i+1) sl (⟨i,d,ts,Unit,fun u _=>.agg (X u).toArray,fun _ _=>[]⟩ :: ms):=by
 have VE:∀ t∈ts,∃ j,qg t ms=some j∧gq j A=true:=fun t ht=>by
  have:=List.all_eq_true.1 hj t ht
  cases hf:qg t ms with
  | none=>rw [hf] at this; cases this
  | some j=>rw [hf] at this; exact ⟨j,rfl,this⟩
 refine h.mem h1 rfl rfl (fun S' hR t' ht=>Gj h1.A hR (VE t' ht)) ?_
 intro S' S2 hl hR g r w hC kn hn jw pos af
 have hA:=h1.A
 rw [← hl] at hA
 have hbs:=px hR hA hv (km hh ha jw) kn
 obtain ⟨x,VF,ui⟩:=xW hR hA hi jx hn
 obtain ⟨F,Hd,⟨xu,xw,rU,xx⟩,hS,hG⟩:=hs
 obtain ⟨G,_,_,_,n5⟩:=ui.front (qJ.stay hS hG hC)
 have e:wK (u2 (mF ms x)) ts=wK r ts:=yE fun t ht=>by
  obtain ⟨j,h2,h3⟩:=VE t ht
  unfold u2
  rw [C3 h2 h3 VF]
 have hF:=hx x
 rw [e] at hF
 have ox:=(VQ.Ng (P:=P) (hb:=hb) hF).sound n5 (tV VF hbs) (some d) ty pos af none w (aq.refl _ _)
 unfold eg
 rw [ox]
 exact ⟨aq.refl _ _,[],fun b hb=>absurd hb List.not_mem_nil,(),rfl,.inl .nil,List.nodup_nil⟩
theorem P6 {mt n:Nat} {α:Type} {t e:TI} {E:ah α} {z0:α} {bt i d:Nat} {sl:LQ} {ms:MM} {A:LN} {ty:TI} {as:LL} {ops:LO} {r0:NV} {w0:World} {H:LN} {x:OO} {z:Int} (hh:j4 l mt base=true) (ha:cn r0 base) (hz:qG P t α e E z0 bt) (hv:fI A none sl base fr) (hx:bz fr x=some (.int .i64 z)) (hn:mk bt z=some n) (h1:qK l mt U A (.makeSlice t x x) d ty as ops i) (h:j6 P Z l mt U r0 w0 H i sl ms) :
   j6 P Z l mt U r0 w0 H (i+1) sl (⟨i,d,[],Value,fun _ v=>v,fun _ v=>[.own (aL e E) v (List.replicate n z0)]⟩ :: ms):=by
 obtain ⟨e1,e2,e3⟩:=AU hn
 obtain ⟨t1,hE,i',z',t2,t3,t4,t5,t6,t7⟩:=hz.h
 subst e1
 refine h.mem h1 rfl rfl (fun _ _ _ h=>nomatch h) fun S' S2 hl hR g r w hC kn hn jw pos af=>?_
 have hb:=px hR (by rw [hl]; exact h1.A) hv (km hh ha jw) kn
 refine qj (eg.made (Dd (E:=E) (z0:=z0) t1 t2 t3 t4 hE t5 t7 (cB hb hx) (cB hb hx) (by rw [t6]; exact e2) e3)) ?_
 rintro v w' ⟨hC,f,hf,hV⟩
 refine ⟨hC,f,hf,v,rfl,?_,hV.2⟩
 have:=HL.own (Z:=fun _=>False) (e:=.own (aL e E) v (List.replicate n z0)) (f:=f) hV.1 .nil
 exact .inl (by simpa using this)
theorem P7 {mt:Nat} {α:Type} {t e:TI} {E:ah α} {z0:α} {bt i d:Nat} {sl:LQ} {ms:MM} {A:LN} {ty:TI} {as:LL} {ops:LO} {r0:NV} {w0:World} {H:LN} {x:OO} {u:Value} {Γ:QE} {F:LN} (hh:j4 l mt base=true) (ha:cn r0 base) (hz:qG P t α e E z0 bt) (hv:fI A none sl base fr) (hx:bz fr x=some u) (ho:One Γ u) (hS:∀ w,aq H w0 w→SA Z w Γ [] F) (h1:qK l mt U A (.buildSlice t 1 #[(0,x)]) d ty as ops i) (h:j6 P Z l mt U r0 w0 H i sl ms) :
   j6 P Z l mt U r0 w0 H (i+1) sl (⟨i,d,[],Nat,fun _ b=>.slice (some ⟨b,0,none⟩) 1 1,fun _ b=>[.row b [u] e]⟩ :: ms):=by
 obtain ⟨t1,hE,i',z',t2,t3,t4,t5,t6,t7⟩:=hz.h
 refine h.mem h1 rfl rfl (fun _ _ _ h=>nomatch h) fun S' S2 hl hR g r w hC kn hn jw pos af=>?_
 have hb:=px hR (by rw [hl]; exact h1.A) hv (km hh ha jw) kn
 refine qj (eg.AS t1 t2 t3 t4 (cB hb hx) (ho.one (hS w hC))) ?_
 rintro v w' ⟨hC,f,hf,b,e1,e2,br⟩
 refine ⟨hC,f,hf,b,e2,?_,by rw [e1]; simp⟩
 have:=HL.own (Z:=fun _=>False) (e:=.row b [u] e) (f:=[b]) ⟨rfl,br⟩ .nil
 rw [e1]
 exact .inl (by simpa using this)
theorem Gk {mt n:Nat} {t e:TI} {i d:Nat} {sl:LQ} {ms:MM} {A:LN} {ty:TI} {as:LL} {ops:LO} {r0:NV} {w0:World} {H:LN} {ps:List (Nat×Operand)} {us:LV} {Γ:QE} {F:LN} (hh:j4 l mt base=true) (ha:cn r0 base) (hz:BI P t e) (hv:fI A none sl base fr) (hd:sx Γ fr 0 ps us) (hn:us.length=n) (hb:(Nat.ble 1 n && Nat.ble n 16777216)=true) (hS:∀ w,aq H w0 w→SA Z w Γ [] F) (h1:qK l mt U A (.buildSlice t n ps.toArray) d ty as ops i) (h:j6 P Z l mt U r0 w0 H i sl ms) :
   j6 P Z l mt U r0 w0 H (i+1) sl (⟨i,d,[],Nat,fun _ b=>.slice (some ⟨b,0,none⟩) n n,fun _ b=>[.row b us e]⟩ :: ms):=by
 refine h.mem h1 rfl rfl (fun _ _ _ h=>nomatch h) fun S' S2 hl hR g r w hC kn hnn jw pos af=>?_
 have cg:=px hR (by rw [hl]; exact h1.A) hv (km hh ha jw) kn
 unfold eg
 rw [hd.op cg (hS w hC) hz hn hb]
 refine ⟨aq.alloc _ _ _,[w.heap.size],fun b hb=>by rw [List.mem_singleton.1 hb]; simp,w.heap.size,rfl,?_,by simp⟩
 have:=HL.own (Z:=fun _=>False) (e:=.row w.heap.size us e) (f:=[w.heap.size]) ⟨rfl,heap_alloc_new w _⟩ .nil
 exact .inl (by simpa using this)
theorem OA {mt t:Nat} {α:Type} {s e:TI} {E:ah α} {z0:α} {bt i d:Nat} {sl:LQ} {ms:MM} {A:LN} {ty:TI} {as:LL} {ops:LO} {r0:NV} {w0:World} {H:LN} (hz:qG P s α e E z0 bt) (hi:qh ms) (jx:rR A ms=true) (hj:∃ j,qg t ms=some j∧gq j A=true) (hx:∀ x:nu ms,KR (ou A ms x) (qP A ms x) t) (h1:qK l mt U A (.buildSlice s 1 #[(0,.tmp t)]) d ty as ops i) (h:j6 P Z l mt U r0 w0 H i sl ms) :
   j6 P Z l mt U r0 w0 H (i+1) sl (⟨i,d,[t],Nat,fun _ b=>.slice (some ⟨b,0,none⟩) 1 1,fun u b=>[.row b [u] e]⟩ :: ms):=by
 obtain ⟨t1,hE,i',z',t2,t3,t4,t5,t6,t7⟩:=hz.h
 refine h.mem h1 rfl rfl (fun S' hR t' ht=>by rw [List.mem_singleton.1 ht]; exact Gj h1.A hR hj) ?_
 intro S' S2 hl hR g r w hC kn hn jw pos af
 obtain ⟨x,hv,hE⟩:=xW hR (by rw [hl]; exact h1.A) hi jx hn
 obtain ⟨P5,uj⟩:=hx x
 have IQ:r t=_:=(tV hv yB) t _ (by rw [List.append_nil]; exact P5)
 obtain ⟨_,_,_,_,hS⟩:=hE.front (Γ:=[]) (F:=[]) rfl
 rw [List.append_nil] at hS
 refine qj (eg.AS t1 t2 t3 t4 (x:=.tmp t) rfl (by show (r t).oneCell'=true; rw [IQ]; exact uj.one hS)) ?_
 rintro v w' ⟨hC,f,hf,b,e1,e2,br⟩
 refine ⟨hC,f,hf,b,e2,?_,by rw [e1]; simp⟩
 have:=HL.own (Z:=fun _=>False) (e:=.row b [r t] e) (f:=[b]) ⟨rfl,br⟩ .nil
 rw [e1]
 exact .inl (by simpa [wL,wK] using this)
theorem KW {mt:Nat} {β V:Type} {A:LN} {as:LL} {d:Nat} {f:FuncId} {xs:List Operand} {bb:Array TypeId} {ty:TI} {mo:Option β} {rt:β→V→List Value} {ps:β→V→List ay} {ops:LO} {i:Nat} {sl:LQ} {ms:MM} {fr:Fr} {hd Γ:QE} {B:Bs} {r0:NV} {w0:World} {H:LN} {y:β} (hh:j4 l mt base=true) (hf:bm P f) (hv:fI A none sl base fr)
   (hc:∀ x:nu ms,Hg P f xs (ou A ms x++fr) (qP A ms x++Γ) mo rt ps) (hi:qh ms) (jx:rR A ms=true) (hw:∀ y v,sO (ps y v)=true) (h1:qK l mt U A (.call ⟨.value (.func f),xs.toArray,bb⟩) d ty as ops i) (hy:mo=some y) (ha:cn r0 base) (hs:qJ B Z hd Γ H w0) (h:j6 P Z l mt U r0 w0 H i sl ms) :
   KT P Z l mt U r0 w0 H i sl ms ⟨i,d,[],V,fun _ v=>rN (rt y v),fun _=>ps y⟩:=by
 obtain ⟨S',hl,hR,hO⟩:=h
 subst hl
 refine ⟨S',rfl,hR,hO,fun V' hV=>?_⟩
 obtain ⟨hA,⟨pos,af,ho⟩,_⟩:=h1
 refine fy.KV (V:=V') ho (by simp) rfl fun g r w hC kn hn jw=>?_
 have hb:=px hR hA hv (km hh ha jw) kn
 obtain ⟨x,hx,ui⟩:=xW hR hA hi jx hn
 obtain ⟨P8,IS,hd,hr⟩:=hc x
 obtain ⟨fn,c,f1,f2,f3⟩:=hf.h
 refine Calls.TC f1 f2 f3 ?_
 rw [tU (tV hx hb) P8]
 obtain ⟨F,Hd,⟨xu,xw,rU,xx⟩,hS,hG⟩:=hs
 obtain ⟨G,ug,FV,De,n5⟩:=ui.front (qJ.stay hS hG hC)
 rw [uV] at IS
 refine (IS.2 w (fun b=>Z b∨b∈G) [] (hr.sound (fun _ h=>h) (fun _ b hb=>.inr (De b hb)) n5 hd.ho) List.nodup_nil (fun b hb=>absurd hb List.not_mem_nil)
  (fun b hb=>hb.elim (fun h=>Nat.lt_of_lt_of_le (hG.qT b h) hC.size) fun h=>(ug b h).2) y hy).mono ?_
 rintro e w' ⟨v,he,Z2,F2,tE,qF⟩
 have IT:HL (fun _=>False) w' (ps y v) F2:=CV (hw y v) tE
 have bo:=(IT.front (Γ:=[]) (F:=[]) rfl).lt
 obtain ⟨f',ei,P9⟩:=hV F2 w' r _ ⟨v,rfl,.inl IT,qF.nd⟩
 refine ⟨_,he,qF.jf,f',fun b hb=>⟨(qF.low b (ei b hb)).resolve_left List.not_mem_nil,bo b (by simpa using ei b hb)⟩,P9⟩
theorem IU {mt:Nat} {β V:Type} {A:LN} {as:LL} {d:Nat} {f:FuncId} {fs bs:LV} {xo:OO} {xs:List Operand} {bb:Array TypeId} {ty:TI} {mo:Option β} {rt:β→V→List Value} {ps:β→V→List ay} {ops:LO} {i:Nat} {sl:LQ} {ms:MM} {fr:Fr} {hd Γ:QE} {B:Bs} {r0:NV} {w0:World} {H:LN} {y:β} (hh:j4 l mt base=true) (hf:bm P f) (hv:fI A none sl base fr)
   (Qa:bz fr xo=some (.func (.func f) fs.toArray bs.toArray)) (hc:∀ x:nu ms,Hh P f fs bs xs (ou A ms x++fr) (qP A ms x++Γ) mo rt ps) (hi:qh ms) (jx:rR A ms=true) (hw:∀ y v,sO (ps y v)=true) (h1:qK l mt U A (.call ⟨.value xo,xs.toArray,bb⟩) d ty as ops i) (hy:mo=some y) (ha:cn r0 base) (hs:qJ B Z hd Γ H w0) (h:j6 P Z l mt U r0 w0 H i sl ms) :
   KT P Z l mt U r0 w0 H i sl ms ⟨i,d,[],V,fun _ v=>rN (rt y v),fun _=>ps y⟩:=by
 obtain ⟨S',hl,hR,hO⟩:=h
 subst hl
 refine ⟨S',rfl,hR,hO,fun V' hV=>?_⟩
 obtain ⟨hA,⟨pos,af,ho⟩,_⟩:=h1
 refine fy.KV (V:=V') ho (by simp) rfl fun g r w hC kn hn jw=>?_
 have hb:=px hR hA hv (km hh ha jw) kn
 obtain ⟨x,hx,ui⟩:=xW hR hA hi jx hn
 obtain ⟨P8,k1,k2,IS,hd,hr⟩:=hc x
 obtain ⟨fn,c,f1,f2,f3⟩:=hf.h
 unfold eg
 rw [C0 (cB hb Qa) f1 f2 f3,tU (tV hx hb) P8,List.append_assoc,k1.eq,k2.eq]
 obtain ⟨F,Hd,⟨xu,xw,rU,xx⟩,hS,hG⟩:=hs
 obtain ⟨G,ug,FV,De,n5⟩:=ui.front (qJ.stay hS hG hC)
 rw [uV] at IS
 refine (IS.2 w (fun b=>Z b∨b∈G) [] (hr.sound (fun _ h=>h) (fun _ b hb=>.inr (De b hb)) n5 hd.ho) List.nodup_nil (fun b hb=>absurd hb List.not_mem_nil)
  (fun b hb=>hb.elim (fun h=>Nat.lt_of_lt_of_le (hG.qT b h) hC.size) fun h=>(ug b h).2) y hy).mono ?_
 rintro e w' ⟨v,he,Z2,F2,tE,qF⟩
 have IT:HL (fun _=>False) w' (ps y v) F2:=CV (hw y v) tE
 have bo:=(IT.front (Γ:=[]) (F:=[]) rfl).lt
 obtain ⟨f',ei,P9⟩:=hV F2 w' r _ ⟨v,rfl,.inl IT,qF.nd⟩
 refine ⟨_,he,qF.jf,f',fun b hb=>⟨(qF.low b (ei b hb)).resolve_left List.not_mem_nil,bo b (by simpa using ei b hb)⟩,P9⟩
theorem Df {mt i:Nat} (h:((U.set i []).all fun us=>!(us.contains l.length))=true):u4 l U mt i=true:=by
 unfold u4
 simp only [List.all_eq_true,List.mem_range,Bool.or_eq_true,Bool.not_eq_true'] at h ⊢
 intro k _
 by_cases hk:k=i
 ·exact .inl (.inr (by rw [hk]; exact Nat.beq_refl i))
 ·refine .inl (.inl ?_)
  rw [List.getD_eq_getElem?_getD]
  cases hu:U[k]? with
  | none=>rfl
  | some us=>exact h us (List.mem_of_getElem? (i:=k) (by rw [List.getElem?_set_ne (fun e=>hk e.symm)]; exact hu))
theorem HO.mono {Z':Nat→Prop} (hz:∀ b,Z b→Z' b) {Δ:QE} {F:LN} (h:HO Z w Δ F):HO Z' w Δ F:=by
 induction h with
 | nil=>exact .nil
 | own h _ ih=>exact .own (h.mono hz) ih
 | rd _ ih=>exact .rd ih
 | bb _ ih=>exact .bb ih
theorem C7.sub {ms xt:MM} {a:fw} {t:Nat} (h:C7 ms t a xt):a∈ms∧a.j=t∧(∀ b∈xt,b∈ms)∧(xt.map (·.j)).Sublist (ms.map (·.j))∧((ms.map (·.j)).Nodup→∀ b∈xt,b.j≠t):=by
 induction h with
 | here=>exact ⟨by simp,rfl,fun b hb=>List.mem_cons_of_mem _ hb,by simp,fun hn b hb he=>by rw [List.map_cons,List.nodup_cons] at hn; exact hn.1 (by rw [← he]; exact List.mem_map_of_mem hb)⟩
 | there _ ih=>
  obtain ⟨h1,h2,h3,h4,h5⟩:=ih
  refine ⟨List.mem_cons_of_mem _ h1,h2,fun b hb=>?_,by simpa using h4,fun hn b hb=>?_⟩
  ·rcases List.mem_cons.1 hb with rfl | hb
   ·simp
   ·exact List.mem_cons_of_mem _ (h3 b hb)
  ·rw [List.map_cons,List.nodup_cons] at hn
   rcases List.mem_cons.1 hb with rfl | hb
   ·intro he
    exact hn.1 (by rw [he,← h2]; exact List.mem_map_of_mem h1)
   ·exact h5 hn.2 b hb
theorem SA.app {Γ Γ':QE} {F F':LN}:∀ {cur:LN},SA Z w Γ' cur F'→SA Z w Γ [] F→SA Z w (Γ'++Γ) cur (F'++F):=by
 induction Γ' generalizing F' with
 | nil=>intro cur h hs; cases h; exact hs.any
 | cons e Γ' ih=>
  intro cur h hs
  cases e with
  | own T v x=>obtain ⟨f,F1,rfl,h1,h2⟩:=h; exact ⟨f,F1++F,by rw [List.append_assoc],h1,ih h2 hs⟩
  | om e E v xs=>obtain ⟨f,F1,rfl,h1,h2⟩:=h; exact ⟨f,F1++F,by rw [List.append_assoc],h1,ih h2 hs⟩
  | row b cs e=>obtain ⟨f,F1,rfl,h1,h2⟩:=h; exact ⟨f,F1++F,by rw [List.append_assoc],h1,ih h2 hs⟩
  | eb e E v xs j u=>obtain ⟨f,F1,rfl,h1,h2⟩:=h; exact ⟨f,F1++F,by rw [List.append_assoc],h1,ih h2 hs⟩
  | rd o T v x=>exact ⟨h.1,ih h.2 hs⟩
  | ad o1 o2 v j T x=>exact ⟨h.1,ih h.2 hs⟩
  | bb p cs=>exact ⟨h.1,ih h.2 hs⟩
  | hd v j u=>exact ⟨h.1,ih h.2 hs⟩
theorem OB {mt:Nat} {hd ie:QE} {α:Type} {t e et:TI} {E:ah α} {z0:α} {bt t1 t2 j2:Nat} {v yv:Value} {y:α} {z:List α} {zU:MM} {A:LN} {as:LL} {d:Nat} {ty:TI} {ops:LO} {i:Nat} {sl:LQ} {ms:MM} {Γ:QE} {B:Bs} {r0:NV} {w0:World} {H:LN} (hh:j4 l mt base=true) (ha:cn r0 base) (hT:qG P t α e E z0 bt) (hU:U.getD i []=[l.length])
   (Dg:((U.set i []).all fun us=>!(us.contains l.length))=true) (hv:fI A none sl base fr) (hs:look fr t1=some v) (h2:sz ms t2 ⟨j2,t2,[],Nat,fun _ b=>.slice (some ⟨b,0,none⟩) 1 1,fun _ b=>[.row b [yv] et]⟩ zU) (h5:gq j2 A=true) (h1:dy hd (.own (aL e E) v z) ie) (hy:zO [] E yv y [])
   (hf:fits bt (z.length+1)=some ()) (qH:qK l mt U A (.call ⟨.builtin .append,#[.tmp t1,.tmp t2],#[t,t]⟩) d ty as ops i) (mw:qJ B Z hd Γ H w0) (h:j6 P Z l mt U r0 w0 H i sl ms) :
  j6 P Z l mt U r0 w0 H (i+1) sl (⟨i,d,[],Value,fun _ v'=>v',fun _ v'=>[.own (aL e E) v' (z++[y])]⟩ :: ms)∧qJ B Z ie Γ H w0:=by
 obtain ⟨F,Hd,⟨xu,xw,rU,xx⟩,hS,hG⟩:=mw
 obtain ⟨fm0,Qb,Dh,_,KX⟩:=h1.sound xu
 refine ⟨?_,F,Qb,⟨KX,fun b hb=>xw b (Dh.mem_iff.1 (List.mem_append_right _ hb)),rU,(Dh.nodup_iff.2 xx).sublist (List.sublist_append_right _ _)⟩,hS,hG⟩
 obtain ⟨S',IE,hR,hO⟩:=h
 subst IE
 obtain ⟨hA,⟨pos,af,ho⟩,_⟩:=qH
 obtain ⟨b1,b2⟩:=rq hf
 obtain ⟨q1,q2,ii,zz,q3,q4,q5,q6,q7,_⟩:=hT.h
 obtain ⟨n1,_,_,_⟩:=h2.sub
 refine ⟨S'++[⟨true,MV Z ⟨S'.length,d,[],Value,fun _ v'=>v',fun _ v'=>[.own (aL e E) v' (z++[y])]⟩⟩],by simp,hR.mem rfl (by unfold bh; rw [ho]; rfl) (by intro t h; cases h),fun k hk=>?_⟩
 by_cases bo:k < S'.length
 ·exact fy.more (hO k bo) bo
 ·obtain rfl:k=S'.length:=by omega
  intro o' s' db jk g r w hC Nq kn hn jw AY qa
  rw [ho] at db
  cases db
  rw [List.getElem?_append_right (Nat.le_refl _),Nat.sub_self] at jk
  cases jk
  rw [if_pos rfl]
  refine ⟨rfl,?_⟩
  obtain ⟨Qc,Qd,Qe⟩:=Nq (Df Dg)
  have Qf:=xu.j7 Qc
  obtain ⟨fm,F1,vL,Qh,_⟩:=h1.sound Qf
  obtain ⟨ky,F2,tD,hky,_⟩:=hy.sound (Z:=Z) (w:=w) (F:=[]) rfl
  have hk0:ky=[]:=by
   cases ky with
   | nil=>rfl
   | cons a l=>exact absurd (tD.mem_iff.1 (List.mem_append_left _ List.mem_cons_self)) List.not_mem_nil
  subst hk0
  have Ge:fm.Nodup:=(vL.nodup_iff.2 xx).sublist (List.sublist_append_left _ _)
  have yF:∀ b∈fm,b∈H:=fun b hb=>(xw b (vL.mem_iff.1 (List.mem_append_left _ hb))).1
  obtain ⟨b,c1,c2,c3⟩:=hR.Da n1 (hn j2 (rv (by rw [← hA]; exact qi.1 h5)).2)
  simp only at c1 c2
  replace c2:=c2.own rfl
  generalize Iv:g j2=G1 at c2 c3
  cases c2 with
  | fact h _=>exact h.elim
  | @own _ ff F0 _ Hl zr=>
   cases zr
   obtain ⟨rfl,br⟩:=Hl
   have hb:=px hR hA hv (km hh ha jw) kn
   obtain ⟨v',w',f',ox,Gl,e6,ei,KY⟩:=qx (E:=E) (d:=some d) (ty:=ty) (pos:=pos) (af:=af) (g:=none) (r:=r) (s:=.tmp t1) (x:=.tmp t2) (k:=[]) (ys:=[y]) (news:=[yv]) q1 q3 q4 (by rw [q5,q2]) (by rw [cells_one q6,q2]; rfl) (hb _ _ hs) Qh Ge c1 (fun i u hi=>br.at i u hi) (qW hky) (fun _ h=>absurd h List.not_mem_nil) (by simp) (by rw [q7]; exact b1) b2
   unfold eg
   rw [ox]
   have hblk:qQ g (U.getD S'.length [])=H:=by rw [hU]; simp [qQ,Qd]
   rw [hblk]
   refine ⟨Gl.mono fun b hb=>yF b hb,f',fun b hb=>?_,v',rfl,?_,KY List.nodup_nil⟩
   ·refine ⟨?_,ah.lt _ e6 b hb⟩
    rcases ei b hb with h | h | h
    ·exact .inl (yF b h)
    ·exact absurd h List.not_mem_nil
    ·exact .inr h
   ·have:=HL.own (Z:=fun _=>False) (e:=.own (aL e E) v' (z++[y])) (f:=f') e6 .nil
    exact .inl (by simpa using this)
theorem OC {mt:Nat} {hd ie:QE} {t e e3 et:TI} {kk:IntKind} {z0:List Int} {bt t1 t2 t3 j2 j3 n:Nat} {v:Value} {us:LV} {ys:List Int} {z:List (List Int)} {zU IN:MM} {A:LN} {as:LL} {d:Nat} {ty:TI} {ops:LO} {i:Nat} {sl:LQ} {ms:MM} {Γ:QE} {B:Bs} {r0:NV} {w0:World} {H:LN} (hh:j4 l mt base=true) (ha:cn r0 base) (hT:qG P t (List Int) e (aL e3 (aK kk)) z0 bt) (hU:U.getD i []=[l.length,j3])
   (Dg:((U.set i []).all fun us=>!(us.contains l.length))=true) (hv:fI A none sl base fr) (hs:look fr t1=some v) (h2:sz ms t2 ⟨j2,t2,[t3],Nat,fun _ b=>.slice (some ⟨b,0,none⟩) 1 1,fun u b=>[.row b [u] et]⟩ zU) (h3:sz zU t3 ⟨j3,t3,[],Nat,fun _ b=>.slice (some ⟨b,0,none⟩) n n,fun _ b=>[.row b us e3]⟩ IN) (h5:gq j2 A=true) (h6:gq j3 A=true) (h1:dy hd (.own (aL e (aL e3 (aK kk))) v z) ie) (hi:yY kk us ys) (sQ:us.length=n) (cg:Nat.ble n 16777216=true)
   (hf:fits bt (z.length+1)=some ()) (qH:qK l mt U A (.call ⟨.builtin .append,#[.tmp t1,.tmp t2],#[t,t]⟩) d ty as ops i) (mw:qJ B Z hd Γ H w0) (h:j6 P Z l mt U r0 w0 H i sl ms) :
  j6 P Z l mt U r0 w0 H (i+1) sl (⟨i,d,[],Value,fun _ v'=>v',fun _ v'=>[.own (aL e (aL e3 (aK kk))) v' (z++[ys])]⟩ :: IN)∧qJ B Z ie Γ H w0:=by
 obtain ⟨F,Hd,⟨xu,xw,rU,xx⟩,hS,hG⟩:=mw
 obtain ⟨fm0,Qb,Dh,_,KX⟩:=h1.sound xu
 refine ⟨?_,F,Qb,⟨KX,fun b hb=>xw b (Dh.mem_iff.1 (List.mem_append_right _ hb)),rU,(Dh.nodup_iff.2 xx).sublist (List.sublist_append_right _ _)⟩,hS,hG⟩
 obtain ⟨S',IE,hR,hO⟩:=h
 subst IE
 obtain ⟨hA,⟨pos,af,ho⟩,_⟩:=qH
 obtain ⟨b1,b2⟩:=rq hf
 obtain ⟨q1,q2,ii,zz,q3,q4,q5,q6,q7,_⟩:=hT.h
 obtain ⟨n1,_,m3,m4⟩:=h2.sub
 obtain ⟨n3,_,m5,m6⟩:=h3.sub
 refine ⟨S'++[⟨true,MV Z ⟨S'.length,d,[],Value,fun _ v'=>v',fun _ v'=>[.own (aL e (aL e3 (aK kk))) v' (z++[ys])]⟩⟩],by simp,(hR.sub (fun b hb=>m3 b (m5 b hb)) (m6.trans m4)).mem rfl (by unfold bh; rw [ho]; rfl) (by intro t h; cases h),fun k hk=>?_⟩
 by_cases bo:k < S'.length
 ·exact fy.more (hO k bo) bo
 ·obtain rfl:k=S'.length:=by omega
  intro o' s' db jk g r w hC Nq kn hn jw AY qa
  rw [ho] at db
  cases db
  rw [List.getElem?_append_right (Nat.le_refl _),Nat.sub_self] at jk
  cases jk
  rw [if_pos rfl]
  refine ⟨rfl,?_⟩
  obtain ⟨Qc,Qd,Qe⟩:=Nq (Df Dg)
  have Qf:=xu.j7 Qc
  obtain ⟨fm,F1,vL,Qh,_⟩:=h1.sound Qf
  have Ge:fm.Nodup:=(vL.nodup_iff.2 xx).sublist (List.sublist_append_left _ _)
  have yF:∀ b∈fm,b∈H:=fun b hb=>(xw b (vL.mem_iff.1 (List.mem_append_left _ hb))).1
  have VG:=rv (by rw [← hA]; exact qi.1 h6)
  obtain ⟨b,c1,c2,c3⟩:=hR.Da n1 (hn j2 (rv (by rw [← hA]; exact qi.1 h5)).2)
  obtain ⟨b3,d1,d2,d3⟩:=hR.Da (m3 _ n3) (hn j3 VG.2)
  replace c1:r t2 = .slice (some ⟨b,0,none⟩) 1 1:=c1
  replace c2:HL (fun _=>False) w [.row b [r t3] et] (g j2):=c2.own rfl
  replace d1:r t3 = .slice (some ⟨b3,0,none⟩) n n:=d1
  replace d2:HL (fun _=>False) w [.row b3 us e3] (g j3):=d2.own rfl
  have VH:=Qe j3 VG.1
  generalize Iv:g j2=G1 at c2 c3
  generalize hg3:g j3=G3 at d2 d3 VH
  cases c2 with
  | fact h _=>exact h.elim
  | @own _ ff F0 _ Hl zr=>
   cases zr
   obtain ⟨rfl,br⟩:=Hl
   cases d2 with
   | fact h _=>exact h.elim
   | @own _ ff3 F3 _ Hm TL=>
    cases TL
    obtain ⟨rfl,Hm⟩:=Hm
    obtain ⟨e1,e2⟩:=yY.sound hi w.heap
    have CO:=Nat.le_of_ble_eq_true cg
    have hE:(aL e3 (aK kk)).rep w.heap [r t3] ys [b3]:=by
     rw [d1]
     refine ⟨some ⟨b3,0,none⟩,n,by rw [← sQ,e1],.inr ⟨b3,us.toArray,[],rfl,Hm,rfl,by rw [← sQ,e1]; exact Nat.le_refl _,Nat.le_trans CO (by decide),by rw [show (aK kk).size=1 from rfl,Nat.mul_one]; simp [sQ],?_⟩⟩
     rw [show (aK kk).size=1 from rfl,Nat.mul_one,List.toList_toArray,← e1,List.take_length]
     exact e2
    have Di:w0.heap.size≤b3:=VH b3 (by simp)
    have WJ:∀ b∈fm,b≠b3:=fun b hb he=>by
     have:=rU b (yF b hb)
     omega
    have hb:=px hR hA hv (km hh ha jw) kn
    obtain ⟨v',w',f',ox,Gl,e6,ei,KY⟩:=qx (E:=aL e3 (aK kk)) (d:=some d) (ty:=ty) (pos:=pos) (af:=af) (g:=none) (r:=r) (s:=.tmp t1) (x:=.tmp t2) (k:=[b3]) (ys:=[ys]) (news:=[r t3]) q1 q3 q4 (by rw [q5,q2]) (by rw [cells_one q6,q2]; rfl) (hb _ _ hs) Qh Ge c1 (fun i u hi=>br.at i u hi) (qW hE) (fun b hb hm=>WJ b hm (List.mem_singleton.1 hb)) (by simp) (by rw [q7]; exact b1) b2
    unfold eg
    rw [ox]
    have hblk:qQ g (U.getD S'.length [])=H++[b3]:=by rw [hU]; simp [qQ,Qd,hg3]
    rw [hblk]
    refine ⟨Gl.mono fun b hb=>List.mem_append_left _ (yF b hb),f',fun b hb=>?_,v',rfl,?_,KY (by simp)⟩
    ·refine ⟨?_,ah.lt _ e6 b hb⟩
     rcases ei b hb with h | h | h
     ·exact .inl (List.mem_append_left _ (yF b h))
     ·exact .inl (List.mem_append_right _ h)
     ·exact .inr h
    ·have:=HL.own (Z:=fun _=>False) (e:=.own (aL e (aL e3 (aK kk))) v' (z++[ys])) (f:=f') e6 .nil
     exact .inl (by simpa using this)
end
end Go.Dk
namespace Go.Dk
open Go Go.Li
section
variable {R S:Type} {P:Program} {cx:Cx R} {K:cq R S} {l tail:LO} {base fr:Fr} {U:LL} {hd:QE}
def Dj (P:Program) (cx:Cx R) (K:cq R S) (l l0:LO) (mt:Nat) (U:LL) (hd:QE) (id:Nat) (base:Fr):JA R S→Prop
 | .a as ops i sl ms Γ m=>tf l mt U as ops i→Fin P cx K l l0 mt U hd id base i sl ms Γ m
 | .o A op d ty as ops i sl ms Γ m=>qK l mt U A op d ty as ops i→Fin P cx K l l0 mt U hd id base i sl ms Γ m
 | .oc us f xs bb A d ty as ops i sl ms Γ m=>U.getD i []=us→qK l mt U A (.call ⟨.value (.func f),xs.toArray,bb⟩) d ty as ops i→Fin P cx K l l0 mt U hd id base i sl ms Γ m
 | .os A op ty as ops i sl ms Γ m=>P1 l mt U A op ty as ops i→Fin P cx K l l0 mt U hd id base i sl ms Γ m
 | .ow _ A op d ty as ops i sl ms Γ m=>qK l mt U A op d ty as ops i→Fin P cx K l l0 mt U hd id base i sl ms Γ m
 | .ix _ v fr x y t A d ty as ops i sl ms Γ m=>fI A none sl base fr→bz fr x=some v→qK l mt U A (.indexAddr t x y) d ty as ops i→Fin P cx K l l0 mt U hd id base i sl ms Γ m
 | .lb _ v j fr t x A d ty as ops i sl ms Γ m=>fI A none sl base fr→bz fr x=some (.pointer (some (fi v 1 j)))→NA P t→qK l mt U A (.load t x) d ty as ops i→Fin P cx K l l0 mt U hd id base i sl ms Γ m
 | .ap us t1 t2 t A d ty as ops i sl ms Γ m=>U.getD i []=us→qK l mt U A (.call ⟨.builtin .append,#[.tmp t1,.tmp t2],#[t,t]⟩) d ty as ops i→Fin P cx K l l0 mt U hd id base i sl ms Γ m
 | .la fr a lk t x A d ty as ops i sl ms Γ m=>fI A none sl base fr→bz fr x=some (.pointer (some a))→(match lk with | none=>NA P t | some n=>AG P t n)→qK l mt U A (.load t x) d ty as ops i→Fin P cx K l l0 mt U hd id base i sl ms Γ m
 | .ld E z fr a t x A d ty as ops i sl ms Γ m=>fI A none sl base fr→bz fr x=some (.pointer (some a))→NA P t→qK l mt U A (.load t x) d ty as ops i→
   ∀ B o,m=some o→∀ r0 w0 H Z,cn r0 base→qJ B Z hd Γ H w0→(∃ u,∀ w,aq H w0 w→w.cell? a=some u∧∃ g,E.rep w.heap [u] z g)→j6 P Z l mt U r0 w0 H i sl ms→nv P cx.n l0 (iT P cx B K o) r0 w0
 | .p Δ as ops i sl ms Γ m=>tf l mt U as ops i→Fin P cx K l l0 mt U hd id base i sl ms (Δ.reverse++Γ) m
 | .cr u ps d as ops i sl ms Γ m=>tf l mt U as ops (i+1)→bh l i=some d→
   ∀ B o,m=some o→∀ r0 w0 H Z,cn r0 base→qJ B Z hd Γ H w0→KT P Z l mt U r0 w0 H i sl ms ⟨i,d,[],_,fun _=>u,fun _=>ps⟩→nv P cx.n l0 (iT P cx B K o) r0 w0
theorem KZ {α:Type} {E:ah α} {h:Array Obj}:∀ {xs:List α} {cs:LV} {f:LN} (n m:Nat),dp E h cs xs f→∃ f3,dp E h ((cs.drop (n * E.size)).take (m * E.size)) ((xs.drop n).take m) f3∧∀ b∈f3,b∈f:=by
 intro xs
 induction xs with
 | nil=>rintro cs f n m ⟨rfl,rfl⟩; exact ⟨[],by simpa using ⟨rfl,rfl⟩,fun _ h=>h⟩
 | cons x xs ih=>
  rintro cs f n m ⟨c,ds,f1,f2,rfl,rfl,h1,h2⟩
  cases n with
  | zero=>
   cases m with
   | zero=>exact ⟨[],by simpa using ⟨rfl,rfl⟩,fun _ h=>absurd h List.not_mem_nil⟩
   | succ m=>
    obtain ⟨f3,h3,h4⟩:=ih 0 m h2
    simp only [Nat.zero_mul,List.drop_zero] at h3 ⊢
    refine ⟨f1++f3,?_,fun b hb=>(List.mem_append.1 hb).elim (List.mem_append_left _) fun hb=>List.mem_append_right _ (h4 b hb)⟩
    have e:(m+1) * E.size=c.length+m * E.size:=by rw [E.len h1,Nat.add_mul,Nat.one_mul,Nat.add_comm]
    rw [e,List.take_append,List.take_of_length_le (by omega),List.take_succ_cons]
    exact ⟨c,_,f1,f3,rfl,rfl,h1,by simpa using h3⟩
  | succ n=>
   obtain ⟨f3,h3,h4⟩:=ih n m h2
   refine ⟨f3,?_,fun b hb=>List.mem_append_right _ (h4 b hb)⟩
   have e:(n+1) * E.size=c.length+n * E.size:=by rw [E.len h1,Nat.add_mul,Nat.one_mul,Nat.add_comm]
   rw [e,List.drop_append,List.drop_of_length_le (by omega),List.nil_append,List.drop_succ_cons]
   simpa using h3
theorem K0 {Z:Nat→Prop} {w:World} {cur g:LN} {o:Bool} {α:Type} {E:ah α} {base:Option Addr} {cap a b:Nat} {xs:List α} (hE:E.size=1) (hr:(bB E).rep w.heap [.slice base xs.length cap] xs g) (hg:∀ i∈g,rM o Z cur i) (u5:a≤b) (hb:b≤xs.length) (hc:xs.length≤cap) :
  fact Z w cur (.rd o (bB E) (sliced base a b cap 1) ((xs.drop a).take (b - a))):=by
 have hlen:((xs.drop a).take (b - a)).length=b - a:=by rw [List.length_take,List.length_drop]; omega
 obtain ⟨G4,Kw,hv,je⟩:=hr
 obtain ⟨rfl,rfl⟩ : base=G4∧cap=Kw:=by simpa using hv
 by_cases hj:a=b
 ·subst hj
  exact ⟨[],⟨_,cap - a,by unfold sliced; rw [hlen],.inl ⟨by simp,rfl⟩⟩,fun _ h=>absurd h List.not_mem_nil⟩
 ·rcases je with ⟨rfl,_⟩ | ⟨b0,off,cr,e',fz,f',rfl,g1,rfl,_,g2⟩
  ·exfalso; simp at hb; omega
  ·have mh : ¬ (cap=a):=by omega
   obtain ⟨f3,e6,ei⟩:=KZ a (b - a) g2
   refine ⟨b0 :: f3,⟨some ⟨b0,off+a,none⟩,cap - a,?_,.inr ⟨b0,off+a,cr,e',fz,f3,rfl,g1,rfl,by omega,?_⟩⟩,fun i hi=>?_⟩
   ·unfold sliced
    rw [hlen,if_neg mh]
    simp [ir]
   ·rw [hE,Nat.mul_one,Nat.mul_one,Nat.mul_one,List.drop_take,List.take_take,List.drop_drop,Nat.min_eq_left (by omega)] at e6
    rw [hE,Nat.mul_one,hlen]
    exact e6
   ·rcases List.mem_cons.1 hi with rfl | hi
    ·exact hg _ (by simp)
    ·exact hg _ (List.mem_cons_of_mem _ (ei i hi))
theorem AD.sound {l0:LO} {tq:Bool} {mt id:Nat} (hh:j4 l mt base=true)
  (zr:∀ hd i sl ms Γ m,wN ms=true→vw U sl ms=true→(∀ x:nu ms,D P cx (.p (vv sl (mF ms x)) (xV ms x) base Γ fun fr Γ=>.tg tq (wG tail) l tail K Γ fr m))→Dj P cx K l l0 mt U hd id base (.a [] [] i sl ms Γ m))
  {J:JA R S} (h:AD tq P cx K l tail base U hd J):Dj P cx K l l0 mt U hd id base J:=by
 have stay:∀ {B:Bs} {Z:Nat→Prop} {hd Γ:QE} {H:LN} {w0:World},qJ B Z hd Γ H w0→∃ F Hd,(SA Z w0 hd [] Hd∧(∀ b∈Hd,b∈H∧b < w0.heap.size)∧(∀ b∈H,b < w0.heap.size)∧Hd.Nodup)∧SA Z w0 Γ [] F∧Gd B Z (H++F) w0∧∀ w,aq H w0 w→SA Z w Γ [] F:=by
  rintro B Z hd Γ H w0 ⟨F,Hd,h1,h2,h3⟩
  exact ⟨F,Hd,h1,h2,h3,fun w hC=>qJ.stay h2 h3 hC⟩
 induction h with
 | nil hs he h=>exact zr _ _ _ _ _ _ hs he h
 | @gbt hd j d b q as ops i sl ms Γ m _ ih=>
  intro h B o ho r0 w0 H Z ha hs hp
  cases b with
  | false=>cases ho
  | true=>exact ih h B o ho r0 w0 H Z ha hs (hp.swap)
 | @gbf hd j d b q as ops i sl ms Γ m _ ih=>
  intro h B o ho r0 w0 H Z ha hs hp
  cases b with
  | true=>cases ho
  | false=>exact ih h B o ho r0 w0 H Z ha hs (hp.swap)
 | skp ie hb hA _ ih=>
  intro h B o ho r0 w0 H Z ha hs hp
  obtain ⟨h1,h2,h3⟩:=h.next
  exact ih h3 B o ho r0 w0 H Z ha hs (hp.skip h1 h2 ie hb hA)
 | cons _ ih=>exact fun h=>ih h.cons
 | Hi _ ih=>exact fun h=>ih h.Hi
 | PK h1 hv hy hc hn jk ho h4 h6 _ ih=>
  rename_i ht _
  intro h B o db r0 w0 H Z ha hs hp
  obtain ⟨F,_,_,_,_,hK⟩:=stay hs
  exact ih h.n B o db r0 w0 H Z ha hs (Ox hh ha ht h1 hv hy hc hn jk ho h4 h6 hK h hp)
 | ixs hv hx _ _ ih=>exact fun h1=>ih hv hx h1
 | @idx hd α A as d x y v k j t ty o1 o2 E xs ops i sl ms fr Γ Γ' f ht hy hr hE _ ih=>
  intro hv hx h1 B o ho r0 w0 H Z ha hs hp
  obtain ⟨z,hz,ho⟩:=bind_some ho
  replace hz:=zq hz
  obtain ⟨F,Hd,hL,hS,hG,hK⟩:=stay hs
  obtain ⟨dh,_,⟨⟨n,hn,_⟩,CX⟩,wJ⟩:=(hr z).sound hS
  refine ih z h1.n B o ho r0 w0 H Z ha ⟨F,Hd,hL,wJ (CX hE j z hz.1 hz.2),hG⟩ (hp.val hh ha h1 hv fun r je _ _ _ w hC=>?_)
  obtain ⟨_,_,⟨⟨n',sQ,_⟩,_⟩,_⟩:=(hr z).sound (hK w hC)
  exact Ix ht.h sQ hz (cB je hx) (cB je hy) hE w (aq.refl _ _)
 | load hv hx _ ih=>rename_i ht _; exact fun h1=>ih hv hx ht.h h1
 | lsw _ _ ih=>exact fun hv hx ht h1=>ih hv hx ht h1
 | @PF hd α A as d x v j o E z t ty ops i sl ms fr Γ Γx m h _ ih=>
  intro hv hx ht h1 B o' ho r0 w0 H Z ha hs hp
  obtain ⟨F,Hd,hL,hS,hG,hK⟩:=stay hs
  obtain ⟨_,⟨u,k,h2,h3,_⟩,_⟩:=h.sound hS
  refine ih hv hx ht h1 B o' ho r0 w0 H Z ha hs ⟨u,fun w hC=>?_⟩ hp
  have hb:(fi v 1 j).block ∉ H:=fun hm=>(h.xR hS).elim (fun h=>h.elim (fun h=>absurd h List.not_mem_nil) fun h=>(List.nodup_append.1 hG.nd).2.2 _ hm _ h rfl) fun h=>hG.apart _ (List.mem_append_left _ hm) h
  have hc:=hC.cell hb h2
  obtain ⟨_,⟨u',k',h4,h5,_⟩,_⟩:=h.sound (hK w hC)
  rw [hc] at h4
  cases h4
  exact ⟨hc,k',h5⟩
 | PG h _ ih=>
  intro hv hx ht h1 B o ho r0 w0 H Z ha hs hp
  obtain ⟨F,_,_,hS,_,hK⟩:=stay hs
  exact ih h1.n B o ho r0 w0 H Z ha hs (hp.val hh ha h1 hv fun r hr _ _ _ w hC=>Ld ht (h.sound (hK w hC)) (cB hr hx) w (aq.refl _ _))
 | IC h _ ih=>
  intro hv hx ht h1 B o ho r0 w0 H Z ha hs hp
  obtain ⟨F,_,_,hS,_,hK⟩:=stay hs
  refine ih h1.n B o ho r0 w0 H Z ha hs (hp.val hh ha h1 hv fun r hr _ _ _ w hC=>?_)
  obtain ⟨h2,h3⟩:=h.sound (hK w hC)
  exact Lg ht h2 (cB hr hx) h3 w (aq.refl _ _)
 | PH _ ih=>
  intro hv hx ht h1 B o ho r0 w0 H Z ha hs hu hp
  obtain ⟨u,hu⟩:=hu
  obtain ⟨_,_,h3,_⟩:=hu w0 (aq.refl _ _)
  obtain rfl:u=_:=by simpa using h3
  exact ih h1.n B o ho r0 w0 H Z ha hs (hp.val hh ha h1 hv fun r hr _ _ _ w hC=>Ld ht (hu w hC).1 (cB hr hx) w (aq.refl _ _))
 | @PI hd α A as d x v j E z o' t ty ops i sl ms fr Γ Γ1 Γ' m h Nj _ ih=>
  intro hv hx ht h1 B o ho r0 w0 H Z ha hs hu hp
  obtain ⟨u,hu⟩:=hu
  obtain ⟨h2,_⟩:=hu w0 (aq.refl _ _)
  obtain ⟨F,Hd,hL,hS,hG,hK⟩:=stay hs
  obtain ⟨dh,⟨u',k',h4,h5,h6⟩,wJ⟩:=(h u).sound hS
  rw [h2] at h4
  cases h4
  exact ih u h1.n B o ho r0 w0 H Z ha ⟨F,Hd,hL,(Nj u).sound h2 (wJ ⟨k',h5,h6⟩),hG⟩ (hp.val hh ha h1 hv fun r hr _ _ _ w hC=>Ld ht (hu w hC).1 (cB hr hx) w (aq.refl _ _))
 | IB hU _ ih=>exact fun h1=>ih hU h1
 | @WE hd β V A as d f fs bs xo xs bb ty mo rt ps ops i sl ms fr Γ g hv Qa hf hc hi jx hw _ ih=>
  intro h1 B o ho r0 w0 H Z ha hs hp
  obtain @⟨vP⟩:=hf
  obtain ⟨y,hy,ho⟩:=bind_some ho
  obtain ⟨pos,af,h2⟩:=h1.o
  exact ih y h1.n (by unfold bh; rw [h2]; rfl) B o ho r0 w0 H Z ha hs (IU hh vP hv Qa hc hi jx hw h1 hy ha hs hp)
 | @call hd β V A as d f xs bb ty mo rt ps ops i sl ms fr Γ g hf hv hc hi jx hw _ ih=>
  intro _ h1 B o ho r0 w0 H Z ha hs hp
  obtain ⟨y,hy,ho⟩:=bind_some ho
  obtain ⟨pos,af,h2⟩:=h1.o
  exact ih y h1.n (by unfold bh; rw [h2]; rfl) B o ho r0 w0 H Z ha hs (KW hh hf hv hc hi jx hw h1 hy ha hs hp)
 | @crv hd u d as ops i sl ms Γ m _ ih=>
  intro h1 ie B o ho r0 w0 H Z ha hs ⟨S',hl,hR,hO,hL⟩
  subst hl
  refine ih h1 B o ho r0 w0 H Z ha hs ⟨_,by simp,hR.val ie,fun j hj=>?_⟩
  by_cases h2:j < S'.length
  ·exact fy.more (hO j h2) h2
  ·obtain rfl:j=S'.length:=by omega
   exact hL (pl fun _ _ x=>x=_) fun f w r x ⟨v,h,_⟩=>⟨[],fun _ h=>absurd h List.not_mem_nil,h⟩
 | @crm hd V u ps d as ops i sl ms Γ m _ ih=>
  intro h1 ie B o ho r0 w0 H Z ha hs ⟨S',hl,hR,hO,hL⟩
  subst hl
  refine ih h1 B o ho r0 w0 H Z ha hs ⟨_,by simp,hR.mem rfl ie (fun _ h=>nomatch h),fun j hj=>?_⟩
  by_cases h2:j < S'.length
  ·exact fy.more (hO j h2) h2
  ·obtain rfl:j=S'.length:=by omega
   exact hL _ fun f w r x h=>⟨f,fun _ h=>h,h⟩
 | PJ hU _ ih=>exact fun h1=>ih hU h1
 | VC Dg hv jk h2 h3 h5 h6 h1 hi hn hb _ ih=>
  rename_i hT _
  intro hU h B o ho r0 w0 H Z ha hs hp
  obtain ⟨u,hu,ho⟩:=bind_some ho
  obtain ⟨p1,p2⟩:=OC hh ha hT hU Dg hv jk h2 h3 h5 h6 h1 hi hn hb hu h hs hp
  exact ih h.n B o ho r0 w0 H Z ha p2 p1
 | VB Dg hv jk h2 h5 h1 hy _ ih=>
  rename_i hT _
  intro hU h B o ho r0 w0 H Z ha hs hp
  obtain ⟨u,hu,ho⟩:=bind_some ho
  obtain ⟨p1,p2⟩:=OB hh ha hT hU Dg hv jk h2 h5 h1 hy hu h hs hp
  exact ih h.n B o ho r0 w0 H Z ha p2 p1
 | sw1 _ _ ih=>exact fun h1=>ih h1
 | sw4 _ _ ih=>exact fun h1=>ih h1
 | Np _ ih=>
  rename_i hz _
  intro h1 B o ho r0 w0 H Z ha hs hp
  exact ih h1.n B o ho r0 w0 H Z ha hs (Oy hz h1 hp)
 | sw5 _ _ ih=>exact fun h1=>ih h1
 | mln hi jx hx _ ih=>
  rename_i ht _
  intro h1 B o ho r0 w0 H Z ha hs hp
  exact ih h1.n B o ho r0 w0 H Z ha hs (P4 hp h1 ht hi jx hx)
 | wv hv hq _ ih=>
  intro h1 B o ho r0 w0 H Z ha hs hp
  obtain ⟨F,_,_,_,_,hK⟩:=stay hs
  exact ih h1.n B o ho r0 w0 H Z ha hs (hp.val hh ha h1 hv fun r hr _ _ _ w hC=>hq.sound (hK w hC) hr _ _ _ _ _ w (aq.refl _ _))
 | wlt hv hx ho _ ih=>
  rename_i hz _
  intro h1 B o db r0 w0 H Z ha hs hp
  obtain ⟨F,_,_,_,_,hK⟩:=stay hs
  exact ih h1.n B o db r0 w0 H Z ha hs (P7 hh ha hz hv hx ho hK h1 hp)
 | ltn hv ie hn hb _ ih=>
  rename_i hz _
  intro h1 B o db r0 w0 H Z ha hs hp
  obtain ⟨F,_,_,_,_,hK⟩:=stay hs
  exact ih h1.n B o db r0 w0 H Z ha hs (Gk hh ha hz hv ie hn hb hK h1 hp)
 | ltu hv ie hn hb _ ih=>
  rename_i hz _
  intro h1 B o db r0 w0 H Z ha hs hp
  obtain ⟨F,_,_,_,_,hK⟩:=stay hs
  exact ih h1.n B o db r0 w0 H Z ha hs (Gk hh ha ⟨hz.h⟩ hv ie hn hb hK h1 hp)
 | mk hv hx _ ih=>
  rename_i hz _
  intro h1 B o ho r0 w0 H Z ha hs hp
  obtain ⟨n,hn,ho⟩:=bind_some ho
  exact ih n h1.n B o ho r0 w0 H Z ha hs (P6 hh ha hz hv hx hn h1 hp)
 | mbl hi jx _ hj hv Qi _ ih=>
  rename_i hb _ _
  intro h1 B o ho r0 w0 H Z ha hs hp
  exact ih h1.n B o ho r0 w0 H Z ha hs (Oz hh hb hi jx hj hv Qi h1 ha hs hp)
 | mlt hi jx hj Qi _ ih=>
  rename_i hz _
  intro h1 B o ho r0 w0 H Z ha hs hp
  exact ih h1.n B o ho r0 w0 H Z ha hs (OA hz hi jx hj Qi h1 hp)
 | val hv hq _ ih=>
  intro h1 B o ho r0 w0 H Z ha hs hp
  obtain ⟨F,_,_,_,_,hK⟩:=stay hs
  exact ih h1.n B o ho r0 w0 H Z ha hs (hp.val hh ha h1 hv fun r hr _ _ _ w hC=>hq.sound (hK w hC) hr _ _ _ _ _ w (aq.refl _ _))
end
end Go.Dk
namespace Go.Dk
open Go Go.Li
section
variable {R S:Type} {P:Program} {cx:Cx R} {K:cq R S} {l tail:LO} {base fr:Fr} {w:World} {Z:Nat→Prop}
theorem Fm {n:Nat} {Q:Exit→(Nat→Value)→World→Prop} {r:NV} (hQ:∀ c,¬ Q (.panic c) r w):∀ ez,∀ c,¬ wE P n Q ez (.panic c) r w:=by
 intro ez
 induction ez with
 | nil=>exact hQ
 | cons a ez ih=>cases a <;> exact ih
theorem Fq {B:Bs} {b:Kb R S} {o:Out S R} {r:NV}:∀ c,¬ Cv P cx B b o (.panic c) r w:=by
 intro c
 cases b <;> cases o <;> exact fun h=>h
theorem za {B:Bs} {K:cq R S} {o:Out S R} {r:NV}:∀ c,¬ iT P cx B K o (.panic c) r w:=Fm Fq _
def wP (g:Nat→List Nat):List fw→List Nat
 | []=>[]
 | a :: l=>g a.j++wP g l
theorem zt {g:Nat→List Nat}:∀ {ms:MM} {b:Nat},b∈wP g ms→∃ a∈ms,b∈g a.j:=by
 intro ms
 induction ms with
 | nil=>intro b h; exact absurd h List.not_mem_nil
 | cons a ms ih=>
  intro b h
  rcases List.mem_append.1 h with h | h
  ·exact ⟨a,by simp,h⟩
  ·obtain ⟨c,h1,h2⟩:=ih h
   exact ⟨c,List.mem_cons_of_mem _ h1,h2⟩
theorem Gm {Vo Vr A F:LN} (h:(Vo++Vr).Perm A):((Vo++F)++Vr).Perm (A++F):=by
 refine List.Perm.trans ?_ (h.append_right F)
 rw [List.append_assoc,List.append_assoc]
 exact List.Perm.append_left Vo List.perm_append_comm
theorem Nr {g:Nat→List Nat} {r:NV}:∀ {ms:MM},wN ms=true→(ms.map (·.j)).Nodup→(∀ a∈ms,∀ b∈ms,a.j≠b.j→p9 (g a.j) (g b.j))→(∀ a∈ms,MV Z a (g a.j) w r (r a.d))→
  ∃ x:nu ms,(∀ p∈mF ms x,r p.1=p.2)∧(∃ Vo Vr,(Vo++Vr).Perm (wP g ms)∧(∀ b∈Vr,b < w.heap.size)∧HL (rP Z Vr) w (xV ms x) Vo)∧(wP g ms).Nodup:=by
 intro ms
 induction ms with
 | nil=>intro _ _ _ _; exact ⟨(),fun p hp=>absurd hp List.not_mem_nil,⟨[],[],.refl _,fun b (h:b∈[])=>absurd h List.not_mem_nil,.nil⟩,List.nodup_nil⟩
 | cons a ms ih=>
  intro jx hd hi h
  unfold wN at jx
  rw [Bool.and_eq_true] at jx
  rw [List.map_cons,List.nodup_cons] at hd
  obtain ⟨x,hx,hl,hn⟩:=ih jx.2 hd.2 (fun b hb c hc=>hi b (List.mem_cons_of_mem _ hb) c (List.mem_cons_of_mem _ hc)) fun b hb=>h b (List.mem_cons_of_mem _ hb)
  obtain ⟨v,e1,e2,e3⟩:=h a (by simp)
  have es:wL a r=xU a (mF ms x):=by
   have h3:=jx.1
   rw [List.all_eq_true] at h3
   refine yE fun t ht=>?_
   unfold u2
   rw [KQ (h3 t ht) hx]
  rw [es] at e1 e2
  refine ⟨(v,x),?_,?_,xY e3 hn ?_⟩
  rotate_left
  ·obtain ⟨Fo,Fr,hf,h1,h2⟩:=e2.all
   obtain ⟨Vo,Vr,k1,k2,k3⟩:=hl
   refine ⟨Fo++Vo,Fr++Vr,?_,fun b hb=>(List.mem_append.1 hb).elim (h1 b) (k2 b),(h2.mono fun b h=>h.imp id fun h=>List.mem_append_left _ h).app (k3.mono fun b h=>h.imp id fun h=>List.mem_append_right _ h)⟩
   show List.Perm _ (g a.j++wP g ms)
   rw [hf]
   refine List.Perm.trans ?_ (k1.append_left (Fo++Fr))
   rw [List.append_assoc,List.append_assoc]
   refine List.Perm.append_left Fo ?_
   rw [← List.append_assoc,← List.append_assoc]
   exact List.Perm.append_right Vr List.perm_append_comm
  rotate_right
  ·intro p hp
   rcases List.mem_cons.1 hp with rfl | hp
   ·exact e1
   ·exact hx p hp
  ·intro b hb hm
   obtain ⟨c,h1,h2⟩:=zt hm
   exact hi a (by simp) c (List.mem_cons_of_mem _ h1) (fun e=>hd.1 (by rw [e]; exact List.mem_map_of_mem h1)) b hb h2
theorem Dl {r:NV} {f:Fr}:∀ {sl:LQ},(∀ p∈sl,r p.2.1=p.2.2)→(∀ p∈f,r p.1=p.2)→∀ p∈vv sl f,r p.1=p.2:=by
 intro sl
 induction sl with
 | nil=>intro _ h; exact h
 | cons a sl ih=>
  intro h1 h2 p hp
  rcases List.mem_cons.1 hp with rfl | hp
  ·exact h1 a (by simp)
  ·exact ih (fun p hp=>h1 p (List.mem_cons_of_mem _ hp)) h2 p hp
theorem Dm {mt:Nat} {U:LL} {Dn:QE} (hh:j4 l mt base=true) {sl:LQ} {ms:MM} {Γ:QE} {m:Option (Out S R)} (Dp:wN ms=true) (ru:vw U sl ms=true)
  (h:∀ x:nu ms,D P cx (.p (vv sl (mF ms x)) (xV ms x) base Γ fun fr Γ=>.tg false (wG tail) l tail K Γ fr m)) {B:Bs} {o:Out S R} (ho:m=some o) {r0:NV} {w0:World} {H:LN} {Z:Nat→Prop} (ha:cn r0 base) (hs:qJ B Z Dn Γ H w0) {S':List ep} (hi:S'.length=mt) (hR:gv Z l S' sl ms) :
  ∀ g r w,uk l mt S' U r0 w0 H (fun j=>j < mt) g r w→WL P l tail r w (iT P cx B K o .normal):=by
 obtain ⟨F,Hd,⟨xu,xw,rU,xx⟩,hS,hG⟩:=hs
 intro g r w hI
 have Hn:∀ k j,j∈U.getD k []→∀ a∈ms,a.j≠j:=by
  intro k j hj
  unfold vw at ru
  rw [Bool.and_eq_true] at ru
  rw [List.getD_eq_getElem?_getD] at hj
  cases hk:U[k]? with
  | none=>rw [hk] at hj; exact absurd hj List.not_mem_nil
  | some us=>
   rw [hk] at hj
   have h1:=List.all_eq_true.1 (List.all_eq_true.1 ru.1 us (List.mem_of_getElem? hk)) j hj
   intro a ha he
   have:=List.all_eq_true.1 h1 a ha
   rw [he,Nat.beq_refl] at this
   cases this
 have hD:∀ j,j < mt→(∀ k,j ∉ U.getD k [])→rT l S' j g r w:=fun j hj hn=>hI.done j hj fun k _=>hn k
 have bo:∀ a∈ms,a.j < mt:=fun a ha=>hi ▸ hR.lt ha
 obtain ⟨x,hx,ui,Qj⟩:=Nr (g:=g) (r:=r) (w:=w) Dp hR.d (fun a ha b hb u5=>hI.tF _ _ (bo a ha) (bo b hb) u5) fun a ha=>by
  have:=hR.Da (S2:=[]) ha (by rw [List.append_nil]; exact hD a.j (bo a ha) (fun k hk=>Hn k _ hk a ha rfl))
  exact this
 have zV:=List.nodup_append.1 hG.nd
 have qa:∀ b∈wP g ms,w0.heap.size≤b∨b∈H:=fun b hb=>by
  obtain ⟨a,h1,h2⟩:=zt hb
  exact (hI.fresh a.j (bo a h1) b h2).1.imp (fun h=>h) (·.1)
 have j5:=qJ.stay hS hG hI.jf
 obtain ⟨Vo,Vr,Qk,Ql,ui⟩:=ui
 obtain ⟨F',hp,n5⟩:=ui.build (j5.mono (fun _ h=>.inl h) fun _ h=>h)
 have Qm:Gd B Z (wP g ms++F) w:=by
  refine ⟨xY Qj zV.2.1 fun b hb hF=>(qa b hb).elim (fun h=>Nat.lt_irrefl _ (Nat.lt_of_lt_of_le (hS.lt b hF) h)) (fun h=>zV.2.2 b h b hF rfl),?_,fun b hb=>Nat.lt_of_lt_of_le (hG.qT b hb) hI.jf.size,?_,hG.uU,hG.vq,hG.jf.then hI.jf fun b hb=>hG.low b (List.mem_append_left _ hb)⟩
  ·intro b hb hz
   rcases List.mem_append.1 hb with hb | hb
   ·exact (qa b hb).elim (fun h=>Nat.lt_irrefl _ (Nat.lt_of_lt_of_le (hG.qT b hz) h)) (fun h=>hG.apart b (List.mem_append_left _ h) hz)
   ·exact hG.apart b (List.mem_append_right _ hb) hz
  ·intro b hb
   rcases List.mem_append.1 hb with hb | hb
   ·exact (qa b hb).elim (fun h=>.inr (Nat.le_trans hG.jf.size h)) (fun h=>hG.low b (List.mem_append_left _ h))
   ·exact hG.low b (List.mem_append_right _ hb)
 have K1:cn r ((vv sl (mF ms x)).reverse++base):=by
  refine nt (Dl (fun p hp=>?_) hx) (km hh ha hI.other)
  exact hR.xW (S2:=[]) hp fun j _ hj=>(by rw [List.append_nil]; exact hI.qI j (hi ▸ hj))
 have:=(h x).sound B o ho r w K1 ⟨_,F',n5,((Qm.perm (Gm Qk)).freeze Ql).perm hp⟩
 exact this
theorem OD {mt id:Nat} {U:LL} {Zl:LN} {Dn:QE} (hU:((List.range mt).all fun i=>(U.getD i []).all fun u=>Nat.beq u l.length || ((bp l).getD i []).contains u)=true) (hh:j4 l mt base=true) (hd:cu cx.n l=true) (hA:um l mt Zl=true) (hZ:zW l mt Zl=true) (Dq:mt≤l.length) (ht:tail=l.drop mt) {i:Nat} {sl:LQ} {ms:MM} {Γ:QE} {m:Option (Out S R)} (Dp:wN ms=true) (ru:vw U sl ms=true)
  (h:∀ x:nu ms,D P cx (.p (vv sl (mF ms x)) (xV ms x) base Γ fun fr Γ=>.tg false (wG tail) l tail K Γ fr m)):Dj P cx K l l mt U Dn id base (.a [] [] i sl ms Γ m):=by
 rintro ⟨_,h2,h3⟩ B o ho r0 w0 H Z ha hs ⟨S',hl,hR,hO⟩
 have hi:i=mt:=by
  have:=congrArg List.length h2
  simp at this
  omega
 subst hl
 have Qn:=hs
 obtain ⟨F,Hd,⟨xu,xw,rU,xx⟩,hS,hG⟩:=hs
 refine IV (N:=Z) (S:=S') (U:=U) (H:=H) hd hA hZ (fun c r w h=>za c h) Dq hi rU hU (fun b hb=>⟨hG.qT b hb,fun h=>hG.apart b (List.mem_append_left _ h) hb⟩) (fun i s hs=>hR.s i s hs) (fun j hj=>hO j (by omega)) ?_
 intro g r w hI
 have:=Dm hh Dp ru h ho ha Qn hi hR g r w hI
 rwa [ht] at this
def Kq (q:Option (Bool×Nat×Value)) (f:Fr):Fr:=
 match q with
 | none=>f
 | some (_,d,u)=>(d,u) :: f
theorem Kp.lk {ws:LN} {q:Option (Bool×Nat×Value)} {f g:Fr} (h:Kp ws q f g):(∀ b d u,q=some (b,d,u)→b=gq d ws)→∀ t v,look g t=some v→gq t ws=false∧look (Kq q f) t=some v:=by
 induction h with
 | nil=>intro _ t v h; cases h
 | cons _ ih=>intro _ t v h; exact ih (by rintro b d u h; cases h; rfl) t v h
 | @drop ws d u f g _ ih=>
  intro hq t v h
  obtain ⟨h1,h2⟩:=ih (by rintro b d u h; cases h) t v h
  refine ⟨h1,?_⟩
  show look ((d,u) :: f) t=some v
  unfold look
  cases hb:Nat.beq t d with
  | true=>have:=hq true d u rfl; rw [Nat.eq_of_beq_eq_true hb,← this] at h1; cases h1
  | false=>exact h2
 | @dq ws d u f g _ ih=>
  intro hq t v h
  unfold look at h
  show gq t ws=false∧look ((d,u) :: f) t=some v
  unfold look
  cases hb:Nat.beq t d with
  | true=>rw [hb] at h; exact ⟨by rw [Nat.eq_of_beq_eq_true hb]; exact (hq false d u rfl).symm,h⟩
  | false=>
   rw [hb] at h
   obtain ⟨h1,h2⟩:=ih (by rintro b d u h; cases h) t v h
   unfold gq at h1
   rw [hb] at h1
   exact ⟨h1,h2⟩
theorem Kp.sound {ws:LN} {f g:Fr} {r:NV} (h:Kp ws none f g) (ha:cn r f):cn r g:=
 fun t v hl=>ha t v (h.lk (by rintro b d u h; cases h) t v hl).2
theorem WK {id:Nat} (hd:QE) (mt:Nat) (Zl:LN) (U as:LL) {ops:LO} {Γ Γ1:QE} {fr:Fr} {m:Option (Out S R)}
  (hB:(P.follows .mixedOrders && cu cx.n l && um l mt Zl && zW l mt Zl && Nat.ble mt l.length && (iu l U mt == as) && ((List.range mt).all fun i=>(U.getD i []).all fun u=>Nat.beq u l.length || ((bp l).getD i []).contains u))=true)
  (ho:ops=l.take mt) (ht:tail=l.drop mt) (hf:Kp (vu ops) none fr base) (hh:j4 l mt base=true) (he:EO Γ hd Γ1) (IW:OW Γ hd)
  (h:AD false P cx K l tail base U hd (.a as ops 0 [] [] Γ1 m)):∀ B o,m=some o→∀ r w,cn r fr→St B Γ w→nv P cx.n l (iT P cx B K o) r w:=by
 simp only [Bool.and_eq_true] at hB
 obtain ⟨⟨⟨⟨⟨⟨_,b2⟩,b3⟩,b4⟩,b5⟩,b6⟩,b7⟩:=hB
 intro B o hm r w ha hs
 obtain ⟨Z,F,hS,hG⟩:=hs
 obtain ⟨Fd,F',h1,h2,h3⟩:=he.sound hS
 have Dr:SA Z w hd [] Fd:=by
  have:=(HO.hl IW hS h1).front (Γ:=[]) (F:=[]) rfl
  simpa using this
 have hX:qJ B Z hd Γ1 Fd w:=⟨F',Fd,⟨Dr,fun b hb=>⟨hb,Dr.lt b hb⟩,Dr.lt,(List.nodup_append.1 (hG.perm h3).nd).1⟩,h2,hG.perm h3⟩
 refine AD.sound (id:=id) hh (fun _ _ _ _ _ _ hs he h=>OD b7 hh b2 b3 b4 (Nat.le_of_ble_eq_true b5) ht hs he h) h
  ⟨by rw [List.drop_zero]; exact (eq_of_beq b6).symm,by rw [List.drop_zero]; exact ho,Nat.zero_le _⟩ B o hm r w Fd Z (hf.sound ha) hX ⟨[],rfl,⟨fun _ h=>absurd h List.not_mem_nil,fun _ h=>absurd h List.not_mem_nil,fun i s h=>by simp at h,List.nodup_nil,fun _ _ _ h1 h2=>wQ l (BQ b3) h1 h2⟩,fun j hj=>absurd hj (Nat.not_lt_zero j)⟩
theorem K2 {id:Nat} (hd:QE) (mt:Nat) (Zl:LN) (U as:LL) {ops:LO} {Γ Γ1:QE} {fr:Fr} {m:Option (Out S R)}
  (hB:(P.follows .mixedOrders && cu cx.n l && um l mt Zl && zW l mt Zl && Nat.ble mt l.length && (iu l U mt == as) && ((List.range mt).all fun i=>(U.getD i []).all fun u=>Nat.beq u l.length || ((bp l).getD i []).contains u))=true)
  (ho:ops=l.take mt) (ht:tail=l.drop mt) (hf:Kp (vu ops) none fr base) (hh:j4 l mt base=true) (he:EO Γ hd Γ1) (IW:OW Γ hd)
  (h:AD false P cx K l tail base U hd (.a as ops 0 [] [] Γ1 m)):Bx (lz P cx (.dr id l K Γ fr m)):=by
 have hm:P.follows .mixedOrders=true:=by
  simp only [Bool.and_eq_true] at hB
  exact hB.1.1.1.1.1.1
 rw [ma]
 intro B o xZ r w ha hs
 exact (WK (id:=id) hd mt Zl U as hB ho ht hf hh he IW h B o xZ r w ha hs).W hm
theorem any {id:Nat} (mt:Nat) (Zl:LN) (U as:LL) {ops:LO} {Γ:QE} {fr:Fr} {m:Option (Out S R)}
  (hB:(P.follows .mixedOrders && cu cx.n l && um l mt Zl && zW l mt Zl && Nat.ble mt l.length && (iu l U mt == as) && ((List.range mt).all fun i=>(U.getD i []).all fun u=>Nat.beq u l.length || ((bp l).getD i []).contains u))=true)
  (ho:ops=l.take mt) (ht:tail=l.drop mt) (hf:Kp (vu ops) none fr base) (hh:j4 l mt base=true)
  (h:AD false P cx K l tail base U [] (.a as ops 0 [] [] Γ m)):Bx (lz P cx (.dr id l K Γ fr m)):=K2 [] mt Zl U as hB ho ht hf hh .nil .nil h
end
end Go.Dk
