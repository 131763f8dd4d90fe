/- A calculus of walks: regions that draw their order and make memory. No condition. -/
import Derived.Test.YtcnehblmgfbfoaaGreatDe
import Derived.Laws.Slices
namespace Go.Dk
open Go Go.Li
section
variable {w:World}
end
structure ey where
 j:Nat
 d:Nat
 src:List Nat
 V:Type
 rt:Value→V→Value
 ps:Value→V→List ay
abbrev MM:=List ey
def nj:List ey→Type
 | []=>Unit
 | a :: l=>a.V×nj l
def vY (f:NV):List Nat→Value
 | []=>undef
 | [t]=>f t
 | ts=>.tuple (ts.map f).toArray
def uH (f:Fr) (t:Nat):Value:=match look f t with
 | some v=>v
 | none=>undef
def vZ (a:ey) (r:NV):Value:=vY r a.src
def xk (a:ey) (f:Fr):Value:=vY (uH f) a.src
theorem x8 {f g:NV}:∀ {ts:LN},(∀ t∈ts,f t=g t)→vY f ts=vY g ts:=by
 intro ts h
 match ts,h with
 | [],_=>rfl
 | [t],h=>exact h t (by simp)
 | t :: s :: ts,h=>
  show Value.tuple (List.map f (t :: s :: ts)).toArray=Value.tuple (List.map g (t :: s :: ts)).toArray
  rw [List.map_congr_left h]
def mF:(ms:MM)→nj ms→Fr
 | [],_=>[]
 | a :: l,x=>(a.d,a.rt (xk a (mF l x.2)) x.1) :: mF l x.2
def xm:(ms:MM)→nj ms→List ay
 | [],_=>[]
 | a :: l,x=>a.ps (xk a (mF l x.2)) x.1++xm l x.2
def oh (A:LN):(ms:MM)→nj ms→Fr
 | [],_=>[]
 | a :: l,x=>bif fq a.j A then (a.d,a.rt (xk a (mF l x.2)) x.1) :: oh A l x.2 else oh A l x.2
def qm (A:LN):(ms:MM)→nj ms→List ay
 | [],_=>[]
 | a :: l,x=>bif fq a.j A then a.ps (xk a (mF l x.2)) x.1++qm A l x.2 else qm A l x.2
def pS (t:Nat):List ey→Option Nat
 | []=>none
 | a :: l=>bif Nat.beq t a.d then some a.j else pS t l
def wa (ms:MM):List (Nat×Operand)→List Nat
 | []=>[]
 | (_,.tmp s) :: l=>match pS s ms with
  | some _=>s :: wa ms l
  | none=>wa ms l
 | _ :: l=>wa ms l
def TR (s:Nat):List Nat→Option Nat
 | []=>none
 | t :: l=>bif Nat.beq s t then some 0 else (TR s l).map (·+1)
def UX (v:Value) (k:Nat):Value:=match v with
 | .tuple vs=>vs.toList.getD k undef
 | _=>undef
def UY (f:Fr) (ts:LN) (u:Value):Operand→Value
 | .tmp s=>match TR s ts with
  | some k=>(match ts with
   | [_]=>u
   | _=>UX u k)
  | none=>uH f s
 | x=>match bx f x with
  | some v=>v
  | none=>undef
def Sx (k:Nat) (v:Value):List Value:=bif Nat.beq k 1 then [v] else match v with
 | .agg cs=>cs.toList
 | _=>[]
def LX (pl:List (Nat×Nat)):List (Nat×Value)→List Value→List Value
 | [],cs=>cs
 | (i,v) :: l,cs=>match B8 pl i with
  | some (off,k)=>LX pl l (cs.take off++Sx k v++cs.drop (off+k))
  | none=>cs
def OI (pl:List (Nat×Nat)) (f:Fr) (ts:LN) (ps:List (Nat×Operand)) (zc:LV) (u:Value):List Value:=LX pl (ps.map fun p=>(p.1,UY f ts u p.2)) zc
def TS (A:LN) (ms:MM) (ts:LN):Bool:=ts.all fun t=>match pS t ms with
 | some j=>fq j A
 | none=>false
def q9 (A:LN):List ey→Bool
 | []=>true
 | a :: l=>(bif fq a.j A then a.src.all (fun t=>match pS t l with
   | some j=>fq j A
   | none=>false) else true) && q9 A l
def wb:List ey→Bool
 | []=>true
 | a :: l=>a.src.all (fun t=>(pS t l).isSome) && wb l
theorem Cn {A:LN} {r:NV} {t:Nat}:∀ {ms:MM} {x:nj ms} {j:Nat},pS t ms=some j→fq j A=true→(∀ p∈oh A ms x,r p.1=p.2)→look (mF ms x) t=some (r t):=by
 intro ms
 induction ms with
 | nil=>intro x j h; cases h
 | cons a l ih=>
  intro x j h hj hp
  unfold pS at h
  unfold mF look
  cases hb:Nat.beq t a.d with
  | true=>
   rw [hb] at h
   cases h
   have:=hp (a.d,a.rt (xk a (mF l x.2)) x.1) (by unfold oh; rw [hj]; simp)
   simp only [cond_true]
   rw [Nat.eq_of_beq_eq_true hb,this]
  | false=>
   rw [hb] at h
   refine ih h hj fun p hm=>hp p ?_
   unfold oh
   cases fq a.j A with
   | true=>exact List.mem_cons_of_mem _ hm
   | false=>exact hm
theorem JL {r:NV} {t:Nat}:∀ {ms:MM} {x:nj ms},(pS t ms).isSome=true→(∀ p∈mF ms x,r p.1=p.2)→look (mF ms x) t=some (r t):=by
 intro ms
 induction ms with
 | nil=>intro x h; cases h
 | cons a l ih=>
  intro x h hp
  unfold pS at h
  unfold mF at hp ⊢
  unfold look
  cases hb:Nat.beq t a.d with
  | true=>
   simp only [cond_true]
   rw [Nat.eq_of_beq_eq_true hb,hp (a.d,a.rt (xk a (mF l x.2)) x.1) (by simp)]
  | false=>
   rw [hb] at h
   exact ih h fun p hm=>hp p (List.mem_cons_of_mem _ hm)
def HN (N:Nat→Prop) (w:World) (Δ:QE) (f:LN):Prop:=HL (fun _=>False) w Δ f∨∃ Fo Fr,f=Fo++Fr∧(sd Δ=false∧∀ b∈Fr,b < w.heap.size)∧HL (fun b=>N b∨b∈Fr) w Δ Fo
def Ht (N:Nat→Prop) (a:ey):List Nat→World→(Nat→Value)→Value→Prop:=fun f w r _=>∃ v:a.V,r a.d=a.rt (vZ a r) v∧HN N w (a.ps (vZ a r) v) f∧f.Nodup
def MV (N:Nat→Prop) (a:ey):List Nat→World→(Nat→Value)→Value→Prop:=fun f w r x=>∃ v:a.V,x=a.rt (vZ a r) v∧HN N w (a.ps (vZ a r) v) f∧f.Nodup
def Hu (N:Nat→Prop) (a:LN) (l:LO) (s:dx):Prop:=∀ f F (w w':World) (r r':NV) v,ao F w w'→(∀ b∈f,b ∉ F)→(∀ b∈F,¬ N b)→(∀ j∈a,∀ t,bg l j=some t→r' t=r t)→s.V f w r v→s.V f w' r' v
theorem Co.n {N:Nat→Prop} {a:LN} {l:LO} {s:dx} (h:Co a l s):Hu N a l s:=fun f F w w' r r' v hC hn _=>h f F w w' r r' v hC hn
section
variable {P:Program} {w w':World} {Z:Nat→Prop}
theorem HL.Sy {F H:LN} {Δ:QE} (h:HL (fun _=>False) w Δ F) (hC:ao H w w') (hd:∀ b∈F,b ∉ H):HL (fun _=>False) w' Δ F:=by
 induction h with
 | nil=>exact .nil
 | @own e f F Δ h _ ih=>exact .own (h.cw hC (fun _ _ h=>h) fun b hb hm=>hd b (List.mem_append_left _ hm) hb) (ih fun b hb=>hd b (List.mem_append_right _ hb))
 | @fact e F Δ h _ ih=>
  refine .fact ?_ (ih hd)
  cases e with
  | rd o T v x=>
   obtain ⟨g,h1,h2⟩:=h
   have hg:g=[]:=by
    cases g with
    | nil=>rfl
    | cons b g=>exact absurd (h2 b (by simp)) (by cases o <;> simp [rK])
   subst hg
   exact ⟨[],T.cw h1 hC (fun _ h=>absurd h List.not_mem_nil),fun _ h=>absurd h List.not_mem_nil⟩
  | ad o1 o2 v j T x=>obtain ⟨_,_,u,g,_,_,h3,_⟩:=h; exact absurd h3 (by cases o1 <;> simp [rK])
  | aw p cs=>
   have hc:cs=[]:=by
    cases cs with
    | nil=>rfl
    | cons c cs=>exact (h.2 (by simp)).elim
   subst hc
   exact ⟨fun j u hj=>by simp at hj,fun hn=>absurd rfl hn⟩
  | hd v j u=>exact absurd h.2.2.2 List.not_mem_nil
  | _=>exact h.elim
theorem HL.Sz {F H:LN} {Δ:QE} (h:HL Z w Δ F) (hC:ao H w w') (hz:∀ b∈H,¬ Z b) (hd:∀ b∈F,b ∉ H):HL Z w' Δ F:=by
 induction h with
 | nil=>exact .nil
 | @own e f F Δ h _ ih=>exact .own (h.cw hC hz fun b hb hm=>hd b (List.mem_append_left _ hm) hb) (ih fun b hb=>hd b (List.mem_append_right _ hb))
 | @fact e F Δ h _ ih=>exact .fact (h.cw hC hz fun _ _ h=>nomatch h) (ih hd)
theorem HN.cw {N:Nat→Prop} {f H:LN} {Δ:QE} (h:HN N w Δ f) (hC:ao H w w') (hd:∀ b∈f,b ∉ H) (hz:∀ b∈H,¬ N b):HN N w' Δ f:=by
 rcases h with h | ⟨Fo,Fr,rfl,h1,h2⟩
 ·exact .inl (h.Sy hC hd)
 ·exact .inr ⟨Fo,Fr,rfl,⟨h1.1,fun b hb=>Nat.lt_of_lt_of_le (h1.2 b hb) hC.size⟩,h2.Sz hC (fun b hb h=>h.elim (hz b hb) fun h=>hd b (List.mem_append_right _ h) hb) fun b hb=>hd b (List.mem_append_left _ hb)⟩
theorem HN.own {N:Nat→Prop} {f:LN} {Δ:QE} (h:HN N w Δ f) (ho:sd Δ=true):HL (fun _=>False) w Δ f:=by
 rcases h with h | ⟨_,_,_,h1,_⟩
 ·exact h
 ·rw [ho] at h1; cases h1.1
theorem HN.all {N:Nat→Prop} {f:LN} {Δ:QE} (h:HN N w Δ f):∃ Fo Fr,f=Fo++Fr∧(∀ b∈Fr,b < w.heap.size)∧HL (fun b=>N b∨b∈Fr) w Δ Fo:=by
 rcases h with h | ⟨Fo,Fr,rfl,h1,h2⟩
 ·exact ⟨f,[],by simp,fun b (h:b∈[])=>absurd h List.not_mem_nil,h.mono fun _ h=>h.elim⟩
 ·exact ⟨Fo,Fr,rfl,h1.2,h2⟩
theorem HL.up {F:LN} {Δ:QE} (h:HL (fun _=>False) w Δ F):HL Z w Δ F:=by
 induction h with
 | nil=>exact .nil
 | own h _ ih=>exact .own (h.mono fun _ h=>h.elim) ih
 | fact h _ ih=>exact .fact (h.mono (fun _ h=>h.elim) fun _ h=>h) ih
theorem HL.app {Δ Δ':QE} {F F':LN} (h:HL Z w Δ F) (k:HL Z w Δ' F'):HL Z w (Δ++Δ') (F++F'):=by
 induction h with
 | nil=>exact k
 | own h _ ih=>rw [List.append_assoc]; exact .own h ih
 | fact h _ ih=>exact .fact h ih
theorem E2 {a:ey} {r r':NV} (h:∀ t∈a.src,r' t=r t):vZ a r'=vZ a r:=x8 h
theorem Hv {l:LO} {a:LN} {b:Bool} {m:ey} (hs:∀ t∈m.src,∃ j∈a,bg l j=some t):Hu Z a l ⟨b,MV Z m⟩:=by
 intro f F w w' r r' x hC hn hz hr ⟨v,h1,h2,h3⟩
 have e:=E2 (a:=m) (r:=r) (r':=r') fun t ht=>by
  obtain ⟨j,hj,hd⟩:=hs t ht
  exact hr j hj t hd
 refine ⟨v,by rw [e]; exact h1,by rw [e]; exact h2.cw hC hn hz,h3⟩
theorem F7 {l:LO} {a:LN} {b:Bool} {m:ey} (hd:∃ j∈a,bg l j=some m.d) (hs:∀ t∈m.src,∃ j∈a,bg l j=some t):Hu Z a l ⟨b,Ht Z m⟩:=by
 intro f F w w' r r' x hC hn hz hr ⟨v,h1,h2,h3⟩
 have e:=E2 (a:=m) (r:=r) (r':=r') fun t ht=>by
  obtain ⟨j,hj,hd⟩:=hs t ht
  exact hr j hj t hd
 obtain ⟨j,hj,ZY⟩:=hd
 refine ⟨v,by rw [e,hr j hj _ ZY]; exact h1,by rw [e]; exact h2.cw hC hn hz,h3⟩
theorem fc.more {l:LO} {m i:Nat} {U:LL} {S S':List dx} {r0:NV} {w0:World} {H:LN} (h:fc P l m S U r0 w0 H i) (hi:i < S.length):fc P l m (S++S') U r0 w0 H i:=by
 intro o s ho hs g r w hC hV hO hn jf hd hf
 rw [List.getElem?_append_left hi] at hs
 refine h o s ho hs g r w hC hV (fun j hj d gw s' fg=>hO j hj d gw s' (by rw [List.getElem?_append_left (List.getElem?_eq_some_iff.1 fg).1]; exact fg)) (fun j hj=>?_) jf hd hf
 have:=hn j hj
 refine ⟨fun d gw=>?_,fun gw s' fg cb=>?_⟩
 ·have h2:=this.1 d gw
  by_cases hl:j < S.length
  ·rw [List.getElem?_append_left hl] at h2; exact h2
  ·rw [List.getElem?_eq_none (by omega)]; trivial
 ·exact this.2 gw s' (by rw [List.getElem?_append_left (List.getElem?_eq_some_iff.1 fg).1]; exact fg) cb
end
inductive dY (A:LN):Option (Bool×Nat×Value)→List (Nat×Nat×Value)→Fr→Fr→Prop
 | nil {base:Fr}:dY A none [] base base
 | cons {j d:Nat} {u:Value} {l:LQ} {base fr:Fr} (h:dY A (some (fq j A,d,u)) l base fr):dY A none ((j,d,u) :: l) base fr
 | cw {d:Nat} {u:Value} {l:LQ} {base fr:Fr} (h:dY A none l base fr):dY A (some (true,d,u)) l base ((d,u) :: fr)
 | drop {d:Nat} {u:Value} {l:LQ} {base fr:Fr} (h:dY A none l base fr):dY A (some (false,d,u)) l base fr
theorem sK.xi {Γ Γ':QE} {v:Addr} {o:Bool} {α:Type} {E:ag α} {x:α} {e:ay} (h:sK Γ v o E x e Γ') {Z:Nat→Prop} {w:World}:∀ {cur F:LN},SA Z w Γ cur F→(v.block∈cur∨v.block∈F)∨Z v.block:=by
 induction h with
 | @ad o1 o2 α E v j x e Γ=>
  intro cur F hS
  obtain ⟨⟨j0,j1,u,g,h1,h2,h3,h4⟩,h5⟩:=hS
  cases o1 with
  | false=>exact .inr h3
  | true=>exact .inl (.inl h3)
 | @there o2 α E v x e a Γ Γ' h ih=>
  intro cur F hS
  cases a with
  | own T v x=>obtain ⟨f,F',rfl,h2,h3⟩:=hS; exact (ih h3).imp (fun h=>.inr (List.mem_append.2 h)) id
  | om e E v xs=>obtain ⟨f,F',rfl,h2,h3⟩:=hS; exact (ih h3).imp (fun h=>.inr (List.mem_append.2 h)) id
  | row b cs e=>obtain ⟨f,F',rfl,h2,h3⟩:=hS; exact (ih h3).imp (fun h=>h.imp id (List.mem_append_right _)) id
  | dn e E v xs j u=>obtain ⟨f,F',rfl,h2,h3⟩:=hS; exact (ih h3).imp (fun h=>.inr (List.mem_append.2 h)) id
  | _=>exact ih hS.2
inductive VQ (P:Program) (Γ:QE) (fr:Fr):Op→Value→Prop
 | mv {x:OO} {v:Value} (hx:bx fr x=some v):VQ P Γ fr (.move x) v
 | as {x:OO} {v:Value} (hx:bx fr x=some v):VQ P Γ fr (.assign x) v
 | pick {c x y:OO} {b:Bool} {v:Value} (hc:bx fr c=some (.bool b)) (hx:(bif b then bx fr x else bx fr y)=some v):VQ P Γ fr (.pick c x y) v
 | not {x:OO} {t:TI} {b:Bool} (hx:bx fr x=some (.bool b)):VQ P Γ fr (.unOp .not t x) (.bool (!b))
 | Jz {x:OO} {a:Addr} (hx:bx fr x=some (.pointer (some a))):VQ P Γ fr (.nilCheck x) (.pointer (some a))
 | Oj {s k off:Nat} {x:OO} {a a':Addr} [hf:jo P s k off] (hx:bx fr x=some (.pointer (some a))) (ha:yN a off a'):VQ P Γ fr (.fieldAddr s x k) (.pointer (some a'))
 | len {x:OO} {v:Value} {t:TI} {n:Nat} [ht:wU P t] (hx:bx fr x=some v) (hr:sL Γ v n):VQ P Γ fr (.call ⟨.builtin .len,#[x],#[t]⟩) (.int .i64 (n:Int))
 | LR {t:TI} {ps:List (Nat×Operand)} {zc cs:LV} {pl:List (Nat×Nat)} [hb:xj P t zc pl] (hf:sY Γ fr pl ps zc cs):VQ P Γ fr (.build t ps.toArray) (.agg cs.toArray)
 | TU {κ υ:Type} {x y:OO} {v:Value} {t:TI} {bq:BEq κ} {ek:κ→Value} {eu:υ→Value} {xs:List (κ×υ)} {a:κ} {z0:υ} [ht:Hl P t κ υ bq ek eu] [hz:Oh P t υ eu z0] (hx:bx fr x=some v) (hy:bx fr y=some (ek a)) (hr:AY ek eu Γ v xs):VQ P Γ fr (.lookup t x y false) (eu ((qn xs a).getD z0))
theorem VQ.sound {P:Program} {Γ:QE} {fr:Fr} {op:Op} {u:Value} (h:VQ P Γ fr op u) {Z:Nat→Prop} {w:World} {cur F:LN} (hS:SA Z w Γ cur F) {r:NV} (ha:cf r fr) (d:Option Nat) (ty:TI) (pos:String) (ae:Array Edge) (g:Option (Nat×Bool)) :
  Rd P w r ⟨d,op,ty,pos,ae,g⟩ u:=by
 cases h with
 | mv hx=>exact Mv _ (bL ha hx)
 | as hx=>exact Av _ (bL ha hx)
 | @pick c x y b v hc hx=>
  intro w' _
  rw [EZ (bL ha hc)]
  cases b
  ·rw [← bL ha hx]; rfl
  ·rw [← bL ha hx]; rfl
 | not hx=>exact Nt (bL ha hx)
 | Jz hx=>exact Nk (bL ha hx)
 | @Oj s k off x a a' hf hx hq=>rw [hq.eq]; exact Fp hf.h (bL ha hx)
 | @len x v t n ht hx hr=>
  obtain ⟨b,c,rfl⟩:=hr.sound hS
  obtain ⟨e,i,h1,_,_⟩:=ht.h
  exact fun _ _=>zm h1 (bL ha hx)
 | @TU κ υ x y v t bq ek eu xs a z0 ht hz hx hy hr=>
  obtain ⟨f,hm⟩:=hr.sound hS
  obtain ⟨kt,vt,kd,h1,h2,h3⟩:=ht.h
  obtain ⟨kt',vt',i,g1,g2,g3⟩:=hz.h
  rw [h1] at g1
  cases g1
  exact fun w' hC=>F8 (ek:=ek) (sh:=eu) h3 h1 h2 g2 g3 (by rw [bL ha hx]; exact ag.cw _ hm hC fun _ _=>List.not_mem_nil) (bL ha hy)
 | @LR t ps zc cs pl hb hf=>
  obtain ⟨fs,i,z,h1,h2,h3,h4,h5⟩:=hb.h
  refine Bu ?_
  have:=hf.fill ha hS
  unfold Program.built
  rw [h3,h1]
  simp only [h4,h2]
  rw [show z.cells=zc.toArray by rw [← h5]]
  exact this
theorem dY.sound {A:LN} {q:Option (Bool×Nat×Value)} {sl:LQ} {base fr:Fr} {r:NV} (h:dY A q sl base fr) (hb:cf r base) :
  (∀ p∈sl,fq p.1 A=true→r p.2.1=p.2.2)→(∀ b d u,q=some (b,d,u)→b=true→r d=u)→cf r fr:=by
 induction h with
 | nil=>intro _ _; exact hb
 | @cons j d u l base fr _ ih=>
  intro h1 _
  refine ih hb (fun p hp=>h1 p (by simp [hp])) ?_
  rintro b d' u' he ZZ
  cases he
  exact h1 (j,d,u) (by simp) ZZ
 | @cw d u l base fr _ ih=>
  intro h1 h2
  intro s v hl
  unfold look at hl
  cases Cp:Nat.beq s d with
  | true=>rw [Cp] at hl; cases hl; rw [Nat.eq_of_beq_eq_true Cp]; exact h2 true d _ rfl rfl
  | false=>rw [Cp] at hl; exact ih hb h1 (fun _ _ _ h=>nomatch h) s v hl
 | drop _ ih=>intro h1 _; exact ih hb h1 (fun _ _ _ h=>nomatch h)
def vb:List (Nat×Nat×Value)→Fr→Fr
 | [],f=>f
 | (_,d,u) :: l,f=>(d,u) :: vb l f
inductive F9 (P:Program) (f:FuncId) (xs:List Operand) (fr:Fr) (Γ:QE) {β V:Type} (mo:Option β) (rt:β→V→List Value) (ps:β→V→List ay):Prop
 | mk {vs:LV} {Δ:QE} (hx:u7 fr xs=some vs) (hc:Ct P f true mo vs Δ rt ps) (hd:FO Δ) (hr:ER true Γ Δ):F9 P f xs fr Γ mo rt ps
inductive TV (P:Program) (f:FuncId):Prop
 | mk [h:bm P f]:TV P f
inductive Ga (P:Program) (f:FuncId) (as bs:LV) (xs:List Operand) (fr:Fr) (Γ:QE) {β V:Type} (mo:Option β) (rt:β→V→List Value) (ps:β→V→List ay):Prop
 | mk {vs us ws:LV} {Δ:QE} (hx:u7 fr xs=some vs) (h1:gp vs bs us) (h2:gp as us ws) (hc:Ct P f true mo ws Δ rt ps) (hd:FO Δ) (hr:ER true Γ Δ):Ga P f as bs xs fr Γ mo rt ps
inductive pT:List ey→Prop
 | nil:pT []
 | cons {a:ey} {l:MM} (h:zj a.V) (k:pT l):pT (a :: l)
theorem pT.ne {ms:MM} (h:pT ms):Nonempty (nj ms):=by
 induction h with
 | nil=>exact ⟨()⟩
 | cons h _ ih=>obtain ⟨a⟩:=h.ne; obtain ⟨b⟩:=ih; exact ⟨(a,b)⟩
inductive Cq:List ey→Nat→Bool→Prop
 | here {a:ey} {l:MM}:Cq (a :: l) a.d true
 | there {a:ey} {l:MM} {t:Nat} {b:Bool} (h:Cq l t b):Cq (a :: l) t b
 | nil {t:Nat}:Cq [] t false
inductive JM (fr:Fr) (Γ:QE) (t:Nat):Prop
 | mk {v:Value} (h:look fr t=some v) (hc:One Γ v):JM fr Γ t
inductive OJ (fr:Fr) (Γ:QE) (t n:Nat):Prop
 | mk {v:Value} (h:look fr t=some v) (hc:sL Γ v n):OJ fr Γ t n
inductive JA (R S:Type):Type 1
 | a (as:LL) (ops:LO) (i:Nat) (sl:LQ) (ms:MM) (Γ:QE) (m:Option (Out S R))
 | o (A:LN) (op:Op) (d:Nat) (ty:TI) (as:LL) (ops:LO) (i:Nat) (sl:LQ) (ms:MM) (Γ:QE) (m:Option (Out S R))
 | ow (b:Bool) (A:LN) (op:Op) (d:Nat) (ty:TI) (as:LL) (ops:LO) (i:Nat) (sl:LQ) (ms:MM) (Γ:QE) (m:Option (Out S R))
 | ix (b:Bool) (v:Value) (fr:Fr) (x y:OO) (t:TI) (A:LN) (d:Nat) (ty:TI) (as:LL) (ops:LO) (i:Nat) (sl:LQ) (ms:MM) (Γ:QE) (m:Option (Out S R))
 | lb (b:Bool) (v:Value) (j:Int) (fr:Fr) (t:TI) (x:OO) (A:LN) (d:Nat) (ty:TI) (as:LL) (ops:LO) (i:Nat) (sl:LQ) (ms:MM) (Γ:QE) (m:Option (Out S R))
 | ap (us:LN) (t1 t2:Nat) (t:TI) (A:LN) (d:Nat) (ty:TI) (as:LL) (ops:LO) (i:Nat) (sl:LQ) (ms:MM) (Γ:QE) (m:Option (Out S R))
 | la (fr:Fr) (ad:Addr) (lk:Option Nat) (t:TI) (x:OO) (A:LN) (d:Nat) (ty:TI) (as:LL) (ops:LO) (i:Nat) (sl:LQ) (ms:MM) (Γ:QE) (m:Option (Out S R))
 | ld {α:Type} (E:ag α) (z:α) (fr:Fr) (ad:Addr) (t:TI) (x:OO) (A:LN) (d:Nat) (ty:TI) (as:LL) (ops:LO) (i:Nat) (sl:LQ) (ms:MM) (Γ:QE) (m:Option (Out S R))
 | oc (us:LN) (f:FuncId) (xs:List Operand) (aw:Array TypeId) (A:LN) (d:Nat) (ty:TI) (as:LL) (ops:LO) (i:Nat) (sl:LQ) (ms:MM) (Γ:QE) (m:Option (Out S R))
 | os (A:LN) (op:Op) (ty:TI) (as:LL) (ops:LO) (i:Nat) (sl:LQ) (ms:MM) (Γ:QE) (m:Option (Out S R))
 | cr {V:Type} (u:V→Value) (ps:V→List ay) (d:Nat) (as:LL) (ops:LO) (i:Nat) (sl:LQ) (ms:MM) (Γ:QE) (m:Option (Out S R))
 | p (Δ:QE) (as:LL) (ops:LO) (i:Nat) (sl:LQ) (ms:MM) (Γ:QE) (m:Option (Out S R))
inductive E3:List ay→Value→Bool→Prop
 | here {α:Type} {T:ag α} {v:Value} {x:α} {Γ:QE}:E3 (.own T v x :: Γ) v true
 | there {e:ay} {v:Value} {b:Bool} {Γ:QE} (h:E3 Γ v b):E3 (e :: Γ) v b
 | nil {v:Value}:E3 [] v false
inductive rU:List ey→Nat→ey→List ey→Prop
 | here {a:ey} {l:MM}:rU (a :: l) a.d a l
 | there {a b:ey} {l l':MM} {t:Nat} (h:rU l t a l'):rU (b :: l) t a (b :: l')
inductive Cr:List ey→Nat→ey→List ey→Prop
 | here {a:ey} {l:MM}:Cr (a :: l) a.j a l
 | there {a b:ey} {l l':MM} {t:Nat} (h:Cr l t a l'):Cr (b :: l) t a (b :: l')
def Cs (sl:LQ) (j d:Nat) (b:Bool):Bool:=sl.any fun q=>Nat.beq q.1 j && (Nat.beq q.2.1 d && (match q.2.2 with | .bool c=>(bif b then c else !c) | _=>false))
theorem A6 {sl:LQ} {j d:Nat} {b:Bool} (h:Cs sl j d b=true):(j,d,.bool b)∈sl:=by
 unfold Cs at h
 rw [List.any_eq_true] at h
 obtain ⟨⟨j',d',v⟩,hq,h⟩:=h
 rw [Bool.and_eq_true,Bool.and_eq_true] at h
 obtain ⟨h1,h2,h3⟩:=h
 obtain rfl:j'=j:=Nat.eq_of_beq_eq_true h1
 obtain rfl:d'=d:=Nat.eq_of_beq_eq_true h2
 cases v with
 | bool c=>cases b <;> cases c <;> first | exact hq | (cases h3; done)
 | _=>cases h3
def LY (sl:LQ):List Nat→Bool
 | [j,d,b]=>Cs sl (j - 1000000) (d - 1000000) (Nat.beq b 1000001)
 | _=>true
def TW (U:LL) (sl:LQ):Bool:=bif Nat.ble 1000000 ((U.getLastD []).headD 0) then LY sl (U.getLastD []) else true
def vc (U:LL) (sl:LQ) (ms:MM):Bool:=(U.all fun us=>us.all fun j=>ms.all fun a=>!Nat.beq a.j j) && TW U sl
inductive AD {R S:Type} (tq:Bool) (P:Program) (cx:Cx R) (K:ch R S) (l tail:LO) (base:Fr) (U:LL):List ay→JA R S→Prop
 | nil {hd:QE} {i:Nat} {sl:LQ} {ms:MM} {Γ:QE} {m:Option (Out S R)} (Cu:wb ms=true) (he:vc U sl ms=true) (h:∀ x:nj ms,D P cx (.p (vb sl (mF ms x)) (xm ms x) base Γ fun fr Γ=>.tg tq (vW tail) l tail K Γ fr m)):AD tq P cx K l tail base U hd (.a [] [] i sl ms Γ m)
 | Z0 {hd:QE} {j d:Nat} {b:Bool} {q:Nat×Nat×Value} {as:LL} {ops:LO} {i:Nat} {sl:LQ} {ms:MM} {Γ:QE} {m:Option (Out S R)} (h:AD tq P cx K l tail base U hd (.a as ops i (q :: (j,d,.bool true) :: sl) ms Γ m)):AD tq P cx K l tail base U hd (.a as ops i ((j,d,.bool b) :: q :: sl) ms Γ (bif b then m else none))
 | Z1 {hd:QE} {j d:Nat} {b:Bool} {q:Nat×Nat×Value} {as:LL} {ops:LO} {i:Nat} {sl:LQ} {ms:MM} {Γ:QE} {m:Option (Out S R)} (h:AD tq P cx K l tail base U hd (.a as ops i (q :: (j,d,.bool false) :: sl) ms Γ m)):AD tq P cx K l tail base U hd (.a as ops i ((j,d,.bool b) :: q :: sl) ms Γ (bif b then none else m))
 | Z4 {hd:QE} {A:LN} {dst:Option Nat} {op:Op} {ty:TI} {pos:String} {ae:Array Edge} {j d:Nat} {p:Bool} {as:LL} {ops:LO} {i:Nat} {sl:LQ} {ms:MM} {Γ:QE} {m:Option (Out S R)} (gw:bg l j=some d) (hb:Cs sl j d (!p)=true) (hA:fq j A=true) (h:AD tq P cx K l tail base U hd (.a as ops (i+1) sl ms Γ m)):AD tq P cx K l tail base U hd (.a (A :: as) (⟨dst,op,ty,pos,ae,some (j,p)⟩ :: ops) i sl ms Γ m)
 | cons {hd:QE} {A:LN} {as:LL} {op:Op} {d:Nat} {ty:TI} {pos:String} {ae:Array Edge} {ops:LO} {i:Nat} {sl:LQ} {ms:MM} {Γ:QE} {m:Option (Out S R)} (h:AD tq P cx K l tail base U hd (.o A op d ty as ops i sl ms Γ m)) :
   AD tq P cx K l tail base U hd (.a (A :: as) (⟨some d,op,ty,pos,ae,none⟩ :: ops) i sl ms Γ m)
 | Gb {hd:QE} {A:LN} {as:LL} {op:Op} {ty:TI} {pos:String} {ae:Array Edge} {ops:LO} {i:Nat} {sl:LQ} {ms:MM} {Γ:QE} {m:Option (Out S R)} (h:AD tq P cx K l tail base U hd (.os A op ty as ops i sl ms Γ m)) :
   AD tq P cx K l tail base U hd (.a (A :: as) (⟨none,op,ty,pos,ae,none⟩ :: ops) i sl ms Γ m)
 | Ou {hd:QE} {t e:TI} {t1 j1 n:Nat} {y:OO} {u:Value} {us cs ds:LV} {Hx:MM} {fr:Fr} {A:LN} {as:LL} {ty:TI} {ops:LO} {i:Nat} {sl:LQ} {ms:MM} {Γ:QE} {m:Option (Out S R)} [ht:sg P t n]
   (h1:rU ms t1 ⟨j1,t1,[],Nat,fun _ b=>.pointer (some ⟨b,0,none⟩),fun _ b=>[.row b cs e]⟩ Hx) (hv:dY A none sl base fr) (hy:bx fr y=some u) (hc:pR Γ u us) (hn:us.length=n) (hs:qA us 0 cs ds) (ho:tE Γ us) (h4:fq j1 A=true) (h6:U.getD i []=[j1])
   (h:AD tq P cx K l tail base U hd (.a as ops (i+1) sl (⟨i,t1,[],Nat,fun _ b=>.pointer (some ⟨b,0,none⟩),fun _ b=>[.row b ds e]⟩ :: Hx) Γ m)):AD tq P cx K l tail base U hd (.os A (.store t (.tmp t1) y) ty as ops i sl ms Γ m)
 | Am {hd:QE} {α:Type} {A:LN} {as:LL} {d:Nat} {t e ty:TI} {E:ag α} {z0:α} {bt:Nat} {ops:LO} {i:Nat} {sl:LQ} {ms:MM} {Γ:QE} {m:Option (Out S R)} [hz:pI P t α e E z0 bt]
   (h:AD tq P cx K l tail base U hd (.a as ops (i+1) sl (⟨i,d,[],Value,fun _ v=>v,fun _ v=>[.own (aI e E) v []]⟩ :: ms) Γ m)):AD tq P cx K l tail base U hd (.o A (.buildSlice t 0 #[]) d ty as ops i sl ms Γ m)
 | Z5 {hd:QE} {t st e:Nat} {α:Type} {E:ag α} {z0:α} {bt:Nat} {b:Bool} {A:LN} {as:LL} {d:Nat} {ty:TI} {ops:LO} {i:Nat} {sl:LQ} {ms:MM} {Γ:QE} {m:Option (Out S R)} [hz:pI P st α e E z0 bt] (hw:Cq ms t b) (h:AD tq P cx K l tail base U hd (.ow b A (.buildSlice st 1 #[(0,.tmp t)]) d ty as ops i sl ms Γ m)):AD tq P cx K l tail base U hd (.o A (.buildSlice st 1 #[(0,.tmp t)]) d ty as ops i sl ms Γ m)
 | Z6 {hd:QE} {t e:TI} {n:Nat} {ps:List (Nat×Operand)} {us:LV} {fr:Fr} {A:LN} {as:LL} {d:Nat} {ty:TI} {ops:LO} {i:Nat} {sl:LQ} {ms:MM} {Γ:QE} {m:Option (Out S R)} [hz:AX P t e] (hv:dY A none sl base fr) (hl:rR Γ fr 0 ps us) (hn:us.length=n) (hb:(Nat.ble 1 n && Nat.ble n 16777216)=true)
   (h:AD tq P cx K l tail base U hd (.a as ops (i+1) sl (⟨i,d,[],Nat,fun _ b=>.slice (some ⟨b,0,none⟩) n n,fun _ b=>[.row b us e]⟩ :: ms) Γ m)):AD tq P cx K l tail base U hd (.o A (.buildSlice t n ps.toArray) d ty as ops i sl ms Γ m)
 | Z7 {hd:QE} {t e:TI} {n:Nat} {ps:List (Nat×Operand)} {us:LV} {fr:Fr} {A:LN} {as:LL} {d:Nat} {ty:TI} {ops:LO} {i:Nat} {sl:LQ} {ms:MM} {Γ:QE} {m:Option (Out S R)} [hz:ET P t e] (hv:dY A none sl base fr) (hl:rR Γ fr 0 ps us) (hn:us.length=n) (hb:(Nat.ble 1 n && Nat.ble n 16777216)=true)
   (h:AD tq P cx K l tail base U hd (.a as ops (i+1) sl (⟨i,d,[],Nat,fun _ b=>.slice (some ⟨b,0,none⟩) n n,fun _ b=>[.row b us e]⟩ :: ms) Γ m)):AD tq P cx K l tail base U hd (.o A (.buildSlice t n ps.toArray) d ty as ops i sl ms Γ m)
 | Z8 {hd:QE} {t:Nat} {b:Bool} {A:LN} {as:LL} {d:Nat} {ty:TI} {ops:LO} {i:Nat} {sl:LQ} {ms:MM} {Γ:QE} {m:Option (Out S R)} (hw:Cq ms t b) (h:AD tq P cx K l tail base U hd (.ow b A (.move (.tmp t)) d ty as ops i sl ms Γ m)):AD tq P cx K l tail base U hd (.o A (.move (.tmp t)) d ty as ops i sl ms Γ m)
 | Z9 {hd:QE} {t e:TI} {α:Type} {E:ag α} {z0:α} {bt:Nat} {u:Value} {x:OO} {fr:Fr} {A:LN} {as:LL} {d:Nat} {ty:TI} {ops:LO} {i:Nat} {sl:LQ} {ms:MM} {Γ:QE} {m:Option (Out S R)} [hz:pI P t α e E z0 bt] (hv:dY A none sl base fr) (hx:bx fr x=some u) (h1:One Γ u)
   (h:AD tq P cx K l tail base U hd (.a as ops (i+1) sl (⟨i,d,[],Nat,fun _ b=>.slice (some ⟨b,0,none⟩) 1 1,fun _ b=>[.row b [u] e]⟩ :: ms) Γ m)):AD tq P cx K l tail base U hd (.ow false A (.buildSlice t 1 #[(0,x)]) d ty as ops i sl ms Γ m)
 | sw5 {hd:QE} {t st:Nat} {b:Bool} {A:LN} {as:LL} {d:Nat} {ty:TI} {ops:LO} {i:Nat} {sl:LQ} {ms:MM} {Γ:QE} {m:Option (Out S R)} (hw:Cq ms t b) (h:AD tq P cx K l tail base U hd (.ow b A (.call ⟨.builtin .len,#[.tmp t],#[st]⟩) d ty as ops i sl ms Γ m)):AD tq P cx K l tail base U hd (.o A (.call ⟨.builtin .len,#[.tmp t],#[st]⟩) d ty as ops i sl ms Γ m)
 | mln {hd:QE} {t n:Nat} {st:TI} {A:LN} {as:LL} {d:Nat} {ty:TI} {ops:LO} {i:Nat} {sl:LQ} {ms:MM} {Γ:QE} {m:Option (Out S R)} [ht:wU P st] (hi:pT ms) (Cu:q9 A ms=true) (hx:∀ x:nj ms,OJ (oh A ms x) (qm A ms x) t n) (h:AD tq P cx K l tail base U hd (.a as ops (i+1) ((i,d,.int .i64 (n:Int)) :: sl) ms Γ m)):AD tq P cx K l tail base U hd (.ow true A (.call ⟨.builtin .len,#[.tmp t],#[st]⟩) d ty as ops i sl ms Γ m)
 | OK {hd:QE} {t:TI} {cs:LV} {A:LN} {as:LL} {d:Nat} {ty:TI} {ops:LO} {i:Nat} {sl:LQ} {ms:MM} {Γ:QE} {m:Option (Out S R)} [hz:uE P t cs] (h:AD tq P cx K l tail base U hd (.a as ops (i+1) sl (⟨i,d,[],Nat,fun _ b=>.pointer (some ⟨b,0,none⟩),fun _ b=>[.row b cs t]⟩ :: ms) Γ m)):AD tq P cx K l tail base U hd (.o A (.alloc t) d ty as ops i sl ms Γ m)
 | Ot {hd:QE} {us:LN} {t1 t2:Nat} {t:TI} {A:LN} {as:LL} {d:Nat} {ty:TI} {ops:LO} {i:Nat} {sl:LQ} {ms:MM} {Γ:QE} {m:Option (Out S R)} (hU:U.getD i []=us) (h:AD tq P cx K l tail base U hd (.ap us t1 t2 t A d ty as ops i sl ms Γ m)):AD tq P cx K l tail base U hd (.o A (.call ⟨.builtin .append,#[.tmp t1,.tmp t2],#[t,t]⟩) d ty as ops i sl ms Γ m)
 | wv {hd:QE} {op:Op} {u:Value} {fr:Fr} {A:LN} {as:LL} {d:Nat} {ty:TI} {ops:LO} {i:Nat} {sl:LQ} {ms:MM} {Γ:QE} {m:Option (Out S R)} (hv:dY A none sl base fr) (hq:VQ P Γ fr op u) (h:AD tq P cx K l tail base U hd (.a as ops (i+1) ((i,d,u) :: sl) ms Γ m)):AD tq P cx K l tail base U hd (.ow false A op d ty as ops i sl ms Γ m)
 | mbl {hd:QE} {t:TI} {ps:List (Nat×Operand)} {zc:LV} {pl:List (Nat×Nat)} {fr:Fr} {A:LN} {as:LL} {d:Nat} {ty:TI} {ops:LO} {i:Nat} {sl:LQ} {ms:MM} {Γ:QE} {m:Option (Out S R)} [hb:xj P t zc pl] (hi:pT ms) (Cu:q9 A ms=true) (mz:(wa ms ps).isEmpty=false) (hj:TS A ms (wa ms ps)=true) (hv:dY A none sl base fr)
   (hx:∀ x:nj ms,sY (qm A ms x++Γ) (oh A ms x++fr) pl ps zc (OI pl fr (wa ms ps) ps zc (vY (uH (mF ms x)) (wa ms ps))))
   (h:AD tq P cx K l tail base U hd (.a as ops (i+1) sl (⟨i,d,wa ms ps,Unit,fun u _=>.agg (OI pl fr (wa ms ps) ps zc u).toArray,fun _ _=>[]⟩ :: ms) Γ m)):AD tq P cx K l tail base U hd (.o A (.build t ps.toArray) d ty as ops i sl ms Γ m)
 | mlt {hd:QE} {t:Nat} {TX e:TI} {α:Type} {E:ag α} {z0:α} {bt:Nat} {A:LN} {as:LL} {d:Nat} {ty:TI} {ops:LO} {i:Nat} {sl:LQ} {ms:MM} {Γ:QE} {m:Option (Out S R)} [hz:pI P TX α e E z0 bt] (hi:pT ms) (Cu:q9 A ms=true) (hj:∃ j,pS t ms=some j∧fq j A=true) (hx:∀ x:nj ms,JM (oh A ms x) (qm A ms x) t)
   (h:AD tq P cx K l tail base U hd (.a as ops (i+1) sl (⟨i,d,[t],Nat,fun _ b=>.slice (some ⟨b,0,none⟩) 1 1,fun u b=>[.row b [u] e]⟩ :: ms) Γ m)):AD tq P cx K l tail base U hd (.ow true A (.buildSlice TX 1 #[(0,.tmp t)]) d ty as ops i sl ms Γ m)
 | mk {hd:QE} {t e:TI} {α:Type} {E:ag α} {z0:α} {bt:Nat} {x:OO} {z:Int} {fr:Fr} {f:Nat→Option (Out S R)} {A:LN} {as:LL} {d:Nat} {ty:TI} {ops:LO} {i:Nat} {sl:LQ} {ms:MM} {Γ:QE} [hz:pI P t α e E z0 bt] (hv:dY A none sl base fr) (hx:bx fr x=some (.int .i64 z))
   (h:∀ n,AD tq P cx K l tail base U hd (.a as ops (i+1) sl (⟨i,d,[],Value,fun _ v=>v,fun _ v=>[.own (aI e E) v (List.replicate n z0)]⟩ :: ms) Γ (f n))):AD tq P cx K l tail base U hd (.o A (.makeSlice t x x) d ty as ops i sl ms Γ (mk bt z>>=f))
 | ixs {hd:QE} {b:Bool} {v:Value} {x y:OO} {t:TI} {fr:Fr} {A:LN} {as:LL} {d:Nat} {ty:TI} {ops:LO} {i:Nat} {sl:LQ} {ms:MM} {Γ:QE} {m:Option (Out S R)} (hv:dY A none sl base fr) (hx:bx fr x=some v) (hw:E3 hd v b) (h:AD tq P cx K l tail base U hd (.ix b v fr x y t A d ty as ops i sl ms Γ m)):AD tq P cx K l tail base U hd (.o A (.indexAddr t x y) d ty as ops i sl ms Γ m)
 | idx {hd:QE} {α:Type} {A:LN} {as:LL} {d:Nat} {x y:OO} {v:Value} {k:IntKind} {j:Int} {t ty:TI} {o1 o2:Bool} {E:ag α} {xs:List α} {ops:LO} {i:Nat} {sl:LQ} {ms:MM} {fr:Fr} {Γ:QE} {Γ':α→List ay} {f:α→Option (Out S R)} [ht:wU P t]
   (hy:bx fr y=some (.int k j)) (hr:∀ z,qw Γ v o1 o2 E xs (.ad o1 o2 v j E z) (Γ' z)) (hE:E.size=1)
   (h:∀ z,AD tq P cx K l tail base U hd (.a as ops (i+1) ((i,d,.pointer (some (ep v 1 j))) :: sl) ms (Γ' z) (f z))):AD tq P cx K l tail base U hd (.ix false v fr x y t A d ty as ops i sl ms Γ (idx xs j>>=f))
 | load {hd:QE} {A:LN} {as:LL} {d:Nat} {x:OO} {a:Addr} {t ty:TI} {lk:Option Nat} {ops:LO} {i:Nat} {sl:LQ} {ms:MM} {fr:Fr} {Γ:QE} {m:Option (Out S R)} [ht:LK P t lk] (hv:dY A none sl base fr) (hx:bx fr x=some (.pointer (some a)))
   (h:AD tq P cx K l tail base U hd (.la fr a lk t x A d ty as ops i sl ms Γ m)):AD tq P cx K l tail base U hd (.o A (.load t x) d ty as ops i sl ms Γ m)
 | lsw {hd:QE} {b:Bool} {v:Value} {j:Int} {x:OO} {t:TI} {fr:Fr} {A:LN} {as:LL} {d:Nat} {ty:TI} {ops:LO} {i:Nat} {sl:LQ} {ms:MM} {Γ:QE} {m:Option (Out S R)} (hw:E3 hd v b) (h:AD tq P cx K l tail base U hd (.lb b v j fr t x A d ty as ops i sl ms Γ m)):AD tq P cx K l tail base U hd (.la fr (ep v 1 j) none t x A d ty as ops i sl ms Γ m)
 | Ol {hd:QE} {α:Type} {A:LN} {as:LL} {d:Nat} {x:OO} {v:Value} {j:Int} {o:Bool} {E:ag α} {z:α} {t ty:TI} {ops:LO} {i:Nat} {sl:LQ} {ms:MM} {fr:Fr} {Γ Γx:QE} {m:Option (Out S R)} (h:sK Γ (ep v 1 j) o E z uA Γx)
   (k:AD tq P cx K l tail base U hd (.ld E z fr (ep v 1 j) t x A d ty as ops i sl ms Γ m)):AD tq P cx K l tail base U hd (.lb false v j fr t x A d ty as ops i sl ms Γ m)
 | Om {hd:QE} {A:LN} {as:LL} {d:Nat} {x:OO} {a:Addr} {u:Value} {t ty:TI} {ops:LO} {i:Nat} {sl:LQ} {ms:MM} {fr:Fr} {Γ:QE} {m:Option (Out S R)} (h:rP Γ a u)
   (k:AD tq P cx K l tail base U hd (.a as ops (i+1) ((i,d,u) :: sl) ms Γ m)):AD tq P cx K l tail base U hd (.la fr a none t x A d ty as ops i sl ms Γ m)
 | Hn {hd:QE} {A:LN} {as:LL} {d n:Nat} {x:OO} {a:Addr} {ds:LV} {t ty:TI} {ops:LO} {i:Nat} {sl:LQ} {ms:MM} {fr:Fr} {Γ:QE} {m:Option (Out S R)} (h:rQ Γ a n ds)
   (k:AD tq P cx K l tail base U hd (.a as ops (i+1) ((i,d,.agg ds.toArray) :: sl) ms Γ m)):AD tq P cx K l tail base U hd (.la fr a (some n) t x A d ty as ops i sl ms Γ m)
 | Oo {hd:QE} {A:LN} {as:LL} {d:Nat} {x:OO} {a:Addr} {k:IntKind} {z:Int} {t ty:TI} {ops:LO} {i:Nat} {sl:LQ} {ms:MM} {fr:Fr} {Γ:QE} {m:Option (Out S R)}
   (h:AD tq P cx K l tail base U hd (.a as ops (i+1) ((i,d,.int k z) :: sl) ms Γ m)):AD tq P cx K l tail base U hd (.ld (aJ k) z fr a t x A d ty as ops i sl ms Γ m)
 | Oq {hd:QE} {α:Type} {A:LN} {as:LL} {d:Nat} {x:OO} {v:Value} {j:Int} {E:ag α} {z:List α} {o:Bool} {t ty:TI} {ops:LO} {i:Nat} {sl:LQ} {ms:MM} {fr:Fr} {Γ:QE} {Γ1 Γ':Value→List ay} {m:Option (Out S R)} (h:∀ u,sK Γ (ep v 1 j) o (bE E) z (.rd o (bE E) u z) (Γ1 u)) (h2:∀ u,xh (Γ1 u) v j u (Γ' u))
   (k:∀ u,AD tq P cx K l tail base U hd (.a as ops (i+1) ((i,d,u) :: sl) ms (Γ' u) m)):AD tq P cx K l tail base U hd (.ld (bE E) z fr (ep v 1 j) t x A d ty as ops i sl ms Γ m)
 | Hm {hd:QE} {us:LN} {A:LN} {as:LL} {d:Nat} {f:FuncId} {xs:List Operand} {aw:Array TypeId} {ty:TI} {ops:LO} {i:Nat} {sl:LQ} {ms:MM} {Γ:QE} {m:Option (Out S R)} (hU:U.getD i []=us) (h:AD tq P cx K l tail base U hd (.oc us f xs aw A d ty as ops i sl ms Γ m)):AD tq P cx K l tail base U hd (.o A (.call ⟨.value (.func f),xs.toArray,aw⟩) d ty as ops i sl ms Γ m)
 | UZ {hd:QE} {β V:Type} {A:LN} {as:LL} {d:Nat} {f:FuncId} {fs bs:LV} {xo:OO} {xs:List Operand} {aw:Array TypeId} {ty:TI} {mo:Option β} {rt:β→V→List Value} {ps:β→V→List ay} {ops:LO} {i:Nat} {sl:LQ} {ms:MM} {fr:Fr} {Γ:QE} {g:β→Option (Out S R)}
   (hv:dY A none sl base fr) (hx:bx fr xo=some (.func (.func f) fs.toArray bs.toArray)) (hf:TV P f) (hc:∀ x:nj ms,Ga P f fs bs xs (oh A ms x++fr) (qm A ms x++Γ) mo rt ps) (hi:pT ms) (Cu:q9 A ms=true) (ho:∀ y v,sd (ps y v)=true)
   (h:∀ y,AD tq P cx K l tail base U hd (.cr (fun v=>qX (rt y v)) (ps y) d as ops i sl ms Γ (g y))):AD tq P cx K l tail base U hd (.o A (.call ⟨.value xo,xs.toArray,aw⟩) d ty as ops i sl ms Γ (mo>>=g))
 | call {hd:QE} {β V:Type} {A:LN} {as:LL} {d:Nat} {f:FuncId} {xs:List Operand} {aw:Array TypeId} {ty:TI} {mo:Option β} {rt:β→V→List Value} {ps:β→V→List ay} {ops:LO} {i:Nat} {sl:LQ} {ms:MM} {fr:Fr} {Γ:QE} {g:β→Option (Out S R)} [hf:bm P f]
   (hv:dY A none sl base fr) (hc:∀ x:nj ms,F9 P f xs (oh A ms x++fr) (qm A ms x++Γ) mo rt ps) (hi:pT ms) (Cu:q9 A ms=true) (ho:∀ y v,sd (ps y v)=true)
   (h:∀ y,AD tq P cx K l tail base U hd (.cr (fun v=>qX (rt y v)) (ps y) d as ops i sl ms Γ (g y))):AD tq P cx K l tail base U hd (.oc [] f xs aw A d ty as ops i sl ms Γ (mo>>=g))
 | crv {hd:QE} {u:Unit→Value} {d:Nat} {as:LL} {ops:LO} {i:Nat} {sl:LQ} {ms:MM} {Γ:QE} {m:Option (Out S R)} (h:AD tq P cx K l tail base U hd (.a as ops (i+1) ((i,d,u ()) :: sl) ms Γ m)):AD tq P cx K l tail base U hd (.cr u (fun _=>[]) d as ops i sl ms Γ m)
 | crm {hd:QE} {V:Type} {u:V→Value} {ps:V→List ay} {d:Nat} {as:LL} {ops:LO} {i:Nat} {sl:LQ} {ms:MM} {Γ:QE} {m:Option (Out S R)} (h:AD tq P cx K l tail base U hd (.a as ops (i+1) sl (⟨i,d,[],V,fun _=>u,fun _=>ps⟩ :: ms) Γ m)):AD tq P cx K l tail base U hd (.cr u ps d as ops i sl ms Γ m)
 | val {hd:QE} {A:LN} {as:LL} {op:Op} {d:Nat} {ty:TI} {u:Value} {ops:LO} {i:Nat} {sl:LQ} {ms:MM} {fr:Fr} {Γ:QE} {m:Option (Out S R)} (hv:dY A none sl base fr) (hq:VQ P Γ fr op u)
   (h:AD tq P cx K l tail base U hd (.a as ops (i+1) ((i,d,u) :: sl) ms Γ m)):AD tq P cx K l tail base U hd (.o A op d ty as ops i sl ms Γ m)
 | TY {hd gw:QE} {α:Type} {t e et:TI} {E:ag α} {z0:α} {bt t1 t2 j2:Nat} {v yv:Value} {y:α} {z:List α} {fr:Fr} {zq:MM} {f:Unit→Option (Out S R)} {A:LN} {as:LL} {d:Nat} {ty:TI} {ops:LO} {i:Nat} {sl:LQ} {ms:MM} {Γ:QE} [hT:pI P t α e E z0 bt]
   (hV:((U.set i []).all fun us=>!(us.contains l.length))=true) (hv:dY A none sl base fr) (hs:look fr t1=some v) (h2:rU ms t2 ⟨j2,t2,[],Nat,fun _ b=>.slice (some ⟨b,0,none⟩) 1 1,fun _ b=>[.row b [yv] et]⟩ zq) (h5:fq j2 A=true) (h1:dh hd (.own (aI e E) v z) gw) (hy:zk [] E yv y [])
   (h:AD tq P cx K l tail base U gw (.a as ops (i+1) sl (⟨i,d,[],Value,fun _ v'=>v',fun _ v'=>[.own (aI e E) v' (z++[y])]⟩ :: ms) Γ (f ()))):AD tq P cx K l tail base U hd (.ap [l.length] t1 t2 t A d ty as ops i sl ms Γ (fits bt (z.length+1)>>=f))
 | TZ {hd gw:QE} {t e e3 et:TI} {kk:IntKind} {z0:List Int} {bt t1 t2 t3 j2 j3 n:Nat} {v:Value} {us:LV} {ys:List Int} {z:List (List Int)} {fr:Fr} {zq Hy:MM} {f:Unit→Option (Out S R)} {A:LN} {as:LL} {d:Nat} {ty:TI} {ops:LO} {i:Nat} {sl:LQ} {ms:MM} {Γ:QE} [hT:pI P t (List Int) e (aI e3 (aJ kk)) z0 bt]
   (hV:((U.set i []).all fun us=>!(us.contains l.length))=true) (hv:dY A none sl base fr) (hs:look fr t1=some v) (h2:rU ms t2 ⟨j2,t2,[t3],Nat,fun _ b=>.slice (some ⟨b,0,none⟩) 1 1,fun u b=>[.row b [u] et]⟩ zq) (h3:rU zq t3 ⟨j3,t3,[],Nat,fun _ b=>.slice (some ⟨b,0,none⟩) n n,fun _ b=>[.row b us e3]⟩ Hy) (h5:fq j2 A=true) (h6:fq j3 A=true) (h1:dh hd (.own (aI e (aI e3 (aJ kk))) v z) gw) (hi:yt kk us ys) (hn:us.length=n) (hb:Nat.ble n 16777216=true)
   (h:AD tq P cx K l tail base U gw (.a as ops (i+1) sl (⟨i,d,[],Value,fun _ v'=>v',fun _ v'=>[.own (aI e (aI e3 (aJ kk))) v' (z++[ys])]⟩ :: Hy) Γ (f ()))):AD tq P cx K l tail base U hd (.ap [l.length,j3] t1 t2 t A d ty as ops i sl ms Γ (fits bt (z.length+1)>>=f))
end Go.Dk
namespace Go.Dk
open Go Go.Li
theorem pU {t:Nat} {l:LN}:fq t l=true↔t∈l:=by
 induction l with
 | nil=>simp [fq]
 | cons a l ih=>
  unfold fq
  cases hb:Nat.beq t a with
  | true=>simp [Nat.eq_of_beq_eq_true hb]
  | false=>simp only [cond_false,ih,List.mem_cons]; exact ⟨.inr,fun h=>h.resolve_left fun e=>by rw [e,Nat.beq_refl] at hb; cases hb⟩
def gq (l:LO) (U:LL) (mt:Nat):List (List Nat):=(List.range mt).map fun i=>(List.range l.length).filter (oj l U mt i)
theorem qN {l:LO} {U:LL} {mt i j:Nat} (h:j∈(gq l U mt).getD i []):j∈(bn l).getD i []∧oj l U mt i j=true:=by
 unfold gq at h
 rw [List.getD_eq_getElem?_getD,List.getElem?_map] at h
 by_cases hi:i < mt
 ·rw [List.getElem?_range hi] at h
  have h1:=(List.mem_filter.1 h).2
  refine ⟨?_,h1⟩
  unfold oj at h1
  rw [Bool.and_eq_true] at h1
  simpa using h1.1
 ·rw [List.getElem?_eq_none (by simpa using hi)] at h
  exact absurd h List.not_mem_nil
variable {Z:Nat→Prop}
structure fy (Z:Nat→Prop) (l:LO) (S:List dx) (sl:LQ) (ms:MM):Prop where
 v:∀ p∈sl,∃ j,(j=p.1∨j∈(bn l).getD p.1 [])∧bg l j=some p.2.1∧∃ s,S[j]? = some s∧s.b=true∧∀ f w r x,s.V f w r x→x=p.2.2
 m:∀ a∈ms,(S[a.j]? = some ⟨true,MV Z a⟩∧bg l a.j=some a.d)∨(S[a.j]? = some ⟨true,Ht Z a⟩∧bg l a.j=none∧∃ k∈(bn l).getD a.j [],bg l k=some a.d)
 s:∀ i s,S[i]? = some s→Hu Z ((bn l).getD i []) l s
 d:(ms.map (·.j)).Nodup
 t:∀ i j k,j∈(bn l).getD k []→k∈(bn l).getD i []→j∈(bn l).getD i []
theorem fy.lt {l:LO} {S:List dx} {sl:LQ} {ms:MM} (h:fy Z l S sl ms) {a:ey} (ha:a∈ms):a.j < S.length:=by
 rcases h.m a ha with h | h <;> exact (List.getElem?_eq_some_iff.1 h.1).1
theorem fy.Cv {l:LO} {S S2:List dx} {sl:LQ} {ms:MM} (h:fy Z l S sl ms) {a:ey} (ha:a∈ms) {g:Nat→List Nat} {r:NV} {w:World} (hd:ra l (S++S2) a.j g r w):MV Z a (g a.j) w r (r a.d):=by
 rcases h.m a ha with h1 | h1
 ·have h2:=hd.1 a.d h1.2
  rw [List.getElem?_append_left (List.getElem?_eq_some_iff.1 h1.1).1,h1.1] at h2
  exact h2
 ·obtain ⟨x,hx⟩:=hd.2 h1.2.1 _ (by rw [List.getElem?_append_left (List.getElem?_eq_some_iff.1 h1.1).1]; exact h1.1) rfl
  exact hx
theorem fy.slot {l:LO} {S:List dx} {sl:LQ} {ms:MM} (h:fy Z l S sl ms) {a:ey} (ha:a∈ms) {i:Nat} (hi:a.j∈(bn l).getD i []):∃ k∈(bn l).getD i [],bg l k=some a.d:=by
 rcases h.m a ha with h1 | ⟨_,_,k,hk,hd⟩
 ·exact ⟨a.j,hi,h1.2⟩
 ·exact ⟨k,h.t i k a.j hk hi,hd⟩
theorem fy.qg {l:LO} {S S2:List dx} {sl:LQ} {ms:MM} (h:fy Z l S sl ms) {a:ey} (ha:a∈ms):((S++S2)[a.j]? = some ⟨true,MV Z a⟩∧bg l a.j=some a.d)∨((S++S2)[a.j]? = some ⟨true,Ht Z a⟩∧bg l a.j=none∧∃ k∈(bn l).getD a.j [],bg l k=some a.d):=by
 rw [List.getElem?_append_left (h.lt ha)]
 exact h.m a ha
theorem fy.Gc {l:LO} {S S2:List dx} {sl:LQ} {ms:MM} (h:fy Z l S sl ms) {p:Nat×Nat×Value} (hp:p∈sl):∃ j,(j=p.1∨j∈(bn l).getD p.1 [])∧bg l j=some p.2.1∧∃ s,(S++S2)[j]? = some s∧s.b=true∧∀ f w r x,s.V f w r x→x=p.2.2:=by
 obtain ⟨j,hj,h1,s,h2,h3⟩:=h.v p hp
 exact ⟨j,hj,h1,s,by rw [List.getElem?_append_left (List.getElem?_eq_some_iff.1 h2).1]; exact h2,h3⟩
theorem fy.xn {l:LO} {S S2:List dx} {sl:LQ} {ms:MM} (h:fy Z l S sl ms) {p:Nat×Nat×Value} (hp:p∈sl) {r:NV} (ho:∀ j,(j=p.1∨j∈(bn l).getD p.1 [])→j < S.length→Old l (S++S2) j r):r p.2.1=p.2.2:=by
 obtain ⟨j,hj,h1,s,h2,h3,h4⟩:=h.v p hp
 have hl:=(List.getElem?_eq_some_iff.1 h2).1
 have:=ho j hj hl _ h1 s (by rw [List.getElem?_append_left hl]; exact h2)
 rw [if_pos h3] at this
 obtain ⟨f,w,hV⟩:=this
 exact h4 f w r _ hV
theorem fy.val {l:LO} {S:List dx} {sl:LQ} {ms:MM} (h:fy Z l S sl ms) {d:Nat} {u:Value} (hd:bg l S.length=some d):fy Z l (S++[sV u]) ((S.length,d,u) :: sl) ms:=by
 refine ⟨?_,fun a ha=>h.qg ha,?_,h.d,h.t⟩
 ·intro p hp
  rcases List.mem_cons.1 hp with rfl | hp
  ·exact ⟨S.length,.inl rfl,hd,sV u,by simp,rfl,fun _ _ _ _ h=>h⟩
  ·exact h.Gc hp
 ·intro i s hs
  by_cases hi:i < S.length
  ·rw [List.getElem?_append_left hi] at hs; exact h.s i s hs
  ·rw [List.getElem?_append_right (by omega)] at hs
   have vu:i - S.length=0:=by
    have:=(List.getElem?_eq_some_iff.1 hs).1
    simp at this; omega
   rw [vu] at hs
   cases hs
   exact Co.n Ge
theorem fy.mem {l:LO} {S:List dx} {sl:LQ} {ms:MM} (h:fy Z l S sl ms) {b:ey} (hj:b.j=S.length) (hd:bg l S.length=some b.d) (jq:∀ t∈b.src,∃ j∈(bn l).getD S.length [],bg l j=some t):fy Z l (S++[⟨true,MV Z b⟩]) sl (b :: ms):=by
 have bj:∀ a∈ms,a.j < S.length:=fun a ha=>h.lt ha
 refine ⟨fun p hp=>?_,?_,?_,?_,h.t⟩
 ·exact h.Gc hp
 ·intro a ha
  rcases List.mem_cons.1 ha with rfl | ha
  ·exact .inl ⟨by rw [hj]; simp,by rw [hj]; exact hd⟩
  ·exact h.qg ha
 ·intro i s hs
  by_cases hi:i < S.length
  ·rw [List.getElem?_append_left hi] at hs; exact h.s i s hs
  ·rw [List.getElem?_append_right (by omega)] at hs
   have vu:i - S.length=0:=by
    have:=(List.getElem?_eq_some_iff.1 hs).1
    simp at this; omega
   have OL:i=S.length:=by omega
   rw [vu] at hs
   cases hs
   rw [OL]
   exact Hv jq
 ·rw [List.map_cons,List.nodup_cons]
  refine ⟨fun hm=>?_,h.d⟩
  obtain ⟨a,ha,he⟩:=List.mem_map.1 hm
  have:=bj a ha
  omega
theorem fy.U0 {l:LO} {S:List dx} {sl:LQ} {ms:MM} (h:fy Z l S sl ms) {b:ey} (hj:b.j=S.length) (hd:bg l S.length=none) (hk:∃ k∈(bn l).getD S.length [],bg l k=some b.d) (jq:b.src=[]):fy Z l (S++[⟨true,Ht Z b⟩]) sl (b :: ms):=by
 have bj:∀ a∈ms,a.j < S.length:=fun a ha=>h.lt ha
 refine ⟨fun p hp=>?_,?_,?_,?_,h.t⟩
 ·exact h.Gc hp
 ·intro a ha
  rcases List.mem_cons.1 ha with rfl | ha
  ·exact .inr ⟨by rw [hj]; simp,by rw [hj]; exact hd,by rw [hj]; exact hk⟩
  ·exact h.qg ha
 ·intro i s hs
  by_cases hi:i < S.length
  ·rw [List.getElem?_append_left hi] at hs; exact h.s i s hs
  ·rw [List.getElem?_append_right (by omega)] at hs
   have vu:i - S.length=0:=by
    have:=(List.getElem?_eq_some_iff.1 hs).1
    simp at this; omega
   have OL:i=S.length:=by omega
   rw [vu] at hs
   cases hs
   rw [OL]
   exact F7 hk fun t ht=>by rw [jq] at ht; cases ht
 ·rw [List.map_cons,List.nodup_cons]
  refine ⟨fun hm=>?_,h.d⟩
  obtain ⟨a,ha,he⟩:=List.mem_map.1 hm
  have:=bj a ha
  omega
theorem ke {l:LO} {m:Nat} {base:Fr} {r r0:NV} (hh:jj l m base=true) (ha:cf r0 base) (ho:∀ t,(∀ j,j < m→bg l j≠some t)→r t=r0 t):cf r base:=by
 intro t v hl
 have hm:∃ u,(t,u)∈base:=by
  clear hh ha
  induction base with
  | nil=>cases hl
  | cons p base ih=>
   obtain ⟨a,u⟩:=p
   unfold look at hl
   cases hb:Nat.beq t a with
   | true=>exact ⟨u,by rw [Nat.eq_of_beq_eq_true hb]; simp⟩
   | false=>rw [hb] at hl; obtain ⟨u',h⟩:=ih hl; exact ⟨u',by simp [h]⟩
 obtain ⟨u,hu⟩:=hm
 rw [ho t fun j hj=>Hz hh (t,u) hu j hj]
 exact ha t v hl
section
variable {P:Program} {l:LO} {mt:Nat} {S:List dx} {sl:LQ} {ms:MM} {base fr:Fr} {r r0:NV} {w w0:World} {g:Nat→List Nat} {i:Nat} {A:LN} {U:LL}
theorem po (hR:fy Z l S sl ms) (hA:A=(gq l U mt).getD i []) (hv:dY A none sl base fr) (hb:cf r base) {S':List dx} (hO:∀ j∈(bn l).getD i [],Old l (S++S') j r):cf r fr:=by
 refine hv.sound hb ?_ (fun _ _ _ h=>nomatch h)
 intro p hp hm
 have hi:=(qN (by rw [← hA]; exact pU.1 hm)).1
 exact hR.xn hp fun j hj _=>hO j (hj.elim (fun e=>e ▸ hi) fun hj=>hR.t i j p.1 hj hi)
theorem JN {H:LN} {o:Oper} {u:Value} (hh:jj l mt base=true) (ha:cf r0 base) (hR:fy Z l S sl ms) (ho:l[S.length]? = some o) (hg:o.guard=none) (hA:A=(gq l U mt).getD S.length []) (hv:dY A none sl base fr)
  (h:∀ r,cf r fr→∀ w,ao H w0 w→(execOp (ev r) o).run P w = .ok (.value u) w):fc P l mt (S++[sV u]) U r0 w0 H S.length:=
 fc.val ho (by simp) hg fun g r w hC hO hn jf=>h r (po hR hA hv (ke hh ha jf) hO) w hC
end
end Go.Dk
namespace Go.Dk
open Go Go.Li
section
variable {R S:Type} {P:Program} {cx:Cx R} {K:ch R S} {l tail:LO} {base fr:Fr} {w:World} {Z:Nat→Prop} {U:LL}
def jg (P:Program) (Z:Nat→Prop) (l:LO) (mt:Nat) (U:LL) (r0:NV) (w0:World) (H:LN) (i:Nat) (sl:LQ) (ms:MM):Prop:=
 ∃ S:List dx,S.length=i∧fy Z l S sl ms∧∀ j,j < i→fc P l mt S U r0 w0 H j
def qh (B:Bs) (Z:Nat→Prop) (hd Γ:QE) (H:LN) (w:World):Prop:=∃ F Hd,(SA Z w hd [] Hd∧(∀ b∈Hd,b∈H∧b < w.heap.size)∧(∀ b∈H,b < w.heap.size)∧Hd.Nodup)∧SA Z w Γ [] F∧Gd B Z (H++F) w
theorem qh.stay {B:Bs} {Γ:QE} {F H:LN} {w w':World} (hS:SA Z w Γ [] F) (hG:Gd B Z (H++F) w) (hC:ao H w w'):SA Z w' Γ [] F:=
 hS.cw hC (fun b hb=>hG.apart b (List.mem_append_left _ hb)) (fun _ _=>List.not_mem_nil) (fun b hb hf=>(List.nodup_append.1 hG.nd).2.2 b hb b hf rfl)
def Fin (P:Program) (cx:Cx R) (K:ch R S) (l l0:LO) (mt:Nat) (U:LL) (hd:QE) (_id:Nat) (base:Fr) (i:Nat) (sl:LQ) (ms:MM) (Γ:QE) (m:Option (Out S R)):Prop:=
 ∀ B o,m=some o→∀ r0 w0 H Z,cf r0 base→qh B Z hd Γ H w0→jg P Z l mt U r0 w0 H i sl ms→kp P cx.n l0 (ir P cx B K o) r0 w0
structure sM (l:LO) (mt:Nat) (U:LL) (as:LL) (ops:LO) (i:Nat):Prop where
 a:as=(gq l U mt).drop i
 o:ops=(l.take mt).drop i
 le:i≤mt
structure ON (l:LO) (mt:Nat) (U:LL) (A:LN) (op:Op) (ty:TI) (as:LL) (ops:LO) (i:Nat):Prop where
 A:A=(gq l U mt).getD i []
 o:∃ pos ae,l[i]? = some ⟨none,op,ty,pos,ae,none⟩
 n:sM l mt U as ops (i+1)
theorem sM.Gb {mt:Nat} {A:LN} {as:LL} {op:Op} {ty:TI} {pos:String} {ae:Array Edge} {ops:LO} {i:Nat} (h:sM l mt U (A :: as) (⟨none,op,ty,pos,ae,none⟩ :: ops) i):ON l mt U A op ty as ops i:=by
 obtain ⟨h1,h2,h3⟩:=h
 have e1:(gq l U mt)[i]? = some A:=by
  have:=congrArg (fun x=>x[0]?) h1
  simpa using this.symm
 have e2:(l.take mt)[i]? = some ⟨none,op,ty,pos,ae,none⟩:=by
  have:=congrArg (fun x=>x[0]?) h2
  simpa using this.symm
 have t1:as=(gq l U mt).drop (i+1):=by
  have:=congrArg List.tail h1
  simpa [List.tail_drop] using this
 have t2:ops=(l.take mt).drop (i+1):=by
  have:=congrArg List.tail h2
  simpa [List.tail_drop] using this
 have hi:i < mt:=by
  have:=(List.getElem?_eq_some_iff.1 e1).1
  simpa [gq] using this
 rw [List.getElem?_take,if_pos hi] at e2
 exact ⟨by rw [List.getD_eq_getElem?_getD,e1]; rfl,⟨pos,ae,e2⟩,t1,t2,hi⟩
structure pV (l:LO) (mt:Nat) (U:LL) (A:LN) (op:Op) (d:Nat) (ty:TI) (as:LL) (ops:LO) (i:Nat):Prop where
 A:A=(gq l U mt).getD i []
 o:∃ pos ae,l[i]? = some ⟨some d,op,ty,pos,ae,none⟩
 n:sM l mt U as ops (i+1)
theorem sM.cons {mt:Nat} {A:LN} {as:LL} {op:Op} {d:Nat} {ty:TI} {pos:String} {ae:Array Edge} {ops:LO} {i:Nat} (h:sM l mt U (A :: as) (⟨some d,op,ty,pos,ae,none⟩ :: ops) i):pV l mt U A op d ty as ops i:=by
 obtain ⟨h1,h2,h3⟩:=h
 have e1:(gq l U mt)[i]? = some A:=by
  have:=congrArg (fun x=>x[0]?) h1
  simpa using this.symm
 have e2:(l.take mt)[i]? = some ⟨some d,op,ty,pos,ae,none⟩:=by
  have:=congrArg (fun x=>x[0]?) h2
  simpa using this.symm
 have t1:as=(gq l U mt).drop (i+1):=by
  have:=congrArg List.tail h1
  simpa [List.tail_drop] using this
 have t2:ops=(l.take mt).drop (i+1):=by
  have:=congrArg List.tail h2
  simpa [List.tail_drop] using this
 have hi:i < mt:=by
  have:=(List.getElem?_eq_some_iff.1 e1).1
  simpa [gq] using this
 rw [List.getElem?_take,if_pos hi] at e2
 exact ⟨by rw [List.getD_eq_getElem?_getD,e1]; rfl,⟨pos,ae,e2⟩,t1,t2,hi⟩
theorem sM.next {mt:Nat} {A:LN} {as:LL} {o:Oper} {ops:LO} {i:Nat} (h:sM l mt U (A :: as) (o :: ops) i):A=(gq l U mt).getD i []∧l[i]? = some o∧sM l mt U as ops (i+1):=by
 obtain ⟨h1,h2,h3⟩:=h
 have e1:(gq l U mt)[i]? = some A:=by
  have:=congrArg (fun x=>x[0]?) h1
  simpa using this.symm
 have e2:(l.take mt)[i]? = some o:=by
  have:=congrArg (fun x=>x[0]?) h2
  simpa using this.symm
 have t1:as=(gq l U mt).drop (i+1):=by
  have:=congrArg List.tail h1
  simpa [List.tail_drop] using this
 have t2:ops=(l.take mt).drop (i+1):=by
  have:=congrArg List.tail h2
  simpa [List.tail_drop] using this
 have hi:i < mt:=by
  have:=(List.getElem?_eq_some_iff.1 e1).1
  simpa [gq] using this
 rw [List.getElem?_take,if_pos hi] at e2
 exact ⟨by rw [List.getD_eq_getElem?_getD,e1]; rfl,e2,t1,t2,hi⟩
theorem jg.swap {mt:Nat} {i:Nat} {p q:Nat×Nat×Value} {sl:LQ} {ms:MM} {r0:NV} {w0:World} {H:LN} (h:jg P Z l mt U r0 w0 H i (p :: q :: sl) ms):jg P Z l mt U r0 w0 H i (q :: p :: sl) ms:=by
 obtain ⟨S,h1,h2,h3⟩:=h
 refine ⟨S,h1,⟨fun a ha=>h2.v a ?_,h2.m,h2.s,h2.d,h2.t⟩,h3⟩
 rcases List.mem_cons.1 ha with rfl | ha
 ·simp
 ·rcases List.mem_cons.1 ha with rfl | ha
  ·simp
  ·exact List.mem_cons_of_mem _ (List.mem_cons_of_mem _ ha)
theorem jg.skip {mt:Nat} {A:LN} {j d:Nat} {p:Bool} {dst:Option Nat} {op:Op} {ty:TI} {pos:String} {ae:Array Edge} {i:Nat} {sl:LQ} {ms:MM} {r0:NV} {w0:World} {H:LN} (h:jg P Z l mt U r0 w0 H i sl ms) (hA:A=(gq l U mt).getD i []) (ho:l[i]? = some ⟨dst,op,ty,pos,ae,some (j,p)⟩)
  (hd:bg l j=some d) (hb:Cs sl j d (!p)=true) (hj:fq j A=true):jg P Z l mt U r0 w0 H (i+1) sl ms:=by
 obtain ⟨S',hl,hR,hO⟩:=h
 subst hl
 have wV:j∈(bn l).getD S'.length []:=(qN (by rw [← hA]; exact pU.1 hj)).1
 have hm:=A6 hb
 have hR2:fy Z l (S'++[⟨false,fun _ _ _ _=>True⟩]) sl ms:=by
  refine ⟨fun q hq=>hR.Gc hq,fun a ha=>hR.qg ha,fun i s hs=>?_,hR.d,hR.t⟩
  by_cases hi:i < S'.length
  ·rw [List.getElem?_append_left hi] at hs; exact hR.s i s hs
  ·rw [List.getElem?_append_right (by omega)] at hs
   have vu:i - S'.length=0:=by
    have:=(List.getElem?_eq_some_iff.1 hs).1
    simp at this; omega
   rw [vu] at hs
   cases hs
   exact fun _ _ _ _ _ _ _ _ _ _ _ _=>trivial
 refine ⟨S'++[⟨false,fun _ _ _ _=>True⟩],by simp,hR2,fun k hk=>?_⟩
 by_cases h2:k < S'.length
 ·exact fc.more (hO k h2) h2
 ·obtain rfl:k=S'.length:=by omega
  intro o s cq hs g r w hC hV j4 hn jf me hf
  rw [ho] at cq
  obtain rfl:=Option.some.inj cq
  rw [List.getElem?_append_right (Nat.le_refl _),Nat.sub_self] at hs
  obtain rfl:_=s:=Option.some.inj hs
  rw [if_neg (by simp)]
  have hr:r d = .bool (!p):=hR.xn (S2:=[⟨false,fun _ _ _ _=>True⟩]) hm fun q hq _=>j4 q (hq.elim (fun e=>e ▸ wV) fun e=>hR.t _ _ _ e wV)
  unfold Region.wanted
  dsimp only
  rw [FY hd,hr]
  cases p <;> rfl
theorem jg.val {mt:Nat} {A:LN} {op:Op} {d:Nat} {ty:TI} {as:LL} {ops:LO} {i:Nat} {sl:LQ} {ms:MM} {r0:NV} {w0:World} {H:LN} {u:Value} (h:jg P Z l mt U r0 w0 H i sl ms) (hh:jj l mt base=true) (ha:cf r0 base) (h1:pV l mt U A op d ty as ops i)
  (hv:dY A none sl base fr) (hq:∀ r,cf r fr→∀ pos ae g w,ao H w0 w→(execOp (ev r) ⟨some d,op,ty,pos,ae,g⟩).run P w = .ok (.value u) w):jg P Z l mt U r0 w0 H (i+1) ((i,d,u) :: sl) ms:=by
 obtain ⟨S',hl,hR,hO⟩:=h
 subst hl
 obtain ⟨hA,⟨pos,ae,ho⟩,_⟩:=h1
 refine ⟨S'++[sV u],by simp,hR.val (by unfold bg; rw [ho]; rfl),fun j hj=>?_⟩
 by_cases h2:j < S'.length
 ·exact fc.more (hO j h2) h2
 ·obtain rfl:j=S'.length:=by omega
  exact JN hh ha hR ho rfl hA hv fun r hr=>hq r hr _ _ _
def JO (P:Program) (Z:Nat→Prop) (l:LO) (mt:Nat) (U:LL) (r0:NV) (w0:World) (H:LN) (i:Nat) (sl:LQ) (ms:MM) (a:ey):Prop:=
 ∃ S:List dx,S.length=i∧fy Z l S sl ms∧(∀ j,j < i→fc P l mt S U r0 w0 H j)∧
  ∀ V:List Nat→World→(Nat→Value)→Value→Prop,(∀ f w r x,MV Z a f w r x→∃ f',(∀ b∈f',b∈f)∧V f' w r x)→fc P l mt (S++[⟨true,V⟩]) U r0 w0 H i
theorem HL.front {Δ Γ:QE} {Fd F:LN} (h:HL Z w Δ Fd) (hs:SA Z w Γ [] F):SA Z w (Δ++Γ) [] (Fd++F):=by
 induction h with
 | nil=>exact hs
 | own h _ ih=>rw [List.append_assoc]; exact SA.cons ih h
 | fact h _ ih=>exact SA.fact ih h
def Ar (A:LN) (g:Nat→List Nat):List ey→List Nat
 | []=>[]
 | a :: l=>bif fq a.j A then g a.j++Ar A g l else Ar A g l
def HV (Z:Nat→Prop) (w:World) (Δ:QE) (B:LN):Prop:=∃ Vo Vr,(∀ b∈Vo++Vr,b∈B)∧(∀ b∈Vr,b < w.heap.size)∧HL (fun b=>Z b∨b∈Vr) w Δ Vo
theorem HV.front {Δ Γ:QE} {B F:LN} (h:HV Z w Δ B) (hs:SA Z w Γ [] F):∃ G:List Nat,(∀ b∈G,b∈B++F∧b < w.heap.size)∧∃ F':List Nat,(∀ b∈F',b∈G)∧SA (fun b=>Z b∨b∈G) w (Δ++Γ) [] F':=by
 obtain ⟨Vo,Vr,h1,h2,h3⟩:=h
 have hS:=h3.front (hs.mono (Z':=fun b=>Z b∨b∈Vr) (fun _ h=>.inl h) fun _ h=>h)
 refine ⟨Vr++(Vo++F),fun b hb=>?_,Vo++F,fun b hb=>List.mem_append_right _ hb,hS.mono (fun b h=>h.imp id fun h=>List.mem_append_left _ h) fun _ h=>h⟩
 rcases List.mem_append.1 hb with hb | hb
 ·exact ⟨List.mem_append_left _ (h1 b (List.mem_append_right _ hb)),h2 b hb⟩
 ·refine ⟨?_,hS.lt b hb⟩
  rcases List.mem_append.1 hb with hb | hb
  ·exact List.mem_append_left _ (h1 b (List.mem_append_left _ hb))
  ·exact List.mem_append_right _ hb
theorem HV.app {Δ Δ':QE} {f B:LN} (h:HN Z w Δ f) (k:HV Z w Δ' B):HV Z w (Δ++Δ') (f++B):=by
 obtain ⟨Fo,Fr,rfl,h1,h2⟩:=h.all
 obtain ⟨Vo,Vr,k1,k2,k3⟩:=k
 refine ⟨Fo++Vo,Fr++Vr,fun b hb=>?_,fun b hb=>(List.mem_append.1 hb).elim (h1 b) (k2 b),(h2.mono fun b h=>h.imp id fun h=>List.mem_append_left _ h).app (k3.mono fun b h=>h.imp id fun h=>List.mem_append_right _ h)⟩
 have:=fun h=>k1 b h
 simp only [List.mem_append] at hb this ⊢
 rcases hb with (h | h) | h | h
 ·exact .inl (.inl h)
 ·exact .inr (this (.inl h))
 ·exact .inl (.inr h)
 ·exact .inr (this (.inr h))
theorem SB {A:LN} {g:Nat→List Nat} {r:NV}:∀ {ms:MM},pT ms→q9 A ms=true→(∀ a∈ms,fq a.j A=true→MV Z a (g a.j) w r (r a.d))→
  ∃ x:nj ms,(∀ p∈oh A ms x,r p.1=p.2)∧HV Z w (qm A ms x) (Ar A g ms):=by
 intro ms
 induction ms with
 | nil=>intro _ _ _; exact ⟨(),fun p hp=>absurd hp List.not_mem_nil,[],[],fun b (h:b∈[])=>absurd h List.not_mem_nil,fun b (h:b∈[])=>absurd h List.not_mem_nil,.nil⟩
 | cons a ms ih=>
  intro hi jq h
  unfold q9 at jq
  rw [Bool.and_eq_true] at jq
  cases hi with
  | cons h1 h2=>
   obtain ⟨x,hx,hl⟩:=ih h2 jq.2 fun b hb=>h b (List.mem_cons_of_mem _ hb)
   cases hb:fq a.j A with
   | false=>
    obtain ⟨v⟩:=h1.ne
    refine ⟨(v,x),?_,?_⟩
    ·simp only [oh,hb,cond_false]; exact hx
    ·simp only [qm,Ar,hb,cond_false]; exact hl
   | true=>
    obtain ⟨v,e1,e2,_⟩:=h a (by simp) hb
    have es:vZ a r=xk a (mF ms x):=by
     have h3:=jq.1
     rw [hb,cond_true,List.all_eq_true] at h3
     refine x8 fun t ht=>?_
     have h4:=h3 t ht
     cases hj:pS t ms with
     | none=>rw [hj] at h4; cases h4
     | some j=>rw [hj] at h4; unfold uH; rw [Cn hj h4 hx]
    rw [es] at e1 e2
    refine ⟨(v,x),?_,?_⟩
    ·simp only [oh,hb,cond_true]
     intro p hp
     rcases List.mem_cons.1 hp with rfl | hp
     ·exact e1
     ·exact hx p hp
    ·simp only [qm,Ar,hb,cond_true]; exact HV.app e2 hl
theorem JP {t j:Nat}:∀ {ms:MM},pS t ms=some j→∃ a∈ms,a.j=j∧a.d=t:=by
 intro ms
 induction ms with
 | nil=>intro h; cases h
 | cons a l ih=>
  intro h
  unfold pS at h
  cases hb:Nat.beq t a.d with
  | true=>rw [hb] at h; cases h; exact ⟨a,by simp,rfl,(Nat.eq_of_beq_eq_true hb).symm⟩
  | false=>rw [hb] at h; obtain ⟨b,h1,h2⟩:=ih h; exact ⟨b,List.mem_cons_of_mem _ h1,h2⟩
theorem E4 {mt i:Nat} {A:LN} (hA:A=(gq l U mt).getD i []) {S':List dx} {sl:LQ} {ms:MM} {t:Nat} (hR:fy Z l S' sl ms) (hj:∃ j,pS t ms=some j∧fq j A=true):∃ j∈(bn l).getD i [],bg l j=some t:=by
 obtain ⟨j,h1,h2⟩:=hj
 obtain ⟨a,ha,rfl,rfl⟩:=JP h1
 exact hR.slot ha (qN (by rw [← hA]; exact pU.1 h2)).1
theorem xn {mt:Nat} {A:LN} {S' S2:List dx} {sl:LQ} {ms:MM} {g:Nat→List Nat} {r:NV} (hR:fy Z l S' sl ms) (hA:A=(gq l U mt).getD S'.length []) (hi:pT ms) (jq:q9 A ms=true) (hn:∀ j,oj l U mt S'.length j=true→ra l (S'++S2) j g r w) :
  ∃ x:nj ms,(∀ p∈oh A ms x,r p.1=p.2)∧HV Z w (qm A ms x) (Ar A g ms):=
 SB hi jq fun a hm hb=>by
  exact hR.Cv hm (hn a.j (qN (by rw [← hA]; exact pU.1 hb)).2)
theorem jg.mem {mt:Nat} {A:LN} {op:Op} {d:Nat} {ty:TI} {as:LL} {ops:LO} {i:Nat} {sl:LQ} {ms:MM} {r0:NV} {w0:World} {H:LN} {a:ey} (h:jg P Z l mt U r0 w0 H i sl ms) (h1:pV l mt U A op d ty as ops i) (haj:a.j=i) (had:a.d=d)
  (jq:∀ S',fy Z l S' sl ms→∀ t∈a.src,∃ j∈(bn l).getD i [],bg l j=some t)
  (hq:∀ S' S2,S'.length=i→fy Z l S' sl ms→∀ (g:Nat→List Nat) (r:NV) (w:World),ao H w0 w→(∀ j∈(bn l).getD S'.length [],Old l (S'++S2) j r)→(∀ j,oj l U mt S'.length j=true→ra l (S'++S2) j g r w)→(∀ t,(∀ j,j < mt→bg l j≠some t)→r t=r0 t)→∀ pos ae,
   dq P ⟨some d,op,ty,pos,ae,none⟩ r w fun v w'=>ao [] w w'∧∃ f,(∀ b∈f,w.heap.size≤b∧b < w'.heap.size)∧MV Z a f w' r v):jg P Z l mt U r0 w0 H (i+1) sl (a :: ms):=by
 obtain ⟨S',hl,hR,hO⟩:=h
 subst hl
 subst had
 obtain ⟨hA,⟨pos,ae,ho⟩,_⟩:=h1
 refine ⟨S'++[⟨true,MV Z a⟩],by simp,hR.mem haj (by unfold bg; rw [ho]; rfl) (jq S' hR),fun j hj=>?_⟩
 by_cases h2:j < S'.length
 ·exact fc.more (hO j h2) h2
 ·obtain rfl:j=S'.length:=by omega
  exact fc.JR (V:=MV Z a) ho (by simp) rfl fun g r w hC hO hn jf=>hq S' _ rfl hR g r w hC hO hn jf pos ae
theorem rU.sub {ms wW:MM} {a:ey} {t:Nat} (h:rU ms t a wW):a∈ms∧a.d=t∧(∀ b∈wW,b∈ms)∧(wW.map (·.j)).Sublist (ms.map (·.j)):=by
 induction h with
 | here=>exact ⟨by simp,rfl,fun b hb=>List.mem_cons_of_mem _ hb,by simp⟩
 | there _ ih=>
  obtain ⟨h1,h2,h3,h4⟩:=ih
  refine ⟨List.mem_cons_of_mem _ h1,h2,fun b hb=>?_,by simpa using h4⟩
  rcases List.mem_cons.1 hb with rfl | hb
  ·simp
  ·exact List.mem_cons_of_mem _ (h3 b hb)
theorem fy.sub {S':List dx} {sl:LQ} {ms wW:MM} (h:fy Z l S' sl ms) (hm:∀ b∈wW,b∈ms) (hn:(wW.map (·.j)).Sublist (ms.map (·.j))):fy Z l S' sl wW:=⟨h.v,fun a ha=>h.m a (hm a ha),h.s,h.d.sublist hn,h.t⟩
theorem dq.x7 {α:Type} {E:ag α} {F f k:LN} {t e:TI} {s x:OO} {i:TypeInfo} {z:Value} {sv yv:Value} {xs ys:List α} {r:NV} {w:World} {d:Option Nat} {ty:TI} {pos:String} {ae:Array Edge} (OP:∀ {h cs x f},E.rep h cs x f→f=[])
  (ht:P.underlying t=some (.slice e)) (hi:P.info? e=some i) (hz:i.zero=some z) (hs:i.size=1) (hE:E.size=1) (vv:z.oneCell'=true)
  (tJ:ev r s=sv) (hO:As (aI e E) xs f w sv) (hF:∀ b∈f,b∈F) (hx:ev r x=yv) (hy:(bE E).rep w.heap [yv] ys k)
  (hb:(xs.length+ys.length) * i.bytes≤140737488355328) (uI:xs.length+ys.length≤maxLen) :
  dq P ⟨d,.call ⟨.builtin .append,#[s,x],#[t,t]⟩,ty,pos,ae,none⟩ r w fun v w'=>ao F w w'∧∃ f',(∀ b∈f',(b∈F∨w.heap.size≤b)∧b < w'.heap.size)∧As (aI e E) (xs++ys) f' w' v:=by
 have o4:=A7 hy
 rcases Nat.eq_zero_or_pos ys.length with yu | yu
 ·obtain rfl:ys=[]:=List.eq_nil_of_length_eq_zero yu
  obtain ⟨b0,c0,Cw⟩:=rT hy
  obtain ⟨base,cap,hv,hr⟩:=hO.1
  obtain rfl:sv = .slice base xs.length cap:=by simpa using hv
  have JS:xs.length≤cap:=by
   rcases hr with ⟨_,rfl,rfl,_⟩ | ⟨_,_,_,_,_,_,h,_⟩
   ·simp
   ·exact h
  have oq:=vw (P:=P) (w:=w) (ty:=ty) ht hi (b:=base) (a:=b0) (c:=c0) JS
  subst Cw
  have SC:(execOp (ev r) ⟨d,.call ⟨.builtin .append,#[s,x],#[t,t]⟩,ty,pos,ae,none⟩).run P w = .ok (.value (.slice base xs.length cap)) w:=by
   simp only [execOp,resolve,invoke,builtin,Sem.run_bind,Sem.run_pure,Result.andThen_ok,List.map_toArray,List.map_cons,List.map_nil,tJ,hx,List.length_nil,oq]
  unfold dq
  rw [SC]
  exact ⟨ao.refl _ _,f,fun b hb=>⟨.inl (hF b hb),ag.lt _ hO.1 b hb⟩,by rw [List.append_nil]; exact hO⟩
 ·rcases o4 with rfl | ⟨a,c,news,g1,Cw,wc,ew,_⟩
  ·simp at yu
  ·obtain ⟨rfl,_⟩:=xp (h':=w.heap) OP ew
   obtain ⟨v,w',f',h,hC,BV,ea,dv⟩:=p7 (d:=d) (ty:=ty) (pos:=pos) (ae:=ae) (g:=none) ht hi hz (by rw [hs,hE]) (by rw [cells_one vv,hE]; rfl) tJ hO.1 hO.2 (hx.trans Cw) wc ew (fun _ h=>nomatch h) yu hb uI
   unfold dq
   rw [h]
   refine ⟨hC.mono hF,f',fun b hb=>⟨?_,ag.lt _ BV b hb⟩,BV,dv List.nodup_nil⟩
   rcases ea b hb with h | h | h
   ·exact .inl (hF b h)
   ·cases h
   ·exact .inr h
theorem ve {t:TI} {x y:OO} {i:TypeInfo} {b off:Nat} {cs us:LV} {e:TI} {r:NV} {d:Option Nat} {ty:TI} {pos:String} {ae:Array Edge} {gg:Option (Nat×Bool)}
  (hi:P.info? t=some i) (hs:us.length=i.size) (bo:Row w b cs e) (hl:off+us.length≤cs.length) (hx:ev r x = .pointer (some ⟨b,off,none⟩)) (hy:(ev r y).cells.toList=us) (hu:∀ u∈us,u.oneCell'=true) :
  (execOp (ev r) ⟨d,.store t x y,ty,pos,ae,gg⟩).run P w = .ok .skip (w.setRow b (cs.take off++us++cs.drop (off+us.length)).toArray):=by
 have h:=run_storeCells_at P b off e us 0 cs.toArray w bo (by simpa using hl) hu
 simp only [Nat.add_zero] at h
 have T0:(ev r y).cells=us.toArray:=by rw [← hy]
 simp only [execOp,Instr.storeAt,Instr.sureAddr,hx,storeVar]
 simp [T0,sizeOf,typeInfo,hi,hs,h]
theorem M9 {mt:Nat} {t e:TI} {t1 j1 n i:Nat} {y:OO} {u:Value} {us cs ds:LV} {ms Hx:MM} {sl:LQ} {A:LN} {ty:TI} {as:LL} {ops:LO} {r0:NV} {w0:World} {H:LN} {Γ:QE} {F:LN} (hh:jj l mt base=true) (ha:cf r0 base) (ht:sg P t n)
  (h1:rU ms t1 ⟨j1,t1,[],Nat,fun _ b=>.pointer (some ⟨b,0,none⟩),fun _ b=>[.row b cs e]⟩ Hx) (hv:dY A none sl base fr) (hy:bx fr y=some u) (hc:pR Γ u us) (sf:us.length=n) (hs:qA us 0 cs ds) (ho:tE Γ us) (h4:fq j1 A=true) (h6:U.getD i []=[j1])
  (hS:∀ w,ao H w0 w→SA Z w Γ [] F) (qf:ON l mt U A (.store t (.tmp t1) y) ty as ops i) (h:jg P Z l mt U r0 w0 H i sl ms) :
  jg P Z l mt U r0 w0 H (i+1) sl (⟨i,t1,[],Nat,fun _ b=>.pointer (some ⟨b,0,none⟩),fun _ b=>[.row b ds e]⟩ :: Hx):=by
 obtain ⟨S',hl,hR,hO⟩:=h
 subst hl
 obtain ⟨hA,⟨pos,ae,T1⟩,_⟩:=qf
 obtain ⟨ti,q1,q2⟩:=ht.h
 obtain ⟨m1,_,m3,m4⟩:=h1.sub
 have OQ:=qN (by rw [← hA]; exact pU.1 h4)
 refine ⟨S'++[⟨true,Ht Z ⟨S'.length,t1,[],Nat,fun _ b=>.pointer (some ⟨b,0,none⟩),fun _ b=>[.row b ds e]⟩⟩],by simp,(hR.sub m3 m4).U0 (b:=⟨S'.length,t1,[],Nat,fun _ b=>.pointer (some ⟨b,0,none⟩),fun _ b=>[.row b ds e]⟩) rfl (by unfold bg; rw [T1]; rfl) (hR.slot m1 OQ.1) rfl,fun j hj=>?_⟩
 by_cases bj:j < S'.length
 ·exact fc.more (hO j bj) bj
 ·obtain rfl:j=S'.length:=by omega
  intro o' s' cq fg g r w hC LZ j4 hn jf Au pL
  rw [T1] at cq
  cases cq
  rw [List.getElem?_append_right (Nat.le_refl _),Nat.sub_self] at fg
  cases fg
  rw [if_pos rfl]
  refine ⟨rfl,?_⟩
  obtain ⟨b,c1,c2,c3⟩:=hR.Cv m1 (hn j1 OQ.2)
  simp only at c1 c2
  replace c2:=c2.own rfl
  generalize Hi:g j1=G1 at c2 c3
  cases c2 with
  | fact h _=>exact h.elim
  | @own _ ff F0 _ U1 yQ=>
   cases yQ
   obtain ⟨rfl,bo⟩:=U1
   have hb:qo g (U.getD S'.length [])=[b]:=by rw [h6]; simp [qo,Hi]
   have hr:=po hR hA hv (ke hh ha jf) j4
   obtain ⟨e1,e2⟩:=hs.eq
   have Ck:=hS w hC
   have oq:=ve (P:=P) (d:=none) (ty:=ty) (pos:=pos) (ae:=ae) (gg:=none) q1 (by rw [sf,q2]) bo e1 (x:=.tmp t1) c1 (y:=y) (by rw [bL hr hy]; exact hc.eq Ck) (ho.one Ck)
   unfold dq
   rw [oq,hb]
   have sZ:=setRow_heap w b cs.toArray (cs.take 0++us++cs.drop (0+us.length)).toArray e _ bo
   have U2:b < w.heap.size:=bo.lt
   refine ⟨⟨rfl,rfl,rfl,Nat.le_refl _,by simp,fun j _ hj=>setRow_other w b j _ fun h=>hj (by simp [h])⟩,[b],fun b' cb=>?_,b,c1,?_,by simp⟩
   ·rw [List.mem_singleton.1 cb]
    exact ⟨.inl (by simp),by simpa using U2⟩
   ·refine .inl (HL.own (f:=[b]) ⟨rfl,?_⟩ .nil)
    rw [e2]
    exact sZ
theorem Na {mt:Nat} {t i d:Nat} {cs:LV} {sl:LQ} {ms:MM} {A:LN} {ty:TI} {as:LL} {ops:LO} {r0:NV} {w0:World} {H:LN} (hz:uE P t cs) (h1:pV l mt U A (.alloc t) d ty as ops i) (h:jg P Z l mt U r0 w0 H i sl ms) :
   jg P Z l mt U r0 w0 H (i+1) sl (⟨i,d,[],Nat,fun _ b=>.pointer (some ⟨b,0,none⟩),fun _ b=>[.row b cs t]⟩ :: ms):=by
 obtain ⟨i',z,t1,t2,t3⟩:=hz.h
 refine h.mem h1 rfl rfl (fun _ _ _ h=>nomatch h) fun S' S2 hl hR g r w hC j4 hn jf pos ae=>ot (dq.OK (cs:=cs) t1 t2 (by rw [← t3])) ?_
 rintro v w' ⟨hC,f,hf,b,e1,e2,bo⟩
 refine ⟨hC,f,hf,b,e2,?_,by rw [e1]; simp⟩
 have:=HL.own (Z:=fun _=>False) (e:=.row b cs t) (f:=[b]) ⟨rfl,bo⟩ .nil
 rw [e1]
 exact .inl (by simpa using this)
theorem OR {mt t n:Nat} {A:LN} {st:TI} {d:Nat} {ty:TI} {as:LL} {ops:LO} {i:Nat} {sl:LQ} {ms:MM} {r0:NV} {w0:World} {H:LN} (h:jg P Z l mt U r0 w0 H i sl ms) (h1:pV l mt U A (.call ⟨.builtin .len,#[.tmp t],#[st]⟩) d ty as ops i) (ht:wU P st) (hi:pT ms) (jq:q9 A ms=true) (hx:∀ x:nj ms,OJ (oh A ms x) (qm A ms x) t n):jg P Z l mt U r0 w0 H (i+1) ((i,d,.int .i64 (n:Int)) :: sl) ms:=by
 obtain ⟨S',hl,hR,hO⟩:=h
 subst hl
 obtain ⟨hA,⟨pos,ae,ho⟩,_⟩:=h1
 obtain ⟨e,i',q1,_,_⟩:=ht.h
 refine ⟨S'++[sV (.int .i64 (n:Int))],by simp,hR.val (by unfold bg; rw [ho]; rfl),fun j hj=>?_⟩
 by_cases h2:j < S'.length
 ·exact fc.more (hO j h2) h2
 ·obtain rfl:j=S'.length:=by omega
  refine fc.val (v:=.int .i64 (n:Int)) ho (by simp) rfl fun g r w hC j4 hn jf=>?_
  obtain ⟨x,hv,hE⟩:=xn hR hA hi jq hn
  obtain ⟨OS,OD⟩:=hx x
  have HA:=(tk hv xZ) t _ (by rw [List.append_nil]; exact OS)
  obtain ⟨_,_,_,_,hS⟩:=hE.front (Γ:=[]) (F:=[]) rfl
  rw [List.append_nil] at hS
  obtain ⟨b,c,rfl⟩:=OD.sound hS
  exact zm q1 (x:=.tmp t) HA
theorem Nb {mt:Nat} {t:TI} {ps:List (Nat×Operand)} {zc:LV} {pl:List (Nat×Nat)} {A:LN} {as:LL} {d:Nat} {ty:TI} {ops:LO} {i:Nat} {sl:LQ} {ms:MM} {fr:Fr} {hd Γ:QE} {B:Bs} {r0:NV} {w0:World} {H:LN} {X:Value→List Value} {ts:LN} (hh:jj l mt base=true) (hb:xj P t zc pl) (hi:pT ms) (jq:q9 A ms=true) (hj:TS A ms ts=true) (hv:dY A none sl base fr)
   (hx:∀ x:nj ms,sY (qm A ms x++Γ) (oh A ms x++fr) pl ps zc (X (vY (uH (mF ms x)) ts))) (h1:pV l mt U A (.build t ps.toArray) d ty as ops i) (ha:cf r0 base) (hs:qh B Z hd Γ H w0) (h:jg P Z l mt U r0 w0 H i sl ms) :
   jg P Z l mt U r0 w0 H (i+1) sl (⟨i,d,ts,Unit,fun u _=>.agg (X u).toArray,fun _ _=>[]⟩ :: ms):=by
 have T2:∀ t∈ts,∃ j,pS t ms=some j∧fq j A=true:=fun t ht=>by
  have:=List.all_eq_true.1 hj t ht
  cases hf:pS t ms with
  | none=>rw [hf] at this; cases this
  | some j=>rw [hf] at this; exact ⟨j,rfl,this⟩
 refine h.mem h1 rfl rfl (fun S' hR t' ht=>E4 h1.A hR (T2 t' ht)) ?_
 intro S' S2 hl hR g r w hC j4 hn jf pos ae
 have hA:=h1.A
 rw [← hl] at hA
 have hbs:=po hR hA hv (ke hh ha jf) j4
 obtain ⟨x,T3,tK⟩:=xn hR hA hi jq hn
 obtain ⟨F,Hd,⟨wX,wY,rb,wZ⟩,hS,hG⟩:=hs
 obtain ⟨G,_,_,_,my⟩:=tK.front (qh.stay hS hG hC)
 have e:vY (uH (mF ms x)) ts=vY r ts:=x8 fun t ht=>by
  obtain ⟨j,h2,h3⟩:=T2 t ht
  unfold uH
  rw [Cn h2 h3 T3]
 have hF:=hx x
 rw [e] at hF
 have oq:=(VQ.LR (P:=P) (hb:=hb) hF).sound my (tk T3 hbs) (some d) ty pos ae none w (ao.refl _ _)
 unfold dq
 rw [oq]
 exact ⟨ao.refl _ _,[],fun b hb=>absurd hb List.not_mem_nil,(),rfl,.inl .nil,List.nodup_nil⟩
theorem Nc {mt:Nat} {α:Type} {t e:TI} {E:ag α} {z0:α} {bt i d:Nat} {sl:LQ} {ms:MM} {A:LN} {ty:TI} {as:LL} {ops:LO} {r0:NV} {w0:World} {H:LN} (hz:pI P t α e E z0 bt) (h1:pV l mt U A (.buildSlice t 0 #[]) d ty as ops i) (h:jg P Z l mt U r0 w0 H i sl ms) :
   jg P Z l mt U r0 w0 H (i+1) sl (⟨i,d,[],Value,fun _ v=>v,fun _ v=>[.own (aI e E) v []]⟩ :: ms):=by
 obtain ⟨t1,_,i',z,t2,_⟩:=hz.h
 refine h.mem h1 rfl rfl (fun _ _ _ h=>nomatch h) fun S' S2 hl hR g r w hC j4 hn jf pos ae=>ot (dq.made (Cy (E:=E) t1 t2)) ?_
 rintro v w' ⟨hC,f,hf,hV⟩
 refine ⟨hC,f,hf,v,rfl,?_,hV.2⟩
 have:=HL.own (Z:=fun _=>False) (e:=.own (aI e E) v []) (f:=f) hV.1 .nil
 exact .inl (by simpa using this)
theorem OT {mt n:Nat} {α:Type} {t e:TI} {E:ag α} {z0:α} {bt i d:Nat} {sl:LQ} {ms:MM} {A:LN} {ty:TI} {as:LL} {ops:LO} {r0:NV} {w0:World} {H:LN} {x:OO} {z:Int} (hh:jj l mt base=true) (ha:cf r0 base) (hz:pI P t α e E z0 bt) (hv:dY A none sl base fr) (hx:bx fr x=some (.int .i64 z)) (hn:mk bt z=some n) (h1:pV l mt U A (.makeSlice t x x) d ty as ops i) (h:jg P Z l mt U r0 w0 H i sl ms) :
   jg P Z l mt U r0 w0 H (i+1) sl (⟨i,d,[],Value,fun _ v=>v,fun _ v=>[.own (aI e E) v (List.replicate n z0)]⟩ :: ms):=by
 obtain ⟨e1,e2,e3⟩:=Ap hn
 obtain ⟨t1,hE,i',z',t2,t3,t4,t5,t6,t7⟩:=hz.h
 subst e1
 refine h.mem h1 rfl rfl (fun _ _ _ h=>nomatch h) fun S' S2 hl hR g r w hC j4 hn jf pos ae=>?_
 have hb:=po hR (by rw [hl]; exact h1.A) hv (ke hh ha jf) j4
 refine ot (dq.made (Cz (E:=E) (z0:=z0) t1 t2 t3 t4 hE t5 t7 (bL hb hx) (bL hb hx) (by rw [t6]; exact e2) e3)) ?_
 rintro v w' ⟨hC,f,hf,hV⟩
 refine ⟨hC,f,hf,v,rfl,?_,hV.2⟩
 have:=HL.own (Z:=fun _=>False) (e:=.own (aI e E) v (List.replicate n z0)) (f:=f) hV.1 .nil
 exact .inl (by simpa using this)
theorem OU {mt:Nat} {α:Type} {t e:TI} {E:ag α} {z0:α} {bt i d:Nat} {sl:LQ} {ms:MM} {A:LN} {ty:TI} {as:LL} {ops:LO} {r0:NV} {w0:World} {H:LN} {x:OO} {u:Value} {Γ:QE} {F:LN} (hh:jj l mt base=true) (ha:cf r0 base) (hz:pI P t α e E z0 bt) (hv:dY A none sl base fr) (hx:bx fr x=some u) (ho:One Γ u) (hS:∀ w,ao H w0 w→SA Z w Γ [] F) (h1:pV l mt U A (.buildSlice t 1 #[(0,x)]) d ty as ops i) (h:jg P Z l mt U r0 w0 H i sl ms) :
   jg P Z l mt U r0 w0 H (i+1) sl (⟨i,d,[],Nat,fun _ b=>.slice (some ⟨b,0,none⟩) 1 1,fun _ b=>[.row b [u] e]⟩ :: ms):=by
 obtain ⟨t1,hE,i',z',t2,t3,t4,t5,t6,t7⟩:=hz.h
 refine h.mem h1 rfl rfl (fun _ _ _ h=>nomatch h) fun S' S2 hl hR g r w hC j4 hn jf pos ae=>?_
 have hb:=po hR (by rw [hl]; exact h1.A) hv (ke hh ha jf) j4
 refine ot (dq.An t1 t2 t3 t4 (bL hb hx) (ho.one (hS w hC))) ?_
 rintro v w' ⟨hC,f,hf,b,e1,e2,bo⟩
 refine ⟨hC,f,hf,b,e2,?_,by rw [e1]; simp⟩
 have:=HL.own (Z:=fun _=>False) (e:=.row b [u] e) (f:=[b]) ⟨rfl,bo⟩ .nil
 rw [e1]
 exact .inl (by simpa using this)
theorem E5 {mt n:Nat} {t e:TI} {i d:Nat} {sl:LQ} {ms:MM} {A:LN} {ty:TI} {as:LL} {ops:LO} {r0:NV} {w0:World} {H:LN} {ps:List (Nat×Operand)} {us:LV} {Γ:QE} {F:LN} (hh:jj l mt base=true) (ha:cf r0 base) (hz:AX P t e) (hv:dY A none sl base fr) (hd:rR Γ fr 0 ps us) (hn:us.length=n) (hb:(Nat.ble 1 n && Nat.ble n 16777216)=true) (hS:∀ w,ao H w0 w→SA Z w Γ [] F) (h1:pV l mt U A (.buildSlice t n ps.toArray) d ty as ops i) (h:jg P Z l mt U r0 w0 H i sl ms) :
   jg P Z l mt U r0 w0 H (i+1) sl (⟨i,d,[],Nat,fun _ b=>.slice (some ⟨b,0,none⟩) n n,fun _ b=>[.row b us e]⟩ :: ms):=by
 refine h.mem h1 rfl rfl (fun _ _ _ h=>nomatch h) fun S' S2 hl hR g r w hC j4 hnn jf pos ae=>?_
 have cb:=po hR (by rw [hl]; exact h1.A) hv (ke hh ha jf) j4
 unfold dq
 rw [hd.op cb (hS w hC) hz hn hb]
 refine ⟨ao.alloc _ _ _,[w.heap.size],fun b hb=>by rw [List.mem_singleton.1 hb]; simp,w.heap.size,rfl,?_,by simp⟩
 have:=HL.own (Z:=fun _=>False) (e:=.row w.heap.size us e) (f:=[w.heap.size]) ⟨rfl,heap_alloc_new w _⟩ .nil
 exact .inl (by simpa using this)
theorem Nd {mt t:Nat} {α:Type} {s e:TI} {E:ag α} {z0:α} {bt i d:Nat} {sl:LQ} {ms:MM} {A:LN} {ty:TI} {as:LL} {ops:LO} {r0:NV} {w0:World} {H:LN} (hz:pI P s α e E z0 bt) (hi:pT ms) (jq:q9 A ms=true) (hj:∃ j,pS t ms=some j∧fq j A=true) (hx:∀ x:nj ms,JM (oh A ms x) (qm A ms x) t) (h1:pV l mt U A (.buildSlice s 1 #[(0,.tmp t)]) d ty as ops i) (h:jg P Z l mt U r0 w0 H i sl ms) :
   jg P Z l mt U r0 w0 H (i+1) sl (⟨i,d,[t],Nat,fun _ b=>.slice (some ⟨b,0,none⟩) 1 1,fun u b=>[.row b [u] e]⟩ :: ms):=by
 obtain ⟨t1,hE,i',z',t2,t3,t4,t5,t6,t7⟩:=hz.h
 refine h.mem h1 rfl rfl (fun S' hR t' ht=>by rw [List.mem_singleton.1 ht]; exact E4 h1.A hR hj) ?_
 intro S' S2 hl hR g r w hC j4 hn jf pos ae
 obtain ⟨x,hv,hE⟩:=xn hR (by rw [hl]; exact h1.A) hi jq hn
 obtain ⟨OS,tL⟩:=hx x
 have HA:r t=_:=(tk hv xZ) t _ (by rw [List.append_nil]; exact OS)
 obtain ⟨_,_,_,_,hS⟩:=hE.front (Γ:=[]) (F:=[]) rfl
 rw [List.append_nil] at hS
 refine ot (dq.An t1 t2 t3 t4 (x:=.tmp t) rfl (by show (r t).oneCell'=true; rw [HA]; exact tL.one hS)) ?_
 rintro v w' ⟨hC,f,hf,b,e1,e2,bo⟩
 refine ⟨hC,f,hf,b,e2,?_,by rw [e1]; simp⟩
 have:=HL.own (Z:=fun _=>False) (e:=.row b [r t] e) (f:=[b]) ⟨rfl,bo⟩ .nil
 rw [e1]
 exact .inl (by simpa [vZ,vY] using this)
theorem JT {mt:Nat} {β V:Type} {A:LN} {as:LL} {d:Nat} {f:FuncId} {xs:List Operand} {aw:Array TypeId} {ty:TI} {mo:Option β} {rt:β→V→List Value} {ps:β→V→List ay} {ops:LO} {i:Nat} {sl:LQ} {ms:MM} {fr:Fr} {hd Γ:QE} {B:Bs} {r0:NV} {w0:World} {H:LN} {y:β} (hh:jj l mt base=true) (hf:bm P f) (hv:dY A none sl base fr)
   (hc:∀ x:nj ms,F9 P f xs (oh A ms x++fr) (qm A ms x++Γ) mo rt ps) (hi:pT ms) (jq:q9 A ms=true) (hw:∀ y v,sd (ps y v)=true) (h1:pV l mt U A (.call ⟨.value (.func f),xs.toArray,aw⟩) d ty as ops i) (hy:mo=some y) (ha:cf r0 base) (hs:qh B Z hd Γ H w0) (h:jg P Z l mt U r0 w0 H i sl ms) :
   JO P Z l mt U r0 w0 H i sl ms ⟨i,d,[],V,fun _ v=>qX (rt y v),fun _=>ps y⟩:=by
 obtain ⟨S',hl,hR,hO⟩:=h
 subst hl
 refine ⟨S',rfl,hR,hO,fun V' hV=>?_⟩
 obtain ⟨hA,⟨pos,ae,ho⟩,_⟩:=h1
 refine fc.JR (V:=V') ho (by simp) rfl fun g r w hC j4 hn jf=>?_
 have hb:=po hR hA hv (ke hh ha jf) j4
 obtain ⟨x,hx,tK⟩:=xn hR hA hi jq hn
 obtain ⟨OV,HB,hd,hr⟩:=hc x
 obtain ⟨fn,c,f1,f2,f3⟩:=hf.h
 refine Calls.Ss f1 f2 f3 ?_
 rw [tf (tk hx hb) OV]
 obtain ⟨F,Hd,⟨wX,wY,rb,wZ⟩,hS,hG⟩:=hs
 obtain ⟨G,nr,FV,CA,my⟩:=tK.front (qh.stay hS hG hC)
 rw [uz] at HB
 refine (HB.2 w (fun b=>Z b∨b∈G) [] (hr.sound (fun _ h=>h) (fun _ b hb=>.inr (CA b hb)) my hd.ho) List.nodup_nil (fun b hb=>absurd hb List.not_mem_nil)
  (fun b hb=>hb.elim (fun h=>Nat.lt_of_lt_of_le (hG.qc b h) hC.size) fun h=>(nr b h).2) y hy).mono ?_
 rintro e w' ⟨v,he,Z2,F2,sS,pH⟩
 have HC:HL (fun _=>False) w' (ps y v) F2:=Ce (hw y v) sS
 have bj:=(HC.front (Γ:=[]) (F:=[]) rfl).lt
 obtain ⟨f',ea,OX⟩:=hV F2 w' r _ ⟨v,rfl,.inl HC,pH.nd⟩
 refine ⟨_,he,pH.iv,f',fun b hb=>⟨(pH.low b (ea b hb)).resolve_left List.not_mem_nil,bj b (by simpa using ea b hb)⟩,OX⟩
theorem HD {mt:Nat} {β V:Type} {A:LN} {as:LL} {d:Nat} {f:FuncId} {fs bs:LV} {xo:OO} {xs:List Operand} {aw:Array TypeId} {ty:TI} {mo:Option β} {rt:β→V→List Value} {ps:β→V→List ay} {ops:LO} {i:Nat} {sl:LQ} {ms:MM} {fr:Fr} {hd Γ:QE} {B:Bs} {r0:NV} {w0:World} {H:LN} {y:β} (hh:jj l mt base=true) (hf:bm P f) (hv:dY A none sl base fr)
   (OY:bx fr xo=some (.func (.func f) fs.toArray bs.toArray)) (hc:∀ x:nj ms,Ga P f fs bs xs (oh A ms x++fr) (qm A ms x++Γ) mo rt ps) (hi:pT ms) (jq:q9 A ms=true) (hw:∀ y v,sd (ps y v)=true) (h1:pV l mt U A (.call ⟨.value xo,xs.toArray,aw⟩) d ty as ops i) (hy:mo=some y) (ha:cf r0 base) (hs:qh B Z hd Γ H w0) (h:jg P Z l mt U r0 w0 H i sl ms) :
   JO P Z l mt U r0 w0 H i sl ms ⟨i,d,[],V,fun _ v=>qX (rt y v),fun _=>ps y⟩:=by
 obtain ⟨S',hl,hR,hO⟩:=h
 subst hl
 refine ⟨S',rfl,hR,hO,fun V' hV=>?_⟩
 obtain ⟨hA,⟨pos,ae,ho⟩,_⟩:=h1
 refine fc.JR (V:=V') ho (by simp) rfl fun g r w hC j4 hn jf=>?_
 have hb:=po hR hA hv (ke hh ha jf) j4
 obtain ⟨x,hx,tK⟩:=xn hR hA hi jq hn
 obtain ⟨OV,k1,k2,HB,hd,hr⟩:=hc x
 obtain ⟨fn,c,f1,f2,f3⟩:=hf.h
 unfold dq
 rw [Cj (bL hb OY) f1 f2 f3,tf (tk hx hb) OV,List.append_assoc,k1.eq,k2.eq]
 obtain ⟨F,Hd,⟨wX,wY,rb,wZ⟩,hS,hG⟩:=hs
 obtain ⟨G,nr,FV,CA,my⟩:=tK.front (qh.stay hS hG hC)
 rw [uz] at HB
 refine (HB.2 w (fun b=>Z b∨b∈G) [] (hr.sound (fun _ h=>h) (fun _ b hb=>.inr (CA b hb)) my hd.ho) List.nodup_nil (fun b hb=>absurd hb List.not_mem_nil)
  (fun b hb=>hb.elim (fun h=>Nat.lt_of_lt_of_le (hG.qc b h) hC.size) fun h=>(nr b h).2) y hy).mono ?_
 rintro e w' ⟨v,he,Z2,F2,sS,pH⟩
 have HC:HL (fun _=>False) w' (ps y v) F2:=Ce (hw y v) sS
 have bj:=(HC.front (Γ:=[]) (F:=[]) rfl).lt
 obtain ⟨f',ea,OX⟩:=hV F2 w' r _ ⟨v,rfl,.inl HC,pH.nd⟩
 refine ⟨_,he,pH.iv,f',fun b hb=>⟨(pH.low b (ea b hb)).resolve_left List.not_mem_nil,bj b (by simpa using ea b hb)⟩,OX⟩
theorem CB {mt i:Nat} (h:((U.set i []).all fun us=>!(us.contains l.length))=true):uJ l U mt i=true:=by
 unfold uJ
 simp only [List.all_eq_true,List.mem_range,Bool.or_eq_true,Bool.not_eq_true'] at h ⊢
 intro k _
 by_cases hk:k=i
 ·exact .inl (.inr (by rw [hk]; exact Nat.beq_refl i))
 ·refine .inl (.inl ?_)
  rw [List.getD_eq_getElem?_getD]
  cases hu:U[k]? with
  | none=>rfl
  | some us=>exact h us (List.mem_of_getElem? (i:=k) (by rw [List.getElem?_set_ne (fun e=>hk e.symm)]; exact hu))
theorem HO.mono {Z':Nat→Prop} (hz:∀ b,Z b→Z' b) {Δ:QE} {F:LN} (h:HO Z w Δ F):HO Z' w Δ F:=by
 induction h with
 | nil=>exact .nil
 | own h _ ih=>exact .own (h.mono hz) ih
 | rd _ ih=>exact .rd ih
 | aw _ ih=>exact .aw ih
theorem Cr.sub {ms wW:MM} {a:ey} {t:Nat} (h:Cr ms t a wW):a∈ms∧a.j=t∧(∀ b∈wW,b∈ms)∧(wW.map (·.j)).Sublist (ms.map (·.j))∧((ms.map (·.j)).Nodup→∀ b∈wW,b.j≠t):=by
 induction h with
 | here=>exact ⟨by simp,rfl,fun b hb=>List.mem_cons_of_mem _ hb,by simp,fun hn b hb he=>by rw [List.map_cons,List.nodup_cons] at hn; exact hn.1 (by rw [← he]; exact List.mem_map_of_mem hb)⟩
 | there _ ih=>
  obtain ⟨h1,h2,h3,h4,h5⟩:=ih
  refine ⟨List.mem_cons_of_mem _ h1,h2,fun b hb=>?_,by simpa using h4,fun hn b hb=>?_⟩
  ·rcases List.mem_cons.1 hb with rfl | hb
   ·simp
   ·exact List.mem_cons_of_mem _ (h3 b hb)
  ·rw [List.map_cons,List.nodup_cons] at hn
   rcases List.mem_cons.1 hb with rfl | hb
   ·intro he
    exact hn.1 (by rw [he,← h2]; exact List.mem_map_of_mem h1)
   ·exact h5 hn.2 b hb
theorem SA.app {Γ Γ':QE} {F F':LN}:∀ {cur:LN},SA Z w Γ' cur F'→SA Z w Γ [] F→SA Z w (Γ'++Γ) cur (F'++F):=by
 induction Γ' generalizing F' with
 | nil=>intro cur h hs; cases h; exact hs.any
 | cons e Γ' ih=>
  intro cur h hs
  cases e with
  | own T v x=>obtain ⟨f,F1,rfl,h1,h2⟩:=h; exact ⟨f,F1++F,by rw [List.append_assoc],h1,ih h2 hs⟩
  | om e E v xs=>obtain ⟨f,F1,rfl,h1,h2⟩:=h; exact ⟨f,F1++F,by rw [List.append_assoc],h1,ih h2 hs⟩
  | row b cs e=>obtain ⟨f,F1,rfl,h1,h2⟩:=h; exact ⟨f,F1++F,by rw [List.append_assoc],h1,ih h2 hs⟩
  | dn e E v xs j u=>obtain ⟨f,F1,rfl,h1,h2⟩:=h; exact ⟨f,F1++F,by rw [List.append_assoc],h1,ih h2 hs⟩
  | rd o T v x=>exact ⟨h.1,ih h.2 hs⟩
  | ad o1 o2 v j T x=>exact ⟨h.1,ih h.2 hs⟩
  | aw p cs=>exact ⟨h.1,ih h.2 hs⟩
  | hd v j u=>exact ⟨h.1,ih h.2 hs⟩
theorem Nf {mt:Nat} {hd gw:QE} {α:Type} {t e et:TI} {E:ag α} {z0:α} {bt t1 t2 j2:Nat} {v yv:Value} {y:α} {z:List α} {zq:MM} {A:LN} {as:LL} {d:Nat} {ty:TI} {ops:LO} {i:Nat} {sl:LQ} {ms:MM} {Γ:QE} {B:Bs} {r0:NV} {w0:World} {H:LN} (hh:jj l mt base=true) (ha:cf r0 base) (hT:pI P t α e E z0 bt) (hU:U.getD i []=[l.length])
   (CC:((U.set i []).all fun us=>!(us.contains l.length))=true) (hv:dY A none sl base fr) (hs:look fr t1=some v) (h2:rU ms t2 ⟨j2,t2,[],Nat,fun _ b=>.slice (some ⟨b,0,none⟩) 1 1,fun _ b=>[.row b [yv] et]⟩ zq) (h5:fq j2 A=true) (h1:dh hd (.own (aI e E) v z) gw) (hy:zk [] E yv y [])
   (hf:fits bt (z.length+1)=some ()) (qf:pV l mt U A (.call ⟨.builtin .append,#[.tmp t1,.tmp t2],#[t,t]⟩) d ty as ops i) (ma:qh B Z hd Γ H w0) (h:jg P Z l mt U r0 w0 H i sl ms) :
  jg P Z l mt U r0 w0 H (i+1) sl (⟨i,d,[],Value,fun _ v'=>v',fun _ v'=>[.own (aI e E) v' (z++[y])]⟩ :: ms)∧qh B Z gw Γ H w0:=by
 obtain ⟨F,Hd,⟨wX,wY,rb,wZ⟩,hS,hG⟩:=ma
 obtain ⟨fm0,OZ,CD,_,JU⟩:=h1.sound wX
 refine ⟨?_,F,OZ,⟨JU,fun b hb=>wY b (CD.mem_iff.1 (List.mem_append_right _ hb)),rb,(CD.nodup_iff.2 wZ).sublist (List.sublist_append_right _ _)⟩,hS,hG⟩
 obtain ⟨S',Hp,hR,hO⟩:=h
 subst Hp
 obtain ⟨hA,⟨pos,ae,ho⟩,_⟩:=qf
 obtain ⟨b1,b2⟩:=qL hf
 obtain ⟨q1,q2,ii,zz,q3,q4,q5,q6,q7,_⟩:=hT.h
 obtain ⟨n1,_,_,_⟩:=h2.sub
 refine ⟨S'++[⟨true,MV Z ⟨S'.length,d,[],Value,fun _ v'=>v',fun _ v'=>[.own (aI e E) v' (z++[y])]⟩⟩],by simp,hR.mem rfl (by unfold bg; rw [ho]; rfl) (by intro t h; cases h),fun k hk=>?_⟩
 by_cases bj:k < S'.length
 ·exact fc.more (hO k bj) bj
 ·obtain rfl:k=S'.length:=by omega
  intro o' s' cq fg g r w hC LZ j4 hn jf Au pL
  rw [ho] at cq
  cases cq
  rw [List.getElem?_append_right (Nat.le_refl _),Nat.sub_self] at fg
  cases fg
  rw [if_pos rfl]
  refine ⟨rfl,?_⟩
  obtain ⟨O0,O1,O2⟩:=LZ (CB CC)
  have O3:=wX.iq O0
  obtain ⟨fm,F1,vr,O4,_⟩:=h1.sound O3
  obtain ⟨ky,F2,sR,hky,_⟩:=hy.sound (Z:=Z) (w:=w) (F:=[]) rfl
  have hk0:ky=[]:=by
   cases ky with
   | nil=>rfl
   | cons a l=>exact absurd (sR.mem_iff.1 (List.mem_append_left _ List.mem_cons_self)) List.not_mem_nil
  subst hk0
  have EX:fm.Nodup:=(vr.nodup_iff.2 wZ).sublist (List.sublist_append_left _ _)
  have x9:∀ b∈fm,b∈H:=fun b hb=>(wY b (vr.mem_iff.1 (List.mem_append_left _ hb))).1
  obtain ⟨b,c1,c2,c3⟩:=hR.Cv n1 (hn j2 (qN (by rw [← hA]; exact pU.1 h5)).2)
  simp only at c1 c2
  replace c2:=c2.own rfl
  generalize Hi:g j2=G1 at c2 c3
  cases c2 with
  | fact h _=>exact h.elim
  | @own _ ff F0 _ Gf yQ=>
   cases yQ
   obtain ⟨rfl,bo⟩:=Gf
   have hb:=po hR hA hv (ke hh ha jf) j4
   obtain ⟨v',w',f',oq,E6,ew,ea,JV⟩:=p7 (E:=E) (d:=some d) (ty:=ty) (pos:=pos) (ae:=ae) (g:=none) (r:=r) (s:=.tmp t1) (x:=.tmp t2) (k:=[]) (ys:=[y]) (news:=[yv]) q1 q3 q4 (by rw [q5,q2]) (by rw [cells_one q6,q2]; rfl) (hb _ _ hs) O4 EX c1 (fun i u hi=>bo.at i u hi) (qy hky) (fun _ h=>absurd h List.not_mem_nil) (by simp) (by rw [q7]; exact b1) b2
   unfold dq
   rw [oq]
   have hblk:qo g (U.getD S'.length [])=H:=by rw [hU]; simp [qo,O1]
   rw [hblk]
   refine ⟨E6.mono fun b hb=>x9 b hb,f',fun b hb=>?_,v',rfl,?_,JV List.nodup_nil⟩
   ·refine ⟨?_,ag.lt _ ew b hb⟩
    rcases ea b hb with h | h | h
    ·exact .inl (x9 b h)
    ·exact absurd h List.not_mem_nil
    ·exact .inr h
   ·have:=HL.own (Z:=fun _=>False) (e:=.own (aI e E) v' (z++[y])) (f:=f') ew .nil
    exact .inl (by simpa using this)
theorem Ng {mt:Nat} {hd gw:QE} {t e e3 et:TI} {kk:IntKind} {z0:List Int} {bt t1 t2 t3 j2 j3 n:Nat} {v:Value} {us:LV} {ys:List Int} {z:List (List Int)} {zq Hy:MM} {A:LN} {as:LL} {d:Nat} {ty:TI} {ops:LO} {i:Nat} {sl:LQ} {ms:MM} {Γ:QE} {B:Bs} {r0:NV} {w0:World} {H:LN} (hh:jj l mt base=true) (ha:cf r0 base) (hT:pI P t (List Int) e (aI e3 (aJ kk)) z0 bt) (hU:U.getD i []=[l.length,j3])
   (CC:((U.set i []).all fun us=>!(us.contains l.length))=true) (hv:dY A none sl base fr) (hs:look fr t1=some v) (h2:rU ms t2 ⟨j2,t2,[t3],Nat,fun _ b=>.slice (some ⟨b,0,none⟩) 1 1,fun u b=>[.row b [u] et]⟩ zq) (h3:rU zq t3 ⟨j3,t3,[],Nat,fun _ b=>.slice (some ⟨b,0,none⟩) n n,fun _ b=>[.row b us e3]⟩ Hy) (h5:fq j2 A=true) (h6:fq j3 A=true) (h1:dh hd (.own (aI e (aI e3 (aJ kk))) v z) gw) (hi:yt kk us ys) (sf:us.length=n) (cb:Nat.ble n 16777216=true)
   (hf:fits bt (z.length+1)=some ()) (qf:pV l mt U A (.call ⟨.builtin .append,#[.tmp t1,.tmp t2],#[t,t]⟩) d ty as ops i) (ma:qh B Z hd Γ H w0) (h:jg P Z l mt U r0 w0 H i sl ms) :
  jg P Z l mt U r0 w0 H (i+1) sl (⟨i,d,[],Value,fun _ v'=>v',fun _ v'=>[.own (aI e (aI e3 (aJ kk))) v' (z++[ys])]⟩ :: Hy)∧qh B Z gw Γ H w0:=by
 obtain ⟨F,Hd,⟨wX,wY,rb,wZ⟩,hS,hG⟩:=ma
 obtain ⟨fm0,OZ,CD,_,JU⟩:=h1.sound wX
 refine ⟨?_,F,OZ,⟨JU,fun b hb=>wY b (CD.mem_iff.1 (List.mem_append_right _ hb)),rb,(CD.nodup_iff.2 wZ).sublist (List.sublist_append_right _ _)⟩,hS,hG⟩
 obtain ⟨S',Hp,hR,hO⟩:=h
 subst Hp
 obtain ⟨hA,⟨pos,ae,ho⟩,_⟩:=qf
 obtain ⟨b1,b2⟩:=qL hf
 obtain ⟨q1,q2,ii,zz,q3,q4,q5,q6,q7,_⟩:=hT.h
 obtain ⟨n1,_,m3,m4⟩:=h2.sub
 obtain ⟨n3,_,m5,m6⟩:=h3.sub
 refine ⟨S'++[⟨true,MV Z ⟨S'.length,d,[],Value,fun _ v'=>v',fun _ v'=>[.own (aI e (aI e3 (aJ kk))) v' (z++[ys])]⟩⟩],by simp,(hR.sub (fun b hb=>m3 b (m5 b hb)) (m6.trans m4)).mem rfl (by unfold bg; rw [ho]; rfl) (by intro t h; cases h),fun k hk=>?_⟩
 by_cases bj:k < S'.length
 ·exact fc.more (hO k bj) bj
 ·obtain rfl:k=S'.length:=by omega
  intro o' s' cq fg g r w hC LZ j4 hn jf Au pL
  rw [ho] at cq
  cases cq
  rw [List.getElem?_append_right (Nat.le_refl _),Nat.sub_self] at fg
  cases fg
  rw [if_pos rfl]
  refine ⟨rfl,?_⟩
  obtain ⟨O0,O1,O2⟩:=LZ (CB CC)
  have O3:=wX.iq O0
  obtain ⟨fm,F1,vr,O4,_⟩:=h1.sound O3
  have EX:fm.Nodup:=(vr.nodup_iff.2 wZ).sublist (List.sublist_append_left _ _)
  have x9:∀ b∈fm,b∈H:=fun b hb=>(wY b (vr.mem_iff.1 (List.mem_append_left _ hb))).1
  have T4:=qN (by rw [← hA]; exact pU.1 h6)
  obtain ⟨b,c1,c2,c3⟩:=hR.Cv n1 (hn j2 (qN (by rw [← hA]; exact pU.1 h5)).2)
  obtain ⟨b3,d1,d2,d3⟩:=hR.Cv (m3 _ n3) (hn j3 T4.2)
  replace c1:r t2 = .slice (some ⟨b,0,none⟩) 1 1:=c1
  replace c2:HL (fun _=>False) w [.row b [r t3] et] (g j2):=c2.own rfl
  replace d1:r t3 = .slice (some ⟨b3,0,none⟩) n n:=d1
  replace d2:HL (fun _=>False) w [.row b3 us e3] (g j3):=d2.own rfl
  have T5:=O2 j3 T4.1
  generalize Hi:g j2=G1 at c2 c3
  generalize hg3:g j3=G3 at d2 d3 T5
  cases c2 with
  | fact h _=>exact h.elim
  | @own _ ff F0 _ Gf yQ=>
   cases yQ
   obtain ⟨rfl,bo⟩:=Gf
   cases d2 with
   | fact h _=>exact h.elim
   | @own _ ff3 F3 _ Gg SD=>
    cases SD
    obtain ⟨rfl,Gg⟩:=Gg
    obtain ⟨e1,e2⟩:=yt.sound hi w.heap
    have B9:=Nat.le_of_ble_eq_true cb
    have hE:(aI e3 (aJ kk)).rep w.heap [r t3] ys [b3]:=by
     rw [d1]
     refine ⟨some ⟨b3,0,none⟩,n,by rw [← sf,e1],.inr ⟨b3,us.toArray,[],rfl,Gg,rfl,by rw [← sf,e1]; exact Nat.le_refl _,Nat.le_trans B9 (by decide),by rw [show (aJ kk).size=1 from rfl,Nat.mul_one]; simp [sf],?_⟩⟩
     rw [show (aJ kk).size=1 from rfl,Nat.mul_one,List.toList_toArray,← e1,List.take_length]
     exact e2
    have CE:w0.heap.size≤b3:=T5 b3 (by simp)
    have U3:∀ b∈fm,b≠b3:=fun b hb he=>by
     have:=rb b (x9 b hb)
     omega
    have hb:=po hR hA hv (ke hh ha jf) j4
    obtain ⟨v',w',f',oq,E6,ew,ea,JV⟩:=p7 (E:=aI e3 (aJ kk)) (d:=some d) (ty:=ty) (pos:=pos) (ae:=ae) (g:=none) (r:=r) (s:=.tmp t1) (x:=.tmp t2) (k:=[b3]) (ys:=[ys]) (news:=[r t3]) q1 q3 q4 (by rw [q5,q2]) (by rw [cells_one q6,q2]; rfl) (hb _ _ hs) O4 EX c1 (fun i u hi=>bo.at i u hi) (qy hE) (fun b hb hm=>U3 b hm (List.mem_singleton.1 hb)) (by simp) (by rw [q7]; exact b1) b2
    unfold dq
    rw [oq]
    have hblk:qo g (U.getD S'.length [])=H++[b3]:=by rw [hU]; simp [qo,O1,hg3]
    rw [hblk]
    refine ⟨E6.mono fun b hb=>List.mem_append_left _ (x9 b hb),f',fun b hb=>?_,v',rfl,?_,JV (by simp)⟩
    ·refine ⟨?_,ag.lt _ ew b hb⟩
     rcases ea b hb with h | h | h
     ·exact .inl (List.mem_append_left _ (x9 b h))
     ·exact .inl (List.mem_append_right _ h)
     ·exact .inr h
    ·have:=HL.own (Z:=fun _=>False) (e:=.own (aI e (aI e3 (aJ kk))) v' (z++[ys])) (f:=f') ew .nil
     exact .inl (by simpa using this)
end
end Go.Dk
namespace Go.Dk
open Go Go.Li
section
variable {R S:Type} {P:Program} {cx:Cx R} {K:ch R S} {l tail:LO} {base fr:Fr} {U:LL} {hd:QE}
def CF (P:Program) (cx:Cx R) (K:ch R S) (l l0:LO) (mt:Nat) (U:LL) (hd:QE) (id:Nat) (base:Fr):JA R S→Prop
 | .a as ops i sl ms Γ m=>sM l mt U as ops i→Fin P cx K l l0 mt U hd id base i sl ms Γ m
 | .o A op d ty as ops i sl ms Γ m=>pV l mt U A op d ty as ops i→Fin P cx K l l0 mt U hd id base i sl ms Γ m
 | .oc us f xs aw A d ty as ops i sl ms Γ m=>U.getD i []=us→pV l mt U A (.call ⟨.value (.func f),xs.toArray,aw⟩) d ty as ops i→Fin P cx K l l0 mt U hd id base i sl ms Γ m
 | .os A op ty as ops i sl ms Γ m=>ON l mt U A op ty as ops i→Fin P cx K l l0 mt U hd id base i sl ms Γ m
 | .ow _ A op d ty as ops i sl ms Γ m=>pV l mt U A op d ty as ops i→Fin P cx K l l0 mt U hd id base i sl ms Γ m
 | .ix _ v fr x y t A d ty as ops i sl ms Γ m=>dY A none sl base fr→bx fr x=some v→pV l mt U A (.indexAddr t x y) d ty as ops i→Fin P cx K l l0 mt U hd id base i sl ms Γ m
 | .lb _ v j fr t x A d ty as ops i sl ms Γ m=>dY A none sl base fr→bx fr x=some (.pointer (some (ep v 1 j)))→NA P t→pV l mt U A (.load t x) d ty as ops i→Fin P cx K l l0 mt U hd id base i sl ms Γ m
 | .ap us t1 t2 t A d ty as ops i sl ms Γ m=>U.getD i []=us→pV l mt U A (.call ⟨.builtin .append,#[.tmp t1,.tmp t2],#[t,t]⟩) d ty as ops i→Fin P cx K l l0 mt U hd id base i sl ms Γ m
 | .la fr a lk t x A d ty as ops i sl ms Γ m=>dY A none sl base fr→bx fr x=some (.pointer (some a))→(match lk with | none=>NA P t | some n=>AG P t n)→pV l mt U A (.load t x) d ty as ops i→Fin P cx K l l0 mt U hd id base i sl ms Γ m
 | .ld E z fr a t x A d ty as ops i sl ms Γ m=>dY A none sl base fr→bx fr x=some (.pointer (some a))→NA P t→pV l mt U A (.load t x) d ty as ops i→
   ∀ B o,m=some o→∀ r0 w0 H Z,cf r0 base→qh B Z hd Γ H w0→(∃ u,∀ w,ao H w0 w→w.cell? a=some u∧∃ g,E.rep w.heap [u] z g)→jg P Z l mt U r0 w0 H i sl ms→kp P cx.n l0 (ir P cx B K o) r0 w0
 | .p Δ as ops i sl ms Γ m=>sM l mt U as ops i→Fin P cx K l l0 mt U hd id base i sl ms (Δ.reverse++Γ) m
 | .cr u ps d as ops i sl ms Γ m=>sM l mt U as ops (i+1)→bg l i=some d→
   ∀ B o,m=some o→∀ r0 w0 H Z,cf r0 base→qh B Z hd Γ H w0→JO P Z l mt U r0 w0 H i sl ms ⟨i,d,[],_,fun _=>u,fun _=>ps⟩→kp P cx.n l0 (ir P cx B K o) r0 w0
theorem AD.sound {l0:LO} {tq:Bool} {mt id:Nat} (hh:jj l mt base=true)
  (yQ:∀ hd i sl ms Γ m,wb ms=true→vc U sl ms=true→(∀ x:nj ms,D P cx (.p (vb sl (mF ms x)) (xm ms x) base Γ fun fr Γ=>.tg tq (vW tail) l tail K Γ fr m))→CF P cx K l l0 mt U hd id base (.a [] [] i sl ms Γ m))
  {J:JA R S} (h:AD tq P cx K l tail base U hd J):CF P cx K l l0 mt U hd id base J:=by
 have stay:∀ {B:Bs} {Z:Nat→Prop} {hd Γ:QE} {H:LN} {w0:World},qh B Z hd Γ H w0→∃ F Hd,(SA Z w0 hd [] Hd∧(∀ b∈Hd,b∈H∧b < w0.heap.size)∧(∀ b∈H,b < w0.heap.size)∧Hd.Nodup)∧SA Z w0 Γ [] F∧Gd B Z (H++F) w0∧∀ w,ao H w0 w→SA Z w Γ [] F:=by
  rintro B Z hd Γ H w0 ⟨F,Hd,h1,h2,h3⟩
  exact ⟨F,Hd,h1,h2,h3,fun w hC=>qh.stay h2 h3 hC⟩
 induction h with
 | nil hs he h=>exact yQ _ _ _ _ _ _ hs he h
 | @Z0 hd j d b q as ops i sl ms Γ m _ ih=>
  intro h B o ho r0 w0 H Z ha hs hp
  cases b with
  | false=>cases ho
  | true=>exact ih h B o ho r0 w0 H Z ha hs (hp.swap)
 | @Z1 hd j d b q as ops i sl ms Γ m _ ih=>
  intro h B o ho r0 w0 H Z ha hs hp
  cases b with
  | true=>cases ho
  | false=>exact ih h B o ho r0 w0 H Z ha hs (hp.swap)
 | Z4 gw hb hA _ ih=>
  intro h B o ho r0 w0 H Z ha hs hp
  obtain ⟨h1,h2,h3⟩:=h.next
  exact ih h3 B o ho r0 w0 H Z ha hs (hp.skip h1 h2 gw hb hA)
 | cons _ ih=>exact fun h=>ih h.cons
 | Gb _ ih=>exact fun h=>ih h.Gb
 | Ou h1 hv hy hc hn fg ho h4 h6 _ ih=>
  rename_i ht _
  intro h B o cq r0 w0 H Z ha hs hp
  obtain ⟨F,_,_,_,_,hK⟩:=stay hs
  exact ih h.n B o cq r0 w0 H Z ha hs (M9 hh ha ht h1 hv hy hc hn fg ho h4 h6 hK h hp)
 | ixs hv hx _ _ ih=>exact fun h1=>ih hv hx h1
 | @idx hd α A as d x y v k j t ty o1 o2 E xs ops i sl ms fr Γ Γ' f ht hy hr hE _ ih=>
  intro hv hx h1 B o ho r0 w0 H Z ha hs hp
  obtain ⟨z,hz,ho⟩:=bind_some ho
  replace hz:=yO hz
  obtain ⟨F,Hd,hL,hS,hG,hK⟩:=stay hs
  obtain ⟨cy,_,⟨⟨n,hn,_⟩,Cg⟩,yP⟩:=(hr z).sound hS
  refine ih z h1.n B o ho r0 w0 H Z ha ⟨F,Hd,hL,yP (Cg hE j z hz.1 hz.2),hG⟩ (hp.val hh ha h1 hv fun r jd _ _ _ w hC=>?_)
  obtain ⟨_,_,⟨⟨n',sf,_⟩,_⟩,_⟩:=(hr z).sound (hK w hC)
  exact Ix ht.h sf hz (bL jd hx) (bL jd hy) hE w (ao.refl _ _)
 | load hv hx _ ih=>rename_i ht _; exact fun h1=>ih hv hx ht.h h1
 | lsw _ _ ih=>exact fun hv hx ht h1=>ih hv hx ht h1
 | @Ol hd α A as d x v j o E z t ty ops i sl ms fr Γ Γx m h _ ih=>
  intro hv hx ht h1 B o' ho r0 w0 H Z ha hs hp
  obtain ⟨F,Hd,hL,hS,hG,hK⟩:=stay hs
  obtain ⟨_,⟨u,k,h2,h3,_⟩,_⟩:=h.sound hS
  refine ih hv hx ht h1 B o' ho r0 w0 H Z ha hs ⟨u,fun w hC=>?_⟩ hp
  have hb:(ep v 1 j).block ∉ H:=fun hm=>(h.xi hS).elim (fun h=>h.elim (fun h=>absurd h List.not_mem_nil) fun h=>(List.nodup_append.1 hG.nd).2.2 _ hm _ h rfl) fun h=>hG.apart _ (List.mem_append_left _ hm) h
  have hc:=hC.cell hb h2
  obtain ⟨_,⟨u',k',h4,h5,_⟩,_⟩:=h.sound (hK w hC)
  rw [hc] at h4
  cases h4
  exact ⟨hc,k',h5⟩
 | Om h _ ih=>
  intro hv hx ht h1 B o ho r0 w0 H Z ha hs hp
  obtain ⟨F,_,_,hS,_,hK⟩:=stay hs
  exact ih h1.n B o ho r0 w0 H Z ha hs (hp.val hh ha h1 hv fun r hr _ _ _ w hC=>Ld ht (h.sound (hK w hC)) (bL hr hx) w (ao.refl _ _))
 | Hn h _ ih=>
  intro hv hx ht h1 B o ho r0 w0 H Z ha hs hp
  obtain ⟨F,_,_,hS,_,hK⟩:=stay hs
  refine ih h1.n B o ho r0 w0 H Z ha hs (hp.val hh ha h1 hv fun r hr _ _ _ w hC=>?_)
  obtain ⟨h2,h3⟩:=h.sound (hK w hC)
  exact Lg ht h2 (bL hr hx) h3 w (ao.refl _ _)
 | Oo _ ih=>
  intro hv hx ht h1 B o ho r0 w0 H Z ha hs hu hp
  obtain ⟨u,hu⟩:=hu
  obtain ⟨_,_,h3,_⟩:=hu w0 (ao.refl _ _)
  obtain rfl:u=_:=by simpa using h3
  exact ih h1.n B o ho r0 w0 H Z ha hs (hp.val hh ha h1 hv fun r hr _ _ _ w hC=>Ld ht (hu w hC).1 (bL hr hx) w (ao.refl _ _))
 | @Oq hd α A as d x v j E z o' t ty ops i sl ms fr Γ Γ1 Γ' m h LW _ ih=>
  intro hv hx ht h1 B o ho r0 w0 H Z ha hs hu hp
  obtain ⟨u,hu⟩:=hu
  obtain ⟨h2,_⟩:=hu w0 (ao.refl _ _)
  obtain ⟨F,Hd,hL,hS,hG,hK⟩:=stay hs
  obtain ⟨cy,⟨u',k',h4,h5,h6⟩,yP⟩:=(h u).sound hS
  rw [h2] at h4
  cases h4
  exact ih u h1.n B o ho r0 w0 H Z ha ⟨F,Hd,hL,(LW u).sound h2 (yP ⟨k',h5,h6⟩),hG⟩ (hp.val hh ha h1 hv fun r hr _ _ _ w hC=>Ld ht (hu w hC).1 (bL hr hx) w (ao.refl _ _))
 | @Am hd α A as d t e ty E z0 bt ops i sl ms Γ m hz _ ih=>
  intro h1 B o ho r0 w0 H Z ha hs hp
  exact ih h1.n B o ho r0 w0 H Z ha hs (Nc hz h1 hp)
 | Hm hU _ ih=>exact fun h1=>ih hU h1
 | @UZ hd β V A as d f fs bs xo xs aw ty mo rt ps ops i sl ms fr Γ g hv OY hf hc hi jq hw _ ih=>
  intro h1 B o ho r0 w0 H Z ha hs hp
  obtain @⟨vx⟩:=hf
  obtain ⟨y,hy,ho⟩:=bind_some ho
  obtain ⟨pos,ae,h2⟩:=h1.o
  exact ih y h1.n (by unfold bg; rw [h2]; rfl) B o ho r0 w0 H Z ha hs (HD hh vx hv OY hc hi jq hw h1 hy ha hs hp)
 | @call hd β V A as d f xs aw ty mo rt ps ops i sl ms fr Γ g hf hv hc hi jq hw _ ih=>
  intro _ h1 B o ho r0 w0 H Z ha hs hp
  obtain ⟨y,hy,ho⟩:=bind_some ho
  obtain ⟨pos,ae,h2⟩:=h1.o
  exact ih y h1.n (by unfold bg; rw [h2]; rfl) B o ho r0 w0 H Z ha hs (JT hh hf hv hc hi jq hw h1 hy ha hs hp)
 | @crv hd u d as ops i sl ms Γ m _ ih=>
  intro h1 gw B o ho r0 w0 H Z ha hs ⟨S',hl,hR,hO,hL⟩
  subst hl
  refine ih h1 B o ho r0 w0 H Z ha hs ⟨_,by simp,hR.val gw,fun j hj=>?_⟩
  by_cases h2:j < S'.length
  ·exact fc.more (hO j h2) h2
  ·obtain rfl:j=S'.length:=by omega
   exact hL (pl fun _ _ x=>x=_) fun f w r x ⟨v,h,_⟩=>⟨[],fun _ h=>absurd h List.not_mem_nil,h⟩
 | @crm hd V u ps d as ops i sl ms Γ m _ ih=>
  intro h1 gw B o ho r0 w0 H Z ha hs ⟨S',hl,hR,hO,hL⟩
  subst hl
  refine ih h1 B o ho r0 w0 H Z ha hs ⟨_,by simp,hR.mem rfl gw (fun _ h=>nomatch h),fun j hj=>?_⟩
  by_cases h2:j < S'.length
  ·exact fc.more (hO j h2) h2
  ·obtain rfl:j=S'.length:=by omega
   exact hL _ fun f w r x h=>⟨f,fun _ h=>h,h⟩
 | Ot hU _ ih=>exact fun h1=>ih hU h1
 | TZ CC hv fg h2 h3 h5 h6 h1 hi hn hb _ ih=>
  rename_i hT _
  intro hU h B o ho r0 w0 H Z ha hs hp
  obtain ⟨u,hu,ho⟩:=bind_some ho
  obtain ⟨p1,p2⟩:=Ng hh ha hT hU CC hv fg h2 h3 h5 h6 h1 hi hn hb hu h hs hp
  exact ih h.n B o ho r0 w0 H Z ha p2 p1
 | TY CC hv fg h2 h5 h1 hy _ ih=>
  rename_i hT _
  intro hU h B o ho r0 w0 H Z ha hs hp
  obtain ⟨u,hu,ho⟩:=bind_some ho
  obtain ⟨p1,p2⟩:=Nf hh ha hT hU CC hv fg h2 h5 h1 hy hu h hs hp
  exact ih h.n B o ho r0 w0 H Z ha p2 p1
 | Z8 _ _ ih=>exact fun h1=>ih h1
 | Z5 _ _ ih=>exact fun h1=>ih h1
 | OK _ ih=>
  rename_i hz _
  intro h1 B o ho r0 w0 H Z ha hs hp
  exact ih h1.n B o ho r0 w0 H Z ha hs (Na hz h1 hp)
 | sw5 _ _ ih=>exact fun h1=>ih h1
 | mln hi jq hx _ ih=>
  rename_i ht _
  intro h1 B o ho r0 w0 H Z ha hs hp
  exact ih h1.n B o ho r0 w0 H Z ha hs (OR hp h1 ht hi jq hx)
 | wv hv hq _ ih=>
  intro h1 B o ho r0 w0 H Z ha hs hp
  obtain ⟨F,_,_,_,_,hK⟩:=stay hs
  exact ih h1.n B o ho r0 w0 H Z ha hs (hp.val hh ha h1 hv fun r hr _ _ _ w hC=>hq.sound (hK w hC) hr _ _ _ _ _ w (ao.refl _ _))
 | Z9 hv hx ho _ ih=>
  rename_i hz _
  intro h1 B o cq r0 w0 H Z ha hs hp
  obtain ⟨F,_,_,_,_,hK⟩:=stay hs
  exact ih h1.n B o cq r0 w0 H Z ha hs (OU hh ha hz hv hx ho hK h1 hp)
 | Z6 hv gw hn hb _ ih=>
  rename_i hz _
  intro h1 B o cq r0 w0 H Z ha hs hp
  obtain ⟨F,_,_,_,_,hK⟩:=stay hs
  exact ih h1.n B o cq r0 w0 H Z ha hs (E5 hh ha hz hv gw hn hb hK h1 hp)
 | Z7 hv gw hn hb _ ih=>
  rename_i hz _
  intro h1 B o cq r0 w0 H Z ha hs hp
  obtain ⟨F,_,_,_,_,hK⟩:=stay hs
  exact ih h1.n B o cq r0 w0 H Z ha hs (E5 hh ha ⟨hz.h⟩ hv gw hn hb hK h1 hp)
 | mk hv hx _ ih=>
  rename_i hz _
  intro h1 B o ho r0 w0 H Z ha hs hp
  obtain ⟨n,hn,ho⟩:=bind_some ho
  exact ih n h1.n B o ho r0 w0 H Z ha hs (OT hh ha hz hv hx hn h1 hp)
 | mbl hi jq _ hj hv O5 _ ih=>
  rename_i hb _ _
  intro h1 B o ho r0 w0 H Z ha hs hp
  exact ih h1.n B o ho r0 w0 H Z ha hs (Nb hh hb hi jq hj hv O5 h1 ha hs hp)
 | mlt hi jq hj O5 _ ih=>
  rename_i hz _
  intro h1 B o ho r0 w0 H Z ha hs hp
  exact ih h1.n B o ho r0 w0 H Z ha hs (Nd hz hi jq hj O5 h1 hp)
 | val hv hq _ ih=>
  intro h1 B o ho r0 w0 H Z ha hs hp
  obtain ⟨F,_,_,_,_,hK⟩:=stay hs
  exact ih h1.n B o ho r0 w0 H Z ha hs (hp.val hh ha h1 hv fun r hr _ _ _ w hC=>hq.sound (hK w hC) hr _ _ _ _ _ w (ao.refl _ _))
end
end Go.Dk
namespace Go.Dk
open Go Go.Li
section
variable {R S:Type} {P:Program} {cx:Cx R} {K:ch R S} {l tail:LO} {base fr:Fr} {w:World} {Z:Nat→Prop}
theorem Eh {n:Nat} {Q:Exit→(Nat→Value)→World→Prop} {r:NV} (hQ:∀ c,¬ Q (.panic c) r w):∀ fi,∀ c,¬ x5 P n Q fi (.panic c) r w:=by
 intro fi
 induction fi with
 | nil=>exact hQ
 | cons a fi ih=>cases a <;> exact ih
theorem Ei {B:Bs} {b:Kb R S} {o:Out S R} {r:NV}:∀ c,¬ FX P cx B b o (.panic c) r w:=by
 intro c
 cases b <;> cases o <;> exact fun h=>h
theorem rZ {B:Bs} {K:ch R S} {o:Out S R} {r:NV}:∀ c,¬ ir P cx B K o (.panic c) r w:=Eh Ei _
def we (g:Nat→List Nat):List ey→List Nat
 | []=>[]
 | a :: l=>g a.j++we g l
theorem yR {g:Nat→List Nat}:∀ {ms:MM} {b:Nat},b∈we g ms→∃ a∈ms,b∈g a.j:=by
 intro ms
 induction ms with
 | nil=>intro b h; exact absurd h List.not_mem_nil
 | cons a ms ih=>
  intro b h
  rcases List.mem_append.1 h with h | h
  ·exact ⟨a,by simp,h⟩
  ·obtain ⟨c,h1,h2⟩:=ih h
   exact ⟨c,List.mem_cons_of_mem _ h1,h2⟩
theorem E7 {Vo Vr A F:LN} (h:(Vo++Vr).Perm A):((Vo++F)++Vr).Perm (A++F):=by
 refine List.Perm.trans ?_ (h.append_right F)
 rw [List.append_assoc,List.append_assoc]
 exact List.Perm.append_left Vo List.perm_append_comm
theorem L4 {g:Nat→List Nat} {r:NV}:∀ {ms:MM},wb ms=true→(ms.map (·.j)).Nodup→(∀ a∈ms,∀ b∈ms,a.j≠b.j→pK (g a.j) (g b.j))→(∀ a∈ms,MV Z a (g a.j) w r (r a.d))→
  ∃ x:nj ms,(∀ p∈mF ms x,r p.1=p.2)∧(∃ Vo Vr,(Vo++Vr).Perm (we g ms)∧(∀ b∈Vr,b < w.heap.size)∧HL (qZ Z Vr) w (xm ms x) Vo)∧(we g ms).Nodup:=by
 intro ms
 induction ms with
 | nil=>intro _ _ _ _; exact ⟨(),fun p hp=>absurd hp List.not_mem_nil,⟨[],[],.refl _,fun b (h:b∈[])=>absurd h List.not_mem_nil,.nil⟩,List.nodup_nil⟩
 | cons a ms ih=>
  intro jq hd hi h
  unfold wb at jq
  rw [Bool.and_eq_true] at jq
  rw [List.map_cons,List.nodup_cons] at hd
  obtain ⟨x,hx,hl,hn⟩:=ih jq.2 hd.2 (fun b hb c hc=>hi b (List.mem_cons_of_mem _ hb) c (List.mem_cons_of_mem _ hc)) fun b hb=>h b (List.mem_cons_of_mem _ hb)
  obtain ⟨v,e1,e2,e3⟩:=h a (by simp)
  have es:vZ a r=xk a (mF ms x):=by
   have h3:=jq.1
   rw [List.all_eq_true] at h3
   refine x8 fun t ht=>?_
   unfold uH
   rw [JL (h3 t ht) hx]
  rw [es] at e1 e2
  refine ⟨(v,x),?_,?_,xq e3 hn ?_⟩
  rotate_left
  ·obtain ⟨Fo,Fr,hf,h1,h2⟩:=e2.all
   obtain ⟨Vo,Vr,k1,k2,k3⟩:=hl
   refine ⟨Fo++Vo,Fr++Vr,?_,fun b hb=>(List.mem_append.1 hb).elim (h1 b) (k2 b),(h2.mono fun b h=>h.imp id fun h=>List.mem_append_left _ h).app (k3.mono fun b h=>h.imp id fun h=>List.mem_append_right _ h)⟩
   show List.Perm _ (g a.j++we g ms)
   rw [hf]
   refine List.Perm.trans ?_ (k1.append_left (Fo++Fr))
   rw [List.append_assoc,List.append_assoc]
   refine List.Perm.append_left Fo ?_
   rw [← List.append_assoc,← List.append_assoc]
   exact List.Perm.append_right Vr List.perm_append_comm
  rotate_right
  ·intro p hp
   rcases List.mem_cons.1 hp with rfl | hp
   ·exact e1
   ·exact hx p hp
  ·intro b hb hm
   obtain ⟨c,h1,h2⟩:=yR hm
   exact hi a (by simp) c (List.mem_cons_of_mem _ h1) (fun e=>hd.1 (by rw [e]; exact List.mem_map_of_mem h1)) b hb h2
theorem CG {r:NV} {f:Fr}:∀ {sl:LQ},(∀ p∈sl,r p.2.1=p.2.2)→(∀ p∈f,r p.1=p.2)→∀ p∈vb sl f,r p.1=p.2:=by
 intro sl
 induction sl with
 | nil=>intro _ h; exact h
 | cons a sl ih=>
  intro h1 h2 p hp
  rcases List.mem_cons.1 hp with rfl | hp
  ·exact h1 a (by simp)
  ·exact ih (fun p hp=>h1 p (List.mem_cons_of_mem _ hp)) h2 p hp
theorem CH {mt:Nat} {U:LL} {CI:QE} (hh:jj l mt base=true) {sl:LQ} {ms:MM} {Γ:QE} {m:Option (Out S R)} (CJ:wb ms=true) (qM:vc U sl ms=true)
  (h:∀ x:nj ms,D P cx (.p (vb sl (mF ms x)) (xm ms x) base Γ fun fr Γ=>.tg false (vW tail) l tail K Γ fr m)) {B:Bs} {o:Out S R} (ho:m=some o) {r0:NV} {w0:World} {H:LN} {Z:Nat→Prop} (ha:cf r0 base) (hs:qh B Z CI Γ H w0) {S':List dx} (hi:S'.length=mt) (hR:fy Z l S' sl ms) :
  ∀ g r w,tM l mt S' U r0 w0 H (fun j=>j < mt) g r w→WL P l tail r w (ir P cx B K o .normal):=by
 obtain ⟨F,Hd,⟨wX,wY,rb,wZ⟩,hS,hG⟩:=hs
 intro g r w hI
 have Gh:∀ k j,j∈U.getD k []→∀ a∈ms,a.j≠j:=by
  intro k j hj
  unfold vc at qM
  rw [Bool.and_eq_true] at qM
  rw [List.getD_eq_getElem?_getD] at hj
  cases hk:U[k]? with
  | none=>rw [hk] at hj; exact absurd hj List.not_mem_nil
  | some us=>
   rw [hk] at hj
   have h1:=List.all_eq_true.1 (List.all_eq_true.1 qM.1 us (List.mem_of_getElem? hk)) j hj
   intro a ha he
   have:=List.all_eq_true.1 h1 a ha
   rw [he,Nat.beq_refl] at this
   cases this
 have hD:∀ j,j < mt→(∀ k,j ∉ U.getD k [])→ra l S' j g r w:=fun j hj hn=>hI.done j hj fun k _=>hn k
 have bj:∀ a∈ms,a.j < mt:=fun a ha=>hi ▸ hR.lt ha
 obtain ⟨x,hx,tK,O6⟩:=L4 (g:=g) (r:=r) (w:=w) CJ hR.d (fun a ha b hb vy=>hI.sT _ _ (bj a ha) (bj b hb) vy) fun a ha=>by
  have:=hR.Cv (S2:=[]) ha (by rw [List.append_nil]; exact hD a.j (bj a ha) (fun k hk=>Gh k _ hk a ha rfl))
  exact this
 have zr:=List.nodup_append.1 hG.nd
 have pL:∀ b∈we g ms,w0.heap.size≤b∨b∈H:=fun b hb=>by
  obtain ⟨a,h1,h2⟩:=yR hb
  exact (hI.fresh a.j (bj a h1) b h2).1.imp (fun h=>h) (·.1)
 have jz:=qh.stay hS hG hI.iv
 obtain ⟨Vo,Vr,O7,O8,tK⟩:=tK
 obtain ⟨F',hp,my⟩:=tK.build (jz.mono (fun _ h=>.inl h) fun _ h=>h)
 have O9:Gd B Z (we g ms++F) w:=by
  refine ⟨xq O6 zr.2.1 fun b hb hF=>(pL b hb).elim (fun h=>Nat.lt_irrefl _ (Nat.lt_of_lt_of_le (hS.lt b hF) h)) (fun h=>zr.2.2 b h b hF rfl),?_,fun b hb=>Nat.lt_of_lt_of_le (hG.qc b hb) hI.iv.size,?_,hG.tC,hG.tD,hG.iv.then hI.iv fun b hb=>hG.low b (List.mem_append_left _ hb)⟩
  ·intro b hb hz
   rcases List.mem_append.1 hb with hb | hb
   ·exact (pL b hb).elim (fun h=>Nat.lt_irrefl _ (Nat.lt_of_lt_of_le (hG.qc b hz) h)) (fun h=>hG.apart b (List.mem_append_left _ h) hz)
   ·exact hG.apart b (List.mem_append_right _ hb) hz
  ·intro b hb
   rcases List.mem_append.1 hb with hb | hb
   ·exact (pL b hb).elim (fun h=>.inr (Nat.le_trans hG.iv.size h)) (fun h=>hG.low b (List.mem_append_left _ h))
   ·exact hG.low b (List.mem_append_right _ hb)
 have JW:cf r ((vb sl (mF ms x)).reverse++base):=by
  refine rS (CG (fun p hp=>?_) hx) (ke hh ha hI.other)
  exact hR.xn (S2:=[]) hp fun j _ hj=>(by rw [List.append_nil]; exact hI.qg j (hi ▸ hj))
 have:=(h x).sound B o ho r w JW ⟨_,F',my,((O9.perm (E7 O7)).freeze O8).perm hp⟩
 exact this
theorem Nh {mt id:Nat} {U:LL} {Zl:LN} {CI:QE} (hU:((List.range mt).all fun i=>(U.getD i []).all fun u=>Nat.beq u l.length || ((bn l).getD i []).contains u)=true) (hh:jj l mt base=true) (hd:cg cx.n l=true) (hA:sN l mt Zl=true) (hZ:yw l mt Zl=true) (CK:mt≤l.length) (ht:tail=l.drop mt) {i:Nat} {sl:LQ} {ms:MM} {Γ:QE} {m:Option (Out S R)} (CJ:wb ms=true) (qM:vc U sl ms=true)
  (h:∀ x:nj ms,D P cx (.p (vb sl (mF ms x)) (xm ms x) base Γ fun fr Γ=>.tg false (vW tail) l tail K Γ fr m)):CF P cx K l l mt U CI id base (.a [] [] i sl ms Γ m):=by
 rintro ⟨_,h2,h3⟩ B o ho r0 w0 H Z ha hs ⟨S',hl,hR,hO⟩
 have hi:i=mt:=by
  have:=congrArg List.length h2
  simp at this
  omega
 subst hl
 have Pa:=hs
 obtain ⟨F,Hd,⟨wX,wY,rb,wZ⟩,hS,hG⟩:=hs
 refine HE (N:=Z) (S:=S') (U:=U) (H:=H) hd hA hZ (fun c r w h=>rZ c h) CK hi rb hU (fun b hb=>⟨hG.qc b hb,fun h=>hG.apart b (List.mem_append_left _ h) hb⟩) (fun i s hs=>hR.s i s hs) (fun j hj=>hO j (by omega)) ?_
 intro g r w hI
 have:=CH hh CJ qM h ho ha Pa hi hR g r w hI
 rwa [ht] at this
def Kq (q:Option (Bool×Nat×Value)) (f:Fr):Fr:=
 match q with
 | none=>f
 | some (_,d,u)=>(d,u) :: f
theorem Kp.lk {ws:LN} {q:Option (Bool×Nat×Value)} {f g:Fr} (h:Kp ws q f g):(∀ b d u,q=some (b,d,u)→b=fq d ws)→∀ t v,look g t=some v→fq t ws=false∧look (Kq q f) t=some v:=by
 induction h with
 | nil=>intro _ t v h; cases h
 | cons _ ih=>intro _ t v h; exact ih (by rintro b d u h; cases h; rfl) t v h
 | @drop ws d u f g _ ih=>
  intro hq t v h
  obtain ⟨h1,h2⟩:=ih (by rintro b d u h; cases h) t v h
  refine ⟨h1,?_⟩
  show look ((d,u) :: f) t=some v
  unfold look
  cases hb:Nat.beq t d with
  | true=>have:=hq true d u rfl; rw [Nat.eq_of_beq_eq_true hb,← this] at h1; cases h1
  | false=>exact h2
 | @cw ws d u f g _ ih=>
  intro hq t v h
  unfold look at h
  show fq t ws=false∧look ((d,u) :: f) t=some v
  unfold look
  cases hb:Nat.beq t d with
  | true=>rw [hb] at h; exact ⟨by rw [Nat.eq_of_beq_eq_true hb]; exact (hq false d u rfl).symm,h⟩
  | false=>
   rw [hb] at h
   obtain ⟨h1,h2⟩:=ih (by rintro b d u h; cases h) t v h
   unfold fq at h1
   rw [hb] at h1
   exact ⟨h1,h2⟩
theorem Kp.sound {ws:LN} {f g:Fr} {r:NV} (h:Kp ws none f g) (ha:cf r f):cf r g:=
 fun t v hl=>ha t v (h.lk (by rintro b d u h; cases h) t v hl).2
theorem Pb {id:Nat} (hd:QE) (mt:Nat) (Zl:LN) (U as:LL) {ops:LO} {Γ Γ1:QE} {fr:Fr} {m:Option (Out S R)}
  (hB:(P.follows .mixedOrders && cg cx.n l && sN l mt Zl && yw l mt Zl && Nat.ble mt l.length && (gq l U mt == as) && ((List.range mt).all fun i=>(U.getD i []).all fun u=>Nat.beq u l.length || ((bn l).getD i []).contains u))=true)
  (ho:ops=l.take mt) (ht:tail=l.drop mt) (hf:Kp (tF ops) none fr base) (hh:jj l mt base=true) (he:EO Γ hd Γ1) (CL:OW Γ hd)
  (h:AD false P cx K l tail base U hd (.a as ops 0 [] [] Γ1 m)):∀ B o,m=some o→∀ r w,cf r fr→St B Γ w→kp P cx.n l (ir P cx B K o) r w:=by
 simp only [Bool.and_eq_true] at hB
 obtain ⟨⟨⟨⟨⟨⟨_,b2⟩,b3⟩,b4⟩,b5⟩,b6⟩,b7⟩:=hB
 intro B o hm r w ha hs
 obtain ⟨Z,F,hS,hG⟩:=hs
 obtain ⟨Fd,F',h1,h2,h3⟩:=he.sound hS
 have CM:SA Z w hd [] Fd:=by
  have:=(HO.hl CL hS h1).front (Γ:=[]) (F:=[]) rfl
  simpa using this
 have hX:qh B Z hd Γ1 Fd w:=⟨F',Fd,⟨CM,fun b hb=>⟨hb,CM.lt b hb⟩,CM.lt,(List.nodup_append.1 (hG.perm h3).nd).1⟩,h2,hG.perm h3⟩
 refine AD.sound (id:=id) hh (fun _ _ _ _ _ _ hs he h=>Nh b7 hh b2 b3 b4 (Nat.le_of_ble_eq_true b5) ht hs he h) h
  ⟨by rw [List.drop_zero]; exact (eq_of_beq b6).symm,by rw [List.drop_zero]; exact ho,Nat.zero_le _⟩ B o hm r w Fd Z (hf.sound ha) hX ⟨[],rfl,⟨fun _ h=>absurd h List.not_mem_nil,fun _ h=>absurd h List.not_mem_nil,fun i s h=>by simp at h,List.nodup_nil,fun _ _ _ h1 h2=>wg l (A8 b3) h1 h2⟩,fun j hj=>absurd hj (Nat.not_lt_zero j)⟩
theorem JX {id:Nat} (hd:QE) (mt:Nat) (Zl:LN) (U as:LL) {ops:LO} {Γ Γ1:QE} {fr:Fr} {m:Option (Out S R)}
  (hB:(P.follows .mixedOrders && cg cx.n l && sN l mt Zl && yw l mt Zl && Nat.ble mt l.length && (gq l U mt == as) && ((List.range mt).all fun i=>(U.getD i []).all fun u=>Nat.beq u l.length || ((bn l).getD i []).contains u))=true)
  (ho:ops=l.take mt) (ht:tail=l.drop mt) (hf:Kp (tF ops) none fr base) (hh:jj l mt base=true) (he:EO Γ hd Γ1) (CL:OW Γ hd)
  (h:AD false P cx K l tail base U hd (.a as ops 0 [] [] Γ1 m)):Bx (ni P cx (.dr id l K Γ fr m)):=by
 have hm:P.follows .mixedOrders=true:=by
  simp only [Bool.and_eq_true] at hB
  exact hB.1.1.1.1.1.1
 rw [pG]
 intro B o vz r w ha hs
 exact (Pb (id:=id) hd mt Zl U as hB ho ht hf hh he CL h B o vz r w ha hs).W hm
theorem Pc {id:Nat} {l0:LO} (σ π:LN) (hd:QE) (mt:Nat) (Zl:LN) (U as:LL) {ops:LO} {Γ Γ1:QE} {fr:Fr} {m:Option (Out S R)}
  (hB:(P.follows .mixedOrders && JY l0 σ π && cg cx.n (lz l0 σ π) && sN (lz l0 σ π) mt Zl && yw (lz l0 σ π) mt Zl && Nat.ble mt (lz l0 σ π).length && (gq (lz l0 σ π) U mt == as) && ((List.range mt).all fun i=>(U.getD i []).all fun u=>Nat.beq u (lz l0 σ π).length || ((bn (lz l0 σ π)).getD i []).contains u))=true)
  (hl:l=lz l0 σ π) (ho:ops=l.take mt) (ht:tail=l.drop mt) (hf:Kp (tF ops) none fr base) (hh:jj l mt base=true) (he:EO Γ hd Γ1) (CL:OW Γ hd)
  (h:AD false P cx K l tail base U hd (.a as ops 0 [] [] Γ1 m)):Bx (ni P cx (.dr id l0 K Γ fr m)):=by
 subst hl
 simp only [Bool.and_eq_true] at hB
 obtain ⟨⟨⟨⟨⟨⟨⟨b0,b1⟩,b2⟩,b3⟩,b4⟩,b5⟩,b6⟩,b7⟩:=hB
 rw [pG]
 intro B o vz r w ha hs
 refine ((Pb (id:=id) hd mt Zl U as ?_ ho ht hf hh he CL h B o vz r w ha hs).prm b1).W b0
 simp only [Bool.and_eq_true]
 exact ⟨⟨⟨⟨⟨⟨b0,b2⟩,b3⟩,b4⟩,b5⟩,b6⟩,b7⟩
theorem any {id:Nat} (mt:Nat) (Zl:LN) (U as:LL) {ops:LO} {Γ:QE} {fr:Fr} {m:Option (Out S R)}
  (hB:(P.follows .mixedOrders && cg cx.n l && sN l mt Zl && yw l mt Zl && Nat.ble mt l.length && (gq l U mt == as) && ((List.range mt).all fun i=>(U.getD i []).all fun u=>Nat.beq u l.length || ((bn l).getD i []).contains u))=true)
  (ho:ops=l.take mt) (ht:tail=l.drop mt) (hf:Kp (tF ops) none fr base) (hh:jj l mt base=true)
  (h:AD false P cx K l tail base U [] (.a as ops 0 [] [] Γ m)):Bx (ni P cx (.dr id l K Γ fr m)):=JX [] mt Zl U as hB ho ht hf hh .nil .nil h
end
end Go.Dk
