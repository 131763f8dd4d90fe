/- A calculus of walks: regions that draw their order and make memory. No condition. -/
import Derived.Test.YtjdkifckhidlbaaGreatDe
import Derived.Laws.Slices
namespace Go.Dk
open Go Go.Li
section
variable {w:World}
def sO {α:Type} (e:TI) (E:ah α) (j:Nat):ah (List α) where
 size:=1
 rep h cs xs f:=∃ b cap cur f1 f2 p c0 q,cs=[.slice (some ⟨b,0,none⟩) xs.length cap]∧h[b]? = some (.cells cur e (0,0))∧f=b :: (f1++f2)∧(xs.length≤cap∧cap≤maxLen∧cur.size=cap∧E.size=1)∧cur.toList.take xs.length=p++[c0]++q∧(p.length=j∧j < xs.length)∧
  (∀ i∈f1++f2,i < h.size)∧∀ h':Array Obj,(∀ i∈f1++f2,h'[i]? = h[i]?)→∀ u z k,E.rep h' [u] z k→dy E h' (p++[u]++q) (xs.set j z) (f1++k++f2)
 len:=by rintro h cs x f ⟨b,cap,cur,f1,f2,p,c0,q,rfl,_⟩; rfl
 one:=by rintro h cs x f ⟨b,cap,cur,f1,f2,p,c0,q,rfl,_⟩ v hv; simp at hv; subst hv; rfl
 congr:=by
  rintro h h' cs x f ⟨b,cap,cur,f1,f2,p,c0,q,rfl,h1,rfl,h2,h3,h4,h5,h6⟩ hb
  refine ⟨b,cap,cur,f1,f2,p,c0,q,rfl,(hb b (by simp)).trans h1,rfl,h2,h3,h4,fun i hi=>?_,fun h'' cg=>h6 h'' fun i hi=>(cg i hi).trans (hb i (List.mem_cons_of_mem _ hi))⟩
  have:=hb i (List.mem_cons_of_mem _ hi)
  rw [Array.getElem?_eq_getElem (h5 i hi)] at this
  exact (Array.getElem?_eq_some_iff.1 this).1
 lt:=by
  rintro h cs x f ⟨b,cap,cur,f1,f2,p,c0,q,rfl,h1,rfl,h2,h3,h4,h5,h6⟩ i hi
  rcases List.mem_cons.1 hi with rfl | hi
  ·exact (Array.getElem?_eq_some_iff.1 h1).1
  ·exact h5 i hi
theorem DA {α:Type} {e:TI} {E:ah α} {v u:Value} {xs:List α} {f:LN} {j:Int} {z:α} (h1:E.size=1) (hO:(aK e E).rep w.heap [v] xs f) (hz:xs[j.toNat]? = some z) (hu:w.cell? (cw v 1 j)=some u) :
  ∃ k g,E.rep w.heap [u] z k∧(k++g).Perm f∧(sO e E j.toNat).rep w.heap [v] xs g:=by
 obtain ⟨base,cap,hv,hr⟩:=hO
 obtain rfl:v = .slice base xs.length cap:=by simpa using hv
 have bj:j.toNat < xs.length:=(List.getElem?_eq_some_iff.1 hz).1
 rcases hr with ⟨_,_,rfl,_⟩ | ⟨b,cur,f0,rfl,hg,rfl,yL,BI,xh,dq⟩
 ·simp at bj
 ·rw [h1,Nat.mul_one] at xh dq
  have xN:cw (.slice (some ⟨b,0,none⟩) xs.length cap) 1 j = ⟨b,j.toNat,none⟩:=by
   simp only [cw,js,Nat.zero_add,Nat.mul_one]
  rw [xN,cell_of_row w b _ cur e _ hg] at hu
  have Ph:∀ i∈f0,i < w.heap.size:=nw dq
  obtain ⟨c,g0,g1,g2,p,q,DZ,hc,hp,Br,xO⟩:=Ar j.toNat z dq hz
  subst DZ
  rw [h1,Nat.mul_one] at hp
  have D0:c.length=1:=by rw [E.len Br,h1]
  obtain ⟨c0,rfl⟩ : ∃ c0,c=[c0]:=by match c,D0 with | [c0],_=>exact ⟨c0,rfl⟩
  have UI:c0=u:=by
   have h2:(cur.toList.take xs.length)[j.toNat]? = some c0:=by
    rw [hc,List.append_assoc,List.getElem?_append_right (by omega),hp,Nat.sub_self]; rfl
   rw [List.getElem?_take,if_pos bj,Array.getElem?_toList,hu] at h2
   exact (Option.some.inj h2).symm
  subst UI
  refine ⟨g1,b :: (g0++g2),Br,?_,b,cap,cur,g0,g2,p,c0,q,rfl,hg,rfl,⟨yL,BI,xh,h1⟩,hc,⟨hp,bj⟩,fun i hi=>Ph i (by rcases List.mem_append.1 hi with hi | hi <;> simp [hi]),fun h' cg u z' k' hr=>xO h' [u] z' k' (fun i hi=>cg i (by simp [hi])) (fun i hi=>cg i (by simp [hi])) hr⟩
  refine (List.perm_append_comm (l₁:=g1) (l₂:=b :: (g0++g2))).trans ?_
  rw [List.cons_append]
  refine List.Perm.cons b ?_
  rw [List.append_assoc,List.append_assoc]
  exact List.Perm.append_left g0 List.perm_append_comm
end
structure fu where
 j:Nat
 d:Nat
 src:List Nat
 V:Type
 rt:Value→V→Value
 ps:Value→V→List aX
abbrev MM:=List fu
def l6:List fu→Type
 | []=>Unit
 | a :: l=>a.V×l6 l
def zx (f:NV):List Nat→Value
 | []=>undef
 | [t]=>f t
 | ts=>.tuple (ts.map f).toArray
def yT (f:Fr) (t:Nat):Value:=match look f t with
 | some v=>v
 | none=>undef
def vB (a:fu) (r:NV):Value:=zx r a.src
def BO (a:fu) (f:Fr):Value:=zx (yT f) a.src
theorem CG {f g:NV}:∀ {ts:LN},(∀ t∈ts,f t=g t)→zx f ts=zx g ts:=by
 intro ts h
 match ts,h with
 | [],_=>rfl
 | [t],h=>exact h t (by simp)
 | t :: s :: ts,h=>
  show Value.tuple (List.map f (t :: s :: ts)).toArray=Value.tuple (List.map g (t :: s :: ts)).toArray
  rw [List.map_congr_left h]
def mF:(ms:MM)→l6 ms→Fr
 | [],_=>[]
 | a :: l,x=>(a.d,a.rt (BO a (mF l x.2)) x.1) :: mF l x.2
def BP:(ms:MM)→l6 ms→List aX
 | [],_=>[]
 | a :: l,x=>a.ps (BO a (mF l x.2)) x.1++BP l x.2
def jx (A:LN):(ms:MM)→l6 ms→Fr
 | [],_=>[]
 | a :: l,x=>bif dj a.j A then (a.d,a.rt (BO a (mF l x.2)) x.1) :: jx A l x.2 else jx A l x.2
def rm (A:LN):(ms:MM)→l6 ms→List aX
 | [],_=>[]
 | a :: l,x=>bif dj a.j A then a.ps (BO a (mF l x.2)) x.1++rm A l x.2 else rm A l x.2
def qb (t:Nat):List fu→Option Nat
 | []=>none
 | a :: l=>bif Nat.beq t a.d then some a.j else qb t l
def AA (ms:MM):List (Nat×Operand)→List Nat
 | []=>[]
 | (_,.tmp s) :: l=>match qb s ms with
  | some _=>s :: AA ms l
  | none=>AA ms l
 | _ :: l=>AA ms l
def ixL (s:Nat):List Nat→Option Nat
 | []=>none
 | t :: l=>bif Nat.beq s t then some 0 else (ixL s l).map (·+1)
def abL (v:Value) (k:Nat):Value:=match v with
 | .tuple vs=>vs.toList.getD k undef
 | _=>undef
def abM (f:Fr) (ts:LN) (u:Value):Operand→Value
 | .tmp s=>match ixL s ts with
  | some k=>(match ts with
   | [_]=>u
   | _=>abL u k)
  | none=>yT f s
 | x=>match bd f x with
  | some v=>v
  | none=>undef
def YQ (k:Nat) (v:Value):List Value:=bif Nat.beq k 1 then [v] else match v with
 | .agg cs=>cs.toList
 | _=>[]
def R8 (pl:List (Nat×Nat)):List (Nat×Value)→List Value→List Value
 | [],cs=>cs
 | (i,v) :: l,cs=>match Hl pl i with
  | some (off,k)=>R8 pl l (cs.take off++YQ k v++cs.drop (off+k))
  | none=>cs
def Vd (pl:List (Nat×Nat)) (f:Fr) (ts:LN) (ps:List (Nat×Operand)) (zc:LV) (u:Value):List Value:=R8 pl (ps.map fun p=>(p.1,abM f ts u p.2)) zc
def tsB (A:LN) (ms:MM) (ts:LN):Bool:=ts.all fun t=>match qb t ms with
 | some j=>dj j A
 | none=>false
def lz (A:LN):List fu→Bool
 | []=>true
 | a :: l=>(bif dj a.j A then a.src.all (fun t=>match qb t l with
   | some j=>dj j A
   | none=>false) else true) && lz A l
def AB:List fu→Bool
 | []=>true
 | a :: l=>a.src.all (fun t=>(qb t l).isSome) && AB l
theorem HD {A:LN} {r:NV} {t:Nat}:∀ {ms:MM} {x:l6 ms} {j:Nat},qb t ms=some j→dj j A=true→(∀ p∈jx A ms x,r p.1=p.2)→look (mF ms x) t=some (r t):=by
 intro ms
 induction ms with
 | nil=>intro x j h; cases h
 | cons a l ih=>
  intro x j h hj hp
  unfold qb at h
  unfold mF look
  cases hb:Nat.beq t a.d with
  | true=>
   rw [hb] at h
   cases h
   have:=hp (a.d,a.rt (BO a (mF l x.2)) x.1) (by unfold jx; rw [hj]; simp)
   simp only [cond_true]
   rw [Nat.eq_of_beq_eq_true hb,this]
  | false=>
   rw [hb] at h
   refine ih h hj fun p hm=>hp p ?_
   unfold jx
   cases dj a.j A with
   | true=>exact List.mem_cons_of_mem _ hm
   | false=>exact hm
theorem PE {r:NV} {t:Nat}:∀ {ms:MM} {x:l6 ms},(qb t ms).isSome=true→(∀ p∈mF ms x,r p.1=p.2)→look (mF ms x) t=some (r t):=by
 intro ms
 induction ms with
 | nil=>intro x h; cases h
 | cons a l ih=>
  intro x h hp
  unfold qb at h
  unfold mF at hp ⊢
  unfold look
  cases hb:Nat.beq t a.d with
  | true=>
   simp only [cond_true]
   rw [Nat.eq_of_beq_eq_true hb,hp (a.d,a.rt (BO a (mF l x.2)) x.1) (by simp)]
  | false=>
   rw [hb] at h
   exact ih h fun p hm=>hp p (List.mem_cons_of_mem _ hm)
def HN (N:Nat→Prop) (w:World) (Δ:QE) (f:LN):Prop:=HL (fun _=>False) w Δ f∨∃ Fo Fr,f=Fo++Fr∧(tu Δ=false∧∀ b∈Fr,b < w.heap.size)∧HL (fun b=>N b∨b∈Fr) w Δ Fo
def Nd (N:Nat→Prop) (a:fu):List Nat→World→(Nat→Value)→Value→Prop:=fun f w r _=>∃ v:a.V,r a.d=a.rt (vB a r) v∧HN N w (a.ps (vB a r) v) f∧f.Nodup
def MV (N:Nat→Prop) (a:fu):List Nat→World→(Nat→Value)→Value→Prop:=fun f w r x=>∃ v:a.V,x=a.rt (vB a r) v∧HN N w (a.ps (vB a r) v) f∧f.Nodup
def Nf (N:Nat→Prop) (a:LN) (l:LO) (s:gw):Prop:=∀ f F (w w':World) (r r':NV) v,aw F w w'→(∀ b∈f,b ∉ F)→(∀ b∈F,¬ N b)→(∀ j∈a,∀ t,bn l j=some t→r' t=r t)→s.V f w r v→s.V f w' r' v
theorem HE.n {N:Nat→Prop} {a:LN} {l:LO} {s:gw} (h:HE a l s):Nf N a l s:=fun f F w w' r r' v hC hn _=>h f F w w' r r' v hC hn
section
variable {P:Program} {w w':World} {Z:Nat→Prop}
theorem HL.YR {F H:LN} {Δ:QE} (h:HL (fun _=>False) w Δ F) (hC:aw H w w') (hd:∀ b∈F,b ∉ H):HL (fun _=>False) w' Δ F:=by
 induction h with
 | nil=>exact .nil
 | @own e f F Δ h _ ih=>exact .own (h.fg hC (fun _ _ h=>h) fun b hb hm=>hd b (List.mem_append_left _ hm) hb) (ih fun b hb=>hd b (List.mem_append_right _ hb))
 | @fact e F Δ h _ ih=>
  refine .fact ?_ (ih hd)
  cases e with
  | rd o T v x=>
   obtain ⟨g,h1,h2⟩:=h
   have hg:g=[]:=by
    cases g with
    | nil=>rfl
    | cons b g=>exact absurd (h2 b (by simp)) (by cases o <;> simp [vo])
   subst hg
   exact ⟨[],T.fg h1 hC (fun _ h=>absurd h List.not_mem_nil),fun _ h=>absurd h List.not_mem_nil⟩
  | ad o1 o2 v j T x=>obtain ⟨_,_,u,g,_,_,h3,_⟩:=h; exact absurd h3 (by cases o1 <;> simp [vo])
  | bb p cs=>
   have hc:cs=[]:=by
    cases cs with
    | nil=>rfl
    | cons c cs=>exact (h.2 (by simp)).elim
   subst hc
   exact ⟨fun j u hj=>by simp at hj,fun hn=>absurd rfl hn⟩
  | hd v j u=>exact absurd h.2.2.2 List.not_mem_nil
  | _=>exact h.elim
theorem HL.YS {F H:LN} {Δ:QE} (h:HL Z w Δ F) (hC:aw H w w') (hz:∀ b∈H,¬ Z b) (hd:∀ b∈F,b ∉ H):HL Z w' Δ F:=by
 induction h with
 | nil=>exact .nil
 | @own e f F Δ h _ ih=>exact .own (h.fg hC hz fun b hb hm=>hd b (List.mem_append_left _ hm) hb) (ih fun b hb=>hd b (List.mem_append_right _ hb))
 | @fact e F Δ h _ ih=>exact .fact (h.fg hC hz fun _ _ h=>nomatch h) (ih hd)
theorem HN.fg {N:Nat→Prop} {f H:LN} {Δ:QE} (h:HN N w Δ f) (hC:aw H w w') (hd:∀ b∈f,b ∉ H) (hz:∀ b∈H,¬ N b):HN N w' Δ f:=by
 rcases h with h | ⟨Fo,Fr,rfl,h1,h2⟩
 ·exact .inl (h.YR hC hd)
 ·exact .inr ⟨Fo,Fr,rfl,⟨h1.1,fun b hb=>Nat.lt_of_lt_of_le (h1.2 b hb) hC.size⟩,h2.YS hC (fun b hb h=>h.elim (hz b hb) fun h=>hd b (List.mem_append_right _ h) hb) fun b hb=>hd b (List.mem_append_left _ hb)⟩
theorem HN.own {N:Nat→Prop} {f:LN} {Δ:QE} (h:HN N w Δ f) (ho:tu Δ=true):HL (fun _=>False) w Δ f:=by
 rcases h with h | ⟨_,_,_,h1,_⟩
 ·exact h
 ·rw [ho] at h1; cases h1.1
theorem HN.all {N:Nat→Prop} {f:LN} {Δ:QE} (h:HN N w Δ f):∃ Fo Fr,f=Fo++Fr∧(∀ b∈Fr,b < w.heap.size)∧HL (fun b=>N b∨b∈Fr) w Δ Fo:=by
 rcases h with h | ⟨Fo,Fr,rfl,h1,h2⟩
 ·exact ⟨f,[],by simp,fun b (h:b∈[])=>absurd h List.not_mem_nil,h.mono fun _ h=>h.elim⟩
 ·exact ⟨Fo,Fr,rfl,h1.2,h2⟩
theorem HL.up {F:LN} {Δ:QE} (h:HL (fun _=>False) w Δ F):HL Z w Δ F:=by
 induction h with
 | nil=>exact .nil
 | own h _ ih=>exact .own (h.mono fun _ h=>h.elim) ih
 | fact h _ ih=>exact .fact (h.mono (fun _ h=>h.elim) fun _ h=>h) ih
theorem HL.app {Δ Δ':QE} {F F':LN} (h:HL Z w Δ F) (k:HL Z w Δ' F'):HL Z w (Δ++Δ') (F++F'):=by
 induction h with
 | nil=>exact k
 | own h _ ih=>rw [List.append_assoc]; exact .own h ih
 | fact h _ ih=>exact .fact h ih
theorem Km {a:fu} {r r':NV} (h:∀ t∈a.src,r' t=r t):vB a r'=vB a r:=CG h
theorem Nh {l:LO} {a:LN} {b:Bool} {m:fu} (hs:∀ t∈m.src,∃ j∈a,bn l j=some t):Nf Z a l ⟨b,MV Z m⟩:=by
 intro f F w w' r r' x hC hn hz hr ⟨v,h1,h2,h3⟩
 have e:=Km (a:=m) (r:=r) (r':=r') fun t ht=>by
  obtain ⟨j,hj,hd⟩:=hs t ht
  exact hr j hj t hd
 refine ⟨v,by rw [e]; exact h1,by rw [e]; exact h2.fg hC hn hz,h3⟩
theorem Ll {l:LO} {a:LN} {b:Bool} {m:fu} (hd:∃ j∈a,bn l j=some m.d) (hs:∀ t∈m.src,∃ j∈a,bn l j=some t):Nf Z a l ⟨b,Nd Z m⟩:=by
 intro f F w w' r r' x hC hn hz hr ⟨v,h1,h2,h3⟩
 have e:=Km (a:=m) (r:=r) (r':=r') fun t ht=>by
  obtain ⟨j,hj,hd⟩:=hs t ht
  exact hr j hj t hd
 obtain ⟨j,hj,hjd⟩:=hd
 refine ⟨v,by rw [e,hr j hj _ hjd]; exact h1,by rw [e]; exact h2.fg hC hn hz,h3⟩
theorem iq.more {l:LO} {m i:Nat} {U:LL} {S S':List gw} {r0:NV} {w0:World} {H:LN} (h:iq P l m S U r0 w0 H i) (hi:i < S.length):iq P l m (S++S') U r0 w0 H i:=by
 intro o s ho hs g r w hC hV hO hn ir hd hf
 rw [List.getElem?_append_left hi] at hs
 refine h o s ho hs g r w hC hV (fun j hj d jb s' cq=>hO j hj d jb s' (by rw [List.getElem?_append_left (List.getElem?_eq_some_iff.1 cq).1]; exact cq)) (fun j hj=>?_) ir hd hf
 have:=hn j hj
 refine ⟨fun d jb=>?_,fun jb s' cq cg=>?_⟩
 ·have h2:=this.1 d jb
  by_cases hl:j < S.length
  ·rw [List.getElem?_append_left hl] at h2; exact h2
  ·rw [List.getElem?_eq_none (by omega)]; trivial
 ·exact this.2 jb s' (by rw [List.getElem?_append_left (List.getElem?_eq_some_iff.1 cq).1]; exact cq) cg
end
inductive dX (A:LN):Option (Bool×Nat×Value)→List (Nat×Nat×Value)→Fr→Fr→Prop
 | nil {base:Fr}:dX A none [] base base
 | cons {j d:Nat} {u:Value} {l:LQ} {base fr:Fr} (h:dX A (some (dj j A,d,u)) l base fr):dX A none ((j,d,u) :: l) base fr
 | fg {d:Nat} {u:Value} {l:LQ} {base fr:Fr} (h:dX A none l base fr):dX A (some (true,d,u)) l base ((d,u) :: fr)
 | drop {d:Nat} {u:Value} {l:LQ} {base fr:Fr} (h:dX A none l base fr):dX A (some (false,d,u)) l base fr
theorem vp.BJ {Γ Γ':QE} {v:Addr} {o:Bool} {α:Type} {E:ah α} {x:α} {e:aX} (h:vp Γ v o E x e Γ') {Z:Nat→Prop} {w:World}:∀ {cur F:LN},SA Z w Γ cur F→(v.block∈cur∨v.block∈F)∨Z v.block:=by
 induction h with
 | @ad o1 o2 α E v j x e Γ=>
  intro cur F hS
  obtain ⟨⟨j0,j1,u,g,h1,h2,h3,h4⟩,h5⟩:=hS
  cases o1 with
  | false=>exact .inr h3
  | true=>exact .inl (.inl h3)
 | @there o2 α E v x e a Γ Γ' h ih=>
  intro cur F hS
  cases a with
  | own T v x=>obtain ⟨f,F',rfl,h2,h3⟩:=hS; exact (ih h3).imp (fun h=>.inr (List.mem_append.2 h)) id
  | om e E v xs=>obtain ⟨f,F',rfl,h2,h3⟩:=hS; exact (ih h3).imp (fun h=>.inr (List.mem_append.2 h)) id
  | row b cs e=>obtain ⟨f,F',rfl,h2,h3⟩:=hS; exact (ih h3).imp (fun h=>h.imp id (List.mem_append_right _)) id
  | gp e E v xs j u=>obtain ⟨f,F',rfl,h2,h3⟩:=hS; exact (ih h3).imp (fun h=>.inr (List.mem_append.2 h)) id
  | _=>exact ih hS.2
inductive VQ (P:Program) (Γ:QE) (fr:Fr):Op→Value→Prop
 | mv {x:OO} {v:Value} (hx:bd fr x=some v):VQ P Γ fr (.move x) v
 | as {x:OO} {v:Value} (hx:bd fr x=some v):VQ P Γ fr (.assign x) v
 | pick {c x y:OO} {b:Bool} {v:Value} (hc:bd fr c=some (.bool b)) (hx:(bif b then bd fr x else bd fr y)=some v):VQ P Γ fr (.pick c x y) v
 | add {x y:OO} {t t':TI} {a b:Int} (hx:bd fr x=some (.int .i64 a)) (hy:bd fr y=some (.int .i64 b)):VQ P Γ fr (.binOp .add t x y t') (.int .i64 (ao (a+b)))
 | sub {x y:OO} {t t':TI} {a b:Int} (hx:bd fr x=some (.int .i64 a)) (hy:bd fr y=some (.int .i64 b)):VQ P Γ fr (.binOp .sub t x y t') (.int .i64 (ao (a - b)))
 | lss {x y:OO} {t t':TI} {k:IntKind} {a b:Int} (hx:bd fr x=some (.int k a)) (hy:bd fr y=some (.int k b)):VQ P Γ fr (.binOp .lss t x y t') (.bool (decide (a < b)))
 | eql {x y:OO} {t t':TI} {k:IntKind} {a b:Int} (hx:bd fr x=some (.int k a)) (hy:bd fr y=some (.int k b)):VQ P Γ fr (.binOp .eql t x y t') (.bool (a == b))
 | neq {x y:OO} {t t':TI} {k:IntKind} {a b:Int} (hx:bd fr x=some (.int k a)) (hy:bd fr y=some (.int k b)):VQ P Γ fr (.binOp .neq t x y t') (.bool (a != b))
 | not {x:OO} {t:TI} {b:Bool} (hx:bd fr x=some (.bool b)):VQ P Γ fr (.unOp .not t x) (.bool (!b))
 | Pp {x:OO} {a:Addr} (hx:bd fr x=some (.pointer (some a))):VQ P Γ fr (.nilCheck x) (.pointer (some a))
 | ext {x:OO} {k:Nat} {vs:LV} {v:Value} (hx:bd fr x=some (.tuple vs.toArray)) (hv:vs[k]? = some v):VQ P Γ fr (.extract x k) v
 | UU {s k off:Nat} {x:OO} {a a':Addr} [hf:sR P s k off] (hx:bd fr x=some (.pointer (some a))) (ha:Dy a off a'):VQ P Γ fr (.fieldAddr s x k) (.pointer (some a'))
 | len {x:OO} {v:Value} {t:TI} {n:Nat} [ht:vV P t] (hx:bd fr x=some v) (hr:vw Γ v n):VQ P Γ fr (.call ⟨.builtin .len,#[x],#[t]⟩) (.int .i64 (n:Int))
 | R5 {t:TI} {ps:List (Nat×Operand)} {zc cs:LV} {pl:List (Nat×Nat)} [hb:By P t zc pl] (hf:xu Γ fr pl ps zc cs):VQ P Γ fr (.build t ps.toArray) (.agg cs.toArray)
 | Pr {x y:OO} {k k':IntKind} {a b:Int} {bb:Array TypeId} (hx:bd fr x=some (.int k a)) (hy:bd fr y=some (.int k' b)):VQ P Γ fr (.call ⟨.builtin .max,#[x,y],bb⟩) (.int k (if b > a then b else a))
 | Ps {x y:OO} {k k':IntKind} {a b:Int} {bb:Array TypeId} (hx:bd fr x=some (.int k a)) (hy:bd fr y=some (.int k' b)):VQ P Γ fr (.call ⟨.builtin .min,#[x,y],bb⟩) (.int k (if b < a then b else a))
 | U4 {x:OO} {k k2:IntKind} {n:Int} {s t:TI} [ht:Ki P s t k2] (hx:bd fr x=some (.int k n)):VQ P Γ fr (.convert s t x) (.int k2 (k2.wrap n))
 | mul {x y:OO} {t t':TI} {a b:Int} (hx:bd fr x=some (.int .i64 a)) (hy:bd fr y=some (.int .i64 b)):VQ P Γ fr (.binOp .mul t x y t') (.int .i64 (ao (a * b)))
 | gtr {x y:OO} {t t':TI} {k:IntKind} {a b:Int} (hx:bd fr x=some (.int k a)) (hy:bd fr y=some (.int k b)):VQ P Γ fr (.binOp .gtr t x y t') (.bool (decide (a > b)))
 | geq {x y:OO} {t t':TI} {k:IntKind} {a b:Int} (hx:bd fr x=some (.int k a)) (hy:bd fr y=some (.int k b)):VQ P Γ fr (.binOp .geq t x y t') (.bool (decide (a ≥ b)))
 | leq {x y:OO} {t t':TI} {k:IntKind} {a b:Int} (hx:bd fr x=some (.int k a)) (hy:bd fr y=some (.int k b)):VQ P Γ fr (.binOp .leq t x y t') (.bool (decide (a≤b)))
 | U1 {s k off:Nat} {x:OO} {cs:LV} {v:Value} [hf:UQ P s k off] (hx:bd fr x=some (.agg cs.toArray)) (hc:cs[off]? = some v):VQ P Γ fr (.field s x k) v
 | Pq {x:OO} {v:Value} {t:TI} {n k:Nat} [ht:Gf P t k] (hx:bd fr x=some v) (hr:vw Γ v n):VQ P Γ fr (.call ⟨.builtin .len,#[x],#[t]⟩) (.int .i64 (n:Int))
 | abN {α:Type} {S:ah α} {x:OO} {v:Value} {t:TI} {us:List (List Value)} {xs:List α} {k n e:Nat} {Γ1:QE} [ht:Gf P t k] (hx:bd fr x=some v) (hr:dt Γ (.own (aK e (jw n)) v us) Γ1) (hg:In (.rd false (vU S) (.bool true) (us,xs)) Γ):VQ P Γ fr (.call ⟨.builtin .len,#[x],#[t]⟩) (.int .i64 (xs.length:Int))
theorem VQ.sound {P:Program} {Γ:QE} {fr:Fr} {op:Op} {u:Value} (h:VQ P Γ fr op u) {Z:Nat→Prop} {w:World} {cur F:LN} (hS:SA Z w Γ cur F) {r:NV} (ha:c9 r fr) (d:Option Nat) (ty:TI) (pos:String) (ag:Array Edge) (g:Option (Nat×Bool)) :
  Rd P w r ⟨d,op,ty,pos,ag,g⟩ u:=by
 cases h with
 | mv hx=>exact Mv _ (aV ha hx)
 | as hx=>exact Av _ (aV ha hx)
 | @pick c x y b v hc hx=>
  intro w' _
  rw [Kk (aV ha hc)]
  cases b
  ·rw [← aV ha hx]; rfl
  ·rw [← aV ha hx]; rfl
 | add hx hy=>exact Ba (aV ha hx) (aV ha hy)
 | sub hx hy=>exact Go.Li.Bs (aV ha hx) (aV ha hy)
 | lss hx hy=>exact Bl (aV ha hx) (aV ha hy)
 | eql hx hy=>exact Be (aV ha hx) (aV ha hy)
 | neq hx hy=>exact Bn (aV ha hx) (aV ha hy)
 | not hx=>exact Nt (aV ha hx)
 | Pp hx=>exact Nk (aV ha hx)
 | ext hx hv=>exact Ex _ (aV ha hx) (by simpa using hv)
 | @UU s k off x a a' hf hx hq=>rw [hq.eq]; exact Fp hf.h (aV ha hx)
 | Pr hx hy=>exact fun _ _=>M5 (aV ha hx) (aV ha hy)
 | Ps hx hy=>exact fun _ _=>M6 (aV ha hx) (aV ha hy)
 | @U4 x k k2 n s t ht hx=>exact fun _ _=>Kl ht.h.1 ht.h.2 (aV ha hx)
 | mul hx hy=>exact Bm (aV ha hx) (aV ha hy)
 | gtr hx hy=>exact Bg (aV ha hx) (aV ha hy)
 | geq hx hy=>exact Bh (aV ha hx) (aV ha hy)
 | leq hx hy=>exact Go.Li.Bk (aV ha hx) (aV ha hy)
 | @U1 s k off x cs v hf hx hc=>
  obtain ⟨fs,f,ds,h1,h2,h3,h4,h5⟩:=hf.h
  exact fun _ _=>Dz h1 h2 h3 h4 h5 (aV ha hx) (by simpa using hc)
 | @len x v t n ht hx hr=>
  obtain ⟨b,c,rfl⟩:=hr.sound hS
  obtain ⟨e,i,h1,_,_⟩:=ht.h
  exact fun _ _=>vy h1 (aV ha hx)
 | @Pq x v t n k ht hx hr=>
  obtain ⟨b,c,rfl⟩:=hr.sound hS
  obtain ⟨e,i,h1,_,_⟩:=ht.h
  exact fun _ _=>vy h1 (aV ha hx)
 | @abN α S x v t us xs k n e' Γ1 ht hx hr hg=>
  obtain ⟨f,F1,_,hO,_⟩:=hr.sound hS
  obtain ⟨e,i,h1,_,_⟩:=ht.h
  obtain ⟨g0,hk,_⟩:=hg.rd hS []
  obtain ⟨base,cap,hv,_⟩:=hO
  obtain rfl:v = .slice base us.length cap:=by simpa using hv
  rw [← zK hk.2.1]
  exact fun _ _=>vy h1 (aV ha hx)
 | @R5 t ps zc cs pl hb hf=>
  obtain ⟨fs,i,z,h1,h2,h3,h4,h5⟩:=hb.h
  refine Bu ?_
  have:=hf.fill ha hS
  unfold Program.built
  rw [h3,h1]
  simp only [h4,h2]
  rw [show z.cells=zc.toArray by rw [← h5]]
  exact this
theorem dX.sound {A:LN} {q:Option (Bool×Nat×Value)} {sl:LQ} {base fr:Fr} {r:NV} (h:dX A q sl base fr) (hb:c9 r base) :
  (∀ p∈sl,dj p.1 A=true→r p.2.1=p.2.2)→(∀ b d u,q=some (b,d,u)→b=true→r d=u)→c9 r fr:=by
 induction h with
 | nil=>intro _ _; exact hb
 | @cons j d u l base fr _ ih=>
  intro h1 _
  refine ih hb (fun p hp=>h1 p (by simp [hp])) ?_
  rintro b d' u' he hbt
  cases he
  exact h1 (j,d,u) (by simp) hbt
 | @fg d u l base fr _ ih=>
  intro h1 h2
  intro s v hl
  unfold look at hl
  cases HF:Nat.beq s d with
  | true=>rw [HF] at hl; cases hl; rw [Nat.eq_of_beq_eq_true HF]; exact h2 true d _ rfl rfl
  | false=>rw [HF] at hl; exact ih hb h1 (fun _ _ _ h=>nomatch h) s v hl
 | drop _ ih=>intro h1 _; exact ih hb h1 (fun _ _ _ h=>nomatch h)
def zy:List (Nat×Nat×Value)→Fr→Fr
 | [],f=>f
 | (_,d,u) :: l,f=>(d,u) :: zy l f
inductive Lm (P:Program) (f:FuncId) (xs:List Operand) (fr:Fr) (Γ:QE) {β V:Type} (mo:Option β) (rt:β→V→List Value) (ps:β→V→List aX):Prop
 | mk {vs:LV} {Δ:QE} (hx:vn fr xs=some vs) (hc:Ct P f true mo vs Δ rt ps) (hd:FO Δ) (hr:ER true Γ Δ):Lm P f xs fr Γ mo rt ps
inductive FnJ (P:Program) (f:FuncId):Prop
 | mk [h:bu P f]:FnJ P f
inductive ImJ (P:Program) (t:TI) (nm:String) (f:FuncId):Prop
 | mk [h:UR P t nm f]:ImJ P t nm f
inductive Eb (P:Program) (f:FuncId) (as bs:LV) (xs:List Operand) (fr:Fr) (Γ:QE) {β V:Type} (mo:Option β) (rt:β→V→List Value) (ps:β→V→List aX):Prop
 | mk {vs us ws:LV} {Δ:QE} (hx:vn fr xs=some vs) (h1:nr vs bs us) (h2:nr as us ws) (hc:Ct P f true mo ws Δ rt ps) (hd:FO Δ) (hr:ER true Γ Δ):Eb P f as bs xs fr Γ mo rt ps
inductive Lo {β V:Type} (P:Program) (f:FuncId) (xs:List Operand) (fr:Fr) (Γ:QE) (mo:Option β) (rt:β→V→List Value) (ps:β→V→List aX):Prop
 | mk {vs:LV} {Δ:QE} (hx:vn fr xs=some vs) (hc:Ct P f false mo vs Δ rt ps) (hd:FO Δ) (hr:ER false Γ Δ):Lo P f xs fr Γ mo rt ps
inductive BQ {β V:Type} (P:Program) (f:FuncId) (xs:List Operand) (fr:Fr) (hd Γ:QE) (mo:Option β) (rt:β→V→List Value) (ps:β→V→List aX):Prop
 | mk {vs:LV} {Δ Γ':QE} (hx:vn fr xs=some vs) (hc:Ct P f false mo vs Δ rt ps) (ho:EO hd Δ Γ') (hr:ER false (Γ'++Γ) Δ):BQ P f xs fr hd Γ mo rt ps
inductive Ec (P:Program) (f:FuncId) (xs:List Operand) (fr:Fr) (hd:QE) (Γ:QE) {β V:Type} (mo:Option β) (rt:β→V→List Value) (ps:β→V→List aX):Prop
 | mk {vs:LV} {Δ Γ':QE} (hx:vn fr xs=some vs) (hc:Ct P f true mo vs Δ rt ps) (ho:EO hd Δ Γ') (hr:ER true Γ Δ):Ec P f xs fr hd Γ mo rt ps
inductive j8:List fu→Prop
 | nil:j8 []
 | cons {a:fu} {l:MM} (h:D3 a.V) (k:j8 l):j8 (a :: l)
theorem j8.ne {ms:MM} (h:j8 ms):Nonempty (l6 ms):=by
 induction h with
 | nil=>exact ⟨()⟩
 | cons h _ ih=>obtain ⟨a⟩:=h.ne; obtain ⟨b⟩:=ih; exact ⟨(a,b)⟩
inductive Da:List fu→Nat→Bool→Prop
 | here {a:fu} {l:MM}:Da (a :: l) a.d true
 | there {a:fu} {l:MM} {t:Nat} {b:Bool} (h:Da l t b):Da (a :: l) t b
 | nil {t:Nat}:Da [] t false
inductive Ve (fr:Fr) (t off:Nat):Prop
 | mk {cs:LV} {v:Value} (h:look fr t=some (.agg cs.toArray)) (hc:cs[off]? = some v):Ve fr t off
inductive Vf (fr:Fr) (t k:Nat):Prop
 | mk {cs:LV} {v:Value} (h:look fr t=some (.tuple cs.toArray)) (hc:cs[k]? = some v):Vf fr t k
inductive PF (fr:Fr) (Γ:QE) (t:Nat):Prop
 | mk {v:Value} (h:look fr t=some v) (hc:One Γ v):PF fr Γ t
inductive PG (fr:Fr) (t n:Nat):Prop
 | mk {cs:LV} (h:look fr t=some (.agg cs.toArray)) (hl:cs.length=n):PG fr t n
inductive Vg (fr:Fr) (Γ:QE) (t n:Nat):Prop
 | mk {v:Value} (h:look fr t=some v) (hc:vw Γ v n):Vg fr Γ t n
inductive JA (R S:Type):Type 1
 | a (as:LL) (ops:LO) (i:Nat) (sl:LQ) (ms:MM) (Γ:QE) (m:Option (Out S R))
 | o (A:LN) (op:Op) (d:Nat) (ty:TI) (as:LL) (ops:LO) (i:Nat) (sl:LQ) (ms:MM) (Γ:QE) (m:Option (Out S R))
 | ow (b:Bool) (A:LN) (op:Op) (d:Nat) (ty:TI) (as:LL) (ops:LO) (i:Nat) (sl:LQ) (ms:MM) (Γ:QE) (m:Option (Out S R))
 | ix (b:Bool) (v:Value) (fr:Fr) (x y:OO) (t:TI) (A:LN) (d:Nat) (ty:TI) (as:LL) (ops:LO) (i:Nat) (sl:LQ) (ms:MM) (Γ:QE) (m:Option (Out S R))
 | lb (b:Bool) (v:Value) (j:Int) (fr:Fr) (t:TI) (x:OO) (A:LN) (d:Nat) (ty:TI) (as:LL) (ops:LO) (i:Nat) (sl:LQ) (ms:MM) (Γ:QE) (m:Option (Out S R))
 | ap (us:LN) (t1 t2:Nat) (t:TI) (A:LN) (d:Nat) (ty:TI) (as:LL) (ops:LO) (i:Nat) (sl:LQ) (ms:MM) (Γ:QE) (m:Option (Out S R))
 | la (fr:Fr) (ad:Addr) (lk:Option Nat) (t:TI) (x:OO) (A:LN) (d:Nat) (ty:TI) (as:LL) (ops:LO) (i:Nat) (sl:LQ) (ms:MM) (Γ:QE) (m:Option (Out S R))
 | ld {α:Type} (E:ah α) (z:α) (fr:Fr) (ad:Addr) (t:TI) (x:OO) (A:LN) (d:Nat) (ty:TI) (as:LL) (ops:LO) (i:Nat) (sl:LQ) (ms:MM) (Γ:QE) (m:Option (Out S R))
 | oc (us:LN) (f:FuncId) (xs:List Operand) (bb:Array TypeId) (A:LN) (d:Nat) (ty:TI) (as:LL) (ops:LO) (i:Nat) (sl:LQ) (ms:MM) (Γ:QE) (m:Option (Out S R))
 | os (A:LN) (op:Op) (ty:TI) (as:LL) (ops:LO) (i:Nat) (sl:LQ) (ms:MM) (Γ:QE) (m:Option (Out S R))
 | cr {V:Type} (u:V→Value) (ps:V→List aX) (d:Nat) (as:LL) (ops:LO) (i:Nat) (sl:LQ) (ms:MM) (Γ:QE) (m:Option (Out S R))
 | p (Δ:QE) (as:LL) (ops:LO) (i:Nat) (sl:LQ) (ms:MM) (Γ:QE) (m:Option (Out S R))
inductive Kn:List aX→Value→Bool→Prop
 | here {α:Type} {T:ah α} {v:Value} {x:α} {Γ:QE}:Kn (.own T v x :: Γ) v true
 | there {e:aX} {v:Value} {b:Bool} {Γ:QE} (h:Kn Γ v b):Kn (e :: Γ) v b
 | nil {v:Value}:Kn [] v false
inductive nh:List fu→Nat→fu→List fu→Prop
 | here {a:fu} {l:MM}:nh (a :: l) a.d a l
 | there {a b:fu} {l l':MM} {t:Nat} (h:nh l t a l'):nh (b :: l) t a (b :: l')
inductive AE:List fu→Nat→fu→List fu→Prop
 | here {a:fu} {l:MM}:AE (a :: l) a.j a l
 | there {a b:fu} {l l':MM} {t:Nat} (h:AE l t a l'):AE (b :: l) t a (b :: l')
def Lp (j i:Nat) (sl:LQ):List (Nat×Nat×Value):=sl.map fun p=>bif Nat.beq p.1 j then (i,p.2) else p
def HG (sl:LQ) (j d:Nat) (b:Bool):Bool:=sl.any fun q=>Nat.beq q.1 j && (Nat.beq q.2.1 d && (match q.2.2 with | .bool c=>(bif b then c else !c) | _=>false))
theorem Gm {sl:LQ} {j d:Nat} {b:Bool} (h:HG sl j d b=true):(j,d,.bool b)∈sl:=by
 unfold HG at h
 rw [List.any_eq_true] at h
 obtain ⟨⟨j',d',v⟩,hq,h⟩:=h
 rw [Bool.and_eq_true,Bool.and_eq_true] at h
 obtain ⟨h1,h2,h3⟩:=h
 obtain rfl:j'=j:=Nat.eq_of_beq_eq_true h1
 obtain rfl:d'=d:=Nat.eq_of_beq_eq_true h2
 cases v with
 | bool c=>cases b <;> cases c <;> first | exact hq | (cases h3; done)
 | _=>cases h3
def R9 (sl:LQ):List Nat→Bool
 | [j,d,b]=>HG sl (j - 1000000) (d - 1000000) (Nat.beq b 1000001)
 | _=>true
def gdB (U:LL) (sl:LQ):Bool:=bif Nat.ble 1000000 ((U.getLastD []).headD 0) then R9 sl (U.getLastD []) else true
def zA (U:LL) (sl:LQ) (ms:MM):Bool:=(U.all fun us=>us.all fun j=>ms.all fun a=>!Nat.beq a.j j) && gdB U sl
inductive AD {R S:Type} (tq:Bool) (P:Program) (cx:Cx R) (K:dg R S) (l tail:LO) (base:Fr) (U:LL):List aX→JA R S→Prop
 | nil {hd:QE} {i:Nat} {sl:LQ} {ms:MM} {Γ:QE} {m:Option (Out S R)} (uB:AB ms=true) (he:zA U sl ms=true) (h:∀ x:l6 ms,D P cx (.p (zy sl (mF ms x)) (BP ms x) base Γ fun fr Γ=>.tg tq (Aw tail) l tail K Γ fr m)):AD tq P cx K l tail base U hd (.a [] [] i sl ms Γ m)
 | abs {hd:QE} {as:LL} {ops:LO} {i:Nat} {sl:LQ} {ms:MM} {Γ:QE}:AD tq P cx K l tail base U hd (.a as ops i sl ms Γ none)
 | gbt {hd:QE} {j d:Nat} {b:Bool} {q:Nat×Nat×Value} {as:LL} {ops:LO} {i:Nat} {sl:LQ} {ms:MM} {Γ:QE} {m:Option (Out S R)} (h:AD tq P cx K l tail base U hd (.a as ops i (q :: (j,d,.bool true) :: sl) ms Γ m)):AD tq P cx K l tail base U hd (.a as ops i ((j,d,.bool b) :: q :: sl) ms Γ (bif b then m else none))
 | gbf {hd:QE} {j d:Nat} {b:Bool} {q:Nat×Nat×Value} {as:LL} {ops:LO} {i:Nat} {sl:LQ} {ms:MM} {Γ:QE} {m:Option (Out S R)} (h:AD tq P cx K l tail base U hd (.a as ops i (q :: (j,d,.bool false) :: sl) ms Γ m)):AD tq P cx K l tail base U hd (.a as ops i ((j,d,.bool b) :: q :: sl) ms Γ (bif b then none else m))
 | skp {hd:QE} {A:LN} {dst:Option Nat} {op:Op} {ty:TI} {pos:String} {ag:Array Edge} {j d:Nat} {p:Bool} {as:LL} {ops:LO} {i:Nat} {sl:LQ} {ms:MM} {Γ:QE} {m:Option (Out S R)} (jb:bn l j=some d) (hb:HG sl j d (!p)=true) (hA:dj j A=true) (h:AD tq P cx K l tail base U hd (.a as ops (i+1) sl ms Γ m)):AD tq P cx K l tail base U hd (.a (A :: as) (⟨dst,op,ty,pos,ag,some (j,p)⟩ :: ops) i sl ms Γ m)
 | cons {hd:QE} {A:LN} {as:LL} {op:Op} {d:Nat} {ty:TI} {pos:String} {ag:Array Edge} {ops:LO} {i:Nat} {sl:LQ} {ms:MM} {Γ:QE} {m:Option (Out S R)} (h:AD tq P cx K l tail base U hd (.o A op d ty as ops i sl ms Γ m)) :
   AD tq P cx K l tail base U hd (.a (A :: as) (⟨some d,op,ty,pos,ag,none⟩ :: ops) i sl ms Γ m)
 | Lq {hd:QE} {A:LN} {as:LL} {op:Op} {ty:TI} {pos:String} {ag:Array Edge} {ops:LO} {i:Nat} {sl:LQ} {ms:MM} {Γ:QE} {m:Option (Out S R)} (h:AD tq P cx K l tail base U hd (.os A op ty as ops i sl ms Γ m)) :
   AD tq P cx K l tail base U hd (.a (A :: as) (⟨none,op,ty,pos,ag,none⟩ :: ops) i sl ms Γ m)
 | U3 {hd:QE} {t e:TI} {t1 j1 n:Nat} {y:OO} {u:Value} {us cs ds:LV} {gj:MM} {fr:Fr} {A:LN} {as:LL} {ty:TI} {ops:LO} {i:Nat} {sl:LQ} {ms:MM} {Γ:QE} {m:Option (Out S R)} [ht:xk P t n]
   (h1:nh ms t1 ⟨j1,t1,[],Nat,fun _ b=>.pointer (some ⟨b,0,none⟩),fun _ b=>[.row b cs e]⟩ gj) (hv:dX A none sl base fr) (hy:bd fr y=some u) (hc:tR Γ u us) (hn:us.length=n) (hs:uA us 0 cs ds) (ho:wc Γ us) (h4:dj j1 A=true) (h6:U.getD i []=[j1])
   (h:AD tq P cx K l tail base U hd (.a as ops (i+1) sl (⟨i,t1,[],Nat,fun _ b=>.pointer (some ⟨b,0,none⟩),fun _ b=>[.row b ds e]⟩ :: gj) Γ m)):AD tq P cx K l tail base U hd (.os A (.store t (.tmp t1) y) ty as ops i sl ms Γ m)
 | Hq {hd:QE} {α:Type} {A:LN} {as:LL} {d:Nat} {t e ty:TI} {E:ah α} {z0:α} {bt:Nat} {ops:LO} {i:Nat} {sl:LQ} {ms:MM} {Γ:QE} {m:Option (Out S R)} [hz:rv P t α e E z0 bt]
   (h:AD tq P cx K l tail base U hd (.a as ops (i+1) sl (⟨i,d,[],Value,fun _ v=>v,fun _ v=>[.own (aK e E) v []]⟩ :: ms) Γ m)):AD tq P cx K l tail base U hd (.o A (.buildSlice t 0 #[]) d ty as ops i sl ms Γ m)
 | sw4 {hd:QE} {t st e:Nat} {α:Type} {E:ah α} {z0:α} {bt:Nat} {b:Bool} {A:LN} {as:LL} {d:Nat} {ty:TI} {ops:LO} {i:Nat} {sl:LQ} {ms:MM} {Γ:QE} {m:Option (Out S R)} [hz:rv P st α e E z0 bt] (hw:Da ms t b) (h:AD tq P cx K l tail base U hd (.ow b A (.buildSlice st 1 #[(0,.tmp t)]) d ty as ops i sl ms Γ m)):AD tq P cx K l tail base U hd (.o A (.buildSlice st 1 #[(0,.tmp t)]) d ty as ops i sl ms Γ m)
 | ltn {hd:QE} {t e:TI} {n:Nat} {ps:List (Nat×Operand)} {us:LV} {fr:Fr} {A:LN} {as:LL} {d:Nat} {ty:TI} {ops:LO} {i:Nat} {sl:LQ} {ms:MM} {Γ:QE} {m:Option (Out S R)} [hz:Hm P t e] (hv:dX A none sl base fr) (hl:wg Γ fr 0 ps us) (hn:us.length=n) (hb:(Nat.ble 1 n && Nat.ble n 16777216)=true)
   (h:AD tq P cx K l tail base U hd (.a as ops (i+1) sl (⟨i,d,[],Nat,fun _ b=>.slice (some ⟨b,0,none⟩) n n,fun _ b=>[.row b us e]⟩ :: ms) Γ m)):AD tq P cx K l tail base U hd (.o A (.buildSlice t n ps.toArray) d ty as ops i sl ms Γ m)
 | ltu {hd:QE} {t e:TI} {n:Nat} {ps:List (Nat×Operand)} {us:LV} {fr:Fr} {A:LN} {as:LL} {d:Nat} {ty:TI} {ops:LO} {i:Nat} {sl:LQ} {ms:MM} {Γ:QE} {m:Option (Out S R)} [hz:MX P t e] (hv:dX A none sl base fr) (hl:wg Γ fr 0 ps us) (hn:us.length=n) (hb:(Nat.ble 1 n && Nat.ble n 16777216)=true)
   (h:AD tq P cx K l tail base U hd (.a as ops (i+1) sl (⟨i,d,[],Nat,fun _ b=>.slice (some ⟨b,0,none⟩) n n,fun _ b=>[.row b us e]⟩ :: ms) Γ m)):AD tq P cx K l tail base U hd (.o A (.buildSlice t n ps.toArray) d ty as ops i sl ms Γ m)
 | sw1 {hd:QE} {t:Nat} {b:Bool} {A:LN} {as:LL} {d:Nat} {ty:TI} {ops:LO} {i:Nat} {sl:LQ} {ms:MM} {Γ:QE} {m:Option (Out S R)} (hw:Da ms t b) (h:AD tq P cx K l tail base U hd (.ow b A (.move (.tmp t)) d ty as ops i sl ms Γ m)):AD tq P cx K l tail base U hd (.o A (.move (.tmp t)) d ty as ops i sl ms Γ m)
 | sw2 {hd:QE} {t k:Nat} {b:Bool} {A:LN} {as:LL} {d:Nat} {ty:TI} {ops:LO} {i:Nat} {sl:LQ} {ms:MM} {Γ:QE} {m:Option (Out S R)} (hw:Da ms t b) (h:AD tq P cx K l tail base U hd (.ow b A (.extract (.tmp t) k) d ty as ops i sl ms Γ m)):AD tq P cx K l tail base U hd (.o A (.extract (.tmp t) k) d ty as ops i sl ms Γ m)
 | sw3 {hd:QE} {s t k:Nat} {b:Bool} {A:LN} {as:LL} {d:Nat} {ty:TI} {ops:LO} {i:Nat} {sl:LQ} {ms:MM} {Γ:QE} {m:Option (Out S R)} (hw:Da ms t b) (h:AD tq P cx K l tail base U hd (.ow b A (.field s (.tmp t) k) d ty as ops i sl ms Γ m)):AD tq P cx K l tail base U hd (.o A (.field s (.tmp t) k) d ty as ops i sl ms Γ m)
 | sw6 {hd:QE} {t:Nat} {it:TI} {b:Bool} {A:LN} {as:LL} {d:Nat} {ty:TI} {ops:LO} {i:Nat} {sl:LQ} {ms:MM} {Γ:QE} {m:Option (Out S R)} (hw:Da ms t b) (h:AD tq P cx K l tail base U hd (.ow b A (.makeInterface it (.tmp t)) d ty as ops i sl ms Γ m)):AD tq P cx K l tail base U hd (.o A (.makeInterface it (.tmp t)) d ty as ops i sl ms Γ m)
 | wlt {hd:QE} {t e:TI} {α:Type} {E:ah α} {z0:α} {bt:Nat} {u:Value} {x:OO} {fr:Fr} {A:LN} {as:LL} {d:Nat} {ty:TI} {ops:LO} {i:Nat} {sl:LQ} {ms:MM} {Γ:QE} {m:Option (Out S R)} [hz:rv P t α e E z0 bt] (hv:dX A none sl base fr) (hx:bd fr x=some u) (h1:One Γ u)
   (h:AD tq P cx K l tail base U hd (.a as ops (i+1) sl (⟨i,d,[],Nat,fun _ b=>.slice (some ⟨b,0,none⟩) 1 1,fun _ b=>[.row b [u] e]⟩ :: ms) Γ m)):AD tq P cx K l tail base U hd (.ow false A (.buildSlice t 1 #[(0,x)]) d ty as ops i sl ms Γ m)
 | sw5 {hd:QE} {t st:Nat} {b:Bool} {A:LN} {as:LL} {d:Nat} {ty:TI} {ops:LO} {i:Nat} {sl:LQ} {ms:MM} {Γ:QE} {m:Option (Out S R)} (hw:Da ms t b) (h:AD tq P cx K l tail base U hd (.ow b A (.call ⟨.builtin .len,#[.tmp t],#[st]⟩) d ty as ops i sl ms Γ m)):AD tq P cx K l tail base U hd (.o A (.call ⟨.builtin .len,#[.tmp t],#[st]⟩) d ty as ops i sl ms Γ m)
 | mln {hd:QE} {t n:Nat} {st:TI} {A:LN} {as:LL} {d:Nat} {ty:TI} {ops:LO} {i:Nat} {sl:LQ} {ms:MM} {Γ:QE} {m:Option (Out S R)} [ht:vV P st] (hi:j8 ms) (uB:lz A ms=true) (hx:∀ x:l6 ms,Vg (jx A ms x) (rm A ms x) t n) (h:AD tq P cx K l tail base U hd (.a as ops (i+1) ((i,d,.int .i64 (n:Int)) :: sl) ms Γ m)):AD tq P cx K l tail base U hd (.ow true A (.call ⟨.builtin .len,#[.tmp t],#[st]⟩) d ty as ops i sl ms Γ m)
 | Ko {hd:QE} {t:TI} {cs:LV} {A:LN} {as:LL} {d:Nat} {ty:TI} {ops:LO} {i:Nat} {sl:LQ} {ms:MM} {Γ:QE} {m:Option (Out S R)} [hz:C7 P t cs] (h:AD tq P cx K l tail base U hd (.a as ops (i+1) sl (⟨i,d,[],Nat,fun _ b=>.pointer (some ⟨b,0,none⟩),fun _ b=>[.row b cs t]⟩ :: ms) Γ m)):AD tq P cx K l tail base U hd (.o A (.alloc t) d ty as ops i sl ms Γ m)
 | wl0 {hd:QE} {st:TI} {c:Value} {A:LN} {as:LL} {d:Nat} {ty:TI} {ops:LO} {i:Nat} {sl:LQ} {ms:MM} {Γ:QE} {m:Option (Out S R)} (h:AD tq P cx K l tail base U hd (.ow false A (.buildSlice st 1 #[(0,.const c)]) d ty as ops i sl ms Γ m)):AD tq P cx K l tail base U hd (.o A (.buildSlice st 1 #[(0,.const c)]) d ty as ops i sl ms Γ m)
 | U2 {hd:QE} {us:LN} {t1 t2:Nat} {t:TI} {A:LN} {as:LL} {d:Nat} {ty:TI} {ops:LO} {i:Nat} {sl:LQ} {ms:MM} {Γ:QE} {m:Option (Out S R)} (hU:U.getD i []=us) (h:AD tq P cx K l tail base U hd (.ap us t1 t2 t A d ty as ops i sl ms Γ m)):AD tq P cx K l tail base U hd (.o A (.call ⟨.builtin .append,#[.tmp t1,.tmp t2],#[t,t]⟩) d ty as ops i sl ms Γ m)
 | apH {hd jb:QE} {α:Type} {t e e' et:TI} {E E':ah α} {z0:α} {bt t1 t2 j2:Nat} {v u yv:Value} {j:Int} {y:α} {z:List α} {xs:List (List α)} {o1 o2:Bool} {Γx:QE} {tT:MM} {fr:Fr} {f:Unit→Option (Out S R)} {A:LN} {as:LL} {d:Nat} {ty:TI} {ops:LO} {i:Nat} {sl:LQ} {ms:MM} {Γ:QE} [hT:rv P t α e E z0 bt]
   (hV:((U.set i []).all fun us=>!(us.contains l.length))=true) (hv:dX A none sl base fr) (hs:look fr t1=some u) (h2:nh ms t2 ⟨j2,t2,[],Nat,fun _ b=>.slice (some ⟨b,0,none⟩) 1 1,fun _ b=>[.row b [yv] et]⟩ tT) (h5:dj j2 A=true) (hl:Loc hd u (.row v j)) (hz:na hd u o1 o2 E' z qp Γx) (h1:dt hd (.own (aK e' (aK e E)) v xs) jb) (hr:RT (aK e E) (bY E')) (hy:C8 [] E yv y [])
   (h:AD tq P cx K l tail base U jb (.a as ops (i+1) sl (⟨i,d,[],Value,fun _ v'=>v',fun _ v'=>[.own (aK e E) v' (z++[y]),.own (sO e' (aK e E) j.toNat) v xs]⟩ :: ms) Γ (f ()))):AD tq P cx K l tail base U hd (.ap [l.length] t1 t2 t A d ty as ops i sl ms Γ (fits bt (z.length+1)>>=f))
 | apL {hd jb:QE} {t e e' e3 et:TI} {kk:IntKind} {E':ah (List Int)} {z0:List Int} {bt t1 t2 t3 j2 j3 n:Nat} {v u:Value} {us:LV} {j:Int} {ys:List Int} {z:List (List Int)} {xs:List (List (List Int))} {o1 o2:Bool} {Γx:QE} {tT BR:MM} {fr:Fr} {f:Unit→Option (Out S R)} {A:LN} {as:LL} {d:Nat} {ty:TI} {ops:LO} {i:Nat} {sl:LQ} {ms:MM} {Γ:QE} [hT:rv P t (List Int) e (aK e3 (aM kk)) z0 bt]
   (hV:((U.set i []).all fun us=>!(us.contains l.length))=true) (hv:dX A none sl base fr) (hs:look fr t1=some u) (h2:nh ms t2 ⟨j2,t2,[t3],Nat,fun _ b=>.slice (some ⟨b,0,none⟩) 1 1,fun u b=>[.row b [u] et]⟩ tT) (h3:nh tT t3 ⟨j3,t3,[],Nat,fun _ b=>.slice (some ⟨b,0,none⟩) n n,fun _ b=>[.row b us e3]⟩ BR) (h5:dj j2 A=true) (h6:dj j3 A=true) (hl:Loc hd u (.row v j)) (hz:na hd u o1 o2 E' z qp Γx) (h1:dt hd (.own (aK e' (aK e (aK e3 (aM kk)))) v xs) jb) (hr:RT (aK e (aK e3 (aM kk))) (bY E')) (hi:zN kk us ys) (hn:us.length=n) (hb:Nat.ble n 16777216=true)
   (h:AD tq P cx K l tail base U jb (.a as ops (i+1) sl (⟨i,d,[],Value,fun _ v'=>v',fun _ v'=>[.own (aK e (aK e3 (aM kk))) v' (z++[ys]),.own (sO e' (aK e (aK e3 (aM kk))) j.toNat) v xs]⟩ :: BR) Γ (f ()))):AD tq P cx K l tail base U hd (.ap [l.length,j3] t1 t2 t A d ty as ops i sl ms Γ (fits bt (z.length+1)>>=f))
 | apM {hd:QE} {t e e3 et:TI} {kk:IntKind} {z0:List Int} {bt t1 t2 t3 j1 j2 j3 n:Nat} {us:LV} {ys:List Int} {z:List (List Int)} {a1:fu} {gj tT BR:MM} {f:Unit→Option (Out S R)} {A:LN} {as:LL} {d:Nat} {ty:TI} {ops:LO} {i:Nat} {sl:LQ} {ms:MM} {Γ:QE} [hT:rv P t (List Int) e (aK e3 (aM kk)) z0 bt]
   (h1:nh ms t1 a1 gj) (h2:nh gj t2 ⟨j2,t2,[t3],Nat,fun _ b=>.slice (some ⟨b,0,none⟩) 1 1,fun u b=>[.row b [u] et]⟩ tT) (h3:nh tT t3 ⟨j3,t3,[],Nat,fun _ b=>.slice (some ⟨b,0,none⟩) n n,fun _ b=>[.row b us e3]⟩ BR) (hp:∀ u v,a1.ps u v=[.own (aK e (aK e3 (aM kk))) (a1.rt u v) z]) (hj:a1.j=j1) (o7:Nat.beq j1 j3=false) (h4:dj j1 A=true) (h5:dj j2 A=true) (h6:dj j3 A=true) (hi:zN kk us ys) (hn:us.length=n) (hb:Nat.ble n 16777216=true)
   (h:AD tq P cx K l tail base U hd (.a as ops (i+1) sl (⟨i,d,[],Value,fun _ v'=>v',fun _ v'=>[.own (aK e (aK e3 (aM kk))) v' (z++[ys])]⟩ :: BR) Γ (f ()))):AD tq P cx K l tail base U hd (.ap [j1,j3] t1 t2 t A d ty as ops i sl ms Γ (fits bt (z.length+1)>>=f))
 | ap1 {hd:QE} {us:LN} {t e et:TI} {E:ah Int} {z0:Int} {bt t1 t2 j2 d2:Nat} {k:IntKind} {y:Int} {xs:List Int} {a1:fu} {gj tT:MM} {f:Unit→Option (Out S R)} {A:LN} {as:LL} {d:Nat} {ty:TI} {ops:LO} {i:Nat} {sl:LQ} {ms:MM} {Γ:QE} [hz:rv P t Int e E z0 bt] (h1:nh ms t1 a1 gj) (h2:nh gj t2 ⟨j2,d2,[],Nat,fun _ b=>.slice (some ⟨b,0,none⟩) 1 1,fun _ b=>[.row b [.int k y] et]⟩ tT) (h3:∀ u v,a1.ps u v=[.own (aK e (aM k)) (a1.rt u v) xs]) (hu:us=[a1.j]) (h4:dj a1.j A=true) (h5:dj j2 A=true)
   (h:AD tq P cx K l tail base U hd (.a as ops (i+1) sl (⟨i,d,[],Value,fun _ v=>v,fun _ v=>[.own (aK e (aM k)) v (xs++[y])]⟩ :: gj) Γ (f ()))):AD tq P cx K l tail base U hd (.ap us t1 t2 t A d ty as ops i sl ms Γ (fits bt (xs.length+1)>>=f))
 | wv {hd:QE} {op:Op} {u:Value} {fr:Fr} {A:LN} {as:LL} {d:Nat} {ty:TI} {ops:LO} {i:Nat} {sl:LQ} {ms:MM} {Γ:QE} {m:Option (Out S R)} (hv:dX A none sl base fr) (hq:VQ P Γ fr op u) (h:AD tq P cx K l tail base U hd (.a as ops (i+1) ((i,d,u) :: sl) ms Γ m)):AD tq P cx K l tail base U hd (.ow false A op d ty as ops i sl ms Γ m)
 | mmv {hd:QE} {t:Nat} {A:LN} {as:LL} {d:Nat} {ty:TI} {ops:LO} {i:Nat} {sl:LQ} {ms:MM} {Γ:QE} {m:Option (Out S R)} (hi:j8 ms) (uB:lz A ms=true) (hj:∃ j,qb t ms=some j∧dj j A=true) (h:AD tq P cx K l tail base U hd (.a as ops (i+1) sl (⟨i,d,[t],Unit,fun u _=>u,fun _ _=>[]⟩ :: ms) Γ m)):AD tq P cx K l tail base U hd (.ow true A (.move (.tmp t)) d ty as ops i sl ms Γ m)
 | mbl {hd:QE} {t:TI} {ps:List (Nat×Operand)} {zc:LV} {pl:List (Nat×Nat)} {fr:Fr} {A:LN} {as:LL} {d:Nat} {ty:TI} {ops:LO} {i:Nat} {sl:LQ} {ms:MM} {Γ:QE} {m:Option (Out S R)} [hb:By P t zc pl] (hi:j8 ms) (uB:lz A ms=true) (o7:(AA ms ps).isEmpty=false) (hj:tsB A ms (AA ms ps)=true) (hv:dX A none sl base fr)
   (hx:∀ x:l6 ms,xu (rm A ms x++Γ) (jx A ms x++fr) pl ps zc (Vd pl fr (AA ms ps) ps zc (zx (yT (mF ms x)) (AA ms ps))))
   (h:AD tq P cx K l tail base U hd (.a as ops (i+1) sl (⟨i,d,AA ms ps,Unit,fun u _=>.agg (Vd pl fr (AA ms ps) ps zc u).toArray,fun _ _=>[]⟩ :: ms) Γ m)):AD tq P cx K l tail base U hd (.o A (.build t ps.toArray) d ty as ops i sl ms Γ m)
 | mex {hd:QE} {t k:Nat} {A:LN} {as:LL} {d:Nat} {ty:TI} {ops:LO} {i:Nat} {sl:LQ} {ms:MM} {Γ:QE} {m:Option (Out S R)} (hi:j8 ms) (uB:lz A ms=true) (hj:∃ j,qb t ms=some j∧dj j A=true) (hx:∀ x:l6 ms,Vf (jx A ms x) t k) (h:AD tq P cx K l tail base U hd (.a as ops (i+1) sl (⟨i,d,[t],Unit,fun u _=>Lr u k,fun _ _=>[]⟩ :: ms) Γ m)):AD tq P cx K l tail base U hd (.ow true A (.extract (.tmp t) k) d ty as ops i sl ms Γ m)
 | mfd {hd:QE} {s t k off:Nat} {A:LN} {as:LL} {d:Nat} {ty:TI} {ops:LO} {i:Nat} {sl:LQ} {ms:MM} {Γ:QE} {m:Option (Out S R)} [hf:UQ P s k off] (hi:j8 ms) (uB:lz A ms=true) (hj:∃ j,qb t ms=some j∧dj j A=true) (hx:∀ x:l6 ms,Ve (jx A ms x) t off) (h:AD tq P cx K l tail base U hd (.a as ops (i+1) sl (⟨i,d,[t],Unit,fun u _=>Ls u off,fun _ _=>[]⟩ :: ms) Γ m)):AD tq P cx K l tail base U hd (.ow true A (.field s (.tmp t) k) d ty as ops i sl ms Γ m)
 | mif {hd:QE} {t:Nat} {it:TI} {A:LN} {as:LL} {d:Nat} {ty:TI} {ops:LO} {i:Nat} {sl:LQ} {ms:MM} {Γ:QE} {m:Option (Out S R)} [hf:IFc P it] (hi:j8 ms) (uB:lz A ms=true) (hj:∃ j,qb t ms=some j∧dj j A=true) (h:AD tq P cx K l tail base U hd (.a as ops (i+1) sl (⟨i,d,[t],Unit,fun u _=>.iface it u,fun _ _=>[]⟩ :: ms) Γ m)):AD tq P cx K l tail base U hd (.ow true A (.makeInterface it (.tmp t)) d ty as ops i sl ms Γ m)
 | mlt {hd:QE} {t:Nat} {Ni e:TI} {α:Type} {E:ah α} {z0:α} {bt:Nat} {A:LN} {as:LL} {d:Nat} {ty:TI} {ops:LO} {i:Nat} {sl:LQ} {ms:MM} {Γ:QE} {m:Option (Out S R)} [hz:rv P Ni α e E z0 bt] (hi:j8 ms) (uB:lz A ms=true) (hj:∃ j,qb t ms=some j∧dj j A=true) (hx:∀ x:l6 ms,PF (jx A ms x) (rm A ms x) t)
   (h:AD tq P cx K l tail base U hd (.a as ops (i+1) sl (⟨i,d,[t],Nat,fun _ b=>.slice (some ⟨b,0,none⟩) 1 1,fun u b=>[.row b [u] e]⟩ :: ms) Γ m)):AD tq P cx K l tail base U hd (.ow true A (.buildSlice Ni 1 #[(0,.tmp t)]) d ty as ops i sl ms Γ m)
 | mls {hd:QE} {t n:Nat} {Ni e:TI} {A:LN} {as:LL} {d:Nat} {ty:TI} {ops:LO} {i:Nat} {sl:LQ} {ms:MM} {Γ:QE} {m:Option (Out S R)} [hz:Kf P Ni e n] (hb:(Nat.ble 1 1 && Nat.ble (1 * n) 16777216)=true) (hi:j8 ms) (uB:lz A ms=true) (hj:∃ j,qb t ms=some j∧dj j A=true) (hx:∀ x:l6 ms,PG (jx A ms x) t n)
   (h:AD tq P cx K l tail base U hd (.a as ops (i+1) sl (⟨i,d,[t],Nat,fun _ b=>.slice (some ⟨b,0,none⟩) 1 1,fun u b=>[.row b u.cells.toList e]⟩ :: ms) Γ m)):AD tq P cx K l tail base U hd (.o A (.buildSlice Ni 1 #[(0,.tmp t)]) d ty as ops i sl ms Γ m)
 | mk {hd:QE} {t e:TI} {α:Type} {E:ah α} {z0:α} {bt:Nat} {x:OO} {z:Int} {fr:Fr} {f:Nat→Option (Out S R)} {A:LN} {as:LL} {d:Nat} {ty:TI} {ops:LO} {i:Nat} {sl:LQ} {ms:MM} {Γ:QE} [hz:rv P t α e E z0 bt] (hv:dX A none sl base fr) (hx:bd fr x=some (.int .i64 z))
   (h:∀ n,AD tq P cx K l tail base U hd (.a as ops (i+1) sl (⟨i,d,[],Value,fun _ v=>v,fun _ v=>[.own (aK e E) v (List.replicate n z0)]⟩ :: ms) Γ (f n))):AD tq P cx K l tail base U hd (.o A (.makeSlice t x x) d ty as ops i sl ms Γ (mk bt z>>=f))
 | ixs {hd:QE} {b:Bool} {v:Value} {x y:OO} {t:TI} {fr:Fr} {A:LN} {as:LL} {d:Nat} {ty:TI} {ops:LO} {i:Nat} {sl:LQ} {ms:MM} {Γ:QE} {m:Option (Out S R)} (hv:dX A none sl base fr) (hx:bd fr x=some v) (hw:Kn hd v b) (h:AD tq P cx K l tail base U hd (.ix b v fr x y t A d ty as ops i sl ms Γ m)):AD tq P cx K l tail base U hd (.o A (.indexAddr t x y) d ty as ops i sl ms Γ m)
 | idx {hd:QE} {α:Type} {A:LN} {as:LL} {d:Nat} {x y:OO} {v:Value} {k:IntKind} {j:Int} {t ty:TI} {o1 o2:Bool} {E:ah α} {xs:List α} {ops:LO} {i:Nat} {sl:LQ} {ms:MM} {fr:Fr} {Γ:QE} {Γ':α→List aX} {f:α→Option (Out S R)} [ht:vV P t]
   (hy:bd fr y=some (.int k j)) (hr:∀ z,na Γ v o1 o2 E xs (.ad o1 o2 v j E z) (Γ' z)) (hE:E.size=1)
   (h:∀ z,AD tq P cx K l tail base U hd (.a as ops (i+1) ((i,d,.pointer (some (cw v 1 j))) :: sl) ms (Γ' z) (f z))):AD tq P cx K l tail base U hd (.ix false v fr x y t A d ty as ops i sl ms Γ (idx xs j>>=f))
 | abO {hd:QE} {α:Type} {A:LN} {as:LL} {d:Nat} {x y:OO} {v:Value} {k:IntKind} {j:Int} {t ty:TI} {o1 o2:Bool} {E:ah α} {xs:List α} {ops:LO} {i:Nat} {sl:LQ} {ms:MM} {fr:Fr} {Γ:QE} {jb:α→List aX} {f:α→Option (Out S R)} [ht:vV P t]
   (hy:bd fr y=some (.int k j)) (hr:∀ z,na hd v o1 o2 E xs (.ad o1 o2 v j E z) (jb z)) (hE:E.size=1)
   (h:∀ z,AD tq P cx K l tail base U (jb z) (.a as ops (i+1) ((i,d,.pointer (some (cw v 1 j))) :: sl) ms Γ (f z))):AD tq P cx K l tail base U hd (.ix true v fr x y t A d ty as ops i sl ms Γ (idx xs j>>=f))
 | load {hd:QE} {A:LN} {as:LL} {d:Nat} {x:OO} {a:Addr} {t ty:TI} {lk:Option Nat} {ops:LO} {i:Nat} {sl:LQ} {ms:MM} {fr:Fr} {Γ:QE} {m:Option (Out S R)} [ht:LK P t lk] (hv:dX A none sl base fr) (hx:bd fr x=some (.pointer (some a)))
   (h:AD tq P cx K l tail base U hd (.la fr a lk t x A d ty as ops i sl ms Γ m)):AD tq P cx K l tail base U hd (.o A (.load t x) d ty as ops i sl ms Γ m)
 | lsw {hd:QE} {b:Bool} {v:Value} {j:Int} {x:OO} {t:TI} {fr:Fr} {A:LN} {as:LL} {d:Nat} {ty:TI} {ops:LO} {i:Nat} {sl:LQ} {ms:MM} {Γ:QE} {m:Option (Out S R)} (hw:Kn hd v b) (h:AD tq P cx K l tail base U hd (.lb b v j fr t x A d ty as ops i sl ms Γ m)):AD tq P cx K l tail base U hd (.la fr (cw v 1 j) none t x A d ty as ops i sl ms Γ m)
 | UW {hd:QE} {α:Type} {A:LN} {as:LL} {d:Nat} {x:OO} {v:Value} {j:Int} {o:Bool} {E:ah α} {z:α} {t ty:TI} {ops:LO} {i:Nat} {sl:LQ} {ms:MM} {fr:Fr} {Γ Γx:QE} {m:Option (Out S R)} (h:vp Γ (cw v 1 j) o E z qp Γx)
   (k:AD tq P cx K l tail base U hd (.ld E z fr (cw v 1 j) t x A d ty as ops i sl ms Γ m)):AD tq P cx K l tail base U hd (.lb false v j fr t x A d ty as ops i sl ms Γ m)
 | abP {hd:QE} {α:Type} {A:LN} {as:LL} {d:Nat} {x:OO} {v:Value} {j:Int} {E:ah α} {z:List α} {o:Bool} {t ty:TI} {ops:LO} {i:Nat} {sl:LQ} {ms:MM} {fr:Fr} {Γ:QE} {Vh jb:Value→List aX} {m:Option (Out S R)} (hV:((U.zipIdx.all fun p=>!(p.1.contains l.length) || ((bx l).getD p.2 []).contains i))=true) (h:∀ u,vp hd (cw v 1 j) o (bY E) z (.rd o (bY E) u z) (Vh u)) (h2:∀ u,zu (Vh u) v j u (jb u))
   (k:∀ u,AD tq P cx K l tail base U (jb u) (.a as ops (i+1) ((i,d,u) :: sl) ms Γ m)):AD tq P cx K l tail base U hd (.lb true v j fr t x A d ty as ops i sl ms Γ m)
 | UX {hd:QE} {A:LN} {as:LL} {d:Nat} {x:OO} {a:Addr} {u:Value} {t ty:TI} {ops:LO} {i:Nat} {sl:LQ} {ms:MM} {fr:Fr} {Γ:QE} {m:Option (Out S R)} (h:vq Γ a u)
   (k:AD tq P cx K l tail base U hd (.a as ops (i+1) ((i,d,u) :: sl) ms Γ m)):AD tq P cx K l tail base U hd (.la fr a none t x A d ty as ops i sl ms Γ m)
 | M0 {hd:QE} {A:LN} {as:LL} {d n:Nat} {x:OO} {a:Addr} {ds:LV} {t ty:TI} {ops:LO} {i:Nat} {sl:LQ} {ms:MM} {fr:Fr} {Γ:QE} {m:Option (Out S R)} (h:we Γ a n ds)
   (k:AD tq P cx K l tail base U hd (.a as ops (i+1) ((i,d,.agg ds.toArray) :: sl) ms Γ m)):AD tq P cx K l tail base U hd (.la fr a (some n) t x A d ty as ops i sl ms Γ m)
 | UY {hd:QE} {A:LN} {as:LL} {d:Nat} {x:OO} {a:Addr} {k:IntKind} {z:Int} {t ty:TI} {ops:LO} {i:Nat} {sl:LQ} {ms:MM} {fr:Fr} {Γ:QE} {m:Option (Out S R)}
   (h:AD tq P cx K l tail base U hd (.a as ops (i+1) ((i,d,.int k z) :: sl) ms Γ m)):AD tq P cx K l tail base U hd (.ld (aM k) z fr a t x A d ty as ops i sl ms Γ m)
 | UZ {hd:QE} {A:LN} {as:LL} {d:Nat} {x:OO} {a:Addr} {z:Bool} {t ty:TI} {ops:LO} {i:Nat} {sl:LQ} {ms:MM} {fr:Fr} {Γ:QE} {m:Option (Out S R)}
   (h:AD tq P cx K l tail base U hd (.a as ops (i+1) ((i,d,.bool z) :: sl) ms Γ m)):AD tq P cx K l tail base U hd (.ld lr z fr a t x A d ty as ops i sl ms Γ m)
 | U0 {hd:QE} {α:Type} {A:LN} {as:LL} {d:Nat} {x:OO} {v:Value} {j:Int} {E:ah α} {z:List α} {o:Bool} {t ty:TI} {ops:LO} {i:Nat} {sl:LQ} {ms:MM} {fr:Fr} {Γ:QE} {Γ1 Γ':Value→List aX} {m:Option (Out S R)} (h:∀ u,vp Γ (cw v 1 j) o (bY E) z (.rd o (bY E) u z) (Γ1 u)) (h2:∀ u,zu (Γ1 u) v j u (Γ' u))
   (k:∀ u,AD tq P cx K l tail base U hd (.a as ops (i+1) ((i,d,u) :: sl) ms (Γ' u) m)):AD tq P cx K l tail base U hd (.ld (bY E) z fr (cw v 1 j) t x A d ty as ops i sl ms Γ m)
 | MZ {hd:QE} {us:LN} {A:LN} {as:LL} {d:Nat} {f:FuncId} {xs:List Operand} {bb:Array TypeId} {ty:TI} {ops:LO} {i:Nat} {sl:LQ} {ms:MM} {Γ:QE} {m:Option (Out S R)} (hU:U.getD i []=us) (h:AD tq P cx K l tail base U hd (.oc us f xs bb A d ty as ops i sl ms Γ m)):AD tq P cx K l tail base U hd (.o A (.call ⟨.value (.func f),xs.toArray,bb⟩) d ty as ops i sl ms Γ m)
 | abQ {hd:QE} {β V:Type} {A:LN} {as:LL} {d:Nat} {f:FuncId} {fs bs:LV} {xo:OO} {xs:List Operand} {bb:Array TypeId} {ty:TI} {mo:Option β} {rt:β→V→List Value} {ps:β→V→List aX} {ops:LO} {i:Nat} {sl:LQ} {ms:MM} {fr:Fr} {Γ:QE} {g:β→Option (Out S R)}
   (hv:dX A none sl base fr) (hx:bd fr xo=some (.func (.func f) fs.toArray bs.toArray)) (hf:FnJ P f) (hc:∀ x:l6 ms,Eb P f fs bs xs (jx A ms x++fr) (rm A ms x++Γ) mo rt ps) (hi:j8 ms) (uB:lz A ms=true) (ho:∀ y v,tu (ps y v)=true)
   (h:∀ y,AD tq P cx K l tail base U hd (.cr (fun v=>pj (rt y v)) (ps y) d as ops i sl ms Γ (g y))):AD tq P cx K l tail base U hd (.o A (.call ⟨.value xo,xs.toArray,bb⟩) d ty as ops i sl ms Γ (mo>>=g))
 | abR {hd:QE} {β V:Type} {A:LN} {as:LL} {d:Nat} {f:FuncId} {it:TI} {name nm:String} {u:Value} {xo:OO} {xs:List Operand} {bb:Array TypeId} {ty:TI} {mo:Option β} {rt:β→V→List Value} {ps:β→V→List aX} {ops:LO} {i:Nat} {sl:LQ} {ms:MM} {fr:Fr} {Γ:QE} {g:β→Option (Out S R)}
   (hv:dX A none sl base fr) (hx:bd fr xo=some (.iface it u)) (hf:ImJ P it nm f) (hn:Bx (name=nm)) (hc:∀ x:l6 ms,Eb P f [u] [] xs (jx A ms x++fr) (rm A ms x++Γ) mo rt ps) (hi:j8 ms) (uB:lz A ms=true) (ho:∀ y v,tu (ps y v)=true)
   (h:∀ y,AD tq P cx K l tail base U hd (.cr (fun v=>pj (rt y v)) (ps y) d as ops i sl ms Γ (g y))):AD tq P cx K l tail base U hd (.o A (.call ⟨.invoke xo name,xs.toArray,bb⟩) d ty as ops i sl ms Γ (mo>>=g))
 | call {hd:QE} {β V:Type} {A:LN} {as:LL} {d:Nat} {f:FuncId} {xs:List Operand} {bb:Array TypeId} {ty:TI} {mo:Option β} {rt:β→V→List Value} {ps:β→V→List aX} {ops:LO} {i:Nat} {sl:LQ} {ms:MM} {fr:Fr} {Γ:QE} {g:β→Option (Out S R)} [hf:bu P f]
   (hv:dX A none sl base fr) (hc:∀ x:l6 ms,Lm P f xs (jx A ms x++fr) (rm A ms x++Γ) mo rt ps) (hi:j8 ms) (uB:lz A ms=true) (ho:∀ y v,tu (ps y v)=true)
   (h:∀ y,AD tq P cx K l tail base U hd (.cr (fun v=>pj (rt y v)) (ps y) d as ops i sl ms Γ (g y))):AD tq P cx K l tail base U hd (.oc [] f xs bb A d ty as ops i sl ms Γ (mo>>=g))
 | YT {hd:QE} {β V:Type} {A:LN} {as:LL} {d:Nat} {f:FuncId} {xs:List Operand} {bb:Array TypeId} {ty:TI} {mo:Option β} {rt:β→V→List Value} {ps:β→V→List aX} {ops:LO} {i:Nat} {sl:LQ} {ms:MM} {fr:Fr} {Γ:QE} {g:β→Option (Out S R)} [hf:bu P f]
   (hV:((U.set i []).all fun us=>!(us.contains l.length))=true) (hv:dX A none sl base fr) (hc:∀ x:l6 ms,Ec P f xs (jx A ms x++fr) hd (rm A ms x++Γ) mo rt ps) (hi:j8 ms) (uB:lz A ms=true) (ho:∀ y v,tu (ps y v)=true)
   (h:∀ y,AD tq P cx K l tail base U hd (.cr (fun v=>pj (rt y v)) (ps y) d as ops i sl ms Γ (g y))):AD tq P cx K l tail base U hd (.oc [l.length] f xs bb A d ty as ops i sl ms Γ (mo>>=g))
 | YU {hd:QE} {β V:Type} {j1:Nat} {a1:fu} {gj:MM} {A:LN} {as:LL} {d:Nat} {f:FuncId} {xs:List Operand} {bb:Array TypeId} {ty:TI} {mo:Option β} {rt:β→V→List Value} {ps:β→V→List aX} {ops:LO} {i:Nat} {sl:LQ} {ms:MM} {fr:Fr} {Γ:QE} {g:β→Option (Out S R)} [hf:bu P f]
   (h1:AE ms j1 a1 gj) (Ed:a1.src=[]) (h4:dj j1 A=true) (hv:dX A none sl base fr) (hc:∀ (q:a1.V) (x:l6 gj),Ec P f xs (jx A gj x++fr) (a1.ps undef q) (rm A gj x++Γ) mo rt ps) (hi:j8 gj) (uB:lz A gj=true) (ho:∀ y v,tu (ps y v)=true)
   (h:∀ y,AD tq P cx K l tail base U hd (.cr (fun v=>pj (rt y v)) (ps y) d as ops i (Lp j1 i sl) gj Γ (g y))):AD tq P cx K l tail base U hd (.oc [j1] f xs bb A d ty as ops i sl ms Γ (mo>>=g))
 | crv {hd:QE} {u:Unit→Value} {d:Nat} {as:LL} {ops:LO} {i:Nat} {sl:LQ} {ms:MM} {Γ:QE} {m:Option (Out S R)} (h:AD tq P cx K l tail base U hd (.a as ops (i+1) ((i,d,u ()) :: sl) ms Γ m)):AD tq P cx K l tail base U hd (.cr u (fun _=>[]) d as ops i sl ms Γ m)
 | crb {hd:QE} {u:Unit→Value} {ps:Unit→List aX} {d:Nat} {as:LL} {ops:LO} {i:Nat} {sl:LQ} {ms:MM} {Γ:QE} {m:Option (Out S R)} (h:AD tq P cx K l tail base U hd (.a as ops (i+1) ((i,d,u ()) :: sl) (⟨i,d,[],Unit,fun _=>u,fun _=>ps⟩ :: ms) Γ m)):AD tq P cx K l tail base U hd (.cr u ps d as ops i sl ms Γ m)
 | crm {hd:QE} {V:Type} {u:V→Value} {ps:V→List aX} {d:Nat} {as:LL} {ops:LO} {i:Nat} {sl:LQ} {ms:MM} {Γ:QE} {m:Option (Out S R)} (h:AD tq P cx K l tail base U hd (.a as ops (i+1) sl (⟨i,d,[],V,fun _=>u,fun _=>ps⟩ :: ms) Γ m)):AD tq P cx K l tail base U hd (.cr u ps d as ops i sl ms Γ m)
 | val {hd:QE} {A:LN} {as:LL} {op:Op} {d:Nat} {ty:TI} {u:Value} {ops:LO} {i:Nat} {sl:LQ} {ms:MM} {fr:Fr} {Γ:QE} {m:Option (Out S R)} (hv:dX A none sl base fr) (hq:VQ P Γ fr op u)
   (h:AD tq P cx K l tail base U hd (.a as ops (i+1) ((i,d,u) :: sl) ms Γ m)):AD tq P cx K l tail base U hd (.o A op d ty as ops i sl ms Γ m)
 | mh {hd:QE} {A:LN} {as:LL} {op:BinOp} {x y:OO} {k k':IntKind} {a b:Int} {t t':TI} {d:Nat} {ty:TI} {ops:LO} {i:Nat} {sl:LQ} {ms:MM} {fr:Fr} {Γ:QE} {f:Int→Option (Out S R)} (hv:dX A none sl base fr) (hx:bd fr x=some (.int k a)) (hy:bd fr y=some (.int k' b)) (hk:R4 op k k')
   (h:∀ z,AD tq P cx K l tail base U hd (.a as ops (i+1) ((i,d,.int k z) :: sl) ms Γ (f z))):AD tq P cx K l tail base U hd (.o A (.binOp op t x y t') d ty as ops i sl ms Γ (rf op k a b>>=f))
 | ixk {hd:QE} {α β:Type} {A:LN} {as:LL} {d:Nat} {x y:OO} {v:Value} {k:IntKind} {j:Int} {t ty:TI} {o1 o2 p1 p2:Bool} {E:ah α} {E2:ah β} {z:β} {xs:List α} {ops:LO} {i:Nat} {sl:LQ} {ms:MM} {fr:Fr} {Γ Γx:QE} {m:Option (Out S R)} [ht:vV P t]
   (hy:bd fr y=some (.int k j)) (hr:na Γ v o1 o2 E xs qp Γx) (hi:In (.ad p1 p2 v j E2 z) Γ) (hE:E.size=1)
   (h:AD tq P cx K l tail base U hd (.a as ops (i+1) ((i,d,.pointer (some (cw v 1 j))) :: sl) ms Γ m)):AD tq P cx K l tail base U hd (.ix false v fr x y t A d ty as ops i sl ms Γ m)
 | pz {hd:QE} {as:LL} {ops:LO} {i:Nat} {sl:LQ} {ms:MM} {Γ:QE} {m:Option (Out S R)} (h:AD tq P cx K l tail base U hd (.a as ops i sl ms Γ m)):AD tq P cx K l tail base U hd (.p [] as ops i sl ms Γ m)
 | pe {hd:QE} {e:aX} {Δ:QE} {as:LL} {ops:LO} {i:Nat} {sl:LQ} {ms:MM} {Γ:QE} {m:Option (Out S R)} (h:AD tq P cx K l tail base U hd (.p Δ as ops i sl ms (e :: Γ) m)):AD tq P cx K l tail base U hd (.p (e :: Δ) as ops i sl ms Γ m)
 | Hp {hd:QE} {α V:Type} {Sc:ah α} {cl:α→V→List Value} {en:α→V→List aX} {A:LN} {as:LL} {d n:Nat} {x y:OO} {v:Value} {xs:List α} {k:IntKind} {j:Int} {t ty:TI} {ops:LO} {i:Nat} {sl:LQ} {ms:MM} {fr:Fr} {Γ Γx:QE} {f:α→Option (Out S R)} [ht:Gf P t n]
   (hy:bd fr y=some (.int k j)) (hr:na Γ v false false (tI Sc) xs qp Γx) (hs:Gg Sc V cl en) (hn:Sc.size=n)
   (h:∀ z u,AD tq P cx K l tail base U hd (.p (.bb (cw v n j) (cl z u) :: en z u) as ops (i+1) ((i,d,.pointer (some (cw v n j))) :: sl) ms Γ (f z))):AD tq P cx K l tail base U hd (.ix false v fr x y t A d ty as ops i sl ms Γ (idx xs j>>=f))
 | Vi {hd:QE} {α V:Type} {Sc:ah α} {cl:α→V→List Value} {en:α→V→List aX} {A:LN} {as:LL} {d n e bt:Nat} {x y:OO} {v:Value} {us:List (List Value)} {xs:List α} {k:IntKind} {j:Int} {t ty:TI} {ops:LO} {i:Nat} {sl:LQ} {ms:MM} {fr:Fr} {Γ Γ1:QE} {f:α→Option (Out S R)} [ht:BK P t e n bt]
   (hy:bd fr y=some (.int k j)) (h1:dt Γ (.own (aK e (jw n)) v us) Γ1) (hg:In (.rd false (vU Sc) (.bool true) (us,xs)) Γ) (hs:Gg Sc V cl en)
   (h:∀ z u,AD tq P cx K l tail base U hd (.p (.rd false (Bt us j) (.bool true) (cl z u) :: en z u) as ops (i+1) ((i,d,.pointer (some (cw v n j))) :: sl) ms Γ (f z))):AD tq P cx K l tail base U hd (.ix false v fr x y t A d ty as ops i sl ms Γ (idx xs j>>=f))
 | laG {hd:QE} {A:LN} {as:LL} {d n e off:Nat} {x:OO} {v u:Value} {us:List (List Value)} {j:Int} {cs:LV} {t ty:TI} {ops:LO} {i:Nat} {sl:LQ} {ms:MM} {fr:Fr} {Γ Γ1:QE} {m:Option (Out S R)} (h1:dt Γ (.own (aK e (jw n)) v us) Γ1) (hp:In (.rd false (Bt us j) (.bool true) cs) Γ) (hc:cs[off]? = some u)
   (k:AD tq P cx K l tail base U hd (.a as ops (i+1) ((i,d,u) :: sl) ms Γ m)):AD tq P cx K l tail base U hd (.la fr ((cw v n j).add off) none t x A d ty as ops i sl ms Γ m)
 | Vj {hd:QE} {A:LN} {as:LL} {d n e:Nat} {x:OO} {v u:Value} {us:List (List Value)} {j:Int} {cs:LV} {t ty:TI} {ops:LO} {i:Nat} {sl:LQ} {ms:MM} {fr:Fr} {Γ Γ1:QE} {m:Option (Out S R)} (h1:dt Γ (.own (aK e (jw n)) v us) Γ1) (hp:In (.rd false (Bt us j) (.bool true) cs) Γ) (hc:cs[0]? = some u)
   (k:AD tq P cx K l tail base U hd (.a as ops (i+1) ((i,d,u) :: sl) ms Γ m)):AD tq P cx K l tail base U hd (.la fr (cw v n j) none t x A d ty as ops i sl ms Γ m)
 | Sa {hd:QE} {β V:Type} {A:LN} {as:LL} {d:Nat} {f:FuncId} {xs:List Operand} {bb:Array TypeId} {ty:TI} {mo:Option β} {rt:β→V→List Value} {ps:β→V→List aX} {ops:LO} {i:Nat} {sl:LQ} {ms:MM} {fr:Fr} {Γ:QE} {g:β→Option (Out S R)} [hf:bu P f]
   (hv:dX A none sl base fr) (hc:∀ x:l6 ms,Lo P f xs (jx A ms x++fr) Γ mo rt ps) (hi:j8 ms) (uB:lz A ms=true)
   (h:∀ y,AD tq P cx K l tail base U hd (.cr (fun v=>pj (rt y v)) (ps y) d as ops i sl ms Γ (g y))):AD tq P cx K l tail base U hd (.oc [] f xs bb A d ty as ops i sl ms Γ (mo>>=g))
 | Nj {hd:QE} {β V:Type} {A:LN} {as:LL} {d:Nat} {f:FuncId} {xs:List Operand} {bb:Array TypeId} {ty:TI} {mo:Option β} {rt:β→V→List Value} {ps:β→V→List aX} {ops:LO} {i:Nat} {sl:LQ} {ms:MM} {fr:Fr} {Γ:QE} {g:β→Option (Out S R)} [hf:bu P f]
   (hV:((U.set i []).all fun us=>!(us.contains l.length))=true) (hv:dX A none sl base fr) (hc:∀ x:l6 ms,BQ P f xs (jx A ms x++fr) hd Γ mo rt ps) (hi:j8 ms) (uB:lz A ms=true)
   (h:∀ y,AD tq P cx K l tail base U hd (.cr (fun v=>pj (rt y v)) (ps y) d as ops i sl ms Γ (g y))):AD tq P cx K l tail base U hd (.oc [l.length] f xs bb A d ty as ops i sl ms Γ (mo>>=g))
 | Nl {hd:QE} {β V:Type} {j1:Nat} {a1:fu} {gj:MM} {A:LN} {as:LL} {d:Nat} {f:FuncId} {xs:List Operand} {bb:Array TypeId} {ty:TI} {mo:Option β} {rt:β→V→List Value} {ps:β→V→List aX} {ops:LO} {i:Nat} {sl:LQ} {ms:MM} {fr:Fr} {Γ:QE} {g:β→Option (Out S R)} [hf:bu P f]
   (h1:AE ms j1 a1 gj) (Ed:a1.src=[]) (h4:dj j1 A=true) (hv:dX A none sl base fr) (hc:∀ (q:a1.V) (x:l6 gj),BQ P f xs ((a1.d,a1.rt undef q) :: (jx A gj x++fr)) (a1.ps undef q) Γ mo rt ps) (hi:j8 gj) (uB:lz A gj=true)
   (h:∀ y,AD tq P cx K l tail base U hd (.cr (fun v=>pj (rt y v)) (ps y) d as ops i (Lp j1 i sl) gj Γ (g y))):AD tq P cx K l tail base U hd (.oc [j1] f xs bb A d ty as ops i sl ms Γ (mo>>=g))
 | slH {hd:QE} {α:Type} {o:Bool} {A:LN} {as:LL} {d:Nat} {x lo hi:OO} {v:Value} {k1 k2:IntKind} {a b:Int} {E T:ah α} {xs:List α} {t e ty:TI} {ops:LO} {i:Nat} {sl:LQ} {ms:MM} {fr:Fr} {Γ Γ1:QE} {Γ':Value→List α→List aX} {f:List α→Option (Out S R)} [ht:vV P t]
   (hv:dX A none sl base fr) (hx:bd fr x=some v) (hlo:bd fr lo=some (.int k1 a)) (hhi:bd fr hi=some (.int k2 b)) (hc:dt Γ (.own (aK e T) v xs) Γ1) (hr:∀ v' ys,na Γ v o o E xs (.rd o (bY E) v' ys) (Γ' v' ys)) (hE:E.size=1)
   (h:∀ v' ys,AD tq P cx K l tail base U hd (.a as ops (i+1) ((i,d,v') :: sl) ms (Γ' v' ys) (f ys))):AD tq P cx K l tail base U hd (.o A (.slice t x (some lo) (some hi) none) d ty as ops i sl ms Γ (PH xs a b>>=f))
 | Sb {o1 o2:Bool} {yv:Value} {fr:Fr} {Γx:QE} {hd:QE} {us:LN} {t e:TI} {E:ah Int} {z0:Int} {bt t1 t2:Nat} {k:IntKind} {xs ys:List Int} {a1:fu} {gj:MM} {f:Unit→Option (Out S R)} {A:LN} {as:LL} {d:Nat} {ty:TI} {ops:LO} {i:Nat} {sl:LQ} {ms:MM} {Γ:QE} [hz:rv P t Int e E z0 bt] (h1:nh ms t1 a1 gj) (h3:∀ u v,a1.ps u v=[.own (aK e (aM k)) (a1.rt u v) xs]) (hu:us=[a1.j]) (h4:dj a1.j A=true) (hv:dX A none sl base fr) (hx:look fr t2=some yv) (hr:na Γ yv o1 o2 (aM k) ys qp Γx)
   (h:AD tq P cx K l tail base U hd (.a as ops (i+1) sl (⟨i,d,[],Value,fun _ v=>v,fun _ v=>[.own (aK e (aM k)) v (xs++ys)]⟩ :: gj) Γ (f ()))):AD tq P cx K l tail base U hd (.ap us t1 t2 t A d ty as ops i sl ms Γ (fits bt (xs.length+ys.length)>>=f))
 | Vk {e2:TI} {a2:fu} {tT:MM} {hd:QE} {us:LN} {t e:TI} {E:ah Int} {z0:Int} {bt t1 t2:Nat} {k:IntKind} {xs ys:List Int} {a1:fu} {gj:MM} {f:Unit→Option (Out S R)} {A:LN} {as:LL} {d:Nat} {ty:TI} {ops:LO} {i:Nat} {sl:LQ} {ms:MM} {Γ:QE} [hz:rv P t Int e E z0 bt] (h1:nh ms t1 a1 gj) (h3:∀ u v,a1.ps u v=[.own (aK e (aM k)) (a1.rt u v) xs]) (hu:us=[a1.j]) (h4:dj a1.j A=true) (h2:nh gj t2 a2 tT) (h7:∀ u v,a2.ps u v=[.own (aK e2 (aM k)) (a2.rt u v) ys]) (h5:dj a2.j A=true)
   (h:AD tq P cx K l tail base U hd (.a as ops (i+1) sl (⟨i,d,[],Value,fun _ v=>v,fun _ v=>[.own (aK e (aM k)) v (xs++ys)]⟩ :: gj) Γ (f ()))):AD tq P cx K l tail base U hd (.ap us t1 t2 t A d ty as ops i sl ms Γ (fits bt (xs.length+ys.length)>>=f))
end Go.Dk
namespace Go.Dk
open Go Go.Li
theorem jc {t:Nat} {l:LN}:dj t l=true↔t∈l:=by
 induction l with
 | nil=>simp [dj]
 | cons a l ih=>
  unfold dj
  cases hb:Nat.beq t a with
  | true=>simp [Nat.eq_of_beq_eq_true hb]
  | false=>simp only [cond_false,ih,List.mem_cons]; exact ⟨.inr,fun h=>h.resolve_left fun e=>by rw [e,Nat.beq_refl] at hb; cases hb⟩
def l8 (l:LO) (U:LL) (mt:Nat):List (List Nat):=(List.range mt).map fun i=>(List.range l.length).filter (ta l U mt i)
theorem kj {l:LO} {U:LL} {mt i j:Nat} (h:j∈(l8 l U mt).getD i []):j∈(bx l).getD i []∧ta l U mt i j=true:=by
 unfold l8 at h
 rw [List.getD_eq_getElem?_getD,List.getElem?_map] at h
 by_cases hi:i < mt
 ·rw [List.getElem?_range hi] at h
  have h1:=(List.mem_filter.1 h).2
  refine ⟨?_,h1⟩
  unfold ta at h1
  rw [Bool.and_eq_true] at h1
  simpa using h1.1
 ·rw [List.getElem?_eq_none (by simpa using hi)] at h
  exact absurd h List.not_mem_nil
variable {Z:Nat→Prop}
structure jk (Z:Nat→Prop) (l:LO) (S:List gw) (sl:LQ) (ms:MM):Prop where
 v:∀ p∈sl,∃ j,(j=p.1∨j∈(bx l).getD p.1 [])∧bn l j=some p.2.1∧∃ s,S[j]? = some s∧s.b=true∧∀ f w r x,s.V f w r x→x=p.2.2
 m:∀ a∈ms,(S[a.j]? = some ⟨true,MV Z a⟩∧bn l a.j=some a.d)∨(S[a.j]? = some ⟨true,Nd Z a⟩∧bn l a.j=none∧∃ k∈(bx l).getD a.j [],bn l k=some a.d)
 s:∀ i s,S[i]? = some s→Nf Z ((bx l).getD i []) l s
 d:(ms.map (·.j)).Nodup
 t:∀ i j k,j∈(bx l).getD k []→k∈(bx l).getD i []→j∈(bx l).getD i []
theorem jk.lt {l:LO} {S:List gw} {sl:LQ} {ms:MM} (h:jk Z l S sl ms) {a:fu} (ha:a∈ms):a.j < S.length:=by
 rcases h.m a ha with h | h <;> exact (List.getElem?_eq_some_iff.1 h.1).1
theorem jk.xW {l:LO} {S S2:List gw} {sl:LQ} {ms:MM} (h:jk Z l S sl ms) {a:fu} (ha:a∈ms) {g:Nat→List Nat} {r:NV} {w:World} (hd:vC l (S++S2) a.j g r w):MV Z a (g a.j) w r (r a.d):=by
 rcases h.m a ha with h1 | h1
 ·have h2:=hd.1 a.d h1.2
  rw [List.getElem?_append_left (List.getElem?_eq_some_iff.1 h1.1).1,h1.1] at h2
  exact h2
 ·obtain ⟨x,hx⟩:=hd.2 h1.2.1 _ (by rw [List.getElem?_append_left (List.getElem?_eq_some_iff.1 h1.1).1]; exact h1.1) rfl
  exact hx
theorem jk.slot {l:LO} {S:List gw} {sl:LQ} {ms:MM} (h:jk Z l S sl ms) {a:fu} (ha:a∈ms) {i:Nat} (hi:a.j∈(bx l).getD i []):∃ k∈(bx l).getD i [],bn l k=some a.d:=by
 rcases h.m a ha with h1 | ⟨_,_,k,hk,hd⟩
 ·exact ⟨a.j,hi,h1.2⟩
 ·exact ⟨k,h.t i k a.j hk hi,hd⟩
theorem jk.ur {l:LO} {S S2:List gw} {sl:LQ} {ms:MM} (h:jk Z l S sl ms) {a:fu} (ha:a∈ms):((S++S2)[a.j]? = some ⟨true,MV Z a⟩∧bn l a.j=some a.d)∨((S++S2)[a.j]? = some ⟨true,Nd Z a⟩∧bn l a.j=none∧∃ k∈(bx l).getD a.j [],bn l k=some a.d):=by
 rw [List.getElem?_append_left (h.lt ha)]
 exact h.m a ha
theorem jk.Lt {l:LO} {S S2:List gw} {sl:LQ} {ms:MM} (h:jk Z l S sl ms) {p:Nat×Nat×Value} (hp:p∈sl):∃ j,(j=p.1∨j∈(bx l).getD p.1 [])∧bn l j=some p.2.1∧∃ s,(S++S2)[j]? = some s∧s.b=true∧∀ f w r x,s.V f w r x→x=p.2.2:=by
 obtain ⟨j,hj,h1,s,h2,h3⟩:=h.v p hp
 exact ⟨j,hj,h1,s,by rw [List.getElem?_append_left (List.getElem?_eq_some_iff.1 h2).1]; exact h2,h3⟩
theorem jk.vD {l:LO} {S S2:List gw} {sl:LQ} {ms:MM} (h:jk Z l S sl ms) {p:Nat×Nat×Value} (hp:p∈sl) {r:NV} (ho:∀ j,(j=p.1∨j∈(bx l).getD p.1 [])→j < S.length→Old l (S++S2) j r):r p.2.1=p.2.2:=by
 obtain ⟨j,hj,h1,s,h2,h3,h4⟩:=h.v p hp
 have hl:=(List.getElem?_eq_some_iff.1 h2).1
 have:=ho j hj hl _ h1 s (by rw [List.getElem?_append_left hl]; exact h2)
 rw [if_pos h3] at this
 obtain ⟨f,w,hV⟩:=this
 exact h4 f w r _ hV
theorem jk.val {l:LO} {S:List gw} {sl:LQ} {ms:MM} (h:jk Z l S sl ms) {d:Nat} {u:Value} (hd:bn l S.length=some d):jk Z l (S++[sV u]) ((S.length,d,u) :: sl) ms:=by
 refine ⟨?_,fun a ha=>h.ur ha,?_,h.d,h.t⟩
 ·intro p hp
  rcases List.mem_cons.1 hp with rfl | hp
  ·exact ⟨S.length,.inl rfl,hd,sV u,by simp,rfl,fun _ _ _ _ h=>h⟩
  ·exact h.Lt hp
 ·intro i s hs
  by_cases hi:i < S.length
  ·rw [List.getElem?_append_left hi] at hs; exact h.s i s hs
  ·rw [List.getElem?_append_right (by omega)] at hs
   have wR:i - S.length=0:=by
    have:=(List.getElem?_eq_some_iff.1 hs).1
    simp at this; omega
   rw [wR] at hs
   cases hs
   exact HE.n Lu
theorem jk.mem {l:LO} {S:List gw} {sl:LQ} {ms:MM} (h:jk Z l S sl ms) {b:fu} (hj:b.j=S.length) (hd:bn l S.length=some b.d) (eh:∀ t∈b.src,∃ j∈(bx l).getD S.length [],bn l j=some t):jk Z l (S++[⟨true,MV Z b⟩]) sl (b :: ms):=by
 have bj:∀ a∈ms,a.j < S.length:=fun a ha=>h.lt ha
 refine ⟨fun p hp=>?_,?_,?_,?_,h.t⟩
 ·exact h.Lt hp
 ·intro a ha
  rcases List.mem_cons.1 ha with rfl | ha
  ·exact .inl ⟨by rw [hj]; simp,by rw [hj]; exact hd⟩
  ·exact h.ur ha
 ·intro i s hs
  by_cases hi:i < S.length
  ·rw [List.getElem?_append_left hi] at hs; exact h.s i s hs
  ·rw [List.getElem?_append_right (by omega)] at hs
   have wR:i - S.length=0:=by
    have:=(List.getElem?_eq_some_iff.1 hs).1
    simp at this; omega
   have Vl:i=S.length:=by omega
   rw [wR] at hs
   cases hs
   rw [Vl]
   exact Nh eh
 ·rw [List.map_cons,List.nodup_cons]
  refine ⟨fun hm=>?_,h.d⟩
  obtain ⟨a,ha,he⟩:=List.mem_map.1 hm
  have:=bj a ha
  omega
theorem jk.abS {l:LO} {S:List gw} {sl:LQ} {ms:MM} (h:jk Z l S sl ms) {j d:Nat} {u:Value} (hd:bn l j=some d) {s:gw} (hs:S[j]? = some s) (hb:s.b=true) (hV:∀ f w r x,s.V f w r x→x=u):jk Z l S ((j,d,u) :: sl) ms:=
 ⟨fun p hp=>by
  rcases List.mem_cons.1 hp with rfl | hp
  ·exact ⟨j,.inl rfl,hd,s,hs,hb,hV⟩
  ·exact h.v p hp,h.m,h.s,h.d,h.t⟩
theorem jk.re {l:LO} {S:List gw} {sl:LQ} {ms:MM} (h:jk Z l S sl ms) {j i:Nat} (hj:j∈(bx l).getD i []):jk Z l S (Lp j i sl) ms:=by
 refine ⟨fun p hp=>?_,h.m,h.s,h.d,h.t⟩
 obtain ⟨q,hq,rfl⟩:=List.mem_map.1 hp
 obtain ⟨k,hk,h1⟩:=h.v q hq
 cases hb:Nat.beq q.1 j with
 | false=>exact ⟨k,hk,h1⟩
 | true=>
  refine ⟨k,.inr ?_,h1⟩
  have Nn:=Nat.eq_of_beq_eq_true hb
  show k∈(bx l).getD i []
  rcases hk with rfl | hk
  ·rw [Nn]; exact hj
  ·rw [Nn] at hk; exact h.t i k j hk hj
theorem jk.abT {l:LO} {S:List gw} {sl:LQ} {ms:MM} (h:jk Z l S sl ms) {b:fu} (hj:b.j=S.length) (hd:bn l S.length=none) (hk:∃ k∈(bx l).getD S.length [],bn l k=some b.d) (eh:b.src=[]):jk Z l (S++[⟨true,Nd Z b⟩]) sl (b :: ms):=by
 have bj:∀ a∈ms,a.j < S.length:=fun a ha=>h.lt ha
 refine ⟨fun p hp=>?_,?_,?_,?_,h.t⟩
 ·exact h.Lt hp
 ·intro a ha
  rcases List.mem_cons.1 ha with rfl | ha
  ·exact .inr ⟨by rw [hj]; simp,by rw [hj]; exact hd,by rw [hj]; exact hk⟩
  ·exact h.ur ha
 ·intro i s hs
  by_cases hi:i < S.length
  ·rw [List.getElem?_append_left hi] at hs; exact h.s i s hs
  ·rw [List.getElem?_append_right (by omega)] at hs
   have wR:i - S.length=0:=by
    have:=(List.getElem?_eq_some_iff.1 hs).1
    simp at this; omega
   have Vl:i=S.length:=by omega
   rw [wR] at hs
   cases hs
   rw [Vl]
   exact Ll hk fun t ht=>by rw [eh] at ht; cases ht
 ·rw [List.map_cons,List.nodup_cons]
  refine ⟨fun hm=>?_,h.d⟩
  obtain ⟨a,ha,he⟩:=List.mem_map.1 hm
  have:=bj a ha
  omega
theorem jd {l:LO} {m:Nat} {base:Fr} {r r0:NV} (hh:j9 l m base=true) (ha:c9 r0 base) (ho:∀ t,(∀ j,j < m→bn l j≠some t)→r t=r0 t):c9 r base:=by
 intro t v hl
 have hm:∃ u,(t,u)∈base:=by
  clear hh ha
  induction base with
  | nil=>cases hl
  | cons p base ih=>
   obtain ⟨a,u⟩:=p
   unfold look at hl
   cases hb:Nat.beq t a with
   | true=>exact ⟨u,by rw [Nat.eq_of_beq_eq_true hb]; simp⟩
   | false=>rw [hb] at hl; obtain ⟨u',h⟩:=ih hl; exact ⟨u',by simp [h]⟩
 obtain ⟨u,hu⟩:=hm
 rw [ho t fun j hj=>No hh (t,u) hu j hj]
 exact ha t v hl
section
variable {P:Program} {l:LO} {mt:Nat} {S:List gw} {sl:LQ} {ms:MM} {base fr:Fr} {r r0:NV} {w w0:World} {g:Nat→List Nat} {i:Nat} {A:LN} {U:LL}
theorem l7 (hR:jk Z l S sl ms) (hA:A=(l8 l U mt).getD i []) (hv:dX A none sl base fr) (hb:c9 r base) {S':List gw} (hO:∀ j∈(bx l).getD i [],Old l (S++S') j r):c9 r fr:=by
 refine hv.sound hb ?_ (fun _ _ _ h=>nomatch h)
 intro p hp hm
 have hi:=(kj (by rw [← hA]; exact jc.1 hm)).1
 exact hR.vD hp fun j hj _=>hO j (hj.elim (fun e=>e ▸ hi) fun hj=>hR.t i j p.1 hj hi)
theorem PI {H:LN} {o:Oper} {u:Value} (hh:j9 l mt base=true) (ha:c9 r0 base) (hR:jk Z l S sl ms) (ho:l[S.length]? = some o) (hg:o.guard=none) (hA:A=(l8 l U mt).getD S.length []) (hv:dX A none sl base fr)
  (h:∀ r,c9 r fr→∀ w,aw H w0 w→(execOp (ev r) o).run P w = .ok (.value u) w):iq P l mt (S++[sV u]) U r0 w0 H S.length:=
 iq.val ho (by simp) hg fun g r w hC hO hn ir=>h r (l7 hR hA hv (jd hh ha ir) hO) w hC
end
end Go.Dk
namespace Go.Dk
open Go Go.Li
section
variable {R S:Type} {P:Program} {cx:Cx R} {K:dg R S} {l tail:LO} {base fr:Fr} {w:World} {Z:Nat→Prop} {U:LL}
def gx (P:Program) (Z:Nat→Prop) (l:LO) (mt:Nat) (U:LL) (r0:NV) (w0:World) (H:LN) (i:Nat) (sl:LQ) (ms:MM):Prop:=
 ∃ S:List gw,S.length=i∧jk Z l S sl ms∧∀ j,j < i→iq P l mt S U r0 w0 H j
def o9 (B:Bs) (Z:Nat→Prop) (hd Γ:QE) (H:LN) (w:World):Prop:=∃ F Hd,(SA Z w hd [] Hd∧(∀ b∈Hd,b∈H∧b < w.heap.size)∧(∀ b∈H,b < w.heap.size)∧Hd.Nodup)∧SA Z w Γ [] F∧Gd B Z (H++F) w
theorem o9.stay {B:Bs} {Γ:QE} {F H:LN} {w w':World} (hS:SA Z w Γ [] F) (hG:Gd B Z (H++F) w) (hC:aw H w w'):SA Z w' Γ [] F:=
 hS.fg hC (fun b hb=>hG.apart b (List.mem_append_left _ hb)) (fun _ _=>List.not_mem_nil) (fun b hb hf=>(List.nodup_append.1 hG.nd).2.2 b hb b hf rfl)
def Fin (P:Program) (cx:Cx R) (K:dg R S) (l l0:LO) (mt:Nat) (U:LL) (hd:QE) (_id:Nat) (base:Fr) (i:Nat) (sl:LQ) (ms:MM) (Γ:QE) (m:Option (Out S R)):Prop:=
 ∀ B o,m=some o→∀ r0 w0 H Z,c9 r0 base→o9 B Z hd Γ H w0→gx P Z l mt U r0 w0 H i sl ms→nz P cx.n l0 (mx P cx B K o) r0 w0
theorem gx.re {mt:Nat} {r0:NV} {w0:World} {H:LN} {i k j:Nat} {sl:LQ} {ms:MM} (h:gx P Z l mt U r0 w0 H k sl ms) (hj:j∈(bx l).getD i []):gx P Z l mt U r0 w0 H k (Lp j i sl) ms:=by
 obtain ⟨S,h1,h2,h3⟩:=h
 exact ⟨S,h1,h2.re hj,h3⟩
structure xd (l:LO) (mt:Nat) (U:LL) (as:LL) (ops:LO) (i:Nat):Prop where
 a:as=(l8 l U mt).drop i
 o:ops=(l.take mt).drop i
 le:i≤mt
structure Vm (l:LO) (mt:Nat) (U:LL) (A:LN) (op:Op) (ty:TI) (as:LL) (ops:LO) (i:Nat):Prop where
 A:A=(l8 l U mt).getD i []
 o:∃ pos ag,l[i]? = some ⟨none,op,ty,pos,ag,none⟩
 n:xd l mt U as ops (i+1)
theorem xd.Lq {mt:Nat} {A:LN} {as:LL} {op:Op} {ty:TI} {pos:String} {ag:Array Edge} {ops:LO} {i:Nat} (h:xd l mt U (A :: as) (⟨none,op,ty,pos,ag,none⟩ :: ops) i):Vm l mt U A op ty as ops i:=by
 obtain ⟨h1,h2,h3⟩:=h
 have e1:(l8 l U mt)[i]? = some A:=by
  have:=congrArg (fun x=>x[0]?) h1
  simpa using this.symm
 have e2:(l.take mt)[i]? = some ⟨none,op,ty,pos,ag,none⟩:=by
  have:=congrArg (fun x=>x[0]?) h2
  simpa using this.symm
 have t1:as=(l8 l U mt).drop (i+1):=by
  have:=congrArg List.tail h1
  simpa [List.tail_drop] using this
 have t2:ops=(l.take mt).drop (i+1):=by
  have:=congrArg List.tail h2
  simpa [List.tail_drop] using this
 have hi:i < mt:=by
  have:=(List.getElem?_eq_some_iff.1 e1).1
  simpa [l8] using this
 rw [List.getElem?_take,if_pos hi] at e2
 exact ⟨by rw [List.getD_eq_getElem?_getD,e1]; rfl,⟨pos,ag,e2⟩,t1,t2,hi⟩
structure n8 (l:LO) (mt:Nat) (U:LL) (A:LN) (op:Op) (d:Nat) (ty:TI) (as:LL) (ops:LO) (i:Nat):Prop where
 A:A=(l8 l U mt).getD i []
 o:∃ pos ag,l[i]? = some ⟨some d,op,ty,pos,ag,none⟩
 n:xd l mt U as ops (i+1)
theorem xd.cons {mt:Nat} {A:LN} {as:LL} {op:Op} {d:Nat} {ty:TI} {pos:String} {ag:Array Edge} {ops:LO} {i:Nat} (h:xd l mt U (A :: as) (⟨some d,op,ty,pos,ag,none⟩ :: ops) i):n8 l mt U A op d ty as ops i:=by
 obtain ⟨h1,h2,h3⟩:=h
 have e1:(l8 l U mt)[i]? = some A:=by
  have:=congrArg (fun x=>x[0]?) h1
  simpa using this.symm
 have e2:(l.take mt)[i]? = some ⟨some d,op,ty,pos,ag,none⟩:=by
  have:=congrArg (fun x=>x[0]?) h2
  simpa using this.symm
 have t1:as=(l8 l U mt).drop (i+1):=by
  have:=congrArg List.tail h1
  simpa [List.tail_drop] using this
 have t2:ops=(l.take mt).drop (i+1):=by
  have:=congrArg List.tail h2
  simpa [List.tail_drop] using this
 have hi:i < mt:=by
  have:=(List.getElem?_eq_some_iff.1 e1).1
  simpa [l8] using this
 rw [List.getElem?_take,if_pos hi] at e2
 exact ⟨by rw [List.getD_eq_getElem?_getD,e1]; rfl,⟨pos,ag,e2⟩,t1,t2,hi⟩
theorem xd.next {mt:Nat} {A:LN} {as:LL} {o:Oper} {ops:LO} {i:Nat} (h:xd l mt U (A :: as) (o :: ops) i):A=(l8 l U mt).getD i []∧l[i]? = some o∧xd l mt U as ops (i+1):=by
 obtain ⟨h1,h2,h3⟩:=h
 have e1:(l8 l U mt)[i]? = some A:=by
  have:=congrArg (fun x=>x[0]?) h1
  simpa using this.symm
 have e2:(l.take mt)[i]? = some o:=by
  have:=congrArg (fun x=>x[0]?) h2
  simpa using this.symm
 have t1:as=(l8 l U mt).drop (i+1):=by
  have:=congrArg List.tail h1
  simpa [List.tail_drop] using this
 have t2:ops=(l.take mt).drop (i+1):=by
  have:=congrArg List.tail h2
  simpa [List.tail_drop] using this
 have hi:i < mt:=by
  have:=(List.getElem?_eq_some_iff.1 e1).1
  simpa [l8] using this
 rw [List.getElem?_take,if_pos hi] at e2
 exact ⟨by rw [List.getD_eq_getElem?_getD,e1]; rfl,e2,t1,t2,hi⟩
theorem gx.swap {mt:Nat} {i:Nat} {p q:Nat×Nat×Value} {sl:LQ} {ms:MM} {r0:NV} {w0:World} {H:LN} (h:gx P Z l mt U r0 w0 H i (p :: q :: sl) ms):gx P Z l mt U r0 w0 H i (q :: p :: sl) ms:=by
 obtain ⟨S,h1,h2,h3⟩:=h
 refine ⟨S,h1,⟨fun a ha=>h2.v a ?_,h2.m,h2.s,h2.d,h2.t⟩,h3⟩
 rcases List.mem_cons.1 ha with rfl | ha
 ·simp
 ·rcases List.mem_cons.1 ha with rfl | ha
  ·simp
  ·exact List.mem_cons_of_mem _ (List.mem_cons_of_mem _ ha)
theorem gx.skip {mt:Nat} {A:LN} {j d:Nat} {p:Bool} {dst:Option Nat} {op:Op} {ty:TI} {pos:String} {ag:Array Edge} {i:Nat} {sl:LQ} {ms:MM} {r0:NV} {w0:World} {H:LN} (h:gx P Z l mt U r0 w0 H i sl ms) (hA:A=(l8 l U mt).getD i []) (ho:l[i]? = some ⟨dst,op,ty,pos,ag,some (j,p)⟩)
  (hd:bn l j=some d) (hb:HG sl j d (!p)=true) (hj:dj j A=true):gx P Z l mt U r0 w0 H (i+1) sl ms:=by
 obtain ⟨S',hl,hR,hO⟩:=h
 subst hl
 have BC:j∈(bx l).getD S'.length []:=(kj (by rw [← hA]; exact jc.1 hj)).1
 have hm:=Gm hb
 have hR2:jk Z l (S'++[⟨false,fun _ _ _ _=>True⟩]) sl ms:=by
  refine ⟨fun q hq=>hR.Lt hq,fun a ha=>hR.ur ha,fun i s hs=>?_,hR.d,hR.t⟩
  by_cases hi:i < S'.length
  ·rw [List.getElem?_append_left hi] at hs; exact hR.s i s hs
  ·rw [List.getElem?_append_right (by omega)] at hs
   have wR:i - S'.length=0:=by
    have:=(List.getElem?_eq_some_iff.1 hs).1
    simp at this; omega
   rw [wR] at hs
   cases hs
   exact fun _ _ _ _ _ _ _ _ _ _ _ _=>trivial
 refine ⟨S'++[⟨false,fun _ _ _ _=>True⟩],by simp,hR2,fun k hk=>?_⟩
 by_cases h2:k < S'.length
 ·exact iq.more (hO k h2) h2
 ·obtain rfl:k=S'.length:=by omega
  intro o s bw hs g r w hC hV gy hn ir r4 hf
  rw [ho] at bw
  obtain rfl:=Option.some.inj bw
  rw [List.getElem?_append_right (Nat.le_refl _),Nat.sub_self] at hs
  obtain rfl:_=s:=Option.some.inj hs
  rw [if_neg (by simp)]
  have hr:r d = .bool (!p):=hR.vD (S2:=[⟨false,fun _ _ _ _=>True⟩]) hm fun q hq _=>gy q (hq.elim (fun e=>e ▸ BC) fun e=>hR.t _ _ _ e BC)
  unfold Region.wanted
  dsimp only
  rw [G6 hd,hr]
  cases p <;> rfl
theorem gx.val {mt:Nat} {A:LN} {op:Op} {d:Nat} {ty:TI} {as:LL} {ops:LO} {i:Nat} {sl:LQ} {ms:MM} {r0:NV} {w0:World} {H:LN} {u:Value} (h:gx P Z l mt U r0 w0 H i sl ms) (hh:j9 l mt base=true) (ha:c9 r0 base) (h1:n8 l mt U A op d ty as ops i)
  (hv:dX A none sl base fr) (hq:∀ r,c9 r fr→∀ pos ag g w,aw H w0 w→(execOp (ev r) ⟨some d,op,ty,pos,ag,g⟩).run P w = .ok (.value u) w):gx P Z l mt U r0 w0 H (i+1) ((i,d,u) :: sl) ms:=by
 obtain ⟨S',hl,hR,hO⟩:=h
 subst hl
 obtain ⟨hA,⟨pos,ag,ho⟩,_⟩:=h1
 refine ⟨S'++[sV u],by simp,hR.val (by unfold bn; rw [ho]; rfl),fun j hj=>?_⟩
 by_cases h2:j < S'.length
 ·exact iq.more (hO j h2) h2
 ·obtain rfl:j=S'.length:=by omega
  exact PI hh ha hR ho rfl hA hv fun r hr=>hq r hr _ _ _
def AF (P:Program) (Z:Nat→Prop) (l:LO) (mt:Nat) (U:LL) (r0:NV) (w0:World) (H:LN) (i:Nat) (sl:LQ) (ms:MM) (a:fu):Prop:=
 ∃ S:List gw,S.length=i∧jk Z l S sl ms∧(∀ j,j < i→iq P l mt S U r0 w0 H j)∧
  ∀ V:List Nat→World→(Nat→Value)→Value→Prop,(∀ f w r x,MV Z a f w r x→∃ f',(∀ b∈f',b∈f)∧V f' w r x)→iq P l mt (S++[⟨true,V⟩]) U r0 w0 H i
theorem HL.front {Δ Γ:QE} {Fd F:LN} (h:HL Z w Δ Fd) (hs:SA Z w Γ [] F):SA Z w (Δ++Γ) [] (Fd++F):=by
 induction h with
 | nil=>exact hs
 | own h _ ih=>rw [List.append_assoc]; exact SA.cons ih h
 | fact h _ ih=>exact SA.fact ih h
def BS (A:LN) (g:Nat→List Nat):List fu→List Nat
 | []=>[]
 | a :: l=>bif dj a.j A then g a.j++BS A g l else BS A g l
def HV (Z:Nat→Prop) (w:World) (Δ:QE) (B:LN):Prop:=∃ Vo Vr,(∀ b∈Vo++Vr,b∈B)∧(∀ b∈Vr,b < w.heap.size)∧HL (fun b=>Z b∨b∈Vr) w Δ Vo
theorem HV.front {Δ Γ:QE} {B F:LN} (h:HV Z w Δ B) (hs:SA Z w Γ [] F):∃ G:List Nat,(∀ b∈G,b∈B++F∧b < w.heap.size)∧∃ F':List Nat,(∀ b∈F',b∈G)∧SA (fun b=>Z b∨b∈G) w (Δ++Γ) [] F':=by
 obtain ⟨Vo,Vr,h1,h2,h3⟩:=h
 have hS:=h3.front (hs.mono (Z':=fun b=>Z b∨b∈Vr) (fun _ h=>.inl h) fun _ h=>h)
 refine ⟨Vr++(Vo++F),fun b hb=>?_,Vo++F,fun b hb=>List.mem_append_right _ hb,hS.mono (fun b h=>h.imp id fun h=>List.mem_append_left _ h) fun _ h=>h⟩
 rcases List.mem_append.1 hb with hb | hb
 ·exact ⟨List.mem_append_left _ (h1 b (List.mem_append_right _ hb)),h2 b hb⟩
 ·refine ⟨?_,hS.lt b hb⟩
  rcases List.mem_append.1 hb with hb | hb
  ·exact List.mem_append_left _ (h1 b (List.mem_append_left _ hb))
  ·exact List.mem_append_right _ hb
theorem HV.app {Δ Δ':QE} {f B:LN} (h:HN Z w Δ f) (k:HV Z w Δ' B):HV Z w (Δ++Δ') (f++B):=by
 obtain ⟨Fo,Fr,rfl,h1,h2⟩:=h.all
 obtain ⟨Vo,Vr,k1,k2,k3⟩:=k
 refine ⟨Fo++Vo,Fr++Vr,fun b hb=>?_,fun b hb=>(List.mem_append.1 hb).elim (h1 b) (k2 b),(h2.mono fun b h=>h.imp id fun h=>List.mem_append_left _ h).app (k3.mono fun b h=>h.imp id fun h=>List.mem_append_right _ h)⟩
 have:=fun h=>k1 b h
 simp only [List.mem_append] at hb this ⊢
 rcases hb with (h | h) | h | h
 ·exact .inl (.inl h)
 ·exact .inr (this (.inl h))
 ·exact .inl (.inr h)
 ·exact .inr (this (.inr h))
theorem YV {A:LN} {g:Nat→List Nat} {r:NV}:∀ {ms:MM},j8 ms→lz A ms=true→(∀ a∈ms,dj a.j A=true→MV Z a (g a.j) w r (r a.d))→
  ∃ x:l6 ms,(∀ p∈jx A ms x,r p.1=p.2)∧HV Z w (rm A ms x) (BS A g ms):=by
 intro ms
 induction ms with
 | nil=>intro _ _ _; exact ⟨(),fun p hp=>absurd hp List.not_mem_nil,[],[],fun b (h:b∈[])=>absurd h List.not_mem_nil,fun b (h:b∈[])=>absurd h List.not_mem_nil,.nil⟩
 | cons a ms ih=>
  intro hi eh h
  unfold lz at eh
  rw [Bool.and_eq_true] at eh
  cases hi with
  | cons h1 h2=>
   obtain ⟨x,hx,hl⟩:=ih h2 eh.2 fun b hb=>h b (List.mem_cons_of_mem _ hb)
   cases hb:dj a.j A with
   | false=>
    obtain ⟨v⟩:=h1.ne
    refine ⟨(v,x),?_,?_⟩
    ·simp only [jx,hb,cond_false]; exact hx
    ·simp only [rm,BS,hb,cond_false]; exact hl
   | true=>
    obtain ⟨v,e1,e2,_⟩:=h a (by simp) hb
    have es:vB a r=BO a (mF ms x):=by
     have h3:=eh.1
     rw [hb,cond_true,List.all_eq_true] at h3
     refine CG fun t ht=>?_
     have h4:=h3 t ht
     cases hj:qb t ms with
     | none=>rw [hj] at h4; cases h4
     | some j=>rw [hj] at h4; unfold yT; rw [HD hj h4 hx]
    rw [es] at e1 e2
    refine ⟨(v,x),?_,?_⟩
    ·simp only [jx,hb,cond_true]
     intro p hp
     rcases List.mem_cons.1 hp with rfl | hp
     ·exact e1
     ·exact hx p hp
    ·simp only [rm,BS,hb,cond_true]; exact HV.app e2 hl
theorem PJ {t j:Nat}:∀ {ms:MM},qb t ms=some j→∃ a∈ms,a.j=j∧a.d=t:=by
 intro ms
 induction ms with
 | nil=>intro h; cases h
 | cons a l ih=>
  intro h
  unfold qb at h
  cases hb:Nat.beq t a.d with
  | true=>rw [hb] at h; cases h; exact ⟨a,by simp,rfl,(Nat.eq_of_beq_eq_true hb).symm⟩
  | false=>rw [hb] at h; obtain ⟨b,h1,h2⟩:=ih h; exact ⟨b,List.mem_cons_of_mem _ h1,h2⟩
theorem CH {mt i:Nat} {A:LN} (hA:A=(l8 l U mt).getD i []) {S':List gw} {sl:LQ} {ms:MM} {t:Nat} (hR:jk Z l S' sl ms) (hj:∃ j,qb t ms=some j∧dj j A=true):∃ j∈(bx l).getD i [],bn l j=some t:=by
 obtain ⟨j,h1,h2⟩:=hj
 obtain ⟨a,ha,rfl,rfl⟩:=PJ h1
 exact hR.slot ha (kj (by rw [← hA]; exact jc.1 h2)).1
theorem vD {mt:Nat} {A:LN} {S' S2:List gw} {sl:LQ} {ms:MM} {g:Nat→List Nat} {r:NV} (hR:jk Z l S' sl ms) (hA:A=(l8 l U mt).getD S'.length []) (hi:j8 ms) (eh:lz A ms=true) (hn:∀ j,ta l U mt S'.length j=true→vC l (S'++S2) j g r w) :
  ∃ x:l6 ms,(∀ p∈jx A ms x,r p.1=p.2)∧HV Z w (rm A ms x) (BS A g ms):=
 YV hi eh fun a hm hb=>by
  exact hR.xW hm (hn a.j (kj (by rw [← hA]; exact jc.1 hb)).2)
theorem gx.mem {mt:Nat} {A:LN} {op:Op} {d:Nat} {ty:TI} {as:LL} {ops:LO} {i:Nat} {sl:LQ} {ms:MM} {r0:NV} {w0:World} {H:LN} {a:fu} (h:gx P Z l mt U r0 w0 H i sl ms) (h1:n8 l mt U A op d ty as ops i) (haj:a.j=i) (had:a.d=d)
  (eh:∀ S',jk Z l S' sl ms→∀ t∈a.src,∃ j∈(bx l).getD i [],bn l j=some t)
  (hq:∀ S' S2,S'.length=i→jk Z l S' sl ms→∀ (g:Nat→List Nat) (r:NV) (w:World),aw H w0 w→(∀ j∈(bx l).getD S'.length [],Old l (S'++S2) j r)→(∀ j,ta l U mt S'.length j=true→vC l (S'++S2) j g r w)→(∀ t,(∀ j,j < mt→bn l j≠some t)→r t=r0 t)→∀ pos ag,
   fv P ⟨some d,op,ty,pos,ag,none⟩ r w fun v w'=>aw [] w w'∧∃ f,(∀ b∈f,w.heap.size≤b∧b < w'.heap.size)∧MV Z a f w' r v):gx P Z l mt U r0 w0 H (i+1) sl (a :: ms):=by
 obtain ⟨S',hl,hR,hO⟩:=h
 subst hl
 subst had
 obtain ⟨hA,⟨pos,ag,ho⟩,_⟩:=h1
 refine ⟨S'++[⟨true,MV Z a⟩],by simp,hR.mem haj (by unfold bn; rw [ho]; rfl) (eh S' hR),fun j hj=>?_⟩
 by_cases h2:j < S'.length
 ·exact iq.more (hO j h2) h2
 ·obtain rfl:j=S'.length:=by omega
  exact iq.HH (V:=MV Z a) ho (by simp) rfl fun g r w hC hO hn ir=>hq S' _ rfl hR g r w hC hO hn ir pos ag
theorem nh.sub {ms BD:MM} {a:fu} {t:Nat} (h:nh ms t a BD):a∈ms∧a.d=t∧(∀ b∈BD,b∈ms)∧(BD.map (·.j)).Sublist (ms.map (·.j)):=by
 induction h with
 | here=>exact ⟨by simp,rfl,fun b hb=>List.mem_cons_of_mem _ hb,by simp⟩
 | there _ ih=>
  obtain ⟨h1,h2,h3,h4⟩:=ih
  refine ⟨List.mem_cons_of_mem _ h1,h2,fun b hb=>?_,by simpa using h4⟩
  rcases List.mem_cons.1 hb with rfl | hb
  ·simp
  ·exact List.mem_cons_of_mem _ (h3 b hb)
theorem jk.sub {S':List gw} {sl:LQ} {ms BD:MM} (h:jk Z l S' sl ms) (hm:∀ b∈BD,b∈ms) (hn:(BD.map (·.j)).Sublist (ms.map (·.j))):jk Z l S' sl BD:=⟨h.v,fun a ha=>h.m a (hm a ha),h.s,h.d.sublist hn,h.t⟩
theorem TB {mt:Nat} {t e et:TI} {E:ah Int} {z0:Int} {bt t1 t2 j2 d2 i d:Nat} {k:IntKind} {y:Int} {xs:List Int} {a1:fu} {ms gj tT:MM} {sl:LQ} {A:LN} {ty:TI} {as:LL} {ops:LO} {r0:NV} {w0:World} {H:LN} (hz:rv P t Int e E z0 bt) (h1:nh ms t1 a1 gj) (h2:nh gj t2 ⟨j2,d2,[],Nat,fun _ b=>.slice (some ⟨b,0,none⟩) 1 1,fun _ b=>[.row b [.int k y] et]⟩ tT) (h3:∀ u v,a1.ps u v=[.own (aK e (aM k)) (a1.rt u v) xs]) (h4:dj a1.j A=true) (h5:dj j2 A=true) (h6:U.getD i []=[a1.j])
  (hf:fits bt (xs.length+1)=some ()) (xT:n8 l mt U A (.call ⟨.builtin .append,#[.tmp t1,.tmp t2],#[t,t]⟩) d ty as ops i) (h:gx P Z l mt U r0 w0 H i sl ms) :
  gx P Z l mt U r0 w0 H (i+1) sl (⟨i,d,[],Value,fun _ v=>v,fun _ v=>[.own (aK e (aM k)) v (xs++[y])]⟩ :: gj):=by
 obtain ⟨S',hl,hR,hO⟩:=h
 subst hl
 obtain ⟨hA,⟨pos,ag,ho⟩,_⟩:=xT
 obtain ⟨b1,b2⟩:=jm hf
 obtain ⟨q1,hE,i',z,q3,q4,q5,q6,q7,q8⟩:=hz.h
 obtain ⟨m1,m2,m3,m4⟩:=h1.sub
 obtain ⟨n1,n2,_,_⟩:=h2.sub
 refine ⟨S'++[⟨true,MV Z ⟨S'.length,d,[],Value,fun _ v=>v,fun _ v=>[.own (aK e (aM k)) v (xs++[y])]⟩⟩],by simp,(hR.sub m3 m4).mem rfl (by unfold bn; rw [ho]; rfl) (by intro t h; cases h),fun j hj=>?_⟩
 by_cases bj:j < S'.length
 ·exact iq.more (hO j bj) bj
 ·obtain rfl:j=S'.length:=by omega
  intro o' s' bw cq g r w hC xm gy hn ir tU oq
  rw [ho] at bw
  cases bw
  rw [List.getElem?_append_right (Nat.le_refl _),Nat.sub_self] at cq
  cases cq
  rw [if_pos rfl]
  refine ⟨rfl,?_⟩
  have get:∀ a∈ms,dj a.j A=true→MV Z a (g a.j) w r (r a.d):=fun a hm hb=>by
   exact hR.xW hm (hn a.j (kj (by rw [← hA]; exact jc.1 hb)).2)
  obtain ⟨v1,c1,c2,c3⟩:=get a1 m1 h4
  obtain ⟨v2,f1,f2,f3⟩:=get _ (m3 _ n1) h5
  rw [h3,← c1,m2] at c2
  rw [m2] at c1
  simp only at f1 f2
  subst n2
  replace c2:=c2.own rfl
  replace f2:=f2.own rfl
  generalize xi:g a1.j=G1 at c2 c3
  generalize jj:g j2=G2 at f2 f3
  cases c2 with
  | fact h _=>exact h.elim
  | @own _ ff F0 _ xX tJ=>
   cases tJ
   rw [List.append_nil] at c3
   cases f2 with
   | fact h _=>exact h.elim
   | @own _ gg F0 _ bg tJ=>
    cases tJ
    obtain ⟨rfl,bg⟩:=bg
    have hb:l9 g (U.getD S'.length [])=ff:=by rw [h6]; simp [l9,xi]
    refine po (fv.ui (E:=aM k) (F:=ff) q1 q3 q4 q5 rfl q6 (s:=.tmp t1) (x:=.tmp d2) rfl ⟨xX,c3⟩ (fun b hb=>hb) f1 bg ⟨rfl,rfl⟩ (by rw [q7]; exact b1) b2) ?_
    rintro v w' ⟨xn,f',tV,hV⟩
    rw [hb]
    refine ⟨xn,f',tV,v,rfl,?_,hV.2⟩
    have:=HL.own (Z:=fun _=>False) (e:=.own (aK e (aM k)) v (xs++[y])) (f:=f') hV.1 .nil
    exact .inl (by simpa using this)
theorem fv.uZ {α:Type} {E:ah α} {F f k:LN} {t e:TI} {s x:OO} {i:TypeInfo} {z:Value} {sv yv:Value} {xs ys:List α} {r:NV} {w:World} {d:Option Nat} {ty:TI} {pos:String} {ag:Array Edge} (Vn:∀ {h cs x f},E.rep h cs x f→f=[])
  (ht:P.underlying t=some (.slice e)) (hi:P.info? e=some i) (hz:i.zero=some z) (hs:i.size=1) (hE:E.size=1) (vW:z.oneCell'=true)
  (u3:ev r s=sv) (hO:Fq (aK e E) xs f w sv) (hF:∀ b∈f,b∈F) (hx:ev r x=yv) (hy:(bY E).rep w.heap [yv] ys k)
  (hb:(xs.length+ys.length) * i.bytes≤140737488355328) (yU:xs.length+ys.length≤maxLen) :
  fv P ⟨d,.call ⟨.builtin .append,#[s,x],#[t,t]⟩,ty,pos,ag,none⟩ r w fun v w'=>aw F w w'∧∃ f',(∀ b∈f',(b∈F∨w.heap.size≤b)∧b < w'.heap.size)∧Fq (aK e E) (xs++ys) f' w' v:=by
 have tw:=Gn hy
 rcases Nat.eq_zero_or_pos ys.length with Db | Db
 ·obtain rfl:ys=[]:=List.eq_nil_of_length_eq_zero Db
  obtain ⟨b0,c0,BT⟩:=ug hy
  obtain ⟨base,cap,hv,hr⟩:=hO.1
  obtain rfl:sv = .slice base xs.length cap:=by simpa using hv
  have HI:xs.length≤cap:=by
   rcases hr with ⟨_,rfl,rfl,_⟩ | ⟨_,_,_,_,_,_,h,_⟩
   ·simp
   ·exact h
  have ni:=zP (P:=P) (w:=w) (ty:=ty) ht hi (b:=base) (a:=b0) (c:=c0) HI
  subst BT
  have YW:(execOp (ev r) ⟨d,.call ⟨.builtin .append,#[s,x],#[t,t]⟩,ty,pos,ag,none⟩).run P w = .ok (.value (.slice base xs.length cap)) w:=by
   simp only [execOp,resolve,invoke,builtin,Sem.run_bind,Sem.run_pure,Result.andThen_ok,List.map_toArray,List.map_cons,List.map_nil,u3,hx,List.length_nil,ni]
  unfold fv
  rw [YW]
  exact ⟨aw.refl _ _,f,fun b hb=>⟨.inl (hF b hb),ah.lt _ hO.1 b hb⟩,by rw [List.append_nil]; exact hO⟩
 ·rcases tw with rfl | ⟨a,c,news,g1,BT,AH,dq,_⟩
  ·simp at Db
  ·obtain ⟨rfl,_⟩:=BU (h':=w.heap) Vn dq
   obtain ⟨v,w',f',h,hC,G7,cb,db⟩:=n9 (d:=d) (ty:=ty) (pos:=pos) (ag:=ag) (g:=none) ht hi hz (by rw [hs,hE]) (by rw [cells_one vW,hE]; rfl) u3 hO.1 hO.2 (hx.trans BT) AH dq (fun _ h=>nomatch h) Db hb yU
   unfold fv
   rw [h]
   refine ⟨hC.mono hF,f',fun b hb=>⟨?_,ah.lt _ G7 b hb⟩,G7,db List.nodup_nil⟩
   rcases cb b hb with h | h | h
   ·exact .inl (hF b h)
   ·cases h
   ·exact .inr h
theorem PK {mt:Nat} {t e:TI} {E:ah Int} {z0:Int} {bt t1 t2 i d:Nat} {k:IntKind} {xs ys:List Int} {a1:fu} {ms gj:MM} {sl:LQ} {A:LN} {ty:TI} {as:LL} {ops:LO} {r0:NV} {w0:World} {H:LN} {o1 o2:Bool} {yv:Value} {Γ Γx:QE} {F:LN} (hz:rv P t Int e E z0 bt) (h1:nh ms t1 a1 gj) (h3:∀ u v,a1.ps u v=[.own (aK e (aM k)) (a1.rt u v) xs]) (h4:dj a1.j A=true) (h6:U.getD i []=[a1.j]) (hh:j9 l mt base=true) (ha:c9 r0 base) (hv:dX A none sl base fr) (hx:look fr t2=some yv) (hr:na Γ yv o1 o2 (aM k) ys qp Γx) (hS:∀ w,aw H w0 w→SA Z w Γ [] F)
  (hf:fits bt (xs.length+ys.length)=some ()) (xT:n8 l mt U A (.call ⟨.builtin .append,#[.tmp t1,.tmp t2],#[t,t]⟩) d ty as ops i) (h:gx P Z l mt U r0 w0 H i sl ms) :
  gx P Z l mt U r0 w0 H (i+1) sl (⟨i,d,[],Value,fun _ v=>v,fun _ v=>[.own (aK e (aM k)) v (xs++ys)]⟩ :: gj):=by
 obtain ⟨S',hl,hR,hO⟩:=h
 subst hl
 obtain ⟨hA,⟨pos,ag,ho⟩,_⟩:=xT
 obtain ⟨b1,b2⟩:=jm hf
 obtain ⟨q1,hE,i',z,q3,q4,q5,q6,q7,q8⟩:=hz.h
 obtain ⟨m1,m2,m3,m4⟩:=h1.sub
 refine ⟨S'++[⟨true,MV Z ⟨S'.length,d,[],Value,fun _ v=>v,fun _ v=>[.own (aK e (aM k)) v (xs++ys)]⟩⟩],by simp,(hR.sub m3 m4).mem rfl (by unfold bn; rw [ho]; rfl) (by intro t h; cases h),fun j hj=>?_⟩
 by_cases bj:j < S'.length
 ·exact iq.more (hO j bj) bj
 ·obtain rfl:j=S'.length:=by omega
  intro o' s' bw cq g r w hC xm gy hn ir tU oq
  rw [ho] at bw
  cases bw
  rw [List.getElem?_append_right (Nat.le_refl _),Nat.sub_self] at cq
  cases cq
  rw [if_pos rfl]
  refine ⟨rfl,?_⟩
  have get:∀ a∈ms,dj a.j A=true→MV Z a (g a.j) w r (r a.d):=fun a hm hb=>by
   exact hR.xW hm (hn a.j (kj (by rw [← hA]; exact jc.1 hb)).2)
  obtain ⟨v1,c1,c2,c3⟩:=get a1 m1 h4
  rw [h3,← c1,m2] at c2
  rw [m2] at c1
  replace c2:=c2.own rfl
  have BT:ev r (.tmp t2)=yv:=l7 hR hA hv (jd hh ha ir) gy t2 yv hx
  obtain ⟨_,_,⟨⟨kk,Lv,_⟩,_⟩,_⟩:=hr.sound (hS w hC)
  generalize xi:g a1.j=G1 at c2 c3
  cases c2 with
  | fact h _=>exact h.elim
  | @own _ ff F0 _ xX tJ=>
   cases tJ
   rw [List.append_nil] at c3
   have hb:l9 g (U.getD S'.length [])=ff:=by rw [h6]; simp [l9,xi]
   refine po (fv.uZ (E:=aM k) (F:=ff) u2 q1 q3 q4 q5 rfl q6 (s:=.tmp t1) (x:=.tmp t2) rfl ⟨xX,c3⟩ (fun b hb=>hb) BT Lv (by rw [q7]; exact b1) b2) ?_
   rintro v w' ⟨xn,f',tV,hV⟩
   rw [hb]
   refine ⟨xn,f',tV,v,rfl,?_,hV.2⟩
   have:=HL.own (Z:=fun _=>False) (e:=.own (aK e (aM k)) v (xs++ys)) (f:=f') hV.1 .nil
   exact .inl (by simpa using this)
theorem PL {mt:Nat} {t e:TI} {E:ah Int} {z0:Int} {bt t1 t2 i d:Nat} {k:IntKind} {xs ys:List Int} {a1:fu} {ms gj:MM} {sl:LQ} {A:LN} {ty:TI} {as:LL} {ops:LO} {r0:NV} {w0:World} {H:LN} {e2:TI} {a2:fu} {tT:MM} (hz:rv P t Int e E z0 bt) (h1:nh ms t1 a1 gj) (h3:∀ u v,a1.ps u v=[.own (aK e (aM k)) (a1.rt u v) xs]) (h4:dj a1.j A=true) (h6:U.getD i []=[a1.j]) (h2:nh gj t2 a2 tT) (h7:∀ u v,a2.ps u v=[.own (aK e2 (aM k)) (a2.rt u v) ys]) (h5:dj a2.j A=true)
  (hf:fits bt (xs.length+ys.length)=some ()) (xT:n8 l mt U A (.call ⟨.builtin .append,#[.tmp t1,.tmp t2],#[t,t]⟩) d ty as ops i) (h:gx P Z l mt U r0 w0 H i sl ms) :
  gx P Z l mt U r0 w0 H (i+1) sl (⟨i,d,[],Value,fun _ v=>v,fun _ v=>[.own (aK e (aM k)) v (xs++ys)]⟩ :: gj):=by
 obtain ⟨S',hl,hR,hO⟩:=h
 subst hl
 obtain ⟨hA,⟨pos,ag,ho⟩,_⟩:=xT
 obtain ⟨b1,b2⟩:=jm hf
 obtain ⟨q1,hE,i',z,q3,q4,q5,q6,q7,q8⟩:=hz.h
 obtain ⟨m1,m2,m3,m4⟩:=h1.sub
 obtain ⟨n1,n2,_,_⟩:=h2.sub
 refine ⟨S'++[⟨true,MV Z ⟨S'.length,d,[],Value,fun _ v=>v,fun _ v=>[.own (aK e (aM k)) v (xs++ys)]⟩⟩],by simp,(hR.sub m3 m4).mem rfl (by unfold bn; rw [ho]; rfl) (by intro t h; cases h),fun j hj=>?_⟩
 by_cases bj:j < S'.length
 ·exact iq.more (hO j bj) bj
 ·obtain rfl:j=S'.length:=by omega
  intro o' s' bw cq g r w hC xm gy hn ir tU oq
  rw [ho] at bw
  cases bw
  rw [List.getElem?_append_right (Nat.le_refl _),Nat.sub_self] at cq
  cases cq
  rw [if_pos rfl]
  refine ⟨rfl,?_⟩
  have get:∀ a∈ms,dj a.j A=true→MV Z a (g a.j) w r (r a.d):=fun a hm hb=>by
   exact hR.xW hm (hn a.j (kj (by rw [← hA]; exact jc.1 hb)).2)
  obtain ⟨v1,c1,c2,c3⟩:=get a1 m1 h4
  rw [h3,← c1,m2] at c2
  rw [m2] at c1
  replace c2:=c2.own rfl
  obtain ⟨v2,f1,f2,f3⟩:=get a2 (m3 _ n1) h5
  rw [h7,← f1,n2] at f2
  replace f2:=f2.own rfl
  have BT:ev r (.tmp t2)=r t2:=rfl
  obtain ⟨kk,Lv⟩ : ∃ kk,(bY (aM k)).rep w.heap [r t2] ys kk:=by
   generalize g a2.j=G2 at f2
   cases f2 with
   | fact h _=>exact h.elim
   | @own _ gg F0 _ xX tJ=>exact ⟨_,(Le.own (Le.refl (aM k)) e2).le xX⟩
  generalize xi:g a1.j=G1 at c2 c3
  cases c2 with
  | fact h _=>exact h.elim
  | @own _ ff F0 _ xX tJ=>
   cases tJ
   rw [List.append_nil] at c3
   have hb:l9 g (U.getD S'.length [])=ff:=by rw [h6]; simp [l9,xi]
   refine po (fv.uZ (E:=aM k) (F:=ff) u2 q1 q3 q4 q5 rfl q6 (s:=.tmp t1) (x:=.tmp t2) rfl ⟨xX,c3⟩ (fun b hb=>hb) BT Lv (by rw [q7]; exact b1) b2) ?_
   rintro v w' ⟨xn,f',tV,hV⟩
   rw [hb]
   refine ⟨xn,f',tV,v,rfl,?_,hV.2⟩
   have:=HL.own (Z:=fun _=>False) (e:=.own (aK e (aM k)) v (xs++ys)) (f:=f') hV.1 .nil
   exact .inl (by simpa using this)
theorem wE {t:TI} {x y:OO} {i:TypeInfo} {b off:Nat} {cs us:LV} {e:TI} {r:NV} {d:Option Nat} {ty:TI} {pos:String} {ag:Array Edge} {gg:Option (Nat×Bool)}
  (hi:P.info? t=some i) (hs:us.length=i.size) (bg:Row w b cs e) (hl:off+us.length≤cs.length) (hx:ev r x = .pointer (some ⟨b,off,none⟩)) (hy:(ev r y).cells.toList=us) (hu:∀ u∈us,u.oneCell'=true) :
  (execOp (ev r) ⟨d,.store t x y,ty,pos,ag,gg⟩).run P w = .ok .skip (w.setRow b (cs.take off++us++cs.drop (off+us.length)).toArray):=by
 have h:=run_storeCells_at P b off e us 0 cs.toArray w bg (by simpa using hl) hu
 simp only [Nat.add_zero] at h
 have uF:(ev r y).cells=us.toArray:=by rw [← hy]
 simp only [execOp,Instr.storeAt,Instr.sureAddr,hx,storeVar]
 simp [uF,sizeOf,typeInfo,hi,hs,h]
theorem TC {mt:Nat} {t e:TI} {t1 j1 n i:Nat} {y:OO} {u:Value} {us cs ds:LV} {ms gj:MM} {sl:LQ} {A:LN} {ty:TI} {as:LL} {ops:LO} {r0:NV} {w0:World} {H:LN} {Γ:QE} {F:LN} (hh:j9 l mt base=true) (ha:c9 r0 base) (ht:xk P t n)
  (h1:nh ms t1 ⟨j1,t1,[],Nat,fun _ b=>.pointer (some ⟨b,0,none⟩),fun _ b=>[.row b cs e]⟩ gj) (hv:dX A none sl base fr) (hy:bd fr y=some u) (hc:tR Γ u us) (p5:us.length=n) (hs:uA us 0 cs ds) (ho:wc Γ us) (h4:dj j1 A=true) (h6:U.getD i []=[j1])
  (hS:∀ w,aw H w0 w→SA Z w Γ [] F) (xT:Vm l mt U A (.store t (.tmp t1) y) ty as ops i) (h:gx P Z l mt U r0 w0 H i sl ms) :
  gx P Z l mt U r0 w0 H (i+1) sl (⟨i,t1,[],Nat,fun _ b=>.pointer (some ⟨b,0,none⟩),fun _ b=>[.row b ds e]⟩ :: gj):=by
 obtain ⟨S',hl,hR,hO⟩:=h
 subst hl
 obtain ⟨hA,⟨pos,ag,Kr⟩,_⟩:=xT
 obtain ⟨ti,q1,q2⟩:=ht.h
 obtain ⟨m1,_,m3,m4⟩:=h1.sub
 have AI:=kj (by rw [← hA]; exact jc.1 h4)
 refine ⟨S'++[⟨true,Nd Z ⟨S'.length,t1,[],Nat,fun _ b=>.pointer (some ⟨b,0,none⟩),fun _ b=>[.row b ds e]⟩⟩],by simp,(hR.sub m3 m4).abT (b:=⟨S'.length,t1,[],Nat,fun _ b=>.pointer (some ⟨b,0,none⟩),fun _ b=>[.row b ds e]⟩) rfl (by unfold bn; rw [Kr]; rfl) (hR.slot m1 AI.1) rfl,fun j hj=>?_⟩
 by_cases bj:j < S'.length
 ·exact iq.more (hO j bj) bj
 ·obtain rfl:j=S'.length:=by omega
  intro o' s' bw cq g r w hC xm gy hn ir tU oq
  rw [Kr] at bw
  cases bw
  rw [List.getElem?_append_right (Nat.le_refl _),Nat.sub_self] at cq
  cases cq
  rw [if_pos rfl]
  refine ⟨rfl,?_⟩
  obtain ⟨b,c1,c2,c3⟩:=hR.xW m1 (hn j1 AI.2)
  simp only at c1 c2
  replace c2:=c2.own rfl
  generalize xi:g j1=G1 at c2 c3
  cases c2 with
  | fact h _=>exact h.elim
  | @own _ ff F0 _ xX tJ=>
   cases tJ
   obtain ⟨rfl,bg⟩:=xX
   have hb:l9 g (U.getD S'.length [])=[b]:=by rw [h6]; simp [l9,xi]
   have hr:=l7 hR hA hv (jd hh ha ir) gy
   obtain ⟨e1,e2⟩:=hs.eq
   have HA:=hS w hC
   have ni:=wE (P:=P) (d:=none) (ty:=ty) (pos:=pos) (ag:=ag) (gg:=none) q1 (by rw [p5,q2]) bg e1 (x:=.tmp t1) c1 (y:=y) (by rw [aV hr hy]; exact hc.eq HA) (ho.one HA)
   unfold fv
   rw [ni,hb]
   have s9:=setRow_heap w b cs.toArray (cs.take 0++us++cs.drop (0+us.length)).toArray e _ bg
   have abU:b < w.heap.size:=bg.lt
   refine ⟨⟨rfl,rfl,rfl,Nat.le_refl _,by simp,fun j _ hj=>setRow_other w b j _ fun h=>hj (by simp [h])⟩,[b],fun b' cg=>?_,b,c1,?_,by simp⟩
   ·rw [List.mem_singleton.1 cg]
    exact ⟨.inl (by simp),by simpa using abU⟩
   ·refine .inl (HL.own (f:=[b]) ⟨rfl,?_⟩ .nil)
    rw [e2]
    exact s9
theorem TD {mt:Nat} {t i d:Nat} {cs:LV} {sl:LQ} {ms:MM} {A:LN} {ty:TI} {as:LL} {ops:LO} {r0:NV} {w0:World} {H:LN} (hz:C7 P t cs) (h1:n8 l mt U A (.alloc t) d ty as ops i) (h:gx P Z l mt U r0 w0 H i sl ms) :
   gx P Z l mt U r0 w0 H (i+1) sl (⟨i,d,[],Nat,fun _ b=>.pointer (some ⟨b,0,none⟩),fun _ b=>[.row b cs t]⟩ :: ms):=by
 obtain ⟨i',z,t1,t2,t3⟩:=hz.h
 refine h.mem h1 rfl rfl (fun _ _ _ h=>nomatch h) fun S' S2 hl hR g r w hC gy hn ir pos ag=>po (fv.Ko (cs:=cs) t1 t2 (by rw [← t3])) ?_
 rintro v w' ⟨hC,f,hf,b,e1,e2,bg⟩
 refine ⟨hC,f,hf,b,e2,?_,by rw [e1]; simp⟩
 have:=HL.own (Z:=fun _=>False) (e:=.row b cs t) (f:=[b]) ⟨rfl,bg⟩ .nil
 rw [e1]
 exact .inl (by simpa using this)
theorem Vp {mt t n:Nat} {A:LN} {st:TI} {d:Nat} {ty:TI} {as:LL} {ops:LO} {i:Nat} {sl:LQ} {ms:MM} {r0:NV} {w0:World} {H:LN} (h:gx P Z l mt U r0 w0 H i sl ms) (h1:n8 l mt U A (.call ⟨.builtin .len,#[.tmp t],#[st]⟩) d ty as ops i) (ht:vV P st) (hi:j8 ms) (eh:lz A ms=true) (hx:∀ x:l6 ms,Vg (jx A ms x) (rm A ms x) t n):gx P Z l mt U r0 w0 H (i+1) ((i,d,.int .i64 (n:Int)) :: sl) ms:=by
 obtain ⟨S',hl,hR,hO⟩:=h
 subst hl
 obtain ⟨hA,⟨pos,ag,ho⟩,_⟩:=h1
 obtain ⟨e,i',q1,_,_⟩:=ht.h
 refine ⟨S'++[sV (.int .i64 (n:Int))],by simp,hR.val (by unfold bn; rw [ho]; rfl),fun j hj=>?_⟩
 by_cases h2:j < S'.length
 ·exact iq.more (hO j h2) h2
 ·obtain rfl:j=S'.length:=by omega
  refine iq.val (v:=.int .i64 (n:Int)) ho (by simp) rfl fun g r w hC gy hn ir=>?_
  obtain ⟨x,hv,hE⟩:=vD hR hA hi eh hn
  obtain ⟨xY,Vb⟩:=hx x
  have yV:=(ny hv v7) t _ (by rw [List.append_nil]; exact xY)
  obtain ⟨_,_,_,_,hS⟩:=hE.front (Γ:=[]) (F:=[]) rfl
  rw [List.append_nil] at hS
  obtain ⟨b,c,rfl⟩:=Vb.sound hS
  exact vy q1 (x:=.tmp t) yV
theorem gx.dep {mt t:Nat} {A:LN} {op:Op} {d:Nat} {ty:TI} {as:LL} {ops:LO} {i:Nat} {sl:LQ} {ms:MM} {r0:NV} {w0:World} {H:LN} {X:Value→Value} (h:gx P Z l mt U r0 w0 H i sl ms) (h1:n8 l mt U A op d ty as ops i) (hi:j8 ms) (eh:lz A ms=true) (hj:∃ j,qb t ms=some j∧dj j A=true)
  (hq:∀ (r:NV) (x:l6 ms),(∀ p∈jx A ms x,r p.1=p.2)→∀ w pos ag,(execOp (ev r) ⟨some d,op,ty,pos,ag,none⟩).run P w = .ok (.value (X (r t))) w):gx P Z l mt U r0 w0 H (i+1) sl (⟨i,d,[t],Unit,fun u _=>X u,fun _ _=>[]⟩ :: ms):=by
 refine h.mem h1 rfl rfl (fun S' hR t' ht=>by rw [List.mem_singleton.1 ht]; exact CH h1.A hR hj) ?_
 intro S' S2 hl hR g r w hC gy hn ir pos ag
 obtain ⟨x,hx,_⟩:=vD hR (by rw [hl]; exact h1.A) hi eh hn
 unfold fv
 rw [hq r x hx]
 exact ⟨aw.refl _ _,[],fun b hb=>absurd hb List.not_mem_nil,(),rfl,.inl .nil,List.nodup_nil⟩
theorem TE {mt:Nat} {t:TI} {ps:List (Nat×Operand)} {zc:LV} {pl:List (Nat×Nat)} {A:LN} {as:LL} {d:Nat} {ty:TI} {ops:LO} {i:Nat} {sl:LQ} {ms:MM} {fr:Fr} {hd Γ:QE} {B:Bs} {r0:NV} {w0:World} {H:LN} {X:Value→List Value} {ts:LN} (hh:j9 l mt base=true) (hb:By P t zc pl) (hi:j8 ms) (eh:lz A ms=true) (hj:tsB A ms ts=true) (hv:dX A none sl base fr)
   (hx:∀ x:l6 ms,xu (rm A ms x++Γ) (jx A ms x++fr) pl ps zc (X (zx (yT (mF ms x)) ts))) (h1:n8 l mt U A (.build t ps.toArray) d ty as ops i) (ha:c9 r0 base) (hs:o9 B Z hd Γ H w0) (h:gx P Z l mt U r0 w0 H i sl ms) :
   gx P Z l mt U r0 w0 H (i+1) sl (⟨i,d,ts,Unit,fun u _=>.agg (X u).toArray,fun _ _=>[]⟩ :: ms):=by
 have hts:∀ t∈ts,∃ j,qb t ms=some j∧dj j A=true:=fun t ht=>by
  have:=List.all_eq_true.1 hj t ht
  cases hf:qb t ms with
  | none=>rw [hf] at this; cases this
  | some j=>rw [hf] at this; exact ⟨j,rfl,this⟩
 refine h.mem h1 rfl rfl (fun S' hR t' ht=>CH h1.A hR (hts t' ht)) ?_
 intro S' S2 hl hR g r w hC gy hn ir pos ag
 have hA:=h1.A
 rw [← hl] at hA
 have hbs:=l7 hR hA hv (jd hh ha ir) gy
 obtain ⟨x,hxv,pd⟩:=vD hR hA hi eh hn
 obtain ⟨F,Hd,⟨u4,u5,se,u6⟩,hS,hG⟩:=hs
 obtain ⟨G,_,_,_,ji⟩:=pd.front (o9.stay hS hG hC)
 have e:zx (yT (mF ms x)) ts=zx r ts:=CG fun t ht=>by
  obtain ⟨j,h2,h3⟩:=hts t ht
  unfold yT
  rw [HD h2 h3 hxv]
 have hF:=hx x
 rw [e] at hF
 have ni:=(VQ.R5 (P:=P) (hb:=hb) hF).sound ji (ny hxv hbs) (some d) ty pos ag none w (aw.refl _ _)
 unfold fv
 rw [ni]
 exact ⟨aw.refl _ _,[],fun b hb=>absurd hb List.not_mem_nil,(),rfl,.inl .nil,List.nodup_nil⟩
theorem TF {mt:Nat} {α:Type} {t e:TI} {E:ah α} {z0:α} {bt i d:Nat} {sl:LQ} {ms:MM} {A:LN} {ty:TI} {as:LL} {ops:LO} {r0:NV} {w0:World} {H:LN} (hz:rv P t α e E z0 bt) (h1:n8 l mt U A (.buildSlice t 0 #[]) d ty as ops i) (h:gx P Z l mt U r0 w0 H i sl ms) :
   gx P Z l mt U r0 w0 H (i+1) sl (⟨i,d,[],Value,fun _ v=>v,fun _ v=>[.own (aK e E) v []]⟩ :: ms):=by
 obtain ⟨t1,_,i',z,t2,_⟩:=hz.h
 refine h.mem h1 rfl rfl (fun _ _ _ h=>nomatch h) fun S' S2 hl hR g r w hC gy hn ir pos ag=>po (fv.made (AJ (E:=E) t1 t2)) ?_
 rintro v w' ⟨hC,f,hf,hV⟩
 refine ⟨hC,f,hf,v,rfl,?_,hV.2⟩
 have:=HL.own (Z:=fun _=>False) (e:=.own (aK e E) v []) (f:=f) hV.1 .nil
 exact .inl (by simpa using this)
theorem Vq {mt n:Nat} {α:Type} {t e:TI} {E:ah α} {z0:α} {bt i d:Nat} {sl:LQ} {ms:MM} {A:LN} {ty:TI} {as:LL} {ops:LO} {r0:NV} {w0:World} {H:LN} {x:OO} {z:Int} (hh:j9 l mt base=true) (ha:c9 r0 base) (hz:rv P t α e E z0 bt) (hv:dX A none sl base fr) (hx:bd fr x=some (.int .i64 z)) (hn:mk bt z=some n) (h1:n8 l mt U A (.makeSlice t x x) d ty as ops i) (h:gx P Z l mt U r0 w0 H i sl ms) :
   gx P Z l mt U r0 w0 H (i+1) sl (⟨i,d,[],Value,fun _ v=>v,fun _ v=>[.own (aK e E) v (List.replicate n z0)]⟩ :: ms):=by
 obtain ⟨e1,e2,e3⟩:=Fm hn
 obtain ⟨t1,hE,i',z',t2,t3,t4,t5,t6,t7⟩:=hz.h
 subst e1
 refine h.mem h1 rfl rfl (fun _ _ _ h=>nomatch h) fun S' S2 hl hR g r w hC gy hn ir pos ag=>?_
 have hb:=l7 hR (by rw [hl]; exact h1.A) hv (jd hh ha ir) gy
 refine po (fv.made (HJ (E:=E) (z0:=z0) t1 t2 t3 t4 hE t5 t7 (aV hb hx) (aV hb hx) (by rw [t6]; exact e2) e3)) ?_
 rintro v w' ⟨hC,f,hf,hV⟩
 refine ⟨hC,f,hf,v,rfl,?_,hV.2⟩
 have:=HL.own (Z:=fun _=>False) (e:=.own (aK e E) v (List.replicate n z0)) (f:=f) hV.1 .nil
 exact .inl (by simpa using this)
theorem Vs {mt:Nat} {α:Type} {t e:TI} {E:ah α} {z0:α} {bt i d:Nat} {sl:LQ} {ms:MM} {A:LN} {ty:TI} {as:LL} {ops:LO} {r0:NV} {w0:World} {H:LN} {x:OO} {u:Value} {Γ:QE} {F:LN} (hh:j9 l mt base=true) (ha:c9 r0 base) (hz:rv P t α e E z0 bt) (hv:dX A none sl base fr) (hx:bd fr x=some u) (ho:One Γ u) (hS:∀ w,aw H w0 w→SA Z w Γ [] F) (h1:n8 l mt U A (.buildSlice t 1 #[(0,x)]) d ty as ops i) (h:gx P Z l mt U r0 w0 H i sl ms) :
   gx P Z l mt U r0 w0 H (i+1) sl (⟨i,d,[],Nat,fun _ b=>.slice (some ⟨b,0,none⟩) 1 1,fun _ b=>[.row b [u] e]⟩ :: ms):=by
 obtain ⟨t1,hE,i',z',t2,t3,t4,t5,t6,t7⟩:=hz.h
 refine h.mem h1 rfl rfl (fun _ _ _ h=>nomatch h) fun S' S2 hl hR g r w hC gy hn ir pos ag=>?_
 have hb:=l7 hR (by rw [hl]; exact h1.A) hv (jd hh ha ir) gy
 refine po (fv.Fk t1 t2 t3 t4 (aV hb hx) (ho.one (hS w hC))) ?_
 rintro v w' ⟨hC,f,hf,b,e1,e2,bg⟩
 refine ⟨hC,f,hf,b,e2,?_,by rw [e1]; simp⟩
 have:=HL.own (Z:=fun _=>False) (e:=.row b [u] e) (f:=[b]) ⟨rfl,bg⟩ .nil
 rw [e1]
 exact .inl (by simpa using this)
theorem Ks {mt n:Nat} {t e:TI} {i d:Nat} {sl:LQ} {ms:MM} {A:LN} {ty:TI} {as:LL} {ops:LO} {r0:NV} {w0:World} {H:LN} {ps:List (Nat×Operand)} {us:LV} {Γ:QE} {F:LN} (hh:j9 l mt base=true) (ha:c9 r0 base) (hz:Hm P t e) (hv:dX A none sl base fr) (hd:wg Γ fr 0 ps us) (hn:us.length=n) (hb:(Nat.ble 1 n && Nat.ble n 16777216)=true) (hS:∀ w,aw H w0 w→SA Z w Γ [] F) (h1:n8 l mt U A (.buildSlice t n ps.toArray) d ty as ops i) (h:gx P Z l mt U r0 w0 H i sl ms) :
   gx P Z l mt U r0 w0 H (i+1) sl (⟨i,d,[],Nat,fun _ b=>.slice (some ⟨b,0,none⟩) n n,fun _ b=>[.row b us e]⟩ :: ms):=by
 refine h.mem h1 rfl rfl (fun _ _ _ h=>nomatch h) fun S' S2 hl hR g r w hC gy hnn ir pos ag=>?_
 have cg:=l7 hR (by rw [hl]; exact h1.A) hv (jd hh ha ir) gy
 unfold fv
 rw [hd.op cg (hS w hC) hz hn hb]
 refine ⟨aw.alloc _ _ _,[w.heap.size],fun b hb=>by rw [List.mem_singleton.1 hb]; simp,w.heap.size,rfl,?_,by simp⟩
 have:=HL.own (Z:=fun _=>False) (e:=.row w.heap.size us e) (f:=[w.heap.size]) ⟨rfl,heap_alloc_new w _⟩ .nil
 exact .inl (by simpa using this)
theorem TG {mt t:Nat} {α:Type} {s e:TI} {E:ah α} {z0:α} {bt i d:Nat} {sl:LQ} {ms:MM} {A:LN} {ty:TI} {as:LL} {ops:LO} {r0:NV} {w0:World} {H:LN} (hz:rv P s α e E z0 bt) (hi:j8 ms) (eh:lz A ms=true) (hj:∃ j,qb t ms=some j∧dj j A=true) (hx:∀ x:l6 ms,PF (jx A ms x) (rm A ms x) t) (h1:n8 l mt U A (.buildSlice s 1 #[(0,.tmp t)]) d ty as ops i) (h:gx P Z l mt U r0 w0 H i sl ms) :
   gx P Z l mt U r0 w0 H (i+1) sl (⟨i,d,[t],Nat,fun _ b=>.slice (some ⟨b,0,none⟩) 1 1,fun u b=>[.row b [u] e]⟩ :: ms):=by
 obtain ⟨t1,hE,i',z',t2,t3,t4,t5,t6,t7⟩:=hz.h
 refine h.mem h1 rfl rfl (fun S' hR t' ht=>by rw [List.mem_singleton.1 ht]; exact CH h1.A hR hj) ?_
 intro S' S2 hl hR g r w hC gy hn ir pos ag
 obtain ⟨x,hv,hE⟩:=vD hR (by rw [hl]; exact h1.A) hi eh hn
 obtain ⟨xY,uN⟩:=hx x
 have yV:r t=_:=(ny hv v7) t _ (by rw [List.append_nil]; exact xY)
 obtain ⟨_,_,_,_,hS⟩:=hE.front (Γ:=[]) (F:=[]) rfl
 rw [List.append_nil] at hS
 refine po (fv.Fk t1 t2 t3 t4 (x:=.tmp t) rfl (by show (r t).oneCell'=true; rw [yV]; exact uN.one hS)) ?_
 rintro v w' ⟨hC,f,hf,b,e1,e2,bg⟩
 refine ⟨hC,f,hf,b,e2,?_,by rw [e1]; simp⟩
 have:=HL.own (Z:=fun _=>False) (e:=.row b [r t] e) (f:=[b]) ⟨rfl,bg⟩ .nil
 rw [e1]
 exact .inl (by simpa [vB,zx] using this)
theorem TH:∀ cs:List Value,nr cs [] cs:=by
 intro cs
 induction cs with
 | nil=>exact .nil
 | cons c cs ih=>exact .cons ih
theorem TJ {mt t n:Nat} {s e:TI} {i d:Nat} {sl:LQ} {ms:MM} {A:LN} {ty:TI} {as:LL} {ops:LO} {r0:NV} {w0:World} {H:LN} (hz:Kf P s e n) (hb:(Nat.ble 1 1 && Nat.ble (1 * n) 16777216)=true) (hi:j8 ms) (eh:lz A ms=true) (hj:∃ j,qb t ms=some j∧dj j A=true) (hx:∀ x:l6 ms,PG (jx A ms x) t n) (h1:n8 l mt U A (.buildSlice s 1 #[(0,.tmp t)]) d ty as ops i) (h:gx P Z l mt U r0 w0 H i sl ms) :
   gx P Z l mt U r0 w0 H (i+1) sl (⟨i,d,[t],Nat,fun _ b=>.slice (some ⟨b,0,none⟩) 1 1,fun u b=>[.row b u.cells.toList e]⟩ :: ms):=by
 refine h.mem h1 rfl rfl (fun S' hR t' ht=>by rw [List.mem_singleton.1 ht]; exact CH h1.A hR hj) ?_
 intro S' S2 hl hR g r w hC gy hn ir pos ag
 obtain ⟨x,hv,hE⟩:=vD hR (by rw [hl]; exact h1.A) hi eh hn
 obtain ⟨xY,hlen⟩:=hx x
 rename_i cs
 have yV:r t = .agg cs.toArray:=(ny hv v7) t _ (by rw [List.append_nil]; exact xY)
 have vx:c9 r [(t,.agg cs.toArray)]:=(fun t' v' h'=>by
  simp only [look] at h'
  cases h2:Nat.beq t' t with
  | true=>rw [h2] at h'; cases h'; rw [Nat.eq_of_beq_eq_true h2]; exact yV
  | false=>rw [h2] at h'; cases h')
 have hd:xw [] [(t,.agg cs.toArray)] n 0 [(0,.tmp t)] cs:=.cons (v:=.agg cs.toArray) (by simp [bd,look]) .agg hlen .nil (TH cs)
 have Kr:(execOp (ev r) ⟨some d,.buildSlice s 1 #[(0,.tmp t)],ty,pos,ag,none⟩).run P w=_:=hd.op (Z:=fun _=>False) (w:=w) (cur:=[]) (F:=[]) vx rfl hz rfl hb
 unfold fv
 rw [Kr]
 refine ⟨aw.alloc _ _ _,[w.heap.size],fun b hb=>by rw [List.mem_singleton.1 hb]; simp,w.heap.size,rfl,?_,by simp⟩
 have xh:(Value.agg cs.toArray).cells.toList=cs:=rfl
 have:=HL.own (Z:=fun _=>False) (e:=.row w.heap.size (r t).cells.toList e) (f:=[w.heap.size]) ⟨rfl,by rw [yV,xh]; exact heap_alloc_new w _⟩ .nil
 exact .inl (by simpa [vB,zx] using this)
theorem PM {mt:Nat} {β V:Type} {A:LN} {as:LL} {d:Nat} {f:FuncId} {xs:List Operand} {bb:Array TypeId} {ty:TI} {mo:Option β} {rt:β→V→List Value} {ps:β→V→List aX} {ops:LO} {i:Nat} {sl:LQ} {ms:MM} {fr:Fr} {hd Γ:QE} {B:Bs} {r0:NV} {w0:World} {H:LN} {y:β} (hh:j9 l mt base=true) (hf:bu P f) (hv:dX A none sl base fr)
   (hc:∀ x:l6 ms,Lm P f xs (jx A ms x++fr) (rm A ms x++Γ) mo rt ps) (hi:j8 ms) (eh:lz A ms=true) (hw:∀ y v,tu (ps y v)=true) (h1:n8 l mt U A (.call ⟨.value (.func f),xs.toArray,bb⟩) d ty as ops i) (hy:mo=some y) (ha:c9 r0 base) (hs:o9 B Z hd Γ H w0) (h:gx P Z l mt U r0 w0 H i sl ms) :
   AF P Z l mt U r0 w0 H i sl ms ⟨i,d,[],V,fun _ v=>pj (rt y v),fun _=>ps y⟩:=by
 obtain ⟨S',hl,hR,hO⟩:=h
 subst hl
 refine ⟨S',rfl,hR,hO,fun V' hV=>?_⟩
 obtain ⟨hA,⟨pos,ag,ho⟩,_⟩:=h1
 refine iq.HH (V:=V') ho (by simp) rfl fun g r w hC gy hn ir=>?_
 have hb:=l7 hR hA hv (jd hh ha ir) gy
 obtain ⟨x,hx,pd⟩:=vD hR hA hi eh hn
 obtain ⟨xZ,tW,hd,hr⟩:=hc x
 obtain ⟨fn,c,f1,f2,f3⟩:=hf.h
 refine Calls.CE f1 f2 f3 ?_
 rw [ql (ny hx hb) xZ]
 obtain ⟨F,Hd,⟨u4,u5,se,u6⟩,hS,hG⟩:=hs
 obtain ⟨G,kh,FV,BV,ji⟩:=pd.front (o9.stay hS hG hC)
 rw [s7] at tW
 refine (tW.2 w (fun b=>Z b∨b∈G) [] (hr.sound (fun _ h=>h) (fun _ b hb=>.inr (BV b hb)) ji hd.ho) List.nodup_nil (fun b hb=>absurd hb List.not_mem_nil)
  (fun b hb=>hb.elim (fun h=>Nat.lt_of_lt_of_le (hG.py b h) hC.size) fun h=>(kh b h).2) y hy).mono ?_
 rintro e w' ⟨v,he,Z2,F2,sT,jj⟩
 have yW:HL (fun _=>False) w' (ps y v) F2:=xS (hw y v) sT
 have bj:=(yW.front (Γ:=[]) (F:=[]) rfl).lt
 obtain ⟨f',cb,x8⟩:=hV F2 w' r _ ⟨v,rfl,.inl yW,jj.nd⟩
 refine ⟨_,he,jj.lp,f',fun b hb=>⟨(jj.low b (cb b hb)).resolve_left List.not_mem_nil,bj b (by simpa using cb b hb)⟩,x8⟩
theorem Np {mt:Nat} {β V:Type} {A:LN} {as:LL} {d:Nat} {f:FuncId} {fs bs:LV} {xo:OO} {xs:List Operand} {bb:Array TypeId} {ty:TI} {mo:Option β} {rt:β→V→List Value} {ps:β→V→List aX} {ops:LO} {i:Nat} {sl:LQ} {ms:MM} {fr:Fr} {hd Γ:QE} {B:Bs} {r0:NV} {w0:World} {H:LN} {y:β} (hh:j9 l mt base=true) (hf:bu P f) (hv:dX A none sl base fr)
   (HK:bd fr xo=some (.func (.func f) fs.toArray bs.toArray)) (hc:∀ x:l6 ms,Eb P f fs bs xs (jx A ms x++fr) (rm A ms x++Γ) mo rt ps) (hi:j8 ms) (eh:lz A ms=true) (hw:∀ y v,tu (ps y v)=true) (h1:n8 l mt U A (.call ⟨.value xo,xs.toArray,bb⟩) d ty as ops i) (hy:mo=some y) (ha:c9 r0 base) (hs:o9 B Z hd Γ H w0) (h:gx P Z l mt U r0 w0 H i sl ms) :
   AF P Z l mt U r0 w0 H i sl ms ⟨i,d,[],V,fun _ v=>pj (rt y v),fun _=>ps y⟩:=by
 obtain ⟨S',hl,hR,hO⟩:=h
 subst hl
 refine ⟨S',rfl,hR,hO,fun V' hV=>?_⟩
 obtain ⟨hA,⟨pos,ag,ho⟩,_⟩:=h1
 refine iq.HH (V:=V') ho (by simp) rfl fun g r w hC gy hn ir=>?_
 have hb:=l7 hR hA hv (jd hh ha ir) gy
 obtain ⟨x,hx,pd⟩:=vD hR hA hi eh hn
 obtain ⟨xZ,k1,k2,tW,hd,hr⟩:=hc x
 obtain ⟨fn,c,f1,f2,f3⟩:=hf.h
 unfold fv
 rw [Hz (aV hb HK) f1 f2 f3,ql (ny hx hb) xZ,List.append_assoc,k1.eq,k2.eq]
 obtain ⟨F,Hd,⟨u4,u5,se,u6⟩,hS,hG⟩:=hs
 obtain ⟨G,kh,FV,BV,ji⟩:=pd.front (o9.stay hS hG hC)
 rw [s7] at tW
 refine (tW.2 w (fun b=>Z b∨b∈G) [] (hr.sound (fun _ h=>h) (fun _ b hb=>.inr (BV b hb)) ji hd.ho) List.nodup_nil (fun b hb=>absurd hb List.not_mem_nil)
  (fun b hb=>hb.elim (fun h=>Nat.lt_of_lt_of_le (hG.py b h) hC.size) fun h=>(kh b h).2) y hy).mono ?_
 rintro e w' ⟨v,he,Z2,F2,sT,jj⟩
 have yW:HL (fun _=>False) w' (ps y v) F2:=xS (hw y v) sT
 have bj:=(yW.front (Γ:=[]) (F:=[]) rfl).lt
 obtain ⟨f',cb,x8⟩:=hV F2 w' r _ ⟨v,rfl,.inl yW,jj.nd⟩
 refine ⟨_,he,jj.lp,f',fun b hb=>⟨(jj.low b (cb b hb)).resolve_left List.not_mem_nil,bj b (by simpa using cb b hb)⟩,x8⟩
theorem Nq {mt:Nat} {β V:Type} {A:LN} {as:LL} {d:Nat} {f:FuncId} {it:TI} {nm:String} {u:Value} {xo:OO} {xs:List Operand} {bb:Array TypeId} {ty:TI} {mo:Option β} {rt:β→V→List Value} {ps:β→V→List aX} {ops:LO} {i:Nat} {sl:LQ} {ms:MM} {fr:Fr} {hd Γ:QE} {B:Bs} {r0:NV} {w0:World} {H:LN} {y:β} (hh:j9 l mt base=true) (hf:UR P it nm f) (hv:dX A none sl base fr)
   (HK:bd fr xo=some (.iface it u)) (hc:∀ x:l6 ms,Eb P f [u] [] xs (jx A ms x++fr) (rm A ms x++Γ) mo rt ps) (hi:j8 ms) (eh:lz A ms=true) (hw:∀ y v,tu (ps y v)=true) (h1:n8 l mt U A (.call ⟨.invoke xo nm,xs.toArray,bb⟩) d ty as ops i) (hy:mo=some y) (ha:c9 r0 base) (hs:o9 B Z hd Γ H w0) (h:gx P Z l mt U r0 w0 H i sl ms) :
   AF P Z l mt U r0 w0 H i sl ms ⟨i,d,[],V,fun _ v=>pj (rt y v),fun _=>ps y⟩:=by
 obtain ⟨S',hl,hR,hO⟩:=h
 subst hl
 refine ⟨S',rfl,hR,hO,fun V' hV=>?_⟩
 obtain ⟨hA,⟨pos,ag,ho⟩,_⟩:=h1
 refine iq.HH (V:=V') ho (by simp) rfl fun g r w hC gy hn ir=>?_
 have hb:=l7 hR hA hv (jd hh ha ir) gy
 obtain ⟨x,hx,pd⟩:=vD hR hA hi eh hn
 obtain ⟨xZ,k1,k2,tW,hd,hr⟩:=hc x
 have f1:=hf.h
 unfold fv
 rw [Gk f1 (aV hb HK),ql (ny hx hb) xZ]
 have k3:=k2.eq
 rw [← k1.eq,List.append_nil,List.singleton_append] at k3
 rw [k3]
 obtain ⟨F,Hd,⟨u4,u5,se,u6⟩,hS,hG⟩:=hs
 obtain ⟨G,kh,FV,BV,ji⟩:=pd.front (o9.stay hS hG hC)
 rw [s7] at tW
 refine (tW.2 w (fun b=>Z b∨b∈G) [] (hr.sound (fun _ h=>h) (fun _ b hb=>.inr (BV b hb)) ji hd.ho) List.nodup_nil (fun b hb=>absurd hb List.not_mem_nil)
  (fun b hb=>hb.elim (fun h=>Nat.lt_of_lt_of_le (hG.py b h) hC.size) fun h=>(kh b h).2) y hy).mono ?_
 rintro e w' ⟨v,he,Z2,F2,sT,jj⟩
 have yW:HL (fun _=>False) w' (ps y v) F2:=xS (hw y v) sT
 have bj:=(yW.front (Γ:=[]) (F:=[]) rfl).lt
 obtain ⟨f',cb,x8⟩:=hV F2 w' r _ ⟨v,rfl,.inl yW,jj.nd⟩
 refine ⟨_,he,jj.lp,f',fun b hb=>⟨(jj.low b (cb b hb)).resolve_left List.not_mem_nil,bj b (by simpa using cb b hb)⟩,x8⟩
theorem HM {A:LN} {g:Nat→List Nat} {b:Nat}:∀ {ms:MM},b∈BS A g ms→∃ a∈ms,dj a.j A=true∧b∈g a.j:=by
 intro ms
 induction ms with
 | nil=>intro h; exact absurd h List.not_mem_nil
 | cons a l ih=>
  intro h
  unfold BS at h
  cases hb:dj a.j A with
  | true=>
   rw [hb] at h
   rcases List.mem_append.1 h with h | h
   ·exact ⟨a,by simp,hb,h⟩
   ·obtain ⟨c,h1,h2⟩:=ih h; exact ⟨c,List.mem_cons_of_mem _ h1,h2⟩
  | false=>rw [hb] at h; obtain ⟨c,h1,h2⟩:=ih h; exact ⟨c,List.mem_cons_of_mem _ h1,h2⟩
theorem AK {mt i:Nat} (h:((U.set i []).all fun us=>!(us.contains l.length))=true):wF l U mt i=true:=by
 unfold wF
 simp only [List.all_eq_true,List.mem_range,Bool.or_eq_true,Bool.not_eq_true'] at h ⊢
 intro k _
 by_cases hk:k=i
 ·exact .inl (.inr (by rw [hk]; exact Nat.beq_refl i))
 ·refine .inl (.inl ?_)
  rw [List.getD_eq_getElem?_getD]
  cases hu:U[k]? with
  | none=>rfl
  | some us=>exact h us (List.mem_of_getElem? (i:=k) (by rw [List.getElem?_set_ne (fun e=>hk e.symm)]; exact hu))
theorem HO.mono {Z':Nat→Prop} (hz:∀ b,Z b→Z' b) {Δ:QE} {F:LN} (h:HO Z w Δ F):HO Z' w Δ F:=by
 induction h with
 | nil=>exact .nil
 | own h _ ih=>exact .own (h.mono hz) ih
 | rd _ ih=>exact .rd ih
 | bb _ ih=>exact .bb ih
theorem Nr {mt:Nat} {β V:Type} {A:LN} {as:LL} {d:Nat} {f:FuncId} {xs:List Operand} {bb:Array TypeId} {ty:TI} {mo:Option β} {rt:β→V→List Value} {ps:β→V→List aX} {ops:LO} {i:Nat} {sl:LQ} {ms:MM} {fr:Fr} {hd Γ:QE} {B:Bs} {r0:NV} {w0:World} {H:LN} {y:β} (hh:j9 l mt base=true) (hf:bu P f) (hv:dX A none sl base fr)
   (hU:U.getD i []=[l.length]) (BW:((U.set i []).all fun us=>!(us.contains l.length))=true)
   (hc:∀ x:l6 ms,Ec P f xs (jx A ms x++fr) hd (rm A ms x++Γ) mo rt ps) (hi:j8 ms) (eh:lz A ms=true) (hw:∀ y v,tu (ps y v)=true) (h1:n8 l mt U A (.call ⟨.value (.func f),xs.toArray,bb⟩) d ty as ops i) (hy:mo=some y) (ha:c9 r0 base) (hs:o9 B Z hd Γ H w0) (h:gx P Z l mt U r0 w0 H i sl ms) :
   AF P Z l mt U r0 w0 H i sl ms ⟨i,d,[],V,fun _ v=>pj (rt y v),fun _=>ps y⟩:=by
 obtain ⟨S',hl,hR,hO⟩:=h
 subst hl
 refine ⟨S',rfl,hR,hO,fun V' hV=>?_⟩
 obtain ⟨hA,⟨pos,ag,ho⟩,_⟩:=h1
 intro o' s' bw cq g r w hC xm gy hn ir tU oq
 rw [ho] at bw
 cases bw
 rw [List.getElem?_append_right (Nat.le_refl _),Nat.sub_self] at cq
 cases cq
 rw [if_pos rfl]
 refine ⟨rfl,?_⟩
 obtain ⟨HP,HQ,HR⟩:=xm (AK BW)
 have hb:=l7 hR hA hv (jd hh ha ir) gy
 obtain ⟨x,hx,pd⟩:=vD hR hA hi eh hn
 obtain ⟨xZ,tW,HS,hr⟩:=hc x
 obtain ⟨fn,c,f1,f2,f3⟩:=hf.h
 refine Calls.CE f1 f2 f3 ?_
 rw [ql (ny hx hb) xZ]
 obtain ⟨F,Hd,⟨u4,u5,se,u6⟩,hS,hG⟩:=hs
 obtain ⟨G,kh,FV,BV,ji⟩:=pd.front (o9.stay hS hG hC)
 obtain ⟨Fd,F',HT,_,zQ⟩:=HS.sound (u4.km HP)
 have cb:∀ b∈Fd,b∈H:=fun b hb=>(u5 b (zQ.mem_iff.1 (List.mem_append_left _ hb))).1
 have db:=List.nodup_append.1 hG.nd
 have hblk:l9 g (U.getD S'.length [])=H:=by rw [hU]; simp [l9,HQ]
 rw [hblk]
 rw [s7] at tW
 refine (tW.2 w (fun b=>Z b∨b∈G) Fd (hr.sound (fun _ h=>h) (fun _ b hb=>.inr (BV b hb)) ji (HT.mono fun _ h=>.inl h)) ((zQ.nodup_iff.2 u6).sublist (List.sublist_append_left _ _)) (fun b hb=>?_)
  (fun b hb=>hb.elim (fun h=>Nat.lt_of_lt_of_le (hG.py b h) hC.size) fun h=>(kh b h).2) y hy).mono ?_
 ·rintro (hz | hz)
  ·exact hG.apart b (List.mem_append_left _ (cb b hb)) hz
  ·rcases List.mem_append.1 (kh b hz).1 with hz | hz
   ·obtain ⟨a,ham,vX,vx⟩:=HM hz
    have h2:=HR a.j (kj (by rw [← hA]; exact jc.1 vX)).1 b vx
    have h3:=se b (cb b hb)
    omega
   ·exact db.2.2 b (cb b hb) b hz rfl
 ·rintro e w' ⟨v,he,Z2,F2,sT,jj⟩
  have yW:HL (fun _=>False) w' (ps y v) F2:=xS (hw y v) sT
  have bj:=(yW.front (Γ:=[]) (F:=[]) rfl).lt
  obtain ⟨f',Ee,x8⟩:=hV F2 w' r _ ⟨v,rfl,.inl yW,jj.nd⟩
  exact ⟨_,he,jj.lp.mono cb,f',fun b hb=>⟨(jj.low b (Ee b hb)).imp (cb b) id,bj b (by simpa using Ee b hb)⟩,x8⟩
theorem AE.sub {ms BD:MM} {a:fu} {t:Nat} (h:AE ms t a BD):a∈ms∧a.j=t∧(∀ b∈BD,b∈ms)∧(BD.map (·.j)).Sublist (ms.map (·.j))∧((ms.map (·.j)).Nodup→∀ b∈BD,b.j≠t):=by
 induction h with
 | here=>exact ⟨by simp,rfl,fun b hb=>List.mem_cons_of_mem _ hb,by simp,fun hn b hb he=>by rw [List.map_cons,List.nodup_cons] at hn; exact hn.1 (by rw [← he]; exact List.mem_map_of_mem hb)⟩
 | there _ ih=>
  obtain ⟨h1,h2,h3,h4,h5⟩:=ih
  refine ⟨List.mem_cons_of_mem _ h1,h2,fun b hb=>?_,by simpa using h4,fun hn b hb=>?_⟩
  ·rcases List.mem_cons.1 hb with rfl | hb
   ·simp
   ·exact List.mem_cons_of_mem _ (h3 b hb)
  ·rw [List.map_cons,List.nodup_cons] at hn
   rcases List.mem_cons.1 hb with rfl | hb
   ·intro he
    exact hn.1 (by rw [he,← h2]; exact List.mem_map_of_mem h1)
   ·exact h5 hn.2 b hb
theorem Ns {mt:Nat} {β V:Type} {j1:Nat} {a1:fu} {A:LN} {as:LL} {d:Nat} {f:FuncId} {xs:List Operand} {bb:Array TypeId} {ty:TI} {mo:Option β} {rt:β→V→List Value} {ps:β→V→List aX} {ops:LO} {i:Nat} {sl:LQ} {ms gj:MM} {fr:Fr} {hd Γ:QE} {B:Bs} {r0:NV} {w0:World} {H:LN} {y:β} (hh:j9 l mt base=true) (hf:bu P f) (hv:dX A none sl base fr)
   (hU:U.getD i []=[j1]) (xi:AE ms j1 a1 gj) (Ed:a1.src=[]) (h4:dj j1 A=true)
   (hc:∀ (q:a1.V) (x:l6 gj),Ec P f xs (jx A gj x++fr) (a1.ps undef q) (rm A gj x++Γ) mo rt ps) (hi:j8 gj) (eh:lz A gj=true) (hw:∀ y v,tu (ps y v)=true) (h1:n8 l mt U A (.call ⟨.value (.func f),xs.toArray,bb⟩) d ty as ops i) (hy:mo=some y) (ha:c9 r0 base) (hs:o9 B Z hd Γ H w0) (h:gx P Z l mt U r0 w0 H i sl ms) :
   AF P Z l mt U r0 w0 H i sl gj ⟨i,d,[],V,fun _ v=>pj (rt y v),fun _=>ps y⟩:=by
 obtain ⟨S',hl,Kt,hO⟩:=h
 subst hl
 obtain ⟨m1,m2,m3,m4,m5⟩:=xi.sub
 have hR:=Kt.sub m3 m4
 refine ⟨S',rfl,hR,hO,fun V' hV=>?_⟩
 obtain ⟨hA,⟨pos,ag,ho⟩,_⟩:=h1
 intro o' s' bw cq g r w hC xm gy hn ir tU oq
 rw [ho] at bw
 cases bw
 rw [List.getElem?_append_right (Nat.le_refl _),Nat.sub_self] at cq
 cases cq
 rw [if_pos rfl]
 refine ⟨rfl,?_⟩
 have AI:=kj (by rw [← hA]; exact jc.1 h4)
 have hb:=l7 hR hA hv (jd hh ha ir) gy
 obtain ⟨x,hx,pd⟩:=vD hR hA hi eh hn
 obtain ⟨q,_,Ef,Nu⟩:=Kt.xW m1 (hn a1.j (by rw [m2]; exact AI.2))
 have u3:vB a1 r=undef:=by unfold vB; rw [Ed]; rfl
 rw [u3,m2] at Ef
 rw [m2] at Nu
 obtain ⟨xZ,tW,HS,hr⟩:=hc q x
 obtain ⟨fn,c,f1,f2,f3⟩:=hf.h
 refine Calls.CE f1 f2 f3 ?_
 rw [ql (ny hx hb) xZ]
 obtain ⟨F,Hd,⟨u4,u5,se,u6⟩,hS,hG⟩:=hs
 have HU:=o9.stay hS hG hC
 obtain ⟨G,kh,FV,BV,ji⟩:=pd.front HU
 obtain ⟨Fo,Fr,Ku,BX,Vt⟩:=Ef.all
 have Vu:SA (fun b=>Z b∨b∈Fr) w (a1.ps undef q) [] Fo:=by
  have:=Vt.front (Γ:=[]) (F:=[]) rfl
  simpa using this
 have Nv:=List.nodup_append.1 (Ku ▸ Nu)
 obtain ⟨Fd,F',HT,_,zQ⟩:=HS.sound Vu
 have Eg:∀ b∈Fd,b∈Fo:=fun b hb=>zQ.mem_iff.1 (List.mem_append_left _ hb)
 have cb:∀ b∈Fd,b∈g j1:=fun b hb=>by rw [Ku]; exact List.mem_append_left _ (Eg b hb)
 have db:=List.nodup_append.1 hG.nd
 have hblk:l9 g (U.getD S'.length [])=g j1:=by rw [hU]; simp [l9]
 rw [hblk]
 rw [s7] at tW
 have Gp:∀ b∈g j1,w0.heap.size≤b∨b∈H:=fun b hb=>(oq j1 AI.1 b hb).1
 refine (tW.2 w (fun b=>Z b∨b∈Fr++G) Fd (hr.sound (fun _ h=>h) (fun _ b hb=>.inr (List.mem_append_right _ (BV b hb))) (ji.mono (fun _ h=>h.imp id fun h=>List.mem_append_right _ h) fun _ h=>h) (HT.mono fun _ h=>h.imp id fun h=>List.mem_append_left _ h)) ((zQ.nodup_iff.2 Nv.1).sublist (List.sublist_append_left _ _)) (fun b hb=>?_)
  (fun b hb=>hb.elim (fun h=>Nat.lt_of_lt_of_le (hG.py b h) hC.size) fun h=>(List.mem_append.1 h).elim (BX b) fun h=>(kh b h).2) y hy).mono ?_
 ·rintro (hz | hz)
  ·rcases Gp b (cb b hb) with h | h
   ·have:=hG.py b hz; omega
   ·exact hG.apart b (List.mem_append_left _ h) hz
  ·rcases List.mem_append.1 hz with hz | hz
   ·exact Nv.2.2 b (Eg b hb) b hz rfl
   rcases List.mem_append.1 (kh b hz).1 with hz | hz
   ·obtain ⟨a,ham,vX,vx⟩:=HM hz
    exact tU a.j (kj (by rw [← hA]; exact jc.1 vX)).1 j1 AI.1 (m5 Kt.d a ham) b vx (cb b hb)
   ·rcases Gp b (cb b hb) with h | h
    ·have:=hS.lt b hz; omega
    ·exact db.2.2 b h b hz rfl
 ·rintro e w' ⟨v,he,Z2,F2,sT,jj⟩
  have yW:HL (fun _=>False) w' (ps y v) F2:=xS (hw y v) sT
  have bj:=(yW.front (Γ:=[]) (F:=[]) rfl).lt
  obtain ⟨f',Ee,x8⟩:=hV F2 w' r _ ⟨v,rfl,.inl yW,jj.nd⟩
  exact ⟨_,he,jj.lp.mono cb,f',fun b hb=>⟨(jj.low b (Ee b hb)).imp (cb b) id,bj b (by simpa using Ee b hb)⟩,x8⟩
theorem SA.app {Γ Γ':QE} {F F':LN}:∀ {cur:LN},SA Z w Γ' cur F'→SA Z w Γ [] F→SA Z w (Γ'++Γ) cur (F'++F):=by
 induction Γ' generalizing F' with
 | nil=>intro cur h hs; cases h; exact hs.any
 | cons e Γ' ih=>
  intro cur h hs
  cases e with
  | own T v x=>obtain ⟨f,F1,rfl,h1,h2⟩:=h; exact ⟨f,F1++F,by rw [List.append_assoc],h1,ih h2 hs⟩
  | om e E v xs=>obtain ⟨f,F1,rfl,h1,h2⟩:=h; exact ⟨f,F1++F,by rw [List.append_assoc],h1,ih h2 hs⟩
  | row b cs e=>obtain ⟨f,F1,rfl,h1,h2⟩:=h; exact ⟨f,F1++F,by rw [List.append_assoc],h1,ih h2 hs⟩
  | gp e E v xs j u=>obtain ⟨f,F1,rfl,h1,h2⟩:=h; exact ⟨f,F1++F,by rw [List.append_assoc],h1,ih h2 hs⟩
  | rd o T v x=>exact ⟨h.1,ih h.2 hs⟩
  | ad o1 o2 v j T x=>exact ⟨h.1,ih h.2 hs⟩
  | bb p cs=>exact ⟨h.1,ih h.2 hs⟩
  | hd v j u=>exact ⟨h.1,ih h.2 hs⟩
open Classical in
theorem Vv {w':World} {Zc Z2:Nat→Prop} {Fd F2 K:LN} {Δ:QE} (hl:HL Z2 w' Δ F2) (hg:Gd ⟨w,Zc,Fd⟩ Z2 F2 w') (hz:∀ b,Zc b→Z b∨b∈K) (hK:∀ b∈Fd,b∈K) :
  ∃ f,(∀ b∈f,(b∈K∨w.heap.size≤b)∧b < w'.heap.size)∧HN Z w' Δ f∧f.Nodup:=by
 have bj:=(hl.front (Γ:=[]) (F:=[]) rfl).lt
 by_cases ho:tu Δ=true
 ·exact ⟨F2,fun b hb=>⟨(hg.low b hb).imp (hK b) id,bj b (by simpa using hb)⟩,.inl (xS ho hl),hg.nd⟩
 ·let Fr:=(List.range w'.heap.size).filter fun b=>decide (Z2 b∧(b∈K∨w.heap.size≤b))
  have BX:∀ b,b∈Fr↔b < w'.heap.size∧Z2 b∧(b∈K∨w.heap.size≤b):=fun b=>by simp [Fr]
  refine ⟨F2++Fr,fun b hb=>?_,.inr ⟨F2,Fr,rfl,⟨by simpa using ho,fun b hb=>((BX b).1 hb).1⟩,hl.mono fun b hb=>?_⟩,?_⟩
  ·rcases List.mem_append.1 hb with hb | hb
   ·exact ⟨(hg.low b hb).imp (hK b) id,bj b (by simpa using hb)⟩
   ·exact ⟨((BX b).1 hb).2.2,((BX b).1 hb).1⟩
  ·rcases hg.xc b hb with h | h | h
   ·rcases hz b h with h | h
    ·exact .inl h
    ·exact .inr ((BX b).2 ⟨hg.py b hb,hb,.inl h⟩)
   ·exact .inr ((BX b).2 ⟨hg.py b hb,hb,.inl (hK b h)⟩)
   ·exact .inr ((BX b).2 ⟨hg.py b hb,hb,.inr h⟩)
  ·refine u7 hg.nd (List.nodup_range.filter _) fun b hb hf=>hg.apart b hb ((BX b).1 hf).2.1
theorem Nw {mt:Nat} {β V:Type} {A:LN} {as:LL} {d:Nat} {f:FuncId} {xs:List Operand} {bb:Array TypeId} {ty:TI} {mo:Option β} {rt:β→V→List Value} {ps:β→V→List aX} {ops:LO} {i:Nat} {sl:LQ} {ms:MM} {fr:Fr} {hd Γ:QE} {B:Bs} {r0:NV} {w0:World} {H:LN} {y:β} (hh:j9 l mt base=true) (hf:bu P f) (hv:dX A none sl base fr)
   (hc:∀ x:l6 ms,Lo P f xs (jx A ms x++fr) Γ mo rt ps) (hi:j8 ms) (eh:lz A ms=true) (h1:n8 l mt U A (.call ⟨.value (.func f),xs.toArray,bb⟩) d ty as ops i) (hy:mo=some y) (ha:c9 r0 base) (hs:o9 B Z hd Γ H w0) (h:gx P Z l mt U r0 w0 H i sl ms) :
   AF P Z l mt U r0 w0 H i sl ms ⟨i,d,[],V,fun _ v=>pj (rt y v),fun _=>ps y⟩:=by
 obtain ⟨S',hl,hR,hO⟩:=h
 subst hl
 refine ⟨S',rfl,hR,hO,fun V' hV=>?_⟩
 obtain ⟨hA,⟨pos,ag,ho⟩,_⟩:=h1
 refine iq.HH (V:=V') ho (by simp) rfl fun g r w hC gy hn ir=>?_
 have hb:=l7 hR hA hv (jd hh ha ir) gy
 obtain ⟨x,hx,pd⟩:=vD hR hA hi eh hn
 obtain ⟨xZ,tW,hd,hr⟩:=hc x
 obtain ⟨fn,c,f1,f2,f3⟩:=hf.h
 refine Calls.CE f1 f2 f3 ?_
 rw [ql (ny hx hb) xZ]
 obtain ⟨F,Hd,⟨u4,u5,se,u6⟩,hS,hG⟩:=hs
 have HU:=o9.stay hS hG hC
 rw [s7] at tW
 refine (tW.2 w Z [] (hr.sound (fun _ h=>h) (fun h=>nomatch h) HU hd.ho) List.nodup_nil (fun b hb=>absurd hb List.not_mem_nil)
  (fun b h=>Nat.lt_of_lt_of_le (hG.py b h) hC.size) y hy).mono ?_
 rintro e w' ⟨v,he,Z2,F2,sT,jj⟩
 obtain ⟨f2,k1,k2,k3⟩:=Vv (Z:=Z) (K:=[]) sT jj (fun _ h=>.inl h) fun _ h=>h
 obtain ⟨f',cb,x8⟩:=hV f2 w' r _ ⟨v,rfl,k2,k3⟩
 exact ⟨_,he,jj.lp,f',fun b hb=>⟨(k1 b (cb b hb)).1.resolve_left List.not_mem_nil,(k1 b (cb b hb)).2⟩,x8⟩
theorem Lw {mt:Nat} {β V:Type} {A:LN} {as:LL} {d:Nat} {f:FuncId} {xs:List Operand} {bb:Array TypeId} {ty:TI} {mo:Option β} {rt:β→V→List Value} {ps:β→V→List aX} {ops:LO} {i:Nat} {sl:LQ} {ms:MM} {fr:Fr} {hd Γ:QE} {B:Bs} {r0:NV} {w0:World} {H:LN} {y:β} (hh:j9 l mt base=true) (hf:bu P f) (hv:dX A none sl base fr)
   (hU:U.getD i []=[l.length]) (BW:((U.set i []).all fun us=>!(us.contains l.length))=true)
   (hc:∀ x:l6 ms,BQ P f xs (jx A ms x++fr) hd Γ mo rt ps) (hi:j8 ms) (eh:lz A ms=true) (h1:n8 l mt U A (.call ⟨.value (.func f),xs.toArray,bb⟩) d ty as ops i) (hy:mo=some y) (ha:c9 r0 base) (hs:o9 B Z hd Γ H w0) (h:gx P Z l mt U r0 w0 H i sl ms) :
   AF P Z l mt U r0 w0 H i sl ms ⟨i,d,[],V,fun _ v=>pj (rt y v),fun _=>ps y⟩:=by
 obtain ⟨S',hl,hR,hO⟩:=h
 subst hl
 refine ⟨S',rfl,hR,hO,fun V' hV=>?_⟩
 obtain ⟨hA,⟨pos,ag,ho⟩,_⟩:=h1
 intro o' s' bw cq g r w hC xm gy hn ir tU oq
 rw [ho] at bw
 cases bw
 rw [List.getElem?_append_right (Nat.le_refl _),Nat.sub_self] at cq
 cases cq
 rw [if_pos rfl]
 refine ⟨rfl,?_⟩
 obtain ⟨HP,HQ,HR⟩:=xm (AK BW)
 have hb:=l7 hR hA hv (jd hh ha ir) gy
 obtain ⟨x,hx,pd⟩:=vD hR hA hi eh hn
 obtain ⟨xZ,tW,HS,hr⟩:=hc x
 obtain ⟨fn,c,f1,f2,f3⟩:=hf.h
 refine Calls.CE f1 f2 f3 ?_
 rw [ql (ny hx hb) xZ]
 obtain ⟨F,Hd,⟨u4,u5,se,u6⟩,hS,hG⟩:=hs
 have HU:=o9.stay hS hG hC
 obtain ⟨Fd,F',HT,Vw,zQ⟩:=HS.sound (u4.km HP)
 have cb:∀ b∈Fd,b∈H:=fun b hb=>(u5 b (zQ.mem_iff.1 (List.mem_append_left _ hb))).1
 have db:=List.nodup_append.1 hG.nd
 have hblk:l9 g (U.getD S'.length [])=H:=by rw [hU]; simp [l9,HQ]
 rw [hblk]
 rw [s7] at tW
 refine (tW.2 w Z Fd (hr.sound (fun _ h=>h) (fun h=>nomatch h) (Vw.app HU) HT) ((zQ.nodup_iff.2 u6).sublist (List.sublist_append_left _ _)) (fun b hb=>hG.apart b (List.mem_append_left _ (cb b hb)))
  (fun b h=>Nat.lt_of_lt_of_le (hG.py b h) hC.size) y hy).mono ?_
 rintro e w' ⟨v,he,Z2,F2,sT,jj⟩
 obtain ⟨f2,k1,k2,k3⟩:=Vv (Z:=Z) (K:=H) sT jj (fun _ h=>.inl h) cb
 obtain ⟨f',Ee,x8⟩:=hV f2 w' r _ ⟨v,rfl,k2,k3⟩
 exact ⟨_,he,jj.lp.mono cb,f',fun b hb=>k1 b (Ee b hb),x8⟩
theorem Lx {mt:Nat} {β V:Type} {j1:Nat} {a1:fu} {A:LN} {as:LL} {d:Nat} {f:FuncId} {xs:List Operand} {bb:Array TypeId} {ty:TI} {mo:Option β} {rt:β→V→List Value} {ps:β→V→List aX} {ops:LO} {i:Nat} {sl:LQ} {ms gj:MM} {fr:Fr} {hd Γ:QE} {B:Bs} {r0:NV} {w0:World} {H:LN} {y:β} (hh:j9 l mt base=true) (hf:bu P f) (hv:dX A none sl base fr)
   (hU:U.getD i []=[j1]) (xi:AE ms j1 a1 gj) (Ed:a1.src=[]) (h4:dj j1 A=true)
   (hc:∀ (q:a1.V) (x:l6 gj),BQ P f xs ((a1.d,a1.rt undef q) :: (jx A gj x++fr)) (a1.ps undef q) Γ mo rt ps) (hi:j8 gj) (eh:lz A gj=true) (h1:n8 l mt U A (.call ⟨.value (.func f),xs.toArray,bb⟩) d ty as ops i) (hy:mo=some y) (ha:c9 r0 base) (hs:o9 B Z hd Γ H w0) (h:gx P Z l mt U r0 w0 H i sl ms) :
   AF P Z l mt U r0 w0 H i sl gj ⟨i,d,[],V,fun _ v=>pj (rt y v),fun _=>ps y⟩:=by
 obtain ⟨S',hl,Kt,hO⟩:=h
 subst hl
 obtain ⟨m1,m2,m3,m4,m5⟩:=xi.sub
 have hR:=Kt.sub m3 m4
 refine ⟨S',rfl,hR,hO,fun V' hV=>?_⟩
 obtain ⟨hA,⟨pos,ag,ho⟩,_⟩:=h1
 intro o' s' bw cq g r w hC xm gy hn ir tU oq
 rw [ho] at bw
 cases bw
 rw [List.getElem?_append_right (Nat.le_refl _),Nat.sub_self] at cq
 cases cq
 rw [if_pos rfl]
 refine ⟨rfl,?_⟩
 have AI:=kj (by rw [← hA]; exact jc.1 h4)
 have hb:=l7 hR hA hv (jd hh ha ir) gy
 obtain ⟨x,hx,pd⟩:=vD hR hA hi eh hn
 obtain ⟨q,Nn,Ef,Nu⟩:=Kt.xW m1 (hn a1.j (by rw [m2]; exact AI.2))
 have u3:vB a1 r=undef:=by unfold vB; rw [Ed]; rfl
 rw [u3,m2] at Ef
 rw [u3] at Nn
 rw [m2] at Nu
 obtain ⟨xZ,tW,HS,hr⟩:=hc q x
 obtain ⟨fn,c,f1,f2,f3⟩:=hf.h
 refine Calls.CE f1 f2 f3 ?_
 rw [ql (ny (g:=(a1.d,a1.rt undef q) :: jx A gj x) (fun p hp=>(List.mem_cons.1 hp).elim (fun e=>e ▸ Nn) (hx p)) hb) xZ]
 obtain ⟨F,Hd,⟨u4,u5,se,u6⟩,hS,hG⟩:=hs
 have HU:=o9.stay hS hG hC
 obtain ⟨Fo,Fr,Ku,BX,Vt⟩:=Ef.all
 have Vu:SA (fun b=>Z b∨b∈Fr) w (a1.ps undef q) [] Fo:=by
  have:=Vt.front (Γ:=[]) (F:=[]) rfl
  simpa using this
 have Nv:=List.nodup_append.1 (Ku ▸ Nu)
 obtain ⟨Fd,F',HT,Vw,zQ⟩:=HS.sound Vu
 have Eg:∀ b∈Fd,b∈Fo:=fun b hb=>zQ.mem_iff.1 (List.mem_append_left _ hb)
 have cb:∀ b∈Fd,b∈g j1:=fun b hb=>by rw [Ku]; exact List.mem_append_left _ (Eg b hb)
 have db:=List.nodup_append.1 hG.nd
 have hblk:l9 g (U.getD S'.length [])=g j1:=by rw [hU]; simp [l9]
 rw [hblk]
 rw [s7] at tW
 have Gp:∀ b∈g j1,w0.heap.size≤b∨b∈H:=fun b hb=>(oq j1 AI.1 b hb).1
 refine (tW.2 w (fun b=>Z b∨b∈Fr) Fd (hr.sound (fun _ h=>h) (fun h=>nomatch h) (Vw.app (HU.mono (fun _ h=>.inl h) fun _ h=>h)) HT) ((zQ.nodup_iff.2 Nv.1).sublist (List.sublist_append_left _ _)) (fun b hb=>?_)
  (fun b hb=>hb.elim (fun h=>Nat.lt_of_lt_of_le (hG.py b h) hC.size) (BX b)) y hy).mono ?_
 ·rintro (hz | hz)
  ·rcases Gp b (cb b hb) with h | h
   ·have:=hG.py b hz; omega
   ·exact hG.apart b (List.mem_append_left _ h) hz
  ·exact Nv.2.2 b (Eg b hb) b hz rfl
 ·rintro e w' ⟨v,he,Z2,F2,sT,jj⟩
  obtain ⟨f2,k1,k2,k3⟩:=Vv (Z:=Z) (K:=g j1) sT jj (fun b h=>h.imp id fun h=>by rw [Ku]; exact List.mem_append_right _ h) cb
  obtain ⟨f',Ee,x8⟩:=hV f2 w' r _ ⟨v,rfl,k2,k3⟩
  exact ⟨_,he,jj.lp.mono cb,f',fun b hb=>k1 b (Ee b hb),x8⟩
theorem gx.abV {mt:Nat} {A:LN} {op:Op} {d:Nat} {ty:TI} {as:LL} {ops:LO} {i:Nat} {sl:LQ} {ms:MM} {r0:NV} {w0:World} {H:LN} {u:Value} (h:gx P Z l mt U r0 w0 H i sl ms) (hh:j9 l mt base=true) (ha:c9 r0 base) (h1:n8 l mt U A op d ty as ops i)
  (hV:(U.zipIdx.all fun p=>!(p.1.contains l.length) || ((bx l).getD p.2 []).contains i)=true) (hv:dX A none sl base fr) (hq:∀ r,c9 r fr→∀ pos ag g w,aw [] w0 w→(execOp (ev r) ⟨some d,op,ty,pos,ag,g⟩).run P w = .ok (.value u) w):gx P Z l mt U r0 w0 H (i+1) ((i,d,u) :: sl) ms:=by
 obtain ⟨S',hl,hR,hO⟩:=h
 subst hl
 obtain ⟨hA,⟨pos,ag,ho⟩,_⟩:=h1
 refine ⟨S'++[sV u],by simp,hR.val (by unfold bn; rw [ho]; rfl),fun j hj=>?_⟩
 by_cases h2:j < S'.length
 ·exact iq.more (hO j h2) h2
 ·obtain rfl:j=S'.length:=by omega
  have hN:wF l U mt S'.length=true:=by
   unfold wF
   simp only [List.all_eq_true,List.mem_range,Bool.or_eq_true,Bool.not_eq_true'] at hV ⊢
   intro k _
   rw [List.getD_eq_getElem?_getD]
   cases hu:U[k]? with
   | none=>exact .inl (.inl rfl)
   | some us=>
    have hm:(us,k)∈U.zipIdx:=by rw [List.mem_zipIdx_iff_getElem?]; exact hu
    exact (hV _ hm).imp .inl id
  intro o' s' bw cq g r w hC xm gy hn ir tU oq
  rw [ho] at bw
  cases bw
  rw [List.getElem?_append_right (Nat.le_refl _),Nat.sub_self] at cq
  cases cq
  rw [if_pos rfl]
  refine ⟨rfl,?_⟩
  unfold fv
  rw [hq r (l7 hR hA hv (jd hh ha ir) gy) _ _ _ w (xm hN).1]
  exact ⟨aw.refl _ _,[],fun b hb=>absurd hb List.not_mem_nil,rfl⟩
theorem TK {mt:Nat} {hd jb:QE} {α:Type} {t e e' et:TI} {E E':ah α} {z0:α} {bt t1 t2 j2:Nat} {v u yv:Value} {j:Int} {y:α} {z:List α} {xs:List (List α)} {o1 o2:Bool} {Γx:QE} {tT:MM} {A:LN} {as:LL} {d:Nat} {ty:TI} {ops:LO} {i:Nat} {sl:LQ} {ms:MM} {Γ:QE} {B:Bs} {r0:NV} {w0:World} {H:LN} (hh:j9 l mt base=true) (ha:c9 r0 base) (hT:rv P t α e E z0 bt) (hU:U.getD i []=[l.length])
   (BW:((U.set i []).all fun us=>!(us.contains l.length))=true) (hv:dX A none sl base fr) (hs:look fr t1=some u) (h2:nh ms t2 ⟨j2,t2,[],Nat,fun _ b=>.slice (some ⟨b,0,none⟩) 1 1,fun _ b=>[.row b [yv] et]⟩ tT) (h5:dj j2 A=true) (hl:Loc hd u (.row v j)) (hz:na hd u o1 o2 E' z qp Γx) (h1:dt hd (.own (aK e' (aK e E)) v xs) jb) (hr:RT (aK e E) (bY E')) (hy:C8 [] E yv y [])
   (hf:fits bt (z.length+1)=some ()) (xT:n8 l mt U A (.call ⟨.builtin .append,#[.tmp t1,.tmp t2],#[t,t]⟩) d ty as ops i) (sU:o9 B Z hd Γ H w0) (h:gx P Z l mt U r0 w0 H i sl ms) :
  gx P Z l mt U r0 w0 H (i+1) sl (⟨i,d,[],Value,fun _ v'=>v',fun _ v'=>[.own (aK e E) v' (z++[y]),.own (sO e' (aK e E) j.toNat) v xs]⟩ :: ms)∧o9 B Z jb Γ H w0:=by
 obtain ⟨F,Hd,⟨u4,u5,se,u6⟩,hS,hG⟩:=sU
 obtain ⟨fm0,Vx,HW,_,PN⟩:=h1.sound u4
 refine ⟨?_,F,Vx,⟨PN,fun b hb=>u5 b (HW.mem_iff.1 (List.mem_append_right _ hb)),se,(HW.nodup_iff.2 u6).sublist (List.sublist_append_right _ _)⟩,hS,hG⟩
 obtain ⟨S',zO,hR,hO⟩:=h
 subst zO
 obtain ⟨hA,⟨pos,ag,ho⟩,_⟩:=xT
 obtain ⟨b1,b2⟩:=jm hf
 obtain ⟨q1,q2,ii,zz,q3,q4,q5,q6,q7,_⟩:=hT.h
 obtain ⟨n1,_,_,_⟩:=h2.sub
 refine ⟨S'++[⟨true,MV Z ⟨S'.length,d,[],Value,fun _ v'=>v',fun _ v'=>[.own (aK e E) v' (z++[y]),.own (sO e' (aK e E) j.toNat) v xs]⟩⟩],by simp,hR.mem rfl (by unfold bn; rw [ho]; rfl) (by intro t h; cases h),fun k hk=>?_⟩
 by_cases bj:k < S'.length
 ·exact iq.more (hO k bj) bj
 ·obtain rfl:k=S'.length:=by omega
  intro o' s' bw cq g r w hC xm gy hn ir tU oq
  rw [ho] at bw
  cases bw
  rw [List.getElem?_append_right (Nat.le_refl _),Nat.sub_self] at cq
  cases cq
  rw [if_pos rfl]
  refine ⟨rfl,?_⟩
  obtain ⟨HP,HQ,HR⟩:=xm (AK BW)
  have HX:=u4.km HP
  obtain ⟨j0,j1,j4⟩:=Loc.row hl rfl HX
  obtain ⟨dn,_,⟨⟨gz,p6,_⟩,_⟩,_⟩:=hz.sound HX
  obtain ⟨fm,F1,tB,Nx,_⟩:=h1.sound HX
  obtain ⟨ky,F2,qt,Vy,_⟩:=hy.sound (Z:=Z) (w:=w) (F:=[]) rfl
  have Gq:ky=[]:=by
   cases ky with
   | nil=>rfl
   | cons a l=>exact absurd (qt.mem_iff.1 (List.mem_append_left _ List.mem_cons_self)) List.not_mem_nil
  subst Gq
  rw [sc Nx] at j1
  obtain ⟨k,gm,a1,a2,a3⟩:=DA rfl Nx (List.getElem?_eq_getElem j1) j4
  have Ny:xs[j.toNat]=z:=hr.vT (hr.le.le a1) p6
  rw [Ny] at a1
  have PO:(k++gm).Nodup:=a2.nodup_iff.2 ((tB.nodup_iff.2 u6).sublist (List.sublist_append_left _ _))
  have Bz:=List.nodup_append.1 PO
  have yX:∀ b∈k++gm,b∈H:=fun b hb=>(u5 b (tB.mem_iff.1 (List.mem_append_left _ (a2.mem_iff.1 hb)))).1
  obtain ⟨b,c1,c2,c3⟩:=hR.xW n1 (hn j2 (kj (by rw [← hA]; exact jc.1 h5)).2)
  simp only at c1 c2
  replace c2:=c2.own rfl
  generalize xi:g j2=G1 at c2 c3
  cases c2 with
  | fact h _=>exact h.elim
  | @own _ ff F0 _ Eh tJ=>
   cases tJ
   obtain ⟨rfl,bg⟩:=Eh
   have hb:=l7 hR hA hv (jd hh ha ir) gy
   obtain ⟨v',w',f',ni,xn,dq,cb,AL⟩:=n9 (E:=E) (d:=some d) (ty:=ty) (pos:=pos) (ag:=ag) (g:=none) (r:=r) (s:=.tmp t1) (x:=.tmp t2) (k:=[]) (ys:=[y]) (news:=[yv]) q1 q3 q4 (by rw [q5,q2]) (by rw [cells_one q6,q2]; rfl) (hb _ _ hs) a1 Bz.1 c1 (fun i u hi=>bg.at i u hi) (qf Vy) (fun _ h=>absurd h List.not_mem_nil) (by simp) (by rw [q7]; exact b1) b2
   unfold fv
   rw [ni]
   have hblk:l9 g (U.getD S'.length [])=H:=by rw [hU]; simp [l9,HQ]
   rw [hblk]
   have Nz:(sO e' (aK e E) j.toNat).rep w'.heap [v] xs gm:=ah.fg _ a3 xn fun b hb hk=>Bz.2.2 b hk b hb rfl
   refine ⟨xn.mono fun b hb=>yX b (List.mem_append_left _ hb),f'++gm,fun b hb=>?_,v',rfl,?_,?_⟩
   ·rcases List.mem_append.1 hb with hb | hb
    ·refine ⟨?_,ah.lt _ dq b hb⟩
     rcases cb b hb with h | h | h
     ·exact .inl (yX b (List.mem_append_left _ h))
     ·exact absurd h List.not_mem_nil
     ·exact .inr h
    ·exact ⟨.inl (yX b (List.mem_append_right _ hb)),ah.lt _ Nz b hb⟩
   ·have:=HL.own (Z:=fun _=>False) (e:=.own (aK e E) v' (z++[y])) (f:=f') dq (HL.own (e:=.own (sO e' (aK e E) j.toNat) v xs) (f:=gm) Nz .nil)
    exact .inl (by simpa using this)
   ·refine u7 (AL List.nodup_nil) Bz.2.1 fun b hb hm=>?_
    rcases cb b hb with h | h | h
    ·exact Bz.2.2 b h b hm rfl
    ·exact absurd h List.not_mem_nil
    ·have:=ah.lt _ a3 b hm; omega
theorem TL {mt:Nat} {hd jb:QE} {t e e' e3 et:TI} {kk:IntKind} {E':ah (List Int)} {z0:List Int} {bt t1 t2 t3 j2 j3 n:Nat} {v u:Value} {us:LV} {j:Int} {ys:List Int} {z:List (List Int)} {xs:List (List (List Int))} {o1 o2:Bool} {Γx:QE} {tT BR:MM} {A:LN} {as:LL} {d:Nat} {ty:TI} {ops:LO} {i:Nat} {sl:LQ} {ms:MM} {Γ:QE} {B:Bs} {r0:NV} {w0:World} {H:LN} (hh:j9 l mt base=true) (ha:c9 r0 base) (hT:rv P t (List Int) e (aK e3 (aM kk)) z0 bt) (hU:U.getD i []=[l.length,j3])
   (BW:((U.set i []).all fun us=>!(us.contains l.length))=true) (hv:dX A none sl base fr) (hs:look fr t1=some u) (h2:nh ms t2 ⟨j2,t2,[t3],Nat,fun _ b=>.slice (some ⟨b,0,none⟩) 1 1,fun u b=>[.row b [u] et]⟩ tT) (h3:nh tT t3 ⟨j3,t3,[],Nat,fun _ b=>.slice (some ⟨b,0,none⟩) n n,fun _ b=>[.row b us e3]⟩ BR) (h5:dj j2 A=true) (h6:dj j3 A=true) (hl:Loc hd u (.row v j)) (hz:na hd u o1 o2 E' z qp Γx) (h1:dt hd (.own (aK e' (aK e (aK e3 (aM kk)))) v xs) jb) (hr:RT (aK e (aK e3 (aM kk))) (bY E')) (hi:zN kk us ys) (p5:us.length=n) (cg:Nat.ble n 16777216=true)
   (hf:fits bt (z.length+1)=some ()) (xT:n8 l mt U A (.call ⟨.builtin .append,#[.tmp t1,.tmp t2],#[t,t]⟩) d ty as ops i) (sU:o9 B Z hd Γ H w0) (h:gx P Z l mt U r0 w0 H i sl ms) :
  gx P Z l mt U r0 w0 H (i+1) sl (⟨i,d,[],Value,fun _ v'=>v',fun _ v'=>[.own (aK e (aK e3 (aM kk))) v' (z++[ys]),.own (sO e' (aK e (aK e3 (aM kk))) j.toNat) v xs]⟩ :: BR)∧o9 B Z jb Γ H w0:=by
 obtain ⟨F,Hd,⟨u4,u5,se,u6⟩,hS,hG⟩:=sU
 obtain ⟨fm0,Vx,HW,_,PN⟩:=h1.sound u4
 refine ⟨?_,F,Vx,⟨PN,fun b hb=>u5 b (HW.mem_iff.1 (List.mem_append_right _ hb)),se,(HW.nodup_iff.2 u6).sublist (List.sublist_append_right _ _)⟩,hS,hG⟩
 obtain ⟨S',zO,hR,hO⟩:=h
 subst zO
 obtain ⟨hA,⟨pos,ag,ho⟩,_⟩:=xT
 obtain ⟨b1,b2⟩:=jm hf
 obtain ⟨q1,q2,ii,zz,q3,q4,q5,q6,q7,_⟩:=hT.h
 obtain ⟨n1,_,m3,m4⟩:=h2.sub
 obtain ⟨n3,_,m5,m6⟩:=h3.sub
 refine ⟨S'++[⟨true,MV Z ⟨S'.length,d,[],Value,fun _ v'=>v',fun _ v'=>[.own (aK e (aK e3 (aM kk))) v' (z++[ys]),.own (sO e' (aK e (aK e3 (aM kk))) j.toNat) v xs]⟩⟩],by simp,(hR.sub (fun b hb=>m3 b (m5 b hb)) (m6.trans m4)).mem rfl (by unfold bn; rw [ho]; rfl) (by intro t h; cases h),fun k hk=>?_⟩
 by_cases bj:k < S'.length
 ·exact iq.more (hO k bj) bj
 ·obtain rfl:k=S'.length:=by omega
  intro o' s' bw cq g r w hC xm gy hn ir tU oq
  rw [ho] at bw
  cases bw
  rw [List.getElem?_append_right (Nat.le_refl _),Nat.sub_self] at cq
  cases cq
  rw [if_pos rfl]
  refine ⟨rfl,?_⟩
  obtain ⟨HP,HQ,HR⟩:=xm (AK BW)
  have HX:=u4.km HP
  obtain ⟨j0,j1,j4⟩:=Loc.row hl rfl HX
  obtain ⟨dn,_,⟨⟨gz,p6,_⟩,_⟩,_⟩:=hz.sound HX
  obtain ⟨fm,F1,tB,Nx,_⟩:=h1.sound HX
  rw [sc Nx] at j1
  obtain ⟨k,gm,a1,a2,a3⟩:=DA rfl Nx (List.getElem?_eq_getElem j1) j4
  have Ny:xs[j.toNat]=z:=hr.vT (hr.le.le a1) p6
  rw [Ny] at a1
  have PO:(k++gm).Nodup:=a2.nodup_iff.2 ((tB.nodup_iff.2 u6).sublist (List.sublist_append_left _ _))
  have Bz:=List.nodup_append.1 PO
  have yX:∀ b∈k++gm,b∈H:=fun b hb=>(u5 b (tB.mem_iff.1 (List.mem_append_left _ (a2.mem_iff.1 hb)))).1
  have NB:=kj (by rw [← hA]; exact jc.1 h6)
  obtain ⟨b,c1,c2,c3⟩:=hR.xW n1 (hn j2 (kj (by rw [← hA]; exact jc.1 h5)).2)
  obtain ⟨b3,d1,d2,d3⟩:=hR.xW (m3 _ n3) (hn j3 NB.2)
  replace c1:r t2 = .slice (some ⟨b,0,none⟩) 1 1:=c1
  replace c2:HL (fun _=>False) w [.row b [r t3] et] (g j2):=c2.own rfl
  replace d1:r t3 = .slice (some ⟨b3,0,none⟩) n n:=d1
  replace d2:HL (fun _=>False) w [.row b3 us e3] (g j3):=d2.own rfl
  have hf3:=HR j3 NB.1
  generalize xi:g j2=G1 at c2 c3
  generalize Vz:g j3=G3 at d2 d3 hf3
  cases c2 with
  | fact h _=>exact h.elim
  | @own _ ff F0 _ Eh tJ=>
   cases tJ
   obtain ⟨rfl,bg⟩:=Eh
   cases d2 with
   | fact h _=>exact h.elim
   | @own _ ff3 F3 _ AM Ly=>
    cases Ly
    obtain ⟨rfl,AM⟩:=AM
    obtain ⟨e1,e2⟩:=zN.sound hi w.heap
    have Ax:=Nat.le_of_ble_eq_true cg
    have hE:(aK e3 (aM kk)).rep w.heap [r t3] ys [b3]:=by
     rw [d1]
     refine ⟨some ⟨b3,0,none⟩,n,by rw [← p5,e1],.inr ⟨b3,us.toArray,[],rfl,AM,rfl,by rw [← p5,e1]; exact Nat.le_refl _,Nat.le_trans Ax (by decide),by rw [show (aM kk).size=1 from rfl,Nat.mul_one]; simp [p5],?_⟩⟩
     rw [show (aM kk).size=1 from rfl,Nat.mul_one,List.toList_toArray,← e1,List.take_length]
     exact e2
    have zB:w0.heap.size≤b3:=hf3 b3 (by simp)
    have Lz:∀ b∈k++gm,b≠b3:=fun b hb he=>by
     have:=se b (yX b hb)
     omega
    have hb:=l7 hR hA hv (jd hh ha ir) gy
    obtain ⟨v',w',f',ni,xn,dq,cb,AL⟩:=n9 (E:=aK e3 (aM kk)) (d:=some d) (ty:=ty) (pos:=pos) (ag:=ag) (g:=none) (r:=r) (s:=.tmp t1) (x:=.tmp t2) (k:=[b3]) (ys:=[ys]) (news:=[r t3]) q1 q3 q4 (by rw [q5,q2]) (by rw [cells_one q6,q2]; rfl) (hb _ _ hs) a1 Bz.1 c1 (fun i u hi=>bg.at i u hi) (qf hE) (fun b hb hm=>Lz b (List.mem_append_left _ hm) (List.mem_singleton.1 hb)) (by simp) (by rw [q7]; exact b1) b2
    unfold fv
    rw [ni]
    have hblk:l9 g (U.getD S'.length [])=H++[b3]:=by rw [hU]; simp [l9,HQ,Vz]
    rw [hblk]
    have Nz:(sO e' (aK e (aK e3 (aM kk))) j.toNat).rep w'.heap [v] xs gm:=ah.fg _ a3 xn fun b hb hk=>Bz.2.2 b hk b hb rfl
    refine ⟨xn.mono fun b hb=>List.mem_append_left _ (yX b (List.mem_append_left _ hb)),f'++gm,fun b hb=>?_,v',rfl,?_,?_⟩
    ·rcases List.mem_append.1 hb with hb | hb
     ·refine ⟨?_,ah.lt _ dq b hb⟩
      rcases cb b hb with h | h | h
      ·exact .inl (List.mem_append_left _ (yX b (List.mem_append_left _ h)))
      ·exact .inl (List.mem_append_right _ h)
      ·exact .inr h
     ·exact ⟨.inl (List.mem_append_left _ (yX b (List.mem_append_right _ hb))),ah.lt _ Nz b hb⟩
    ·have:=HL.own (Z:=fun _=>False) (e:=.own (aK e (aK e3 (aM kk))) v' (z++[ys])) (f:=f') dq (HL.own (e:=.own (sO e' (aK e (aK e3 (aM kk))) j.toNat) v xs) (f:=gm) Nz .nil)
     exact .inl (by simpa using this)
    ·refine u7 (AL (by simp)) Bz.2.1 fun b hb hm=>?_
     rcases cb b hb with h | h | h
     ·exact Bz.2.2 b h b hm rfl
     ·exact Lz b (List.mem_append_right _ hm) (List.mem_singleton.1 h)
     ·have:=ah.lt _ a3 b hm; omega
theorem TM {mt:Nat} {t e e3 et:TI} {kk:IntKind} {z0:List Int} {bt t1 t2 t3 j1 j2 j3 n:Nat} {us:LV} {ys:List Int} {z:List (List Int)} {a1:fu} {gj tT BR:MM} {A:LN} {as:LL} {d:Nat} {ty:TI} {ops:LO} {i:Nat} {sl:LQ} {ms:MM} {r0:NV} {w0:World} {H:LN} (hT:rv P t (List Int) e (aK e3 (aM kk)) z0 bt) (hU:U.getD i []=[j1,j3])
   (h1:nh ms t1 a1 gj) (h2:nh gj t2 ⟨j2,t2,[t3],Nat,fun _ b=>.slice (some ⟨b,0,none⟩) 1 1,fun u b=>[.row b [u] et]⟩ tT) (h3:nh tT t3 ⟨j3,t3,[],Nat,fun _ b=>.slice (some ⟨b,0,none⟩) n n,fun _ b=>[.row b us e3]⟩ BR) (hp:∀ u v,a1.ps u v=[.own (aK e (aK e3 (aM kk))) (a1.rt u v) z]) (hj:a1.j=j1) (o7:Nat.beq j1 j3=false) (h4:dj j1 A=true) (h5:dj j2 A=true) (h6:dj j3 A=true) (hi:zN kk us ys) (p5:us.length=n) (cg:Nat.ble n 16777216=true)
   (hf:fits bt (z.length+1)=some ()) (xT:n8 l mt U A (.call ⟨.builtin .append,#[.tmp t1,.tmp t2],#[t,t]⟩) d ty as ops i) (h:gx P Z l mt U r0 w0 H i sl ms) :
  gx P Z l mt U r0 w0 H (i+1) sl (⟨i,d,[],Value,fun _ v'=>v',fun _ v'=>[.own (aK e (aK e3 (aM kk))) v' (z++[ys])]⟩ :: BR):=by
 obtain ⟨S',zO,hR,hO⟩:=h
 subst zO
 subst hj
 obtain ⟨hA,⟨pos,ag,ho⟩,_⟩:=xT
 obtain ⟨b1,b2⟩:=jm hf
 obtain ⟨q1,q2,ii,zz,q3,q4,q5,q6,q7,_⟩:=hT.h
 obtain ⟨k1,k2,k3,k4⟩:=h1.sub
 obtain ⟨n1,_,m3,m4⟩:=h2.sub
 obtain ⟨n3,_,m5,m6⟩:=h3.sub
 refine ⟨S'++[⟨true,MV Z ⟨S'.length,d,[],Value,fun _ v'=>v',fun _ v'=>[.own (aK e (aK e3 (aM kk))) v' (z++[ys])]⟩⟩],by simp,(hR.sub (fun b hb=>k3 b (m3 b (m5 b hb))) ((m6.trans m4).trans k4)).mem rfl (by unfold bn; rw [ho]; rfl) (by intro t h; cases h),fun k hk=>?_⟩
 by_cases bj:k < S'.length
 ·exact iq.more (hO k bj) bj
 ·obtain rfl:k=S'.length:=by omega
  intro o' s' bw cq g r w hC xm gy hn ir tU oq
  rw [ho] at bw
  cases bw
  rw [List.getElem?_append_right (Nat.le_refl _),Nat.sub_self] at cq
  cases cq
  rw [if_pos rfl]
  refine ⟨rfl,?_⟩
  have Sd:=kj (by rw [← hA]; exact jc.1 h4)
  have NB:=kj (by rw [← hA]; exact jc.1 h6)
  obtain ⟨v1,p1,p2,p3⟩:=hR.xW k1 (hn a1.j Sd.2)
  rw [hp,← p1,k2] at p2
  replace p2:=p2.own rfl
  obtain ⟨b,c1,c2,c3⟩:=hR.xW (k3 _ n1) (hn j2 (kj (by rw [← hA]; exact jc.1 h5)).2)
  obtain ⟨b3,d1,d2,d3⟩:=hR.xW (k3 _ (m3 _ n3)) (hn j3 NB.2)
  replace c1:r t2 = .slice (some ⟨b,0,none⟩) 1 1:=c1
  replace c2:HL (fun _=>False) w [.row b [r t3] et] (g j2):=c2.own rfl
  replace d1:r t3 = .slice (some ⟨b3,0,none⟩) n n:=d1
  replace d2:HL (fun _=>False) w [.row b3 us e3] (g j3):=d2.own rfl
  have PQ:=tU a1.j Sd.1 j3 NB.1 (fun e=>by rw [e,Nat.beq_refl] at o7; cases o7)
  generalize xi:g j2=G1 at c2 c3
  generalize Vz:g j3=G3 at d2 d3 PQ
  generalize jj:g a1.j=G2 at p2 p3 PQ
  cases c2 with
  | fact h _=>exact h.elim
  | @own _ ff F0 _ Eh tJ=>
   cases tJ
   obtain ⟨rfl,bg⟩:=Eh
   cases d2 with
   | fact h _=>exact h.elim
   | @own _ ff3 F3 _ AM Ly=>
    cases Ly
    obtain ⟨rfl,AM⟩:=AM
    cases p2 with
    | fact h _=>exact h.elim
    | @own _ k F4 _ xX YX=>
     cases YX
     rw [List.append_nil] at p3
     obtain ⟨e1,e2⟩:=zN.sound hi w.heap
     have Ax:=Nat.le_of_ble_eq_true cg
     have hE:(aK e3 (aM kk)).rep w.heap [r t3] ys [b3]:=by
      rw [d1]
      refine ⟨some ⟨b3,0,none⟩,n,by rw [← p5,e1],.inr ⟨b3,us.toArray,[],rfl,AM,rfl,by rw [← p5,e1]; exact Nat.le_refl _,Nat.le_trans Ax (by decide),by rw [show (aM kk).size=1 from rfl,Nat.mul_one]; simp [p5],?_⟩⟩
      rw [show (aM kk).size=1 from rfl,Nat.mul_one,List.toList_toArray,← e1,List.take_length]
      exact e2
     have Lz:∀ b∈k,b≠b3:=fun b hb he=>PQ b (by simpa using hb) (by simp [he])
     obtain ⟨v',w',f',ni,xn,dq,cb,AL⟩:=n9 (E:=aK e3 (aM kk)) (d:=some d) (ty:=ty) (pos:=pos) (ag:=ag) (g:=none) (r:=r) (s:=.tmp t1) (x:=.tmp t2) (k:=[b3]) (ys:=[ys]) (news:=[r t3]) q1 q3 q4 (by rw [q5,q2]) (by rw [cells_one q6,q2]; rfl) rfl xX p3 c1 (fun i u hi=>bg.at i u hi) (qf hE) (fun b hb hm=>Lz b hm (List.mem_singleton.1 hb)) (by simp) (by rw [q7]; exact b1) b2
     unfold fv
     rw [ni]
     have hblk:l9 g (U.getD S'.length [])=k++[b3]:=by rw [hU]; simp [l9,jj,Vz]
     rw [hblk]
     refine ⟨xn.mono fun b hb=>List.mem_append_left _ hb,f',fun b hb=>?_,v',rfl,?_,AL (by simp)⟩
     ·refine ⟨?_,ah.lt _ dq b hb⟩
      rcases cb b hb with h | h | h
      ·exact .inl (List.mem_append_left _ h)
      ·exact .inl (List.mem_append_right _ h)
      ·exact .inr h
     ·have:=HL.own (Z:=fun _=>False) (e:=.own (aK e (aK e3 (aM kk))) v' (z++[ys])) (f:=f') dq .nil
      exact .inl (by simpa using this)
end
end Go.Dk
namespace Go.Dk
open Go Go.Li
section
variable {R S:Type} {P:Program} {cx:Cx R} {K:dg R S} {l tail:LO} {base fr:Fr} {U:LL} {hd:QE}
def HY (P:Program) (cx:Cx R) (K:dg R S) (l l0:LO) (mt:Nat) (U:LL) (hd:QE) (id:Nat) (base:Fr):JA R S→Prop
 | .a as ops i sl ms Γ m=>xd l mt U as ops i→Fin P cx K l l0 mt U hd id base i sl ms Γ m
 | .o A op d ty as ops i sl ms Γ m=>n8 l mt U A op d ty as ops i→Fin P cx K l l0 mt U hd id base i sl ms Γ m
 | .oc us f xs bb A d ty as ops i sl ms Γ m=>U.getD i []=us→n8 l mt U A (.call ⟨.value (.func f),xs.toArray,bb⟩) d ty as ops i→Fin P cx K l l0 mt U hd id base i sl ms Γ m
 | .os A op ty as ops i sl ms Γ m=>Vm l mt U A op ty as ops i→Fin P cx K l l0 mt U hd id base i sl ms Γ m
 | .ow _ A op d ty as ops i sl ms Γ m=>n8 l mt U A op d ty as ops i→Fin P cx K l l0 mt U hd id base i sl ms Γ m
 | .ix _ v fr x y t A d ty as ops i sl ms Γ m=>dX A none sl base fr→bd fr x=some v→n8 l mt U A (.indexAddr t x y) d ty as ops i→Fin P cx K l l0 mt U hd id base i sl ms Γ m
 | .lb _ v j fr t x A d ty as ops i sl ms Γ m=>dX A none sl base fr→bd fr x=some (.pointer (some (cw v 1 j)))→NA P t→n8 l mt U A (.load t x) d ty as ops i→Fin P cx K l l0 mt U hd id base i sl ms Γ m
 | .ap us t1 t2 t A d ty as ops i sl ms Γ m=>U.getD i []=us→n8 l mt U A (.call ⟨.builtin .append,#[.tmp t1,.tmp t2],#[t,t]⟩) d ty as ops i→Fin P cx K l l0 mt U hd id base i sl ms Γ m
 | .la fr a lk t x A d ty as ops i sl ms Γ m=>dX A none sl base fr→bd fr x=some (.pointer (some a))→(match lk with | none=>NA P t | some n=>AG P t n)→n8 l mt U A (.load t x) d ty as ops i→Fin P cx K l l0 mt U hd id base i sl ms Γ m
 | .ld E z fr a t x A d ty as ops i sl ms Γ m=>dX A none sl base fr→bd fr x=some (.pointer (some a))→NA P t→n8 l mt U A (.load t x) d ty as ops i→
   ∀ B o,m=some o→∀ r0 w0 H Z,c9 r0 base→o9 B Z hd Γ H w0→(∃ u,∀ w,aw H w0 w→w.cell? a=some u∧∃ g,E.rep w.heap [u] z g)→gx P Z l mt U r0 w0 H i sl ms→nz P cx.n l0 (mx P cx B K o) r0 w0
 | .p Δ as ops i sl ms Γ m=>xd l mt U as ops i→Fin P cx K l l0 mt U hd id base i sl ms (Δ.reverse++Γ) m
 | .cr u ps d as ops i sl ms Γ m=>xd l mt U as ops (i+1)→bn l i=some d→
   ∀ B o,m=some o→∀ r0 w0 H Z,c9 r0 base→o9 B Z hd Γ H w0→AF P Z l mt U r0 w0 H i sl ms ⟨i,d,[],_,fun _=>u,fun _=>ps⟩→nz P cx.n l0 (mx P cx B K o) r0 w0
theorem yY {w:World} {e n:Nat} {v:Value} {us:List (List Value)} {f:LN} {j:Int} {c:LV} (hO:(aK e (jw n)).rep w.heap [v] us f) (hj:0≤j) (hu:us[j.toNat]? = some c):c.length=n∧(∀ u∈c,u.oneCell'=true)∧∀ i u,c[i]? = some u→w.cell? ((cw v n j).add i)=some u:=by
 obtain ⟨_,_,cs,f1,⟨rfl,h1,h2,_⟩,_,h3⟩:=uh (((Le.own (Le.refl (jw n)) e).le) hO) j hj hu
 exact ⟨h1,h2,h3⟩
theorem PR {α:Type} {E:ah α} {h:Array Obj}:∀ {xs:List α} {cs:LV} {f:LN} (n m:Nat),dy E h cs xs f→∃ f3,dy E h ((cs.drop (n * E.size)).take (m * E.size)) ((xs.drop n).take m) f3∧∀ b∈f3,b∈f:=by
 intro xs
 induction xs with
 | nil=>rintro cs f n m ⟨rfl,rfl⟩; exact ⟨[],by simpa using ⟨rfl,rfl⟩,fun _ h=>h⟩
 | cons x xs ih=>
  rintro cs f n m ⟨c,ds,f1,f2,rfl,rfl,h1,h2⟩
  cases n with
  | zero=>
   cases m with
   | zero=>exact ⟨[],by simpa using ⟨rfl,rfl⟩,fun _ h=>absurd h List.not_mem_nil⟩
   | succ m=>
    obtain ⟨f3,h3,h4⟩:=ih 0 m h2
    simp only [Nat.zero_mul,List.drop_zero] at h3 ⊢
    refine ⟨f1++f3,?_,fun b hb=>(List.mem_append.1 hb).elim (List.mem_append_left _) fun hb=>List.mem_append_right _ (h4 b hb)⟩
    have e:(m+1) * E.size=c.length+m * E.size:=by rw [E.len h1,Nat.add_mul,Nat.one_mul,Nat.add_comm]
    rw [e,List.take_append,List.take_of_length_le (by omega),List.take_succ_cons]
    exact ⟨c,_,f1,f3,rfl,rfl,h1,by simpa using h3⟩
  | succ n=>
   obtain ⟨f3,h3,h4⟩:=ih n m h2
   refine ⟨f3,?_,fun b hb=>List.mem_append_right _ (h4 b hb)⟩
   have e:(n+1) * E.size=c.length+n * E.size:=by rw [E.len h1,Nat.add_mul,Nat.one_mul,Nat.add_comm]
   rw [e,List.drop_append,List.drop_of_length_le (by omega),List.nil_append,List.drop_succ_cons]
   simpa using h3
theorem PS {Z:Nat→Prop} {w:World} {cur g:LN} {o:Bool} {α:Type} {E:ah α} {base:Option Addr} {cap a b:Nat} {xs:List α} (hE:E.size=1) (hr:(bY E).rep w.heap [.slice base xs.length cap] xs g) (hg:∀ i∈g,vo o Z cur i) (vX:a≤b) (hb:b≤xs.length) (hc:xs.length≤cap) :
  fact Z w cur (.rd o (bY E) (sliced base a b cap 1) ((xs.drop a).take (b - a))):=by
 have hlen:((xs.drop a).take (b - a)).length=b - a:=by rw [List.length_take,List.length_drop]; omega
 obtain ⟨K8,Pk,hv,fi⟩:=hr
 obtain ⟨rfl,rfl⟩ : base=K8∧cap=Pk:=by simpa using hv
 by_cases hj:a=b
 ·subst hj
  exact ⟨[],⟨_,cap - a,by unfold sliced; rw [hlen],.inl ⟨by simp,rfl⟩⟩,fun _ h=>absurd h List.not_mem_nil⟩
 ·rcases fi with ⟨rfl,_⟩ | ⟨b0,off,cr,e',fz,f',rfl,g1,rfl,g2⟩
  ·exfalso; simp at hb; omega
  ·have o7 : ¬ (cap=a):=by omega
   obtain ⟨f3,dq,cb⟩:=PR a (b - a) g2
   refine ⟨b0 :: f3,⟨some ⟨b0,off+a,none⟩,cap - a,?_,.inr ⟨b0,off+a,cr,e',fz,f3,rfl,g1,rfl,?_⟩⟩,fun i hi=>?_⟩
   ·unfold sliced
    rw [hlen,if_neg o7]
    simp [js]
   ·rw [hE,Nat.mul_one,Nat.mul_one,Nat.mul_one,List.drop_take,List.take_take,List.drop_drop,Nat.min_eq_left (by omega)] at dq
    rw [hE,Nat.mul_one,hlen]
    exact dq
   ·rcases List.mem_cons.1 hi with rfl | hi
    ·exact hg _ (by simp)
    ·exact hg _ (List.mem_cons_of_mem _ (cb i hi))
theorem AD.sound {l0:LO} {tq:Bool} {mt id:Nat} (hh:j9 l mt base=true)
  (tJ:∀ hd i sl ms Γ m,AB ms=true→zA U sl ms=true→(∀ x:l6 ms,D P cx (.p (zy sl (mF ms x)) (BP ms x) base Γ fun fr Γ=>.tg tq (Aw tail) l tail K Γ fr m))→HY P cx K l l0 mt U hd id base (.a [] [] i sl ms Γ m))
  {J:JA R S} (h:AD tq P cx K l tail base U hd J):HY P cx K l l0 mt U hd id base J:=by
 have stay:∀ {B:Bs} {Z:Nat→Prop} {hd Γ:QE} {H:LN} {w0:World},o9 B Z hd Γ H w0→∃ F Hd,(SA Z w0 hd [] Hd∧(∀ b∈Hd,b∈H∧b < w0.heap.size)∧(∀ b∈H,b < w0.heap.size)∧Hd.Nodup)∧SA Z w0 Γ [] F∧Gd B Z (H++F) w0∧∀ w,aw H w0 w→SA Z w Γ [] F:=by
  rintro B Z hd Γ H w0 ⟨F,Hd,h1,h2,h3⟩
  exact ⟨F,Hd,h1,h2,h3,fun w hC=>o9.stay h2 h3 hC⟩
 induction h with
 | nil hs he h=>exact tJ _ _ _ _ _ _ hs he h
 | abs=>intro _ B o ho; cases ho
 | @gbt hd j d b q as ops i sl ms Γ m _ ih=>
  intro h B o ho r0 w0 H Z ha hs hp
  cases b with
  | false=>cases ho
  | true=>exact ih h B o ho r0 w0 H Z ha hs (hp.swap)
 | @gbf hd j d b q as ops i sl ms Γ m _ ih=>
  intro h B o ho r0 w0 H Z ha hs hp
  cases b with
  | true=>cases ho
  | false=>exact ih h B o ho r0 w0 H Z ha hs (hp.swap)
 | skp jb hb hA _ ih=>
  intro h B o ho r0 w0 H Z ha hs hp
  obtain ⟨h1,h2,h3⟩:=h.next
  exact ih h3 B o ho r0 w0 H Z ha hs (hp.skip h1 h2 jb hb hA)
 | cons _ ih=>exact fun h=>ih h.cons
 | Lq _ ih=>exact fun h=>ih h.Lq
 | U3 h1 hv hy hc hn cq ho h4 h6 _ ih=>
  rename_i ht _
  intro h B o bw r0 w0 H Z ha hs hp
  obtain ⟨F,_,_,_,_,hK⟩:=stay hs
  exact ih h.n B o bw r0 w0 H Z ha hs (TC hh ha ht h1 hv hy hc hn cq ho h4 h6 hK h hp)
 | ixs hv hx _ _ ih=>exact fun h1=>ih hv hx h1
 | @abO hd α A as d x y v k j t ty o1 o2 E xs ops i sl ms fr Γ jb f ht hy hr hE _ ih=>
  intro hv hx h1 B o ho r0 w0 H Z ha hs hp
  obtain ⟨z,hz,ho⟩:=bind_some ho
  replace hz:=sd hz
  obtain ⟨e,ii,q1,q2,q3⟩:=ht.h
  obtain ⟨F,Hd,⟨hL,VA⟩,hS,hG,hK⟩:=stay hs
  obtain ⟨dn,_,⟨⟨n,hn,_⟩,Hu⟩,uM⟩:=(hr z).sound hL
  obtain ⟨⟨a,c,n7⟩,bj,_⟩:=uh hn j hz.1 hz.2
  refine ih z h1.n B o ho r0 w0 H Z ha ⟨F,Hd,⟨uM (Hu hE j z hz.1 hz.2),VA⟩,hS,hG⟩ (hp.val hh ha h1 hv fun r fi _ _ _ w hC=>?_)
  rw [nb q1 q2 ((aV fi hx).trans n7) (aV fi hy) hz.1 (by omega),q3,n7]
  rfl
 | @idx hd α A as d x y v k j t ty o1 o2 E xs ops i sl ms fr Γ Γ' f ht hy hr hE _ ih=>
  intro hv hx h1 B o ho r0 w0 H Z ha hs hp
  obtain ⟨z,hz,ho⟩:=bind_some ho
  replace hz:=sd hz
  obtain ⟨F,Hd,hL,hS,hG,hK⟩:=stay hs
  obtain ⟨dn,_,⟨⟨n,hn,_⟩,Hu⟩,uM⟩:=(hr z).sound hS
  refine ih z h1.n B o ho r0 w0 H Z ha ⟨F,Hd,hL,uM (Hu hE j z hz.1 hz.2),hG⟩ (hp.val hh ha h1 hv fun r fi _ _ _ w hC=>?_)
  obtain ⟨_,_,⟨⟨n',p5,_⟩,_⟩,_⟩:=(hr z).sound (hK w hC)
  exact Ix ht.h p5 hz (aV fi hx) (aV fi hy) hE w (aw.refl _ _)
 | @ixk hd α β A as d x y v k j t ty o1 o2 p1 p2 E E2 z xs ops i sl ms fr Γ Γx m ht hy hr hi hE _ ih=>
  intro hv hx h1 B o ho r0 w0 H Z ha hs hp
  obtain ⟨F,Hd,hL,hS,hG,hK⟩:=stay hs
  refine ih h1.n B o ho r0 w0 H Z ha ⟨F,Hd,hL,hS,hG⟩ (hp.val hh ha h1 hv fun r fi _ _ _ w hC=>?_)
  obtain ⟨_,_,⟨⟨n',p5,_⟩,_⟩,_⟩:=hr.sound (hK w hC)
  obtain ⟨j0,j1⟩:=hi.ad hS
  obtain ⟨a,c,n7⟩:=ug p5
  have bj:j.toNat < xs.length:=by rw [n7] at j1; exact j1
  exact Ix ht.h p5 ⟨j0,List.getElem?_eq_getElem bj⟩ (aV fi hx) (aV fi hy) hE w (aw.refl _ _)
 | pz _ ih=>exact ih
 | @pe hd e Δ as ops i sl ms Γ m _ ih=>
  intro h1
  have h2:=ih h1
  have h3:(e :: Δ).reverse++Γ=Δ.reverse++e :: Γ:=by rw [List.reverse_cons,List.append_assoc]; rfl
  rw [h3]
  exact h2
 | @Hp hd α V Sc cl en A as d n x y v xs k j t ty ops i sl ms fr Γ Γx f ht hy hr sy hn _ ih=>
  intro hv hx hA B o ho r0 w0 H Z ha hs hp
  replace sy:SO Sc V cl en:=by cases sy; assumption
  obtain ⟨z,hz,ho⟩:=bind_some ho
  replace hz:=sd hz
  obtain ⟨e,i',h1,h2,h3⟩:=ht.h
  obtain ⟨F,Hd,hL,hS,hG,hK⟩:=stay hs
  obtain ⟨dn,_,⟨⟨f0,C9,uY⟩,_⟩,_⟩:=hr.sound hS
  have hZ:∀ b∈f0,Z b:=fun b hb=>(uY b hb).elim (fun h=>h) (fun h=>h)
  obtain ⟨⟨a,c,n7⟩,bj,cs,f1,dq,Na,j4⟩:=uh C9 j hz.1 hz.2
  have p5:(tI Sc).size=n:=hn
  rw [p5] at j4
  obtain ⟨u,rfl,rh⟩:=sy.op dq.2
  have hblk:Z (cw v n j).block:=by
   obtain ⟨base,cap,n7,fi⟩:=C9
   rcases fi with ⟨rfl,_⟩ | ⟨b,off,cr,e',fz,f',rfl,_,rfl,_⟩
   ·simp at bj; omega
   ·obtain rfl:v = .slice (some ⟨b,off,none⟩) xs.length cap:=by simpa using n7
    have:(cw (.slice (some ⟨b,off,none⟩) xs.length cap) n j).block=b:=by unfold cw; rw [wQ]
    rw [this]; exact hZ b (by simp)
  have Hv:fact Z w0 [] (.bb (cw v n j) (cl z u)):=⟨fun i u' hi=>j4 i u' hi,fun _=>hblk⟩
  have fq:HL Z w0 (.bb (cw v n j) (cl z u) :: en z u) []:=.fact Hv (wj (rh Z fun b hb=>hZ b (Na b hb)))
  obtain ⟨F',xl,ji⟩:=fq.build hS
  refine ih z u hA.n B o ho r0 w0 H Z ha ⟨F',Hd,hL,ji,hG.perm (List.Perm.append_left H (by simpa using xl))⟩ (hp.val hh ha hA hv fun r fi _ _ _ w hC=>?_)
  rw [nb h1 h2 ((aV fi hx).trans n7) (aV fi hy) hz.1 (by omega),h3,n7]
  rfl
 | @Vi hd α V Sc cl en A as d n e bt x y v us xs k j t ty ops i sl ms fr Γ Γ1 f ht hy h1 hg sy _ ih=>
  intro hv hx hA B o ho r0 w0 H Z ha hs hp
  replace sy:SO Sc V cl en:=by cases sy; assumption
  obtain ⟨z,hz,ho⟩:=bind_some ho
  replace hz:=sd hz
  obtain ⟨q1,i',_,q2,_,_,q3,_⟩:=ht.h
  obtain ⟨F,Hd,hL,hS,hG,hK⟩:=stay hs
  obtain ⟨f0,F1,_,hO,_⟩:=h1.sound hS
  obtain ⟨g0,hk,p6⟩:=hg.rd hS []
  obtain ⟨c,g1,e1,e2,e3⟩:=D1 j.toNat hk.2.1 hz.2
  obtain ⟨u,rfl,rh⟩:=sy.op e2
  have hlen:us.length=xs.length:=zK hk.2.1
  have bj:j.toNat < xs.length:=(List.getElem?_eq_some_iff.1 hz.2).1
  have n7:∃ a c,v = .slice (some a) us.length c:=by
   obtain ⟨b0,cap,hv,hr⟩:=hO
   obtain rfl:v = .slice b0 us.length cap:=by simpa using hv
   rcases hr with ⟨_,_,rfl,_⟩ | ⟨b,cur,f',rfl,_⟩
   ·rw [← hlen] at bj; simp at bj
   ·exact ⟨_,_,rfl⟩
  obtain ⟨a,c',rfl⟩:=n7
  have fq:HL Z w0 (.rd false (Bt us j) (.bool true) (cl z u) :: en z u) []:=.fact ⟨[],⟨rfl,⟨hz.1,e1⟩,rfl⟩,fun _ h=>absurd h List.not_mem_nil⟩ (wj (rh Z fun b hb=>p6 b (e3 b hb)))
  obtain ⟨F',xl,ji⟩:=fq.build hS
  refine ih z u hA.n B o ho r0 w0 H Z ha ⟨F',Hd,hL,ji,hG.perm (List.Perm.append_left H (by simpa using xl))⟩ (hp.val hh ha hA hv fun r fi _ _ _ w hC=>?_)
  rw [nb q1 q2 (aV fi hx) (aV fi hy) hz.1 (by omega),q3]
  rfl
 | @laG hd A as d n e off x v u us j cs t ty ops i sl ms fr Γ Γ1 m h1 tA hc _ ih=>
  intro hv hx ht hA B o ho r0 w0 H Z ha hs hp
  obtain ⟨F,_,_,hS,_,hK⟩:=stay hs
  refine ih hA.n B o ho r0 w0 H Z ha hs (hp.val hh ha hA hv fun r hr _ _ _ w hC=>?_)
  obtain ⟨f,F1,_,hO,_⟩:=h1.sound (hK w hC)
  obtain ⟨_,⟨_,⟨hj,hu⟩,_⟩,_⟩:=tA.rd (hK w hC) []
  exact Ld ht ((yY hO hj hu).2.2 off u hc) (aV hr hx) w (aw.refl _ _)
 | @Vj hd A as d n e x v u us j cs t ty ops i sl ms fr Γ Γ1 m h1 tA hc _ ih=>
  intro hv hx ht hA B o ho r0 w0 H Z ha hs hp
  obtain ⟨F,_,_,hS,_,hK⟩:=stay hs
  refine ih hA.n B o ho r0 w0 H Z ha hs (hp.val hh ha hA hv fun r hr _ _ _ w hC=>?_)
  obtain ⟨f,F1,_,hO,_⟩:=h1.sound (hK w hC)
  obtain ⟨_,⟨_,⟨hj,hu⟩,_⟩,_⟩:=tA.rd (hK w hC) []
  exact Ld ht ((yY hO hj hu).2.2 0 u hc) (aV hr hx) w (aw.refl _ _)
 | load hv hx _ ih=>rename_i ht _; exact fun h1=>ih hv hx ht.h h1
 | lsw _ _ ih=>exact fun hv hx ht h1=>ih hv hx ht h1
 | @slH hd α o A as d x lo hi v k1 k2 a b E T xs t e ty ops i sl ms fr Γ Γ1 Γ' f ht hv hx hlo hhi hc hr hE _ ih=>
  intro h1 B oo ho r0 w0 H Z ha hs hp
  obtain ⟨ys,zR,ho⟩:=bind_some ho
  obtain ⟨j0,j1,j2,rfl⟩:=NC zR
  obtain ⟨e',i',q1,q2,q3⟩:=ht.h
  obtain ⟨F,Hd,hL,hS,hG,hK⟩:=stay hs
  obtain ⟨f1,F1,_,hO,_⟩:=hc.sound hS
  obtain ⟨base,cap,rfl,HI⟩ : ∃ base cap,v = .slice base xs.length cap∧xs.length≤cap:=by
   obtain ⟨base,cap,hv,hr⟩:=hO
   refine ⟨base,cap,by simpa using hv,?_⟩
   rcases hr with ⟨_,rfl,rfl,_⟩ | ⟨b0,cur,f0,_,_,_,yL,_⟩
   ·simp
   ·exact yL
  obtain ⟨dn,_,⟨⟨g0,hg0,uY⟩,_⟩,uM⟩:=(hr (sliced base a.toNat b.toNat cap 1) ((xs.drop a.toNat).take (b.toNat - a.toNat))).sound hS
  have hf:=PS (a:=a.toNat) (b:=b.toNat) hE hg0 (fun i hi=>(uY i hi).elim (fun h=>h) fun h=>h) (by omega) (by omega) HI
  refine ih _ _ h1.n B oo ho r0 w0 H Z ha ⟨F,Hd,hL,uM hf,hG⟩ (hp.val hh ha h1 hv fun r fi _ _ _ w hC=>?_)
  have q4:P.elem t=e':=by simp [Program.elem,q1]
  have sS:(sizeOf (P.elem t)).run P w = .ok 1 w:=by rw [q4]; simp [sizeOf,typeInfo,q2,q3]
  simp [execOp,aV fi hx,aV fi hlo,aV fi hhi,run_sliceAt_slice w t _ _ _ _ (by rw [q4]; exact q1),run_slice_lh (P:=P) w t base xs.length cap (by rw [q4]; exact q1) k1 k2 a b j0 j1 (by omega),sS,Result.andThen]
 | @abP hd α A as d x v j E z o' t ty ops i sl ms fr Γ Vh jb m hV h BN _ ih=>
  intro hv hx ht h1 B o ho r0 w0 H Z ha hs hp
  obtain ⟨F,Hd,⟨hL,VA⟩,hS,hG,hK⟩:=stay hs
  obtain ⟨_,⟨u,k,h3,h4,h5⟩,_⟩:=(h (.bool true)).sound hL
  obtain ⟨dn,⟨u',k',h4',h5',h6⟩,uM⟩:=(h u).sound hL
  rw [h3] at h4'
  cases h4'
  exact ih u h1.n B o ho r0 w0 H Z ha ⟨F,Hd,⟨(BN u).sound h3 (uM ⟨k',h5',h6⟩),VA⟩,hS,hG⟩ (hp.abV hh ha h1 hV hv fun r hr _ _ _ w hC=>Ld ht h3 (aV hr hx) w hC)
 | @UW hd α A as d x v j o E z t ty ops i sl ms fr Γ Γx m h _ ih=>
  intro hv hx ht h1 B o' ho r0 w0 H Z ha hs hp
  obtain ⟨F,Hd,hL,hS,hG,hK⟩:=stay hs
  obtain ⟨_,⟨u,k,h2,h3,_⟩,_⟩:=h.sound hS
  refine ih hv hx ht h1 B o' ho r0 w0 H Z ha hs ⟨u,fun w hC=>?_⟩ hp
  have hb:(cw v 1 j).block ∉ H:=fun hm=>(h.BJ hS).elim (fun h=>h.elim (fun h=>absurd h List.not_mem_nil) fun h=>(List.nodup_append.1 hG.nd).2.2 _ hm _ h rfl) fun h=>hG.apart _ (List.mem_append_left _ hm) h
  have hc:=hC.cell hb h2
  obtain ⟨_,⟨u',k',h4,h5,_⟩,_⟩:=h.sound (hK w hC)
  rw [hc] at h4
  cases h4
  exact ⟨hc,k',h5⟩
 | UX h _ ih=>
  intro hv hx ht h1 B o ho r0 w0 H Z ha hs hp
  obtain ⟨F,_,_,hS,_,hK⟩:=stay hs
  exact ih h1.n B o ho r0 w0 H Z ha hs (hp.val hh ha h1 hv fun r hr _ _ _ w hC=>Ld ht (h.sound (hK w hC)) (aV hr hx) w (aw.refl _ _))
 | M0 h _ ih=>
  intro hv hx ht h1 B o ho r0 w0 H Z ha hs hp
  obtain ⟨F,_,_,hS,_,hK⟩:=stay hs
  refine ih h1.n B o ho r0 w0 H Z ha hs (hp.val hh ha h1 hv fun r hr _ _ _ w hC=>?_)
  obtain ⟨h2,h3⟩:=h.sound (hK w hC)
  exact Lg ht h2 (aV hr hx) h3 w (aw.refl _ _)
 | UY _ ih=>
  intro hv hx ht h1 B o ho r0 w0 H Z ha hs hu hp
  obtain ⟨u,hu⟩:=hu
  obtain ⟨_,_,h3,_⟩:=hu w0 (aw.refl _ _)
  obtain rfl:u=_:=by simpa using h3
  exact ih h1.n B o ho r0 w0 H Z ha hs (hp.val hh ha h1 hv fun r hr _ _ _ w hC=>Ld ht (hu w hC).1 (aV hr hx) w (aw.refl _ _))
 | UZ _ ih=>
  intro hv hx ht h1 B o ho r0 w0 H Z ha hs hu hp
  obtain ⟨u,hu⟩:=hu
  obtain ⟨_,_,h3,_⟩:=hu w0 (aw.refl _ _)
  obtain rfl:u=_:=by simpa using h3
  exact ih h1.n B o ho r0 w0 H Z ha hs (hp.val hh ha h1 hv fun r hr _ _ _ w hC=>Ld ht (hu w hC).1 (aV hr hx) w (aw.refl _ _))
 | @U0 hd α A as d x v j E z o' t ty ops i sl ms fr Γ Γ1 Γ' m h BN _ ih=>
  intro hv hx ht h1 B o ho r0 w0 H Z ha hs hu hp
  obtain ⟨u,hu⟩:=hu
  obtain ⟨h2,_⟩:=hu w0 (aw.refl _ _)
  obtain ⟨F,Hd,hL,hS,hG,hK⟩:=stay hs
  obtain ⟨dn,⟨u',k',h4,h5,h6⟩,uM⟩:=(h u).sound hS
  rw [h2] at h4
  cases h4
  exact ih u h1.n B o ho r0 w0 H Z ha ⟨F,Hd,hL,(BN u).sound h2 (uM ⟨k',h5,h6⟩),hG⟩ (hp.val hh ha h1 hv fun r hr _ _ _ w hC=>Ld ht (hu w hC).1 (aV hr hx) w (aw.refl _ _))
 | @Hq hd α A as d t e ty E z0 bt ops i sl ms Γ m hz _ ih=>
  intro h1 B o ho r0 w0 H Z ha hs hp
  exact ih h1.n B o ho r0 w0 H Z ha hs (TF hz h1 hp)
 | MZ hU _ ih=>exact fun h1=>ih hU h1
 | @abQ hd β V A as d f fs bs xo xs bb ty mo rt ps ops i sl ms fr Γ g hv HK hf hc hi eh hw _ ih=>
  intro h1 B o ho r0 w0 H Z ha hs hp
  obtain @⟨tV⟩:=hf
  obtain ⟨y,hy,ho⟩:=bind_some ho
  obtain ⟨pos,ag,h2⟩:=h1.o
  exact ih y h1.n (by unfold bn; rw [h2]; rfl) B o ho r0 w0 H Z ha hs (Np hh tV hv HK hc hi eh hw h1 hy ha hs hp)
 | @abR hd β V A as d f it name nm u xo xs bb ty mo rt ps ops i sl ms fr Γ g hv HK hf hn hc hi eh hw _ ih=>
  intro h1 B o ho r0 w0 H Z ha hs hp
  obtain @⟨tV⟩:=hf
  rw [qz] at hn
  subst hn
  obtain ⟨y,hy,ho⟩:=bind_some ho
  obtain ⟨pos,ag,h2⟩:=h1.o
  exact ih y h1.n (by unfold bn; rw [h2]; rfl) B o ho r0 w0 H Z ha hs (Nq hh tV hv HK hc hi eh hw h1 hy ha hs hp)
 | @call hd β V A as d f xs bb ty mo rt ps ops i sl ms fr Γ g hf hv hc hi eh hw _ ih=>
  intro _ h1 B o ho r0 w0 H Z ha hs hp
  obtain ⟨y,hy,ho⟩:=bind_some ho
  obtain ⟨pos,ag,h2⟩:=h1.o
  exact ih y h1.n (by unfold bn; rw [h2]; rfl) B o ho r0 w0 H Z ha hs (PM hh hf hv hc hi eh hw h1 hy ha hs hp)
 | @YT hd β V A as d f xs bb ty mo rt ps ops i sl ms fr Γ g hf hV hv hc hi eh hw _ ih=>
  intro hU h1 B o ho r0 w0 H Z ha hs hp
  obtain ⟨y,hy,ho⟩:=bind_some ho
  obtain ⟨pos,ag,h2⟩:=h1.o
  exact ih y h1.n (by unfold bn; rw [h2]; rfl) B o ho r0 w0 H Z ha hs (Nr hh hf hv hU hV hc hi eh hw h1 hy ha hs hp)
 | @Sa hd β V A as d f xs bb ty mo rt ps ops i sl ms fr Γ g hf hv hc hi eh _ ih=>
  intro hU h1 B o ho r0 w0 H Z ha hs hp
  obtain ⟨y,hy,ho⟩:=bind_some ho
  obtain ⟨pos,ag,h2⟩:=h1.o
  exact ih y h1.n (by unfold bn; rw [h2]; rfl) B o ho r0 w0 H Z ha hs (Nw hh hf hv hc hi eh h1 hy ha hs hp)
 | @Nj hd β V A as d f xs bb ty mo rt ps ops i sl ms fr Γ g hf hV hv hc hi eh _ ih=>
  intro hU h1 B o ho r0 w0 H Z ha hs hp
  obtain ⟨y,hy,ho⟩:=bind_some ho
  obtain ⟨pos,ag,h2⟩:=h1.o
  exact ih y h1.n (by unfold bn; rw [h2]; rfl) B o ho r0 w0 H Z ha hs (Lw hh hf hv hU hV hc hi eh h1 hy ha hs hp)
 | @Nl hd β V j1 a1 gj A as d f xs bb ty mo rt ps ops i sl ms fr Γ g hf hg Ed h4 hv hc hi eh _ ih=>
  intro hU h1 B o ho r0 w0 H Z ha hs hp
  obtain ⟨y,hy,ho⟩:=bind_some ho
  obtain ⟨pos,ag,h2⟩:=h1.o
  exact ih y h1.n (by unfold bn; rw [h2]; rfl) B o ho r0 w0 H Z ha hs (let ⟨S',e1,e2,e3⟩:=Lx hh hf hv hU hg Ed h4 hc hi eh h1 hy ha hs hp; ⟨S',e1,e2.re (kj (by rw [← h1.A]; exact jc.1 h4)).1,e3⟩)
 | @YU hd β V j1 a1 gj A as d f xs bb ty mo rt ps ops i sl ms fr Γ g hf hg Ed h4 hv hc hi eh hw _ ih=>
  intro hU h1 B o ho r0 w0 H Z ha hs hp
  obtain ⟨y,hy,ho⟩:=bind_some ho
  obtain ⟨pos,ag,h2⟩:=h1.o
  exact ih y h1.n (by unfold bn; rw [h2]; rfl) B o ho r0 w0 H Z ha hs (let ⟨S',e1,e2,e3⟩:=Ns hh hf hv hU hg Ed h4 hc hi eh hw h1 hy ha hs hp; ⟨S',e1,e2.re (kj (by rw [← h1.A]; exact jc.1 h4)).1,e3⟩)
 | @crb hd u ps d as ops i sl ms Γ m _ ih=>
  intro h1 jb B o ho r0 w0 H Z ha hs ⟨S',hl,hR,hO,hL⟩
  subst hl
  refine ih h1 B o ho r0 w0 H Z ha hs ⟨S'++[⟨true,MV Z ⟨S'.length,d,[],Unit,fun _=>u,fun _=>ps⟩⟩],by simp,(hR.mem (b:=⟨S'.length,d,[],Unit,fun _=>u,fun _=>ps⟩) rfl jb (fun _ h=>nomatch h)).abS (s:=⟨true,MV Z ⟨S'.length,d,[],Unit,fun _=>u,fun _=>ps⟩⟩) jb (by simp) rfl (fun f w r x ⟨v,h,_⟩=>h),fun j hj=>?_⟩
  by_cases h2:j < S'.length
  ·exact iq.more (hO j h2) h2
  ·obtain rfl:j=S'.length:=by omega
   exact hL _ fun f w r x h=>⟨f,fun _ h=>h,h⟩
 | @crv hd u d as ops i sl ms Γ m _ ih=>
  intro h1 jb B o ho r0 w0 H Z ha hs ⟨S',hl,hR,hO,hL⟩
  subst hl
  refine ih h1 B o ho r0 w0 H Z ha hs ⟨_,by simp,hR.val jb,fun j hj=>?_⟩
  by_cases h2:j < S'.length
  ·exact iq.more (hO j h2) h2
  ·obtain rfl:j=S'.length:=by omega
   exact hL (pl fun _ _ x=>x=_) fun f w r x ⟨v,h,_⟩=>⟨[],fun _ h=>absurd h List.not_mem_nil,h⟩
 | @crm hd V u ps d as ops i sl ms Γ m _ ih=>
  intro h1 jb B o ho r0 w0 H Z ha hs ⟨S',hl,hR,hO,hL⟩
  subst hl
  refine ih h1 B o ho r0 w0 H Z ha hs ⟨_,by simp,hR.mem rfl jb (fun _ h=>nomatch h),fun j hj=>?_⟩
  by_cases h2:j < S'.length
  ·exact iq.more (hO j h2) h2
  ·obtain rfl:j=S'.length:=by omega
   exact hL _ fun f w r x h=>⟨f,fun _ h=>h,h⟩
 | U2 hU _ ih=>exact fun h1=>ih hU h1
 | apL BW hv cq h2 h3 h5 h6 hl hz h1 hr hi hn hb _ ih=>
  rename_i hT _
  intro hU h B o ho r0 w0 H Z ha hs hp
  obtain ⟨u,hu,ho⟩:=bind_some ho
  obtain ⟨p1,p2⟩:=TL hh ha hT hU BW hv cq h2 h3 h5 h6 hl hz h1 hr hi hn hb hu h hs hp
  exact ih h.n B o ho r0 w0 H Z ha p2 p1
 | apH BW hv cq h2 h5 hl hz h1 hr hy _ ih=>
  rename_i hT _
  intro hU h B o ho r0 w0 H Z ha hs hp
  obtain ⟨u,hu,ho⟩:=bind_some ho
  obtain ⟨p1,p2⟩:=TK hh ha hT hU BW hv cq h2 h5 hl hz h1 hr hy hu h hs hp
  exact ih h.n B o ho r0 w0 H Z ha p2 p1
 | apM h1 h2 h3 xl hj o7 h4 h5 h6 hi hn hb _ ih=>
  rename_i hT _
  intro hU h B o ho r0 w0 H Z ha hs hp
  obtain ⟨u,hu,ho⟩:=bind_some ho
  exact ih h.n B o ho r0 w0 H Z ha hs (TM hT hU h1 h2 h3 xl hj o7 h4 h5 h6 hi hn hb hu h hp)
 | ap1 h1 h2 h3 hw h4 h5 _ ih=>
  rename_i hz _
  intro h6 h B o ho r0 w0 H Z ha hs hp
  obtain ⟨u,hu,ho⟩:=bind_some ho
  exact ih h.n B o ho r0 w0 H Z ha hs (TB hz h1 h2 h3 h4 h5 (h6.trans hw) hu h hp)
 | Sb h1 h3 hw h4 hv hx hr _ ih=>
  rename_i hz _
  intro h6 h B o ho r0 w0 H Z ha hs hp
  obtain ⟨u,hu,ho⟩:=bind_some ho
  obtain ⟨F,_,_,_,_,hK⟩:=stay hs
  exact ih h.n B o ho r0 w0 H Z ha hs (PK hz h1 h3 h4 (h6.trans hw) hh ha hv hx hr hK hu h hp)
 | Vk h1 h3 hw h4 h2 h7 h5 _ ih=>
  rename_i hz _
  intro h6 h B o ho r0 w0 H Z ha hs hp
  obtain ⟨u,hu,ho⟩:=bind_some ho
  exact ih h.n B o ho r0 w0 H Z ha hs (PL hz h1 h3 h4 (h6.trans hw) h2 h7 h5 hu h hp)
 | sw1 _ _ ih=>exact fun h1=>ih h1
 | sw2 _ _ ih=>exact fun h1=>ih h1
 | sw3 _ _ ih=>exact fun h1=>ih h1
 | sw4 _ _ ih=>exact fun h1=>ih h1
 | sw6 _ _ ih=>exact fun h1=>ih h1
 | wl0 _ ih=>exact fun h1=>ih h1
 | Ko _ ih=>
  rename_i hz _
  intro h1 B o ho r0 w0 H Z ha hs hp
  exact ih h1.n B o ho r0 w0 H Z ha hs (TD hz h1 hp)
 | sw5 _ _ ih=>exact fun h1=>ih h1
 | mln hi eh hx _ ih=>
  rename_i ht _
  intro h1 B o ho r0 w0 H Z ha hs hp
  exact ih h1.n B o ho r0 w0 H Z ha hs (Vp hp h1 ht hi eh hx)
 | wv hv hq _ ih=>
  intro h1 B o ho r0 w0 H Z ha hs hp
  obtain ⟨F,_,_,_,_,hK⟩:=stay hs
  exact ih h1.n B o ho r0 w0 H Z ha hs (hp.val hh ha h1 hv fun r hr _ _ _ w hC=>hq.sound (hK w hC) hr _ _ _ _ _ w (aw.refl _ _))
 | wlt hv hx ho _ ih=>
  rename_i hz _
  intro h1 B o bw r0 w0 H Z ha hs hp
  obtain ⟨F,_,_,_,_,hK⟩:=stay hs
  exact ih h1.n B o bw r0 w0 H Z ha hs (Vs hh ha hz hv hx ho hK h1 hp)
 | ltn hv jb hn hb _ ih=>
  rename_i hz _
  intro h1 B o bw r0 w0 H Z ha hs hp
  obtain ⟨F,_,_,_,_,hK⟩:=stay hs
  exact ih h1.n B o bw r0 w0 H Z ha hs (Ks hh ha hz hv jb hn hb hK h1 hp)
 | ltu hv jb hn hb _ ih=>
  rename_i hz _
  intro h1 B o bw r0 w0 H Z ha hs hp
  obtain ⟨F,_,_,_,_,hK⟩:=stay hs
  exact ih h1.n B o bw r0 w0 H Z ha hs (Ks hh ha ⟨hz.h⟩ hv jb hn hb hK h1 hp)
 | @mh hd A as op x y k k' a b t t' d ty ops i sl ms fr Γ f hv hx hy hk _ ih=>
  intro h1 B o ho r0 w0 H Z ha hs hp
  obtain ⟨z,hz,ho⟩:=bind_some ho
  have BM:MY op=true∨k=k':=by
   cases hk with
   | same=>exact .inr rfl
   | sh h=>exact .inl h
  exact ih z h1.n B o ho r0 w0 H Z ha hs (hp.val hh ha h1 hv fun r hr _ _ _ w hC=>M8 (aV hr hx) (aV hr hy) BM hz)
 | mk hv hx _ ih=>
  rename_i hz _
  intro h1 B o ho r0 w0 H Z ha hs hp
  obtain ⟨n,hn,ho⟩:=bind_some ho
  exact ih n h1.n B o ho r0 w0 H Z ha hs (Vq hh ha hz hv hx hn h1 hp)
 | mmv hi eh hj _ ih=>
  intro h1 B o ho r0 w0 H Z ha hs hp
  exact ih h1.n B o ho r0 w0 H Z ha hs (hp.dep (X:=fun u=>u) h1 hi eh hj fun r x hx w pos ag=>(Mv (W:=w) _ rfl) w (aw.refl _ _))
 | @mex hd t k A as d ty ops i sl ms Γ m hi eh hj Ei _ ih=>
  intro h1 B o ho r0 w0 H Z ha hs hp
  refine ih h1.n B o ho r0 w0 H Z ha hs (hp.dep (X:=fun u=>Lr u _) h1 hi eh hj fun r x hx w pos ag=>?_)
  obtain ⟨xY,hc⟩:=Ei x
  have yV:=(ny hx v7) _ _ (by rw [List.append_nil]; exact xY)
  have:=(Ex (W:=w) (P:=P) (r:=r) (d:=some d) (ty:=ty) (pos:=pos) (ag:=ag) (g:=none) _ (x:=.tmp t) yV (by simpa using hc)) w (aw.refl _ _)
  rw [this,yV]
  simp [Lr,hc]
 | mfd hi eh hj Ei _ ih=>
  rename_i hf _
  intro h1 B o ho r0 w0 H Z ha hs hp
  refine ih h1.n B o ho r0 w0 H Z ha hs (hp.dep (X:=fun u=>Ls u _) h1 hi eh hj fun r x hx w pos ag=>?_)
  obtain ⟨xY,hc⟩:=Ei x
  obtain ⟨fs,f,ds,q1,q2,q3,q4,q5⟩:=hf.h
  have yV:=(ny hx v7) _ _ (by rw [List.append_nil]; exact xY)
  rw [Dz q1 q2 q3 q4 q5 (x:=.tmp _) yV (by simpa using hc),yV]
  simp [Ls,hc]
 | mif hi eh hj _ ih=>
  rename_i hf _
  intro h1 B o ho r0 w0 H Z ha hs hp
  obtain ⟨ds,q1,q2⟩:=hf.h
  exact ih h1.n B o ho r0 w0 H Z ha hs (hp.dep (X:=fun u=>.iface _ u) h1 hi eh hj fun r x hx w pos ag=>(If (W:=w) q1 q2 _ rfl) w (aw.refl _ _))
 | mbl hi eh _ hj hv Ei _ ih=>
  rename_i hb _ _
  intro h1 B o ho r0 w0 H Z ha hs hp
  exact ih h1.n B o ho r0 w0 H Z ha hs (TE hh hb hi eh hj hv Ei h1 ha hs hp)
 | mlt hi eh hj Ei _ ih=>
  rename_i hz _
  intro h1 B o ho r0 w0 H Z ha hs hp
  exact ih h1.n B o ho r0 w0 H Z ha hs (TG hz hi eh hj Ei h1 hp)
 | mls hb hi eh hj Ei _ ih=>
  rename_i hz _
  intro h1 B o ho r0 w0 H Z ha hs hp
  exact ih h1.n B o ho r0 w0 H Z ha hs (TJ hz hb hi eh hj Ei h1 hp)
 | val hv hq _ ih=>
  intro h1 B o ho r0 w0 H Z ha hs hp
  obtain ⟨F,_,_,_,_,hK⟩:=stay hs
  exact ih h1.n B o ho r0 w0 H Z ha hs (hp.val hh ha h1 hv fun r hr _ _ _ w hC=>hq.sound (hK w hC) hr _ _ _ _ _ w (aw.refl _ _))
end
end Go.Dk
namespace Go.Dk
open Go Go.Li
section
variable {R S:Type} {P:Program} {cx:Cx R} {K:dg R S} {l tail:LO} {base fr:Fr} {w:World} {Z:Nat→Prop}
theorem JJ {n:Nat} {Q:Exit→(Nat→Value)→World→Prop} {r:NV} (hQ:∀ c,¬ Q (.panic c) r w):∀ ju,∀ c,¬ CC P n Q ju (.panic c) r w:=by
 intro ju
 induction ju with
 | nil=>exact hQ
 | cons a ju ih=>cases a <;> exact ih
theorem JK {B:Bs} {b:Kb R S} {o:Out S R} {r:NV}:∀ c,¬ Lc P cx B b o (.panic c) r w:=by
 intro c
 cases b <;> cases o <;> exact fun h=>h
theorem wG {B:Bs} {K:dg R S} {o:Out S R} {r:NV}:∀ c,¬ mx P cx B K o (.panic c) r w:=JJ JK _
def AN (g:Nat→List Nat):List fu→List Nat
 | []=>[]
 | a :: l=>g a.j++AN g l
theorem DB {g:Nat→List Nat}:∀ {ms:MM} {b:Nat},b∈AN g ms→∃ a∈ms,b∈g a.j:=by
 intro ms
 induction ms with
 | nil=>intro b h; exact absurd h List.not_mem_nil
 | cons a ms ih=>
  intro b h
  rcases List.mem_append.1 h with h | h
  ·exact ⟨a,by simp,h⟩
  ·obtain ⟨c,h1,h2⟩:=ih h
   exact ⟨c,List.mem_cons_of_mem _ h1,h2⟩
theorem Kv {Vo Vr A F:LN} (h:(Vo++Vr).Perm A):((Vo++F)++Vr).Perm (A++F):=by
 refine List.Perm.trans ?_ (h.append_right F)
 rw [List.append_assoc,List.append_assoc]
 exact List.Perm.append_left Vo List.perm_append_comm
theorem Se {g:Nat→List Nat} {r:NV}:∀ {ms:MM},AB ms=true→(ms.map (·.j)).Nodup→(∀ a∈ms,∀ b∈ms,a.j≠b.j→tz (g a.j) (g b.j))→(∀ a∈ms,MV Z a (g a.j) w r (r a.d))→
  ∃ x:l6 ms,(∀ p∈mF ms x,r p.1=p.2)∧(∃ Vo Vr,(Vo++Vr).Perm (AN g ms)∧(∀ b∈Vr,b < w.heap.size)∧HL (tv Z Vr) w (BP ms x) Vo)∧(AN g ms).Nodup:=by
 intro ms
 induction ms with
 | nil=>intro _ _ _ _; exact ⟨(),fun p hp=>absurd hp List.not_mem_nil,⟨[],[],.refl _,fun b (h:b∈[])=>absurd h List.not_mem_nil,.nil⟩,List.nodup_nil⟩
 | cons a ms ih=>
  intro eh hd hi h
  unfold AB at eh
  rw [Bool.and_eq_true] at eh
  rw [List.map_cons,List.nodup_cons] at hd
  obtain ⟨x,hx,hl,hn⟩:=ih eh.2 hd.2 (fun b hb c hc=>hi b (List.mem_cons_of_mem _ hb) c (List.mem_cons_of_mem _ hc)) fun b hb=>h b (List.mem_cons_of_mem _ hb)
  obtain ⟨v,e1,e2,e3⟩:=h a (by simp)
  have es:vB a r=BO a (mF ms x):=by
   have h3:=eh.1
   rw [List.all_eq_true] at h3
   refine CG fun t ht=>?_
   unfold yT
   rw [PE (h3 t ht) hx]
  rw [es] at e1 e2
  refine ⟨(v,x),?_,?_,u7 e3 hn ?_⟩
  rotate_left
  ·obtain ⟨Fo,Fr,hf,h1,h2⟩:=e2.all
   obtain ⟨Vo,Vr,k1,k2,k3⟩:=hl
   refine ⟨Fo++Vo,Fr++Vr,?_,fun b hb=>(List.mem_append.1 hb).elim (h1 b) (k2 b),(h2.mono fun b h=>h.imp id fun h=>List.mem_append_left _ h).app (k3.mono fun b h=>h.imp id fun h=>List.mem_append_right _ h)⟩
   show List.Perm _ (g a.j++AN g ms)
   rw [hf]
   refine List.Perm.trans ?_ (k1.append_left (Fo++Fr))
   rw [List.append_assoc,List.append_assoc]
   refine List.Perm.append_left Fo ?_
   rw [← List.append_assoc,← List.append_assoc]
   exact List.Perm.append_right Vr List.perm_append_comm
  rotate_right
  ·intro p hp
   rcases List.mem_cons.1 hp with rfl | hp
   ·exact e1
   ·exact hx p hp
  ·intro b hb hm
   obtain ⟨c,h1,h2⟩:=DB hm
   exact hi a (by simp) c (List.mem_cons_of_mem _ h1) (fun e=>hd.1 (by rw [e]; exact List.mem_map_of_mem h1)) b hb h2
theorem HZ {r:NV} {f:Fr}:∀ {sl:LQ},(∀ p∈sl,r p.2.1=p.2.2)→(∀ p∈f,r p.1=p.2)→∀ p∈zy sl f,r p.1=p.2:=by
 intro sl
 induction sl with
 | nil=>intro _ h; exact h
 | cons a sl ih=>
  intro h1 h2 p hp
  rcases List.mem_cons.1 hp with rfl | hp
  ·exact h1 a (by simp)
  ·exact ih (fun p hp=>h1 p (List.mem_cons_of_mem _ hp)) h2 p hp
theorem H0 {mt:Nat} {U:LL} {H4:QE} (hh:j9 l mt base=true) {sl:LQ} {ms:MM} {Γ:QE} {m:Option (Out S R)} (H5:AB ms=true) (rh:zA U sl ms=true)
  (h:∀ x:l6 ms,D P cx (.p (zy sl (mF ms x)) (BP ms x) base Γ fun fr Γ=>.tg false (Aw tail) l tail K Γ fr m)) {B:Bs} {o:Out S R} (ho:m=some o) {r0:NV} {w0:World} {H:LN} {Z:Nat→Prop} (ha:c9 r0 base) (hs:o9 B Z H4 Γ H w0) {S':List gw} (hi:S'.length=mt) (hR:jk Z l S' sl ms) :
  ∀ g r w,x9 l mt S' U r0 w0 H (fun j=>j < mt) g r w→WL P l tail r w (mx P cx B K o .normal):=by
 obtain ⟨F,Hd,⟨u4,u5,se,u6⟩,hS,hG⟩:=hs
 intro g r w hI
 have LA:∀ k j,j∈U.getD k []→∀ a∈ms,a.j≠j:=by
  intro k j hj
  unfold zA at rh
  rw [Bool.and_eq_true] at rh
  rw [List.getD_eq_getElem?_getD] at hj
  cases hk:U[k]? with
  | none=>rw [hk] at hj; exact absurd hj List.not_mem_nil
  | some us=>
   rw [hk] at hj
   have h1:=List.all_eq_true.1 (List.all_eq_true.1 rh.1 us (List.mem_of_getElem? hk)) j hj
   intro a ha he
   have:=List.all_eq_true.1 h1 a ha
   rw [he,Nat.beq_refl] at this
   cases this
 have hD:∀ j,j < mt→(∀ k,j ∉ U.getD k [])→vC l S' j g r w:=fun j hj hn=>hI.done j hj fun k _=>hn k
 have bj:∀ a∈ms,a.j < mt:=fun a ha=>hi ▸ hR.lt ha
 obtain ⟨x,hx,pd,VB⟩:=Se (g:=g) (r:=r) (w:=w) H5 hR.d (fun a ha b hb vX=>hI.xp _ _ (bj a ha) (bj b hb) vX) fun a ha=>by
  have:=hR.xW (S2:=[]) ha (by rw [List.append_nil]; exact hD a.j (bj a ha) (fun k hk=>LA k _ hk a ha rfl))
  exact this
 have Ej:=List.nodup_append.1 hG.nd
 have oq:∀ b∈AN g ms,w0.heap.size≤b∨b∈H:=fun b hb=>by
  obtain ⟨a,h1,h2⟩:=DB hb
  exact (hI.fresh a.j (bj a h1) b h2).1.imp (fun h=>h) (·.1)
 have fy:=o9.stay hS hG hI.lp
 obtain ⟨Vo,Vr,VC,VD,pd⟩:=pd
 obtain ⟨F',hp,ji⟩:=pd.build (fy.mono (fun _ h=>.inl h) fun _ h=>h)
 have H6:Gd B Z (AN g ms++F) w:=by
  refine ⟨u7 VB Ej.2.1 fun b hb hF=>(oq b hb).elim (fun h=>Nat.lt_irrefl _ (Nat.lt_of_lt_of_le (hS.lt b hF) h)) (fun h=>Ej.2.2 b h b hF rfl),?_,fun b hb=>Nat.lt_of_lt_of_le (hG.py b hb) hI.lp.size,?_,hG.xP,hG.xc,hG.lp.then hI.lp fun b hb=>hG.low b (List.mem_append_left _ hb)⟩
  ·intro b hb hz
   rcases List.mem_append.1 hb with hb | hb
   ·exact (oq b hb).elim (fun h=>Nat.lt_irrefl _ (Nat.lt_of_lt_of_le (hG.py b hz) h)) (fun h=>hG.apart b (List.mem_append_left _ h) hz)
   ·exact hG.apart b (List.mem_append_right _ hb) hz
  ·intro b hb
   rcases List.mem_append.1 hb with hb | hb
   ·exact (oq b hb).elim (fun h=>.inr (Nat.le_trans hG.lp.size h)) (fun h=>hG.low b (List.mem_append_left _ h))
   ·exact hG.low b (List.mem_append_right _ hb)
 have PT:c9 r ((zy sl (mF ms x)).reverse++base):=by
  refine wh (HZ (fun p hp=>?_) hx) (jd hh ha hI.other)
  exact hR.vD (S2:=[]) hp fun j _ hj=>(by rw [List.append_nil]; exact hI.ur j (hi ▸ hj))
 have:=(h x).sound B o ho r w PT ⟨_,F',ji,((H6.perm (Kv VC)).freeze VD).perm hp⟩
 exact this
theorem TN {mt id:Nat} {U:LL} {Zl:LN} {H4:QE} (hU:((List.range mt).all fun i=>(U.getD i []).all fun u=>Nat.beq u l.length || ((bx l).getD i []).contains u)=true) (hh:j9 l mt base=true) (hd:dk cx.n l=true) (hA:xe l mt Zl=true) (hZ:Dc l mt Zl=true) (Gr:mt≤l.length) (ht:tail=l.drop mt) {i:Nat} {sl:LQ} {ms:MM} {Γ:QE} {m:Option (Out S R)} (H5:AB ms=true) (rh:zA U sl ms=true)
  (h:∀ x:l6 ms,D P cx (.p (zy sl (mF ms x)) (BP ms x) base Γ fun fr Γ=>.tg false (Aw tail) l tail K Γ fr m)):HY P cx K l l mt U H4 id base (.a [] [] i sl ms Γ m):=by
 rintro ⟨_,h2,h3⟩ B o ho r0 w0 H Z ha hs ⟨S',hl,hR,hO⟩
 have hi:i=mt:=by
  have:=congrArg List.length h2
  simp at this
  omega
 subst hl
 have VE:=hs
 obtain ⟨F,Hd,⟨u4,u5,se,u6⟩,hS,hG⟩:=hs
 refine ND (N:=Z) (S:=S') (U:=U) (H:=H) hd hA hZ (fun c r w h=>wG c h) Gr hi se hU (fun b hb=>⟨hG.py b hb,fun h=>hG.apart b (List.mem_append_left _ h) hb⟩) (fun i s hs=>hR.s i s hs) (fun j hj=>hO j (by omega)) ?_
 intro g r w hI
 have:=H0 hh H5 rh h ho ha VE hi hR g r w hI
 rwa [ht] at this
def Kq (q:Option (Bool×Nat×Value)) (f:Fr):Fr:=
 match q with
 | none=>f
 | some (_,d,u)=>(d,u) :: f
theorem Kp.lk {ws:LN} {q:Option (Bool×Nat×Value)} {f g:Fr} (h:Kp ws q f g):(∀ b d u,q=some (b,d,u)→b=dj d ws)→∀ t v,look g t=some v→dj t ws=false∧look (Kq q f) t=some v:=by
 induction h with
 | nil=>intro _ t v h; cases h
 | cons _ ih=>intro _ t v h; exact ih (by rintro b d u h; cases h; rfl) t v h
 | @drop ws d u f g _ ih=>
  intro hq t v h
  obtain ⟨h1,h2⟩:=ih (by rintro b d u h; cases h) t v h
  refine ⟨h1,?_⟩
  show look ((d,u) :: f) t=some v
  unfold look
  cases hb:Nat.beq t d with
  | true=>have:=hq true d u rfl; rw [Nat.eq_of_beq_eq_true hb,← this] at h1; cases h1
  | false=>exact h2
 | @fg ws d u f g _ ih=>
  intro hq t v h
  unfold look at h
  show dj t ws=false∧look ((d,u) :: f) t=some v
  unfold look
  cases hb:Nat.beq t d with
  | true=>rw [hb] at h; exact ⟨by rw [Nat.eq_of_beq_eq_true hb]; exact (hq false d u rfl).symm,h⟩
  | false=>
   rw [hb] at h
   obtain ⟨h1,h2⟩:=ih (by rintro b d u h; cases h) t v h
   unfold dj at h1
   rw [hb] at h1
   exact ⟨h1,h2⟩
theorem Kp.sound {ws:LN} {f g:Fr} {r:NV} (h:Kp ws none f g) (ha:c9 r f):c9 r g:=
 fun t v hl=>ha t v (h.lk (by rintro b d u h; cases h) t v hl).2
theorem VF {id:Nat} (hd:QE) (mt:Nat) (Zl:LN) (U as:LL) {ops:LO} {Γ Γ1:QE} {fr:Fr} {m:Option (Out S R)}
  (hB:(P.follows .mixedOrders && dk cx.n l && xe l mt Zl && Dc l mt Zl && Nat.ble mt l.length && (l8 l U mt == as) && ((List.range mt).all fun i=>(U.getD i []).all fun u=>Nat.beq u l.length || ((bx l).getD i []).contains u))=true)
  (ho:ops=l.take mt) (ht:tail=l.drop mt) (hf:Kp (xQ ops) none fr base) (hh:j9 l mt base=true) (he:EO Γ hd Γ1) (H7:OW Γ hd)
  (h:AD false P cx K l tail base U hd (.a as ops 0 [] [] Γ1 m)):∀ B o,m=some o→∀ r w,c9 r fr→St B Γ w→nz P cx.n l (mx P cx B K o) r w:=by
 simp only [Bool.and_eq_true] at hB
 obtain ⟨⟨⟨⟨⟨⟨_,b2⟩,b3⟩,b4⟩,b5⟩,b6⟩,b7⟩:=hB
 intro B o hm r w ha hs
 obtain ⟨Z,F,hS,hG⟩:=hs
 obtain ⟨Fd,F',h1,h2,h3⟩:=he.sound hS
 have H8:SA Z w hd [] Fd:=by
  have:=(HO.hl H7 hS h1).front (Γ:=[]) (F:=[]) rfl
  simpa using this
 have hX:o9 B Z hd Γ1 Fd w:=⟨F',Fd,⟨H8,fun b hb=>⟨hb,H8.lt b hb⟩,H8.lt,(List.nodup_append.1 (hG.perm h3).nd).1⟩,h2,hG.perm h3⟩
 refine AD.sound (id:=id) hh (fun _ _ _ _ _ _ hs he h=>TN b7 hh b2 b3 b4 (Nat.le_of_ble_eq_true b5) ht hs he h) h
  ⟨by rw [List.drop_zero]; exact (eq_of_beq b6).symm,by rw [List.drop_zero]; exact ho,Nat.zero_le _⟩ B o hm r w Fd Z (hf.sound ha) hX ⟨[],rfl,⟨fun _ h=>absurd h List.not_mem_nil,fun _ h=>absurd h List.not_mem_nil,fun i s h=>by simp at h,List.nodup_nil,fun _ _ _ h1 h2=>AO l (Gs b3) h1 h2⟩,fun j hj=>absurd hj (Nat.not_lt_zero j)⟩
theorem xf {id:Nat} (hd:QE) (mt:Nat) (Zl:LN) (U as:LL) {ops:LO} {Γ Γ1:QE} {fr:Fr} {m:Option (Out S R)}
  (hB:(P.follows .mixedOrders && dk cx.n l && xe l mt Zl && Dc l mt Zl && Nat.ble mt l.length && (l8 l U mt == as) && ((List.range mt).all fun i=>(U.getD i []).all fun u=>Nat.beq u l.length || ((bx l).getD i []).contains u))=true)
  (ho:ops=l.take mt) (ht:tail=l.drop mt) (hf:Kp (xQ ops) none fr base) (hh:j9 l mt base=true) (he:EO Γ hd Γ1) (H7:OW Γ hd)
  (h:AD false P cx K l tail base U hd (.a as ops 0 [] [] Γ1 m)):Bx (ru P cx (.dr id l K Γ fr m)):=by
 have hm:P.follows .mixedOrders=true:=by
  simp only [Bool.and_eq_true] at hB
  exact hB.1.1.1.1.1.1
 rw [qz]
 intro B o vY r w ha hs
 exact (VF (id:=id) hd mt Zl U as hB ho ht hf hh he H7 h B o vY r w ha hs).W hm
theorem abW {id:Nat} {l0:LO} (σ π:LN) (hd:QE) (mt:Nat) (Zl:LN) (U as:LL) {ops:LO} {Γ Γ1:QE} {fr:Fr} {m:Option (Out S R)}
  (hB:(P.follows .mixedOrders && PU l0 σ π && dk cx.n (rn l0 σ π) && xe (rn l0 σ π) mt Zl && Dc (rn l0 σ π) mt Zl && Nat.ble mt (rn l0 σ π).length && (l8 (rn l0 σ π) U mt == as) && ((List.range mt).all fun i=>(U.getD i []).all fun u=>Nat.beq u (rn l0 σ π).length || ((bx (rn l0 σ π)).getD i []).contains u))=true)
  (hl:l=rn l0 σ π) (ho:ops=l.take mt) (ht:tail=l.drop mt) (hf:Kp (xQ ops) none fr base) (hh:j9 l mt base=true) (he:EO Γ hd Γ1) (H7:OW Γ hd)
  (h:AD false P cx K l tail base U hd (.a as ops 0 [] [] Γ1 m)):Bx (ru P cx (.dr id l0 K Γ fr m)):=by
 subst hl
 simp only [Bool.and_eq_true] at hB
 obtain ⟨⟨⟨⟨⟨⟨⟨b0,b1⟩,b2⟩,b3⟩,b4⟩,b5⟩,b6⟩,b7⟩:=hB
 rw [qz]
 intro B o vY r w ha hs
 refine ((VF (id:=id) hd mt Zl U as ?_ ho ht hf hh he H7 h B o vY r w ha hs).prm b1).W b0
 simp only [Bool.and_eq_true]
 exact ⟨⟨⟨⟨⟨⟨b0,b2⟩,b3⟩,b4⟩,b5⟩,b6⟩,b7⟩
theorem any {id:Nat} (mt:Nat) (Zl:LN) (U as:LL) {ops:LO} {Γ:QE} {fr:Fr} {m:Option (Out S R)}
  (hB:(P.follows .mixedOrders && dk cx.n l && xe l mt Zl && Dc l mt Zl && Nat.ble mt l.length && (l8 l U mt == as) && ((List.range mt).all fun i=>(U.getD i []).all fun u=>Nat.beq u l.length || ((bx l).getD i []).contains u))=true)
  (ho:ops=l.take mt) (ht:tail=l.drop mt) (hf:Kp (xQ ops) none fr base) (hh:j9 l mt base=true)
  (h:AD false P cx K l tail base U [] (.a as ops 0 [] [] Γ m)):Bx (ru P cx (.dr id l K Γ fr m)):=xf [] mt Zl U as hB ho ht hf hh .nil .nil h
end
end Go.Dk
