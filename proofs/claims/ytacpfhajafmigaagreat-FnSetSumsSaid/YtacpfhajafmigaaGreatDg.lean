/- A calculus of walks: regions that draw their order and make memory. No condition. -/
import Derived.Test.YtacpfhajafmigaaGreatDe
import Derived.Laws.Slices
import Derived.Deep.Quiet
import Derived.OrdersHeld
namespace Go.Dk
open Go Go.Li
section
variable {w:World}
def sHole {α:Type} (e:TypeId) (E:STy α) (j:Nat):STy (List α) where
 size:=1
 rep h cs xs f:=∃ b cap cur f1 f2 p c0 q,cs=[.slice (some ⟨b,0,none⟩) xs.length cap]∧h[b]? = some (.cells cur e (0,0))∧f=b :: (f1++f2)∧(xs.length≤cap∧cap≤maxLen∧cur.size=cap∧E.size=1)∧cur.toList.take xs.length=p++[c0]++q∧(p.length=j∧j < xs.length)∧
  (∀ i∈f1++f2,i < h.size)∧∀ h':Array Obj,(∀ i∈f1++f2,h'[i]? = h[i]?)→∀ u z k,E.rep h' [u] z k→repL E h' (p++[u]++q) (xs.set j z) (f1++k++f2)
 len:=by rintro h cs x f ⟨b,cap,cur,f1,f2,p,c0,q,rfl,_⟩; rfl
 one:=by rintro h cs x f ⟨b,cap,cur,f1,f2,p,c0,q,rfl,_⟩ v hv; simp at hv; subst hv; rfl
 congr:=by
  rintro h h' cs x f ⟨b,cap,cur,f1,f2,p,c0,q,rfl,h1,rfl,h2,h3,h4,h5,h6⟩ hb
  refine ⟨b,cap,cur,f1,f2,p,c0,q,rfl,(hb b (by simp)).trans h1,rfl,h2,h3,h4,fun i hi=>?_,fun h'' hb'=>h6 h'' fun i hi=>(hb' i hi).trans (hb i (List.mem_cons_of_mem _ hi))⟩
  have:=hb i (List.mem_cons_of_mem _ hi)
  rw [Array.getElem?_eq_getElem (h5 i hi)] at this
  exact (Array.getElem?_eq_some_iff.1 this).1
 lt:=by
  rintro h cs x f ⟨b,cap,cur,f1,f2,p,c0,q,rfl,h1,rfl,h2,h3,h4,h5,h6⟩ i hi
  rcases List.mem_cons.1 hi with rfl | hi
  ·exact (Array.getElem?_eq_some_iff.1 h1).1
  ·exact h5 i hi
theorem own_hole {α:Type} {e:TypeId} {E:STy α} {v u:Value} {xs:List α} {f:List Nat} {j:Int} {z:α} (h1:E.size=1) (hO:(aJ e E).rep w.heap [v] xs f) (hz:xs[j.toNat]? = some z) (hu:w.cell? (elA v 1 j)=some u) :
  ∃ k g,E.rep w.heap [u] z k∧(k++g).Perm f∧(sHole e E j.toNat).rep w.heap [v] xs g:=by
 obtain ⟨base,cap,hv,hr⟩:=hO
 obtain rfl:v = .slice base xs.length cap:=by simpa using hv
 have hlt:j.toNat < xs.length:=(List.getElem?_eq_some_iff.1 hz).1
 rcases hr with ⟨_,_,rfl,_⟩ | ⟨b,cur,f0,rfl,hg,rfl,hnc,hcm,hcs,hrep⟩
 ·simp at hlt
 ·rw [h1,Nat.mul_one] at hcs hrep
  have hadr:elA (.slice (some ⟨b,0,none⟩) xs.length cap) 1 j = ⟨b,j.toNat,none⟩:=by
   simp only [elA,addr_add,Nat.zero_add,Nat.mul_one]
  rw [hadr,cell_of_row w b _ cur e _ hg] at hu
  have hltb:∀ i∈f0,i < w.heap.size:=repL_lt hrep
  obtain ⟨c,g0,g1,g2,p,q,hfe,hc,hp,hrc,hset⟩:=repL_split j.toNat z hrep hz
  subst hfe
  rw [h1,Nat.mul_one] at hp
  have hc1:c.length=1:=by rw [E.len hrc,h1]
  obtain ⟨c0,rfl⟩ : ∃ c0,c=[c0]:=by match c,hc1 with | [c0],_=>exact ⟨c0,rfl⟩
  have hcu:c0=u:=by
   have h2:(cur.toList.take xs.length)[j.toNat]? = some c0:=by
    rw [hc,List.append_assoc,List.getElem?_append_right (by omega),hp,Nat.sub_self]; rfl
   rw [List.getElem?_take,if_pos hlt,Array.getElem?_toList,hu] at h2
   exact (Option.some.inj h2).symm
  subst hcu
  refine ⟨g1,b :: (g0++g2),hrc,?_,b,cap,cur,g0,g2,p,c0,q,rfl,hg,rfl,⟨hnc,hcm,hcs,h1⟩,hc,⟨hp,hlt⟩,fun i hi=>hltb i (by rcases List.mem_append.1 hi with hi | hi <;> simp [hi]),fun h' hb' u z' k' hr=>hset h' [u] z' k' (fun i hi=>hb' i (by simp [hi])) (fun i hi=>hb' i (by simp [hi])) hr⟩
  refine (List.perm_append_comm (l₁:=g1) (l₂:=b :: (g0++g2))).trans ?_
  rw [List.cons_append]
  refine List.Perm.cons b ?_
  rw [List.append_assoc,List.append_assoc]
  exact List.Perm.append_left g0 List.perm_append_comm
end
structure MemD where
 j:Nat
 d:Nat
 src:List Nat
 V:Type
 rt:Value→V→Value
 ps:Value→V→List Ent
def Xof:List MemD→Type
 | []=>Unit
 | a :: l=>a.V×Xof l
def srcT (f:Nat→Value):List Nat→Value
 | []=>undef
 | [t]=>f t
 | ts=>.tuple (ts.map f).toArray
def lookD (f:Fr) (t:Nat):Value:=match look f t with
 | some v=>v
 | none=>undef
def srcV (a:MemD) (r:Nat→Value):Value:=srcT r a.src
def srcF (a:MemD) (f:Fr):Value:=srcT (lookD f) a.src
theorem srcT_eq {f g:Nat→Value}:∀ {ts:List Nat},(∀ t∈ts,f t=g t)→srcT f ts=srcT g ts:=by
 intro ts h
 match ts,h with
 | [],_=>rfl
 | [t],h=>exact h t (by simp)
 | t :: s :: ts,h=>
  show Value.tuple (List.map f (t :: s :: ts)).toArray=Value.tuple (List.map g (t :: s :: ts)).toArray
  rw [List.map_congr_left h]
def mF:(ms:List MemD)→Xof ms→Fr
 | [],_=>[]
 | a :: l,x=>(a.d,a.rt (srcF a (mF l x.2)) x.1) :: mF l x.2
def allE:(ms:List MemD)→Xof ms→List Ent
 | [],_=>[]
 | a :: l,x=>a.ps (srcF a (mF l x.2)) x.1++allE l x.2
def visF (A:List Nat):(ms:List MemD)→Xof ms→Fr
 | [],_=>[]
 | a :: l,x=>bif memB a.j A then (a.d,a.rt (srcF a (mF l x.2)) x.1) :: visF A l x.2 else visF A l x.2
def visE (A:List Nat):(ms:List MemD)→Xof ms→List Ent
 | [],_=>[]
 | a :: l,x=>bif memB a.j A then a.ps (srcF a (mF l x.2)) x.1++visE A l x.2 else visE A l x.2
def fstJ (t:Nat):List MemD→Option Nat
 | []=>none
 | a :: l=>bif Nat.beq t a.d then some a.j else fstJ t l
def tsOf (ms:List MemD):List (Nat×Operand)→List Nat
 | []=>[]
 | (_,.tmp s) :: l=>match fstJ s ms with
  | some _=>s :: tsOf ms l
  | none=>tsOf ms l
 | _ :: l=>tsOf ms l
def ixL (s:Nat):List Nat→Option Nat
 | []=>none
 | t :: l=>bif Nat.beq s t then some 0 else (ixL s l).map (·+1)
def tupO (v:Value) (k:Nat):Value:=match v with
 | .tuple vs=>vs.toList.getD k undef
 | _=>undef
def valO (f:Fr) (ts:List Nat) (u:Value):Operand→Value
 | .tmp s=>match ixL s ts with
  | some k=>(match ts with
   | [_]=>u
   | _=>tupO u k)
  | none=>lookD f s
 | x=>match opv f x with
  | some v=>v
  | none=>undef
def partV (k:Nat) (v:Value):List Value:=bif Nat.beq k 1 then [v] else match v with
 | .agg cs=>cs.toList
 | _=>[]
def fillL (pl:List (Nat×Nat)):List (Nat×Value)→List Value→List Value
 | [],cs=>cs
 | (i,v) :: l,cs=>match nthP pl i with
  | some (off,k)=>fillL pl l (cs.take off++partV k v++cs.drop (off+k))
  | none=>cs
def bldL (pl:List (Nat×Nat)) (f:Fr) (ts:List Nat) (ps:List (Nat×Operand)) (zc:List Value) (u:Value):List Value:=fillL pl (ps.map fun p=>(p.1,valO f ts u p.2)) zc
def tsB (A:List Nat) (ms:List MemD) (ts:List Nat):Bool:=ts.all fun t=>match fstJ t ms with
 | some j=>memB j A
 | none=>false
def srcB (A:List Nat):List MemD→Bool
 | []=>true
 | a :: l=>(bif memB a.j A then a.src.all (fun t=>match fstJ t l with
   | some j=>memB j A
   | none=>false) else true) && srcB A l
def srcA:List MemD→Bool
 | []=>true
 | a :: l=>a.src.all (fun t=>(fstJ t l).isSome) && srcA l
theorem look_vis {A:List Nat} {r:Nat→Value} {t:Nat}:∀ {ms:List MemD} {x:Xof ms} {j:Nat},fstJ t ms=some j→memB j A=true→(∀ p∈visF A ms x,r p.1=p.2)→look (mF ms x) t=some (r t):=by
 intro ms
 induction ms with
 | nil=>intro x j h; cases h
 | cons a l ih=>
  intro x j h hj hp
  unfold fstJ at h
  unfold mF look
  cases hb:Nat.beq t a.d with
  | true=>
   rw [hb] at h
   cases h
   have:=hp (a.d,a.rt (srcF a (mF l x.2)) x.1) (by unfold visF; rw [hj]; simp)
   simp only [cond_true]
   rw [Nat.eq_of_beq_eq_true hb,this]
  | false=>
   rw [hb] at h
   refine ih h hj fun p hm=>hp p ?_
   unfold visF
   cases memB a.j A with
   | true=>exact List.mem_cons_of_mem _ hm
   | false=>exact hm
theorem look_all {r:Nat→Value} {t:Nat}:∀ {ms:List MemD} {x:Xof ms},(fstJ t ms).isSome=true→(∀ p∈mF ms x,r p.1=p.2)→look (mF ms x) t=some (r t):=by
 intro ms
 induction ms with
 | nil=>intro x h; cases h
 | cons a l ih=>
  intro x h hp
  unfold fstJ at h
  unfold mF at hp ⊢
  unfold look
  cases hb:Nat.beq t a.d with
  | true=>
   simp only [cond_true]
   rw [Nat.eq_of_beq_eq_true hb,hp (a.d,a.rt (srcF a (mF l x.2)) x.1) (by simp)]
  | false=>
   rw [hb] at h
   exact ih h fun p hm=>hp p (List.mem_cons_of_mem _ hm)
def HN (N:Nat→Prop) (w:World) (Δ:List Ent) (f:List Nat):Prop:=HL (fun _=>False) w Δ f∨∃ Fo Fr,f=Fo++Fr∧(owB Δ=false∧∀ b∈Fr,b < w.heap.size)∧HL (fun b=>N b∨b∈Fr) w Δ Fo
def MVn (N:Nat→Prop) (a:MemD):List Nat→World→(Nat→Value)→Value→Prop:=fun f w r _=>∃ v:a.V,r a.d=a.rt (srcV a r) v∧HN N w (a.ps (srcV a r) v) f∧f.Nodup
def MV (N:Nat→Prop) (a:MemD):List Nat→World→(Nat→Value)→Value→Prop:=fun f w r x=>∃ v:a.V,x=a.rt (srcV a r) v∧HN N w (a.ps (srcV a r) v) f∧f.Nodup
def StN (N:Nat→Prop) (a:List Nat) (l:List Oper) (s:Gives):Prop:=∀ f F (w w':World) (r r':Nat→Value) v,Chg F w w'→(∀ b∈f,b ∉ F)→(∀ b∈F,¬ N b)→(∀ j∈a,∀ t,dstAt l j=some t→r' t=r t)→s.V f w r v→s.V f w' r' v
theorem Stab.n {N:Nat→Prop} {a:List Nat} {l:List Oper} {s:Gives} (h:Stab a l s):StN N a l s:=fun f F w w' r r' v hC hn _=>h f F w w' r r' v hC hn
section
variable {P:Program} {w w':World} {Z:Nat→Prop}
theorem HL.keepN {F H:List Nat} {Δ:List Ent} (h:HL (fun _=>False) w Δ F) (hC:Chg H w w') (hd:∀ b∈F,b ∉ H):HL (fun _=>False) w' Δ F:=by
 induction h with
 | nil=>exact .nil
 | @own e f F Δ h _ ih=>exact .own (h.keep hC (fun _ _ h=>h) fun b hb hm=>hd b (List.mem_append_left _ hm) hb) (ih fun b hb=>hd b (List.mem_append_right _ hb))
 | @fact e F Δ h _ ih=>
  refine .fact ?_ (ih hd)
  cases e with
  | rd o T v x=>
   obtain ⟨g,h1,h2⟩:=h
   have hg:g=[]:=by
    cases g with
    | nil=>rfl
    | cons b g=>exact absurd (h2 b (by simp)) (by cases o <;> simp [inZ])
   subst hg
   exact ⟨[],T.keep h1 hC (fun _ h=>absurd h List.not_mem_nil),fun _ h=>absurd h List.not_mem_nil⟩
  | ad o1 o2 v j T x=>obtain ⟨_,_,u,g,_,_,h3,_⟩:=h; exact absurd h3 (by cases o1 <;> simp [inZ])
  | ats p cs=>
   have hc:cs=[]:=by
    cases cs with
    | nil=>rfl
    | cons c cs=>exact (h.2 (by simp)).elim
   subst hc
   exact ⟨fun j u hj=>by simp at hj,fun hn=>absurd rfl hn⟩
  | hd v j u=>exact absurd h.2.2.2 List.not_mem_nil
  | _=>exact h.elim
theorem HL.keepZ {F H:List Nat} {Δ:List Ent} (h:HL Z w Δ F) (hC:Chg H w w') (hz:∀ b∈H,¬ Z b) (hd:∀ b∈F,b ∉ H):HL Z w' Δ F:=by
 induction h with
 | nil=>exact .nil
 | @own e f F Δ h _ ih=>exact .own (h.keep hC hz fun b hb hm=>hd b (List.mem_append_left _ hm) hb) (ih fun b hb=>hd b (List.mem_append_right _ hb))
 | @fact e F Δ h _ ih=>exact .fact (h.keep hC hz fun _ _ h=>nomatch h) (ih hd)
theorem HN.keep {N:Nat→Prop} {f H:List Nat} {Δ:List Ent} (h:HN N w Δ f) (hC:Chg H w w') (hd:∀ b∈f,b ∉ H) (hz:∀ b∈H,¬ N b):HN N w' Δ f:=by
 rcases h with h | ⟨Fo,Fr,rfl,h1,h2⟩
 ·exact .inl (h.keepN hC hd)
 ·exact .inr ⟨Fo,Fr,rfl,⟨h1.1,fun b hb=>Nat.lt_of_lt_of_le (h1.2 b hb) hC.size⟩,h2.keepZ hC (fun b hb h=>h.elim (hz b hb) fun h=>hd b (List.mem_append_right _ h) hb) fun b hb=>hd b (List.mem_append_left _ hb)⟩
theorem HN.own {N:Nat→Prop} {f:List Nat} {Δ:List Ent} (h:HN N w Δ f) (ho:owB Δ=true):HL (fun _=>False) w Δ f:=by
 rcases h with h | ⟨_,_,_,h1,_⟩
 ·exact h
 ·rw [ho] at h1; cases h1.1
theorem HN.all {N:Nat→Prop} {f:List Nat} {Δ:List Ent} (h:HN N w Δ f):∃ Fo Fr,f=Fo++Fr∧(∀ b∈Fr,b < w.heap.size)∧HL (fun b=>N b∨b∈Fr) w Δ Fo:=by
 rcases h with h | ⟨Fo,Fr,rfl,h1,h2⟩
 ·exact ⟨f,[],by simp,fun b (h:b∈[])=>absurd h List.not_mem_nil,h.mono fun _ h=>h.elim⟩
 ·exact ⟨Fo,Fr,rfl,h1.2,h2⟩
theorem HL.up {F:List Nat} {Δ:List Ent} (h:HL (fun _=>False) w Δ F):HL Z w Δ F:=by
 induction h with
 | nil=>exact .nil
 | own h _ ih=>exact .own (h.mono fun _ h=>h.elim) ih
 | fact h _ ih=>exact .fact (h.mono (fun _ h=>h.elim) fun _ h=>h) ih
theorem HL.app {Δ Δ':List Ent} {F F':List Nat} (h:HL Z w Δ F) (k:HL Z w Δ' F'):HL Z w (Δ++Δ') (F++F'):=by
 induction h with
 | nil=>exact k
 | own h _ ih=>rw [List.append_assoc]; exact .own h ih
 | fact h _ ih=>exact .fact h ih
theorem srcV_eq {a:MemD} {r r':Nat→Value} (h:∀ t∈a.src,r' t=r t):srcV a r'=srcV a r:=srcT_eq h
theorem stable_mv {l:List Oper} {a:List Nat} {b:Bool} {m:MemD} (hs:∀ t∈m.src,∃ j∈a,dstAt l j=some t):StN Z a l ⟨b,MV Z m⟩:=by
 intro f F w w' r r' x hC hn hz hr ⟨v,h1,h2,h3⟩
 have e:=srcV_eq (a:=m) (r:=r) (r':=r') fun t ht=>by
  obtain ⟨j,hj,hd⟩:=hs t ht
  exact hr j hj t hd
 refine ⟨v,by rw [e]; exact h1,by rw [e]; exact h2.keep hC hn hz,h3⟩
theorem stable_mvn {l:List Oper} {a:List Nat} {b:Bool} {m:MemD} (hd:∃ j∈a,dstAt l j=some m.d) (hs:∀ t∈m.src,∃ j∈a,dstAt l j=some t):StN Z a l ⟨b,MVn Z m⟩:=by
 intro f F w w' r r' x hC hn hz hr ⟨v,h1,h2,h3⟩
 have e:=srcV_eq (a:=m) (r:=r) (r':=r') fun t ht=>by
  obtain ⟨j,hj,hd⟩:=hs t ht
  exact hr j hj t hd
 obtain ⟨j,hj,hjd⟩:=hd
 refine ⟨v,by rw [e,hr j hj _ hjd]; exact h1,by rw [e]; exact h2.keep hC hn hz,h3⟩
theorem Owes.more {l:List Oper} {m i:Nat} {U:List (List Nat)} {S S':List Gives} {r0:Nat→Value} {w0:World} {H:List Nat} (h:Owes P l m S U r0 w0 H i) (hi:i < S.length):Owes P l m (S++S') U r0 w0 H i:=by
 intro o s ho hs g r w hC hV hO hn hot hd hf
 rw [List.getElem?_append_left hi] at hs
 refine h o s ho hs g r w hC hV (fun j hj d hd' s' hs'=>hO j hj d hd' s' (by rw [List.getElem?_append_left (List.getElem?_eq_some_iff.1 hs').1]; exact hs')) (fun j hj=>?_) hot hd hf
 have:=hn j hj
 refine ⟨fun d hd'=>?_,fun hd' s' hs' hb'=>?_⟩
 ·have h2:=this.1 d hd'
  by_cases hl:j < S.length
  ·rw [List.getElem?_append_left hl] at h2; exact h2
  ·rw [List.getElem?_eq_none (by omega)]; trivial
 ·exact this.2 hd' s' (by rw [List.getElem?_append_left (List.getElem?_eq_some_iff.1 hs').1]; exact hs') hb'
end
inductive dO (A:List Nat):Option (Bool×Nat×Value)→List (Nat×Nat×Value)→Fr→Fr→Prop
 | nil {base:Fr}:dO A none [] base base
 | cons {j d:Nat} {u:Value} {l:List (Nat×Nat×Value)} {base fr:Fr} (h:dO A (some (memB j A,d,u)) l base fr):dO A none ((j,d,u) :: l) base fr
 | keep {d:Nat} {u:Value} {l:List (Nat×Nat×Value)} {base fr:Fr} (h:dO A none l base fr):dO A (some (true,d,u)) l base ((d,u) :: fr)
 | drop {d:Nat} {u:Value} {l:List (Nat×Nat×Value)} {base fr:Fr} (h:dO A none l base fr):dO A (some (false,d,u)) l base fr
theorem FndA.blk {Γ Γ':List Ent} {v:Addr} {o:Bool} {α:Type} {E:STy α} {x:α} {e:Ent} (h:FndA Γ v o E x e Γ') {Z:Nat→Prop} {w:World}:∀ {cur F:List Nat},SA Z w Γ cur F→(v.block∈cur∨v.block∈F)∨Z v.block:=by
 induction h with
 | @ad o1 o2 α E v j x e Γ=>
  intro cur F hS
  obtain ⟨⟨j0,j1,u,g,h1,h2,h3,h4⟩,h5⟩:=hS
  cases o1 with
  | false=>exact .inr h3
  | true=>exact .inl (.inl h3)
 | @there o2 α E v x e a Γ Γ' h ih=>
  intro cur F hS
  cases a with
  | own T v x=>obtain ⟨f,F',rfl,h2,h3⟩:=hS; exact (ih h3).imp (fun h=>.inr (List.mem_append.2 h)) id
  | om e E v xs=>obtain ⟨f,F',rfl,h2,h3⟩:=hS; exact (ih h3).imp (fun h=>.inr (List.mem_append.2 h)) id
  | row b cs e=>obtain ⟨f,F',rfl,h2,h3⟩:=hS; exact (ih h3).imp (fun h=>h.imp id (List.mem_append_right _)) id
  | hol e E v xs j u=>obtain ⟨f,F',rfl,h2,h3⟩:=hS; exact (ih h3).imp (fun h=>.inr (List.mem_append.2 h)) id
  | _=>exact ih hS.2
inductive VQ (P:Program) (Γ:List Ent) (fr:Fr):Op→Value→Prop
 | mv {x:Operand} {v:Value} (hx:opv fr x=some v):VQ P Γ fr (.move x) v
 | as {x:Operand} {v:Value} (hx:opv fr x=some v):VQ P Γ fr (.assign x) v
 | add {x y:Operand} {t t':TypeId} {a b:Int} (hx:opv fr x=some (.int .i64 a)) (hy:opv fr y=some (.int .i64 b)):VQ P Γ fr (.binOp .add t x y t') (.int .i64 (w64 (a+b)))
 | sub {x y:Operand} {t t':TypeId} {a b:Int} (hx:opv fr x=some (.int .i64 a)) (hy:opv fr y=some (.int .i64 b)):VQ P Γ fr (.binOp .sub t x y t') (.int .i64 (w64 (a - b)))
 | lss {x y:Operand} {t t':TypeId} {k:IntKind} {a b:Int} (hx:opv fr x=some (.int k a)) (hy:opv fr y=some (.int k b)):VQ P Γ fr (.binOp .lss t x y t') (.bool (decide (a < b)))
 | eql {x y:Operand} {t t':TypeId} {k:IntKind} {a b:Int} (hx:opv fr x=some (.int k a)) (hy:opv fr y=some (.int k b)):VQ P Γ fr (.binOp .eql t x y t') (.bool (a == b))
 | neq {x y:Operand} {t t':TypeId} {k:IntKind} {a b:Int} (hx:opv fr x=some (.int k a)) (hy:opv fr y=some (.int k b)):VQ P Γ fr (.binOp .neq t x y t') (.bool (a != b))
 | not {x:Operand} {t:TypeId} {b:Bool} (hx:opv fr x=some (.bool b)):VQ P Γ fr (.unOp .not t x) (.bool (!b))
 | nilc {x:Operand} {a:Addr} (hx:opv fr x=some (.pointer (some a))):VQ P Γ fr (.nilCheck x) (.pointer (some a))
 | ext {x:Operand} {k:Nat} {vs:List Value} {v:Value} (hx:opv fr x=some (.tuple vs.toArray)) (hv:vs[k]? = some v):VQ P Γ fr (.extract x k) v
 | fad {s k off:Nat} {x:Operand} {a a':Addr} [hf:FAc P s k off] (hx:opv fr x=some (.pointer (some a))) (ha:AddA a off a'):VQ P Γ fr (.fieldAddr s x k) (.pointer (some a'))
 | len {x:Operand} {v:Value} {t:TypeId} {n:Nat} [ht:SLc P t] (hx:opv fr x=some v) (hr:LenD Γ v n):VQ P Γ fr (.call ⟨.builtin .len,#[x],#[t]⟩) (.int .i64 (n:Int))
 | bld {t:TypeId} {ps:List (Nat×Operand)} {zc cs:List Value} {pl:List (Nat×Nat)} [hb:BuC P t zc pl] (hf:FillD Γ fr pl ps zc cs):VQ P Γ fr (.build t ps.toArray) (.agg cs.toArray)
 | maxi {x y:Operand} {k k':IntKind} {a b:Int} {ats:Array TypeId} (hx:opv fr x=some (.int k a)) (hy:opv fr y=some (.int k' b)):VQ P Γ fr (.call ⟨.builtin .max,#[x,y],ats⟩) (.int k (if b > a then b else a))
 | mini {x y:Operand} {k k':IntKind} {a b:Int} {ats:Array TypeId} (hx:opv fr x=some (.int k a)) (hy:opv fr y=some (.int k' b)):VQ P Γ fr (.call ⟨.builtin .min,#[x,y],ats⟩) (.int k (if b < a then b else a))
 | cvb {x:Operand} {k k2:IntKind} {n:Int} {s t:TypeId} [ht:ICc P s t k2] (hx:opv fr x=some (.int k n)):VQ P Γ fr (.convert s t x) (.int k2 (k2.wrap n))
 | mul {x y:Operand} {t t':TypeId} {a b:Int} (hx:opv fr x=some (.int .i64 a)) (hy:opv fr y=some (.int .i64 b)):VQ P Γ fr (.binOp .mul t x y t') (.int .i64 (w64 (a * b)))
 | gtr {x y:Operand} {t t':TypeId} {k:IntKind} {a b:Int} (hx:opv fr x=some (.int k a)) (hy:opv fr y=some (.int k b)):VQ P Γ fr (.binOp .gtr t x y t') (.bool (decide (a > b)))
 | geq {x y:Operand} {t t':TypeId} {k:IntKind} {a b:Int} (hx:opv fr x=some (.int k a)) (hy:opv fr y=some (.int k b)):VQ P Γ fr (.binOp .geq t x y t') (.bool (decide (a ≥ b)))
 | leq {x y:Operand} {t t':TypeId} {k:IntKind} {a b:Int} (hx:opv fr x=some (.int k a)) (hy:opv fr y=some (.int k b)):VQ P Γ fr (.binOp .leq t x y t') (.bool (decide (a≤b)))
 | fld {s k off:Nat} {x:Operand} {cs:List Value} {v:Value} [hf:FLc P s k off] (hx:opv fr x=some (.agg cs.toArray)) (hc:cs[off]? = some v):VQ P Γ fr (.field s x k) v
theorem VQ.sound {P:Program} {Γ:List Ent} {fr:Fr} {op:Op} {u:Value} (h:VQ P Γ fr op u) {Z:Nat→Prop} {w:World} {cur F:List Nat} (hS:SA Z w Γ cur F) {r:Nat→Value} (ha:agr r fr) (d:Option Nat) (ty:TypeId) (pos:String) (aft:Array Edge) (g:Option (Nat×Bool)) :
  Rd P w r ⟨d,op,ty,pos,aft,g⟩ u:=by
 cases h with
 | mv hx=>exact Mv _ (aT ha hx)
 | as hx=>exact Av _ (aT ha hx)
 | add hx hy=>exact Ba (aT ha hx) (aT ha hy)
 | sub hx hy=>exact Go.Li.Bs (aT ha hx) (aT ha hy)
 | lss hx hy=>exact Bl (aT ha hx) (aT ha hy)
 | eql hx hy=>exact Be (aT ha hx) (aT ha hy)
 | neq hx hy=>exact Bn (aT ha hx) (aT ha hy)
 | not hx=>exact Nt (aT ha hx)
 | nilc hx=>exact Nk (aT ha hx)
 | ext hx hv=>exact Ex _ (aT ha hx) (by simpa using hv)
 | @fad s k off x a a' hf hx hq=>rw [hq.eq]; exact Fp hf.h (aT ha hx)
 | maxi hx hy=>exact fun _ _=>op_max (aT ha hx) (aT ha hy)
 | mini hx hy=>exact fun _ _=>op_min (aT ha hx) (aT ha hy)
 | @cvb x k k2 n s t ht hx=>exact fun _ _=>op_conv ht.h.1 ht.h.2 (aT ha hx)
 | mul hx hy=>exact Bm (aT ha hx) (aT ha hy)
 | gtr hx hy=>exact Bg (aT ha hx) (aT ha hy)
 | geq hx hy=>exact Bh (aT ha hx) (aT ha hy)
 | leq hx hy=>exact Go.Li.Bk (aT ha hx) (aT ha hy)
 | @fld s k off x cs v hf hx hc=>
  obtain ⟨fs,f,ds,h1,h2,h3,h4,h5⟩:=hf.h
  exact fun _ _=>op_field h1 h2 h3 h4 h5 (aT ha hx) (by simpa using hc)
 | @len x v t n ht hx hr=>
  obtain ⟨b,c,rfl⟩:=hr.sound hS
  obtain ⟨e,i,h1,_,_⟩:=ht.h
  exact fun _ _=>op_len h1 (aT ha hx)
 | @bld t ps zc cs pl hb hf=>
  obtain ⟨fs,i,z,h1,h2,h3,h4,h5⟩:=hb.h
  refine Bu ?_
  have:=hf.fill ha hS
  unfold Program.built
  rw [h3,h1]
  simp only [h4,h2]
  rw [show z.cells=zc.toArray by rw [← h5]]
  exact this
theorem dO.sound {A:List Nat} {q:Option (Bool×Nat×Value)} {sl:List (Nat×Nat×Value)} {base fr:Fr} {r:Nat→Value} (h:dO A q sl base fr) (hb:agr r base) :
  (∀ p∈sl,memB p.1 A=true→r p.2.1=p.2.2)→(∀ b d u,q=some (b,d,u)→b=true→r d=u)→agr r fr:=by
 induction h with
 | nil=>intro _ _; exact hb
 | @cons j d u l base fr _ ih=>
  intro h1 _
  refine ih hb (fun p hp=>h1 p (by simp [hp])) ?_
  rintro b d' u' he hbt
  cases he
  exact h1 (j,d,u) (by simp) hbt
 | @keep d u l base fr _ ih=>
  intro h1 h2
  intro s v hl
  unfold look at hl
  cases hb2:Nat.beq s d with
  | true=>rw [hb2] at hl; cases hl; rw [Nat.eq_of_beq_eq_true hb2]; exact h2 true d _ rfl rfl
  | false=>rw [hb2] at hl; exact ih hb h1 (fun _ _ _ h=>nomatch h) s v hl
 | drop _ ih=>intro h1 _; exact ih hb h1 (fun _ _ _ h=>nomatch h)
def allF:List (Nat×Nat×Value)→Fr→Fr
 | [],f=>f
 | (_,d,u) :: l,f=>(d,u) :: allF l f
inductive CallD (P:Program) (f:FuncId) (xs:List Operand) (fr:Fr) (Γ:List Ent) {β V:Type} (mo:Option β) (rt:β→V→List Value) (ps:β→V→List Ent):Prop
 | mk {vs:List Value} {Δ:List Ent} (hx:opvs fr xs=some vs) (hc:Ct P f true mo vs Δ rt ps) (hd:FO Δ) (hr:ER true Γ Δ):CallD P f xs fr Γ mo rt ps
inductive CallR {β V:Type} (P:Program) (f:FuncId) (xs:List Operand) (fr:Fr) (Γ:List Ent) (mo:Option β) (rt:β→V→List Value) (ps:β→V→List Ent):Prop
 | mk {vs:List Value} {Δ:List Ent} (hx:opvs fr xs=some vs) (hc:Ct P f false mo vs Δ rt ps) (hd:FO Δ) (hr:ER false Γ Δ):CallR P f xs fr Γ mo rt ps
inductive CallHR {β V:Type} (P:Program) (f:FuncId) (xs:List Operand) (fr:Fr) (hd Γ:List Ent) (mo:Option β) (rt:β→V→List Value) (ps:β→V→List Ent):Prop
 | mk {vs:List Value} {Δ Γ':List Ent} (hx:opvs fr xs=some vs) (hc:Ct P f false mo vs Δ rt ps) (ho:EO hd Δ Γ') (hr:ER false (Γ'++Γ) Δ):CallHR P f xs fr hd Γ mo rt ps
inductive CallH (P:Program) (f:FuncId) (xs:List Operand) (fr:Fr) (hd:List Ent) (Γ:List Ent) {β V:Type} (mo:Option β) (rt:β→V→List Value) (ps:β→V→List Ent):Prop
 | mk {vs:List Value} {Δ Γ':List Ent} (hx:opvs fr xs=some vs) (hc:Ct P f true mo vs Δ rt ps) (ho:EO hd Δ Γ') (hr:ER true Γ Δ):CallH P f xs fr hd Γ mo rt ps
inductive InhX:List MemD→Prop
 | nil:InhX []
 | cons {a:MemD} {l:List MemD} (h:Inh a.V) (k:InhX l):InhX (a :: l)
theorem InhX.ne {ms:List MemD} (h:InhX ms):Nonempty (Xof ms):=by
 induction h with
 | nil=>exact ⟨()⟩
 | cons h _ ih=>obtain ⟨a⟩:=h.ne; obtain ⟨b⟩:=ih; exact ⟨(a,b)⟩
inductive WhD:List MemD→Nat→Bool→Prop
 | here {a:MemD} {l:List MemD}:WhD (a :: l) a.d true
 | there {a:MemD} {l:List MemD} {t:Nat} {b:Bool} (h:WhD l t b):WhD (a :: l) t b
 | nil {t:Nat}:WhD [] t false
inductive FldD (fr:Fr) (t off:Nat):Prop
 | mk {cs:List Value} {v:Value} (h:look fr t=some (.agg cs.toArray)) (hc:cs[off]? = some v):FldD fr t off
inductive TupD (fr:Fr) (t k:Nat):Prop
 | mk {cs:List Value} {v:Value} (h:look fr t=some (.tuple cs.toArray)) (hc:cs[k]? = some v):TupD fr t k
inductive OneD (fr:Fr) (Γ:List Ent) (t:Nat):Prop
 | mk {v:Value} (h:look fr t=some v) (hc:One Γ v):OneD fr Γ t
inductive LnD (fr:Fr) (Γ:List Ent) (t n:Nat):Prop
 | mk {v:Value} (h:look fr t=some v) (hc:LenD Γ v n):LnD fr Γ t n
inductive JA (R S:Type):Type 1
 | a (as:List (List Nat)) (ops:List Oper) (i:Nat) (sl:List (Nat×Nat×Value)) (ms:List MemD) (Γ:List Ent) (m:Option (Out S R))
 | o (A:List Nat) (op:Op) (d:Nat) (ty:TypeId) (as:List (List Nat)) (ops:List Oper) (i:Nat) (sl:List (Nat×Nat×Value)) (ms:List MemD) (Γ:List Ent) (m:Option (Out S R))
 | ow (b:Bool) (A:List Nat) (op:Op) (d:Nat) (ty:TypeId) (as:List (List Nat)) (ops:List Oper) (i:Nat) (sl:List (Nat×Nat×Value)) (ms:List MemD) (Γ:List Ent) (m:Option (Out S R))
 | ix (b:Bool) (v:Value) (fr:Fr) (x y:Operand) (t:TypeId) (A:List Nat) (d:Nat) (ty:TypeId) (as:List (List Nat)) (ops:List Oper) (i:Nat) (sl:List (Nat×Nat×Value)) (ms:List MemD) (Γ:List Ent) (m:Option (Out S R))
 | lb (b:Bool) (v:Value) (j:Int) (fr:Fr) (t:TypeId) (x:Operand) (A:List Nat) (d:Nat) (ty:TypeId) (as:List (List Nat)) (ops:List Oper) (i:Nat) (sl:List (Nat×Nat×Value)) (ms:List MemD) (Γ:List Ent) (m:Option (Out S R))
 | ap (us:List Nat) (t1 t2:Nat) (t:TypeId) (A:List Nat) (d:Nat) (ty:TypeId) (as:List (List Nat)) (ops:List Oper) (i:Nat) (sl:List (Nat×Nat×Value)) (ms:List MemD) (Γ:List Ent) (m:Option (Out S R))
 | la (fr:Fr) (ad:Addr) (lk:Option Nat) (t:TypeId) (x:Operand) (A:List Nat) (d:Nat) (ty:TypeId) (as:List (List Nat)) (ops:List Oper) (i:Nat) (sl:List (Nat×Nat×Value)) (ms:List MemD) (Γ:List Ent) (m:Option (Out S R))
 | ld {α:Type} (E:STy α) (z:α) (fr:Fr) (ad:Addr) (t:TypeId) (x:Operand) (A:List Nat) (d:Nat) (ty:TypeId) (as:List (List Nat)) (ops:List Oper) (i:Nat) (sl:List (Nat×Nat×Value)) (ms:List MemD) (Γ:List Ent) (m:Option (Out S R))
 | oc (us:List Nat) (f:FuncId) (xs:List Operand) (ats:Array TypeId) (A:List Nat) (d:Nat) (ty:TypeId) (as:List (List Nat)) (ops:List Oper) (i:Nat) (sl:List (Nat×Nat×Value)) (ms:List MemD) (Γ:List Ent) (m:Option (Out S R))
 | os (A:List Nat) (op:Op) (ty:TypeId) (as:List (List Nat)) (ops:List Oper) (i:Nat) (sl:List (Nat×Nat×Value)) (ms:List MemD) (Γ:List Ent) (m:Option (Out S R))
 | cr {V:Type} (u:V→Value) (ps:V→List Ent) (d:Nat) (as:List (List Nat)) (ops:List Oper) (i:Nat) (sl:List (Nat×Nat×Value)) (ms:List MemD) (Γ:List Ent) (m:Option (Out S R))
 | p (Δ:List Ent) (as:List (List Nat)) (ops:List Oper) (i:Nat) (sl:List (Nat×Nat×Value)) (ms:List MemD) (Γ:List Ent) (m:Option (Out S R))
inductive WhE:List Ent→Value→Bool→Prop
 | here {α:Type} {T:STy α} {v:Value} {x:α} {Γ:List Ent}:WhE (.own T v x :: Γ) v true
 | there {e:Ent} {v:Value} {b:Bool} {Γ:List Ent} (h:WhE Γ v b):WhE (e :: Γ) v b
 | nil {v:Value}:WhE [] v false
inductive GetD:List MemD→Nat→MemD→List MemD→Prop
 | here {a:MemD} {l:List MemD}:GetD (a :: l) a.d a l
 | there {a b:MemD} {l l':List MemD} {t:Nat} (h:GetD l t a l'):GetD (b :: l) t a (b :: l')
inductive GetJ:List MemD→Nat→MemD→List MemD→Prop
 | here {a:MemD} {l:List MemD}:GetJ (a :: l) a.j a l
 | there {a b:MemD} {l l':List MemD} {t:Nat} (h:GetJ l t a l'):GetJ (b :: l) t a (b :: l')
def reSl (j i:Nat) (sl:List (Nat×Nat×Value)):List (Nat×Nat×Value):=sl.map fun p=>bif Nat.beq p.1 j then (i,p.2) else p
def endB (U:List (List Nat)) (_sl:List (Nat×Nat×Value)) (ms:List MemD):Bool:=U.all fun us=>us.all fun j=>ms.all fun a=>!Nat.beq a.j j
inductive AD {R S:Type} (tq:Bool) (P:Program) (cx:Cx R) (K:Kont R S) (l tail:List Oper) (base:Fr) (U:List (List Nat)):List Ent→JA R S→Prop
 | nil {hd:List Ent} {i:Nat} {sl:List (Nat×Nat×Value)} {ms:List MemD} {Γ:List Ent} {m:Option (Out S R)} (hsrc:srcA ms=true) (he:endB U sl ms=true) (h:∀ x:Xof ms,D P cx (.p (allF sl (mF ms x)) (allE ms x) base Γ fun fr Γ=>.tg tq (hasG tail) l tail K Γ fr m)):AD tq P cx K l tail base U hd (.a [] [] i sl ms Γ m)
 | cons {hd:List Ent} {A:List Nat} {as:List (List Nat)} {op:Op} {d:Nat} {ty:TypeId} {pos:String} {aft:Array Edge} {ops:List Oper} {i:Nat} {sl:List (Nat×Nat×Value)} {ms:List MemD} {Γ:List Ent} {m:Option (Out S R)} (h:AD tq P cx K l tail base U hd (.o A op d ty as ops i sl ms Γ m)) :
   AD tq P cx K l tail base U hd (.a (A :: as) (⟨some d,op,ty,pos,aft,none⟩ :: ops) i sl ms Γ m)
 | consN {hd:List Ent} {A:List Nat} {as:List (List Nat)} {op:Op} {ty:TypeId} {pos:String} {aft:Array Edge} {ops:List Oper} {i:Nat} {sl:List (Nat×Nat×Value)} {ms:List MemD} {Γ:List Ent} {m:Option (Out S R)} (h:AD tq P cx K l tail base U hd (.os A op ty as ops i sl ms Γ m)) :
   AD tq P cx K l tail base U hd (.a (A :: as) (⟨none,op,ty,pos,aft,none⟩ :: ops) i sl ms Γ m)
 | sto {hd:List Ent} {t e:TypeId} {t1 j1 n:Nat} {y:Operand} {u:Value} {us cs ds:List Value} {ms1:List MemD} {fr:Fr} {A:List Nat} {as:List (List Nat)} {ty:TypeId} {ops:List Oper} {i:Nat} {sl:List (Nat×Nat×Value)} {ms:List MemD} {Γ:List Ent} {m:Option (Out S R)} [ht:STo P t n]
   (h1:GetD ms t1 ⟨j1,t1,[],Nat,fun _ b=>.pointer (some ⟨b,0,none⟩),fun _ b=>[.row b cs e]⟩ ms1) (hv:dO A none sl base fr) (hy:opv fr y=some u) (hc:CellsD Γ u us) (hn:us.length=n) (hs:SegD us 0 cs ds) (ho:Ones Γ us) (h4:memB j1 A=true) (h6:U.getD i []=[j1])
   (h:AD tq P cx K l tail base U hd (.a as ops (i+1) sl (⟨i,t1,[],Nat,fun _ b=>.pointer (some ⟨b,0,none⟩),fun _ b=>[.row b ds e]⟩ :: ms1) Γ m)):AD tq P cx K l tail base U hd (.os A (.store t (.tmp t1) y) ty as ops i sl ms Γ m)
 | lit0 {hd:List Ent} {α:Type} {A:List Nat} {as:List (List Nat)} {d:Nat} {t e ty:TypeId} {E:STy α} {z0:α} {bt:Nat} {ops:List Oper} {i:Nat} {sl:List (Nat×Nat×Value)} {ms:List MemD} {Γ:List Ent} {m:Option (Out S R)} [hz:STc P t α e E z0 bt]
   (h:AD tq P cx K l tail base U hd (.a as ops (i+1) sl (⟨i,d,[],Value,fun _ v=>v,fun _ v=>[.own (aJ e E) v []]⟩ :: ms) Γ m)):AD tq P cx K l tail base U hd (.o A (.buildSlice t 0 #[]) d ty as ops i sl ms Γ m)
 | sw4 {hd:List Ent} {t st e:Nat} {α:Type} {E:STy α} {z0:α} {bt:Nat} {b:Bool} {A:List Nat} {as:List (List Nat)} {d:Nat} {ty:TypeId} {ops:List Oper} {i:Nat} {sl:List (Nat×Nat×Value)} {ms:List MemD} {Γ:List Ent} {m:Option (Out S R)} [hz:STc P st α e E z0 bt] (hw:WhD ms t b) (h:AD tq P cx K l tail base U hd (.ow b A (.buildSlice st 1 #[(0,.tmp t)]) d ty as ops i sl ms Γ m)):AD tq P cx K l tail base U hd (.o A (.buildSlice st 1 #[(0,.tmp t)]) d ty as ops i sl ms Γ m)
 | ltn {hd:List Ent} {t e:TypeId} {n:Nat} {ps:List (Nat×Operand)} {us:List Value} {fr:Fr} {A:List Nat} {as:List (List Nat)} {d:Nat} {ty:TypeId} {ops:List Oper} {i:Nat} {sl:List (Nat×Nat×Value)} {ms:List MemD} {Γ:List Ent} {m:Option (Out S R)} [hz:LTc P t e] (hv:dO A none sl base fr) (hl:LitD Γ fr 0 ps us) (hn:us.length=n) (hb:(Nat.ble 1 n && Nat.ble n 16777216)=true)
   (h:AD tq P cx K l tail base U hd (.a as ops (i+1) sl (⟨i,d,[],Nat,fun _ b=>.slice (some ⟨b,0,none⟩) n n,fun _ b=>[.row b us e]⟩ :: ms) Γ m)):AD tq P cx K l tail base U hd (.o A (.buildSlice t n ps.toArray) d ty as ops i sl ms Γ m)
 | ltu {hd:List Ent} {t e:TypeId} {n:Nat} {ps:List (Nat×Operand)} {us:List Value} {fr:Fr} {A:List Nat} {as:List (List Nat)} {d:Nat} {ty:TypeId} {ops:List Oper} {i:Nat} {sl:List (Nat×Nat×Value)} {ms:List MemD} {Γ:List Ent} {m:Option (Out S R)} [hz:LUc P t e] (hv:dO A none sl base fr) (hl:LitD Γ fr 0 ps us) (hn:us.length=n) (hb:(Nat.ble 1 n && Nat.ble n 16777216)=true)
   (h:AD tq P cx K l tail base U hd (.a as ops (i+1) sl (⟨i,d,[],Nat,fun _ b=>.slice (some ⟨b,0,none⟩) n n,fun _ b=>[.row b us e]⟩ :: ms) Γ m)):AD tq P cx K l tail base U hd (.o A (.buildSlice t n ps.toArray) d ty as ops i sl ms Γ m)
 | sw1 {hd:List Ent} {t:Nat} {b:Bool} {A:List Nat} {as:List (List Nat)} {d:Nat} {ty:TypeId} {ops:List Oper} {i:Nat} {sl:List (Nat×Nat×Value)} {ms:List MemD} {Γ:List Ent} {m:Option (Out S R)} (hw:WhD ms t b) (h:AD tq P cx K l tail base U hd (.ow b A (.move (.tmp t)) d ty as ops i sl ms Γ m)):AD tq P cx K l tail base U hd (.o A (.move (.tmp t)) d ty as ops i sl ms Γ m)
 | sw2 {hd:List Ent} {t k:Nat} {b:Bool} {A:List Nat} {as:List (List Nat)} {d:Nat} {ty:TypeId} {ops:List Oper} {i:Nat} {sl:List (Nat×Nat×Value)} {ms:List MemD} {Γ:List Ent} {m:Option (Out S R)} (hw:WhD ms t b) (h:AD tq P cx K l tail base U hd (.ow b A (.extract (.tmp t) k) d ty as ops i sl ms Γ m)):AD tq P cx K l tail base U hd (.o A (.extract (.tmp t) k) d ty as ops i sl ms Γ m)
 | sw3 {hd:List Ent} {s t k:Nat} {b:Bool} {A:List Nat} {as:List (List Nat)} {d:Nat} {ty:TypeId} {ops:List Oper} {i:Nat} {sl:List (Nat×Nat×Value)} {ms:List MemD} {Γ:List Ent} {m:Option (Out S R)} (hw:WhD ms t b) (h:AD tq P cx K l tail base U hd (.ow b A (.field s (.tmp t) k) d ty as ops i sl ms Γ m)):AD tq P cx K l tail base U hd (.o A (.field s (.tmp t) k) d ty as ops i sl ms Γ m)
 | sw6 {hd:List Ent} {t:Nat} {it:TypeId} {b:Bool} {A:List Nat} {as:List (List Nat)} {d:Nat} {ty:TypeId} {ops:List Oper} {i:Nat} {sl:List (Nat×Nat×Value)} {ms:List MemD} {Γ:List Ent} {m:Option (Out S R)} (hw:WhD ms t b) (h:AD tq P cx K l tail base U hd (.ow b A (.makeInterface it (.tmp t)) d ty as ops i sl ms Γ m)):AD tq P cx K l tail base U hd (.o A (.makeInterface it (.tmp t)) d ty as ops i sl ms Γ m)
 | wlt {hd:List Ent} {t e:TypeId} {α:Type} {E:STy α} {z0:α} {bt:Nat} {u:Value} {x:Operand} {fr:Fr} {A:List Nat} {as:List (List Nat)} {d:Nat} {ty:TypeId} {ops:List Oper} {i:Nat} {sl:List (Nat×Nat×Value)} {ms:List MemD} {Γ:List Ent} {m:Option (Out S R)} [hz:STc P t α e E z0 bt] (hv:dO A none sl base fr) (hx:opv fr x=some u) (h1:One Γ u)
   (h:AD tq P cx K l tail base U hd (.a as ops (i+1) sl (⟨i,d,[],Nat,fun _ b=>.slice (some ⟨b,0,none⟩) 1 1,fun _ b=>[.row b [u] e]⟩ :: ms) Γ m)):AD tq P cx K l tail base U hd (.ow false A (.buildSlice t 1 #[(0,x)]) d ty as ops i sl ms Γ m)
 | sw5 {hd:List Ent} {t st:Nat} {b:Bool} {A:List Nat} {as:List (List Nat)} {d:Nat} {ty:TypeId} {ops:List Oper} {i:Nat} {sl:List (Nat×Nat×Value)} {ms:List MemD} {Γ:List Ent} {m:Option (Out S R)} (hw:WhD ms t b) (h:AD tq P cx K l tail base U hd (.ow b A (.call ⟨.builtin .len,#[.tmp t],#[st]⟩) d ty as ops i sl ms Γ m)):AD tq P cx K l tail base U hd (.o A (.call ⟨.builtin .len,#[.tmp t],#[st]⟩) d ty as ops i sl ms Γ m)
 | mln {hd:List Ent} {t n:Nat} {st:TypeId} {A:List Nat} {as:List (List Nat)} {d:Nat} {ty:TypeId} {ops:List Oper} {i:Nat} {sl:List (Nat×Nat×Value)} {ms:List MemD} {Γ:List Ent} {m:Option (Out S R)} [ht:SLc P st] (hi:InhX ms) (hsrc:srcB A ms=true) (hx:∀ x:Xof ms,LnD (visF A ms x) (visE A ms x) t n) (h:AD tq P cx K l tail base U hd (.a as ops (i+1) ((i,d,.int .i64 (n:Int)) :: sl) ms Γ m)):AD tq P cx K l tail base U hd (.ow true A (.call ⟨.builtin .len,#[.tmp t],#[st]⟩) d ty as ops i sl ms Γ m)
 | alc {hd:List Ent} {t:TypeId} {cs:List Value} {A:List Nat} {as:List (List Nat)} {d:Nat} {ty:TypeId} {ops:List Oper} {i:Nat} {sl:List (Nat×Nat×Value)} {ms:List MemD} {Γ:List Ent} {m:Option (Out S R)} [hz:ZVc P t cs] (h:AD tq P cx K l tail base U hd (.a as ops (i+1) sl (⟨i,d,[],Nat,fun _ b=>.pointer (some ⟨b,0,none⟩),fun _ b=>[.row b cs t]⟩ :: ms) Γ m)):AD tq P cx K l tail base U hd (.o A (.alloc t) d ty as ops i sl ms Γ m)
 | wl0 {hd:List Ent} {st:TypeId} {c:Value} {A:List Nat} {as:List (List Nat)} {d:Nat} {ty:TypeId} {ops:List Oper} {i:Nat} {sl:List (Nat×Nat×Value)} {ms:List MemD} {Γ:List Ent} {m:Option (Out S R)} (h:AD tq P cx K l tail base U hd (.ow false A (.buildSlice st 1 #[(0,.const c)]) d ty as ops i sl ms Γ m)):AD tq P cx K l tail base U hd (.o A (.buildSlice st 1 #[(0,.const c)]) d ty as ops i sl ms Γ m)
 | aps {hd:List Ent} {us:List Nat} {t1 t2:Nat} {t:TypeId} {A:List Nat} {as:List (List Nat)} {d:Nat} {ty:TypeId} {ops:List Oper} {i:Nat} {sl:List (Nat×Nat×Value)} {ms:List MemD} {Γ:List Ent} {m:Option (Out S R)} (hU:U.getD i []=us) (h:AD tq P cx K l tail base U hd (.ap us t1 t2 t A d ty as ops i sl ms Γ m)):AD tq P cx K l tail base U hd (.o A (.call ⟨.builtin .append,#[.tmp t1,.tmp t2],#[t,t]⟩) d ty as ops i sl ms Γ m)
 | apH {hd hd':List Ent} {α:Type} {t e e' et:TypeId} {E E':STy α} {z0:α} {bt t1 t2 j2:Nat} {v u yv:Value} {j:Int} {y:α} {z:List α} {xs:List (List α)} {o1 o2:Bool} {Γx:List Ent} {ms2:List MemD} {fr:Fr} {f:Unit→Option (Out S R)} {A:List Nat} {as:List (List Nat)} {d:Nat} {ty:TypeId} {ops:List Oper} {i:Nat} {sl:List (Nat×Nat×Value)} {ms:List MemD} {Γ:List Ent} [hT:STc P t α e E z0 bt]
   (hV:((U.set i []).all fun us=>!(us.contains l.length))=true) (hv:dO A none sl base fr) (hs:look fr t1=some u) (h2:GetD ms t2 ⟨j2,t2,[],Nat,fun _ b=>.slice (some ⟨b,0,none⟩) 1 1,fun _ b=>[.row b [yv] et]⟩ ms2) (h5:memB j2 A=true) (hl:Loc hd u (.row v j)) (hz:Fnd hd u o1 o2 E' z noE Γx) (h1:Sel hd (.own (aJ e' (aJ e E)) v xs) hd') (hr:RT (aJ e E) (aB E')) (hy:TkE [] E yv y [])
   (h:AD tq P cx K l tail base U hd' (.a as ops (i+1) sl (⟨i,d,[],Value,fun _ v'=>v',fun _ v'=>[.own (aJ e E) v' (z++[y]),.own (sHole e' (aJ e E) j.toNat) v xs]⟩ :: ms) Γ (f ()))):AD tq P cx K l tail base U hd (.ap [l.length] t1 t2 t A d ty as ops i sl ms Γ (fits bt (z.length+1)>>=f))
 | apL {hd hd':List Ent} {t e e' e3 et:TypeId} {kk:IntKind} {E':STy (List Int)} {z0:List Int} {bt t1 t2 t3 j2 j3 n:Nat} {v u:Value} {us:List Value} {j:Int} {ys:List Int} {z:List (List Int)} {xs:List (List (List Int))} {o1 o2:Bool} {Γx:List Ent} {ms2 ms3:List MemD} {fr:Fr} {f:Unit→Option (Out S R)} {A:List Nat} {as:List (List Nat)} {d:Nat} {ty:TypeId} {ops:List Oper} {i:Nat} {sl:List (Nat×Nat×Value)} {ms:List MemD} {Γ:List Ent} [hT:STc P t (List Int) e (aJ e3 (aC kk)) z0 bt]
   (hV:((U.set i []).all fun us=>!(us.contains l.length))=true) (hv:dO A none sl base fr) (hs:look fr t1=some u) (h2:GetD ms t2 ⟨j2,t2,[t3],Nat,fun _ b=>.slice (some ⟨b,0,none⟩) 1 1,fun u b=>[.row b [u] et]⟩ ms2) (h3:GetD ms2 t3 ⟨j3,t3,[],Nat,fun _ b=>.slice (some ⟨b,0,none⟩) n n,fun _ b=>[.row b us e3]⟩ ms3) (h5:memB j2 A=true) (h6:memB j3 A=true) (hl:Loc hd u (.row v j)) (hz:Fnd hd u o1 o2 E' z noE Γx) (h1:Sel hd (.own (aJ e' (aJ e (aJ e3 (aC kk)))) v xs) hd') (hr:RT (aJ e (aJ e3 (aC kk))) (aB E')) (hi:LiI kk us ys) (hn:us.length=n) (hb:Nat.ble n 16777216=true)
   (h:AD tq P cx K l tail base U hd' (.a as ops (i+1) sl (⟨i,d,[],Value,fun _ v'=>v',fun _ v'=>[.own (aJ e (aJ e3 (aC kk))) v' (z++[ys]),.own (sHole e' (aJ e (aJ e3 (aC kk))) j.toNat) v xs]⟩ :: ms3) Γ (f ()))):AD tq P cx K l tail base U hd (.ap [l.length,j3] t1 t2 t A d ty as ops i sl ms Γ (fits bt (z.length+1)>>=f))
 | apM {hd:List Ent} {t e e3 et:TypeId} {kk:IntKind} {z0:List Int} {bt t1 t2 t3 j1 j2 j3 n:Nat} {us:List Value} {ys:List Int} {z:List (List Int)} {a1:MemD} {ms1 ms2 ms3:List MemD} {f:Unit→Option (Out S R)} {A:List Nat} {as:List (List Nat)} {d:Nat} {ty:TypeId} {ops:List Oper} {i:Nat} {sl:List (Nat×Nat×Value)} {ms:List MemD} {Γ:List Ent} [hT:STc P t (List Int) e (aJ e3 (aC kk)) z0 bt]
   (h1:GetD ms t1 a1 ms1) (h2:GetD ms1 t2 ⟨j2,t2,[t3],Nat,fun _ b=>.slice (some ⟨b,0,none⟩) 1 1,fun u b=>[.row b [u] et]⟩ ms2) (h3:GetD ms2 t3 ⟨j3,t3,[],Nat,fun _ b=>.slice (some ⟨b,0,none⟩) n n,fun _ b=>[.row b us e3]⟩ ms3) (hp:∀ u v,a1.ps u v=[.own (aJ e (aJ e3 (aC kk))) (a1.rt u v) z]) (hj:a1.j=j1) (hne:Nat.beq j1 j3=false) (h4:memB j1 A=true) (h5:memB j2 A=true) (h6:memB j3 A=true) (hi:LiI kk us ys) (hn:us.length=n) (hb:Nat.ble n 16777216=true)
   (h:AD tq P cx K l tail base U hd (.a as ops (i+1) sl (⟨i,d,[],Value,fun _ v'=>v',fun _ v'=>[.own (aJ e (aJ e3 (aC kk))) v' (z++[ys])]⟩ :: ms3) Γ (f ()))):AD tq P cx K l tail base U hd (.ap [j1,j3] t1 t2 t A d ty as ops i sl ms Γ (fits bt (z.length+1)>>=f))
 | ap1 {hd:List Ent} {us:List Nat} {t e et:TypeId} {E:STy Int} {z0:Int} {bt t1 t2 j2 d2:Nat} {k:IntKind} {y:Int} {xs:List Int} {a1:MemD} {ms1 ms2:List MemD} {f:Unit→Option (Out S R)} {A:List Nat} {as:List (List Nat)} {d:Nat} {ty:TypeId} {ops:List Oper} {i:Nat} {sl:List (Nat×Nat×Value)} {ms:List MemD} {Γ:List Ent} [hz:STc P t Int e E z0 bt] (h1:GetD ms t1 a1 ms1) (h2:GetD ms1 t2 ⟨j2,d2,[],Nat,fun _ b=>.slice (some ⟨b,0,none⟩) 1 1,fun _ b=>[.row b [.int k y] et]⟩ ms2) (h3:∀ u v,a1.ps u v=[.own (aJ e (aC k)) (a1.rt u v) xs]) (hu:us=[a1.j]) (h4:memB a1.j A=true) (h5:memB j2 A=true)
   (h:AD tq P cx K l tail base U hd (.a as ops (i+1) sl (⟨i,d,[],Value,fun _ v=>v,fun _ v=>[.own (aJ e (aC k)) v (xs++[y])]⟩ :: ms1) Γ (f ()))):AD tq P cx K l tail base U hd (.ap us t1 t2 t A d ty as ops i sl ms Γ (fits bt (xs.length+1)>>=f))
 | wv {hd:List Ent} {op:Op} {u:Value} {fr:Fr} {A:List Nat} {as:List (List Nat)} {d:Nat} {ty:TypeId} {ops:List Oper} {i:Nat} {sl:List (Nat×Nat×Value)} {ms:List MemD} {Γ:List Ent} {m:Option (Out S R)} (hv:dO A none sl base fr) (hq:VQ P Γ fr op u) (h:AD tq P cx K l tail base U hd (.a as ops (i+1) ((i,d,u) :: sl) ms Γ m)):AD tq P cx K l tail base U hd (.ow false A op d ty as ops i sl ms Γ m)
 | mmv {hd:List Ent} {t:Nat} {A:List Nat} {as:List (List Nat)} {d:Nat} {ty:TypeId} {ops:List Oper} {i:Nat} {sl:List (Nat×Nat×Value)} {ms:List MemD} {Γ:List Ent} {m:Option (Out S R)} (hi:InhX ms) (hsrc:srcB A ms=true) (hj:∃ j,fstJ t ms=some j∧memB j A=true) (h:AD tq P cx K l tail base U hd (.a as ops (i+1) sl (⟨i,d,[t],Unit,fun u _=>u,fun _ _=>[]⟩ :: ms) Γ m)):AD tq P cx K l tail base U hd (.ow true A (.move (.tmp t)) d ty as ops i sl ms Γ m)
 | mbl {hd:List Ent} {t:TypeId} {ps:List (Nat×Operand)} {zc:List Value} {pl:List (Nat×Nat)} {fr:Fr} {A:List Nat} {as:List (List Nat)} {d:Nat} {ty:TypeId} {ops:List Oper} {i:Nat} {sl:List (Nat×Nat×Value)} {ms:List MemD} {Γ:List Ent} {m:Option (Out S R)} [hb:BuC P t zc pl] (hi:InhX ms) (hsrc:srcB A ms=true) (hne:(tsOf ms ps).isEmpty=false) (hj:tsB A ms (tsOf ms ps)=true) (hv:dO A none sl base fr)
   (hx:∀ x:Xof ms,FillD (visE A ms x++Γ) (visF A ms x++fr) pl ps zc (bldL pl fr (tsOf ms ps) ps zc (srcT (lookD (mF ms x)) (tsOf ms ps))))
   (h:AD tq P cx K l tail base U hd (.a as ops (i+1) sl (⟨i,d,tsOf ms ps,Unit,fun u _=>.agg (bldL pl fr (tsOf ms ps) ps zc u).toArray,fun _ _=>[]⟩ :: ms) Γ m)):AD tq P cx K l tail base U hd (.o A (.build t ps.toArray) d ty as ops i sl ms Γ m)
 | mex {hd:List Ent} {t k:Nat} {A:List Nat} {as:List (List Nat)} {d:Nat} {ty:TypeId} {ops:List Oper} {i:Nat} {sl:List (Nat×Nat×Value)} {ms:List MemD} {Γ:List Ent} {m:Option (Out S R)} (hi:InhX ms) (hsrc:srcB A ms=true) (hj:∃ j,fstJ t ms=some j∧memB j A=true) (hx:∀ x:Xof ms,TupD (visF A ms x) t k) (h:AD tq P cx K l tail base U hd (.a as ops (i+1) sl (⟨i,d,[t],Unit,fun u _=>tupOf u k,fun _ _=>[]⟩ :: ms) Γ m)):AD tq P cx K l tail base U hd (.ow true A (.extract (.tmp t) k) d ty as ops i sl ms Γ m)
 | mfd {hd:List Ent} {s t k off:Nat} {A:List Nat} {as:List (List Nat)} {d:Nat} {ty:TypeId} {ops:List Oper} {i:Nat} {sl:List (Nat×Nat×Value)} {ms:List MemD} {Γ:List Ent} {m:Option (Out S R)} [hf:FLc P s k off] (hi:InhX ms) (hsrc:srcB A ms=true) (hj:∃ j,fstJ t ms=some j∧memB j A=true) (hx:∀ x:Xof ms,FldD (visF A ms x) t off) (h:AD tq P cx K l tail base U hd (.a as ops (i+1) sl (⟨i,d,[t],Unit,fun u _=>fldOf u off,fun _ _=>[]⟩ :: ms) Γ m)):AD tq P cx K l tail base U hd (.ow true A (.field s (.tmp t) k) d ty as ops i sl ms Γ m)
 | mif {hd:List Ent} {t:Nat} {it:TypeId} {A:List Nat} {as:List (List Nat)} {d:Nat} {ty:TypeId} {ops:List Oper} {i:Nat} {sl:List (Nat×Nat×Value)} {ms:List MemD} {Γ:List Ent} {m:Option (Out S R)} [hf:IFc P it] (hi:InhX ms) (hsrc:srcB A ms=true) (hj:∃ j,fstJ t ms=some j∧memB j A=true) (h:AD tq P cx K l tail base U hd (.a as ops (i+1) sl (⟨i,d,[t],Unit,fun u _=>.iface it u,fun _ _=>[]⟩ :: ms) Γ m)):AD tq P cx K l tail base U hd (.ow true A (.makeInterface it (.tmp t)) d ty as ops i sl ms Γ m)
 | mlt {hd:List Ent} {t:Nat} {sl' e:TypeId} {α:Type} {E:STy α} {z0:α} {bt:Nat} {A:List Nat} {as:List (List Nat)} {d:Nat} {ty:TypeId} {ops:List Oper} {i:Nat} {sl:List (Nat×Nat×Value)} {ms:List MemD} {Γ:List Ent} {m:Option (Out S R)} [hz:STc P sl' α e E z0 bt] (hi:InhX ms) (hsrc:srcB A ms=true) (hj:∃ j,fstJ t ms=some j∧memB j A=true) (hx:∀ x:Xof ms,OneD (visF A ms x) (visE A ms x) t)
   (h:AD tq P cx K l tail base U hd (.a as ops (i+1) sl (⟨i,d,[t],Nat,fun _ b=>.slice (some ⟨b,0,none⟩) 1 1,fun u b=>[.row b [u] e]⟩ :: ms) Γ m)):AD tq P cx K l tail base U hd (.ow true A (.buildSlice sl' 1 #[(0,.tmp t)]) d ty as ops i sl ms Γ m)
 | mk {hd:List Ent} {t e:TypeId} {α:Type} {E:STy α} {z0:α} {bt:Nat} {x:Operand} {z:Int} {fr:Fr} {f:Nat→Option (Out S R)} {A:List Nat} {as:List (List Nat)} {d:Nat} {ty:TypeId} {ops:List Oper} {i:Nat} {sl:List (Nat×Nat×Value)} {ms:List MemD} {Γ:List Ent} [hz:STc P t α e E z0 bt] (hv:dO A none sl base fr) (hx:opv fr x=some (.int .i64 z))
   (h:∀ n,AD tq P cx K l tail base U hd (.a as ops (i+1) sl (⟨i,d,[],Value,fun _ v=>v,fun _ v=>[.own (aJ e E) v (List.replicate n z0)]⟩ :: ms) Γ (f n))):AD tq P cx K l tail base U hd (.o A (.makeSlice t x x) d ty as ops i sl ms Γ (mk bt z>>=f))
 | ixs {hd:List Ent} {b:Bool} {v:Value} {x y:Operand} {t:TypeId} {fr:Fr} {A:List Nat} {as:List (List Nat)} {d:Nat} {ty:TypeId} {ops:List Oper} {i:Nat} {sl:List (Nat×Nat×Value)} {ms:List MemD} {Γ:List Ent} {m:Option (Out S R)} (hv:dO A none sl base fr) (hx:opv fr x=some v) (hw:WhE hd v b) (h:AD tq P cx K l tail base U hd (.ix b v fr x y t A d ty as ops i sl ms Γ m)):AD tq P cx K l tail base U hd (.o A (.indexAddr t x y) d ty as ops i sl ms Γ m)
 | idx {hd:List Ent} {α:Type} {A:List Nat} {as:List (List Nat)} {d:Nat} {x y:Operand} {v:Value} {k:IntKind} {j:Int} {t ty:TypeId} {o1 o2:Bool} {E:STy α} {xs:List α} {ops:List Oper} {i:Nat} {sl:List (Nat×Nat×Value)} {ms:List MemD} {fr:Fr} {Γ:List Ent} {Γ':α→List Ent} {f:α→Option (Out S R)} [ht:SLc P t]
   (hy:opv fr y=some (.int k j)) (hr:∀ z,Fnd Γ v o1 o2 E xs (.ad o1 o2 v j E z) (Γ' z)) (hE:E.size=1)
   (h:∀ z,AD tq P cx K l tail base U hd (.a as ops (i+1) ((i,d,.pointer (some (elA v 1 j))) :: sl) ms (Γ' z) (f z))):AD tq P cx K l tail base U hd (.ix false v fr x y t A d ty as ops i sl ms Γ (idx xs j>>=f))
 | idxH {hd:List Ent} {α:Type} {A:List Nat} {as:List (List Nat)} {d:Nat} {x y:Operand} {v:Value} {k:IntKind} {j:Int} {t ty:TypeId} {o1 o2:Bool} {E:STy α} {xs:List α} {ops:List Oper} {i:Nat} {sl:List (Nat×Nat×Value)} {ms:List MemD} {fr:Fr} {Γ:List Ent} {hd':α→List Ent} {f:α→Option (Out S R)} [ht:SLc P t]
   (hy:opv fr y=some (.int k j)) (hr:∀ z,Fnd hd v o1 o2 E xs (.ad o1 o2 v j E z) (hd' z)) (hE:E.size=1)
   (h:∀ z,AD tq P cx K l tail base U (hd' z) (.a as ops (i+1) ((i,d,.pointer (some (elA v 1 j))) :: sl) ms Γ (f z))):AD tq P cx K l tail base U hd (.ix true v fr x y t A d ty as ops i sl ms Γ (idx xs j>>=f))
 | load {hd:List Ent} {A:List Nat} {as:List (List Nat)} {d:Nat} {x:Operand} {a:Addr} {t ty:TypeId} {lk:Option Nat} {ops:List Oper} {i:Nat} {sl:List (Nat×Nat×Value)} {ms:List MemD} {fr:Fr} {Γ:List Ent} {m:Option (Out S R)} [ht:LK P t lk] (hv:dO A none sl base fr) (hx:opv fr x=some (.pointer (some a)))
   (h:AD tq P cx K l tail base U hd (.la fr a lk t x A d ty as ops i sl ms Γ m)):AD tq P cx K l tail base U hd (.o A (.load t x) d ty as ops i sl ms Γ m)
 | lsw {hd:List Ent} {b:Bool} {v:Value} {j:Int} {x:Operand} {t:TypeId} {fr:Fr} {A:List Nat} {as:List (List Nat)} {d:Nat} {ty:TypeId} {ops:List Oper} {i:Nat} {sl:List (Nat×Nat×Value)} {ms:List MemD} {Γ:List Ent} {m:Option (Out S R)} (hw:WhE hd v b) (h:AD tq P cx K l tail base U hd (.lb b v j fr t x A d ty as ops i sl ms Γ m)):AD tq P cx K l tail base U hd (.la fr (elA v 1 j) none t x A d ty as ops i sl ms Γ m)
 | lel {hd:List Ent} {α:Type} {A:List Nat} {as:List (List Nat)} {d:Nat} {x:Operand} {v:Value} {j:Int} {o:Bool} {E:STy α} {z:α} {t ty:TypeId} {ops:List Oper} {i:Nat} {sl:List (Nat×Nat×Value)} {ms:List MemD} {fr:Fr} {Γ Γx:List Ent} {m:Option (Out S R)} (h:FndA Γ (elA v 1 j) o E z noE Γx)
   (k:AD tq P cx K l tail base U hd (.ld E z fr (elA v 1 j) t x A d ty as ops i sl ms Γ m)):AD tq P cx K l tail base U hd (.lb false v j fr t x A d ty as ops i sl ms Γ m)
 | ldsH {hd:List Ent} {α:Type} {A:List Nat} {as:List (List Nat)} {d:Nat} {x:Operand} {v:Value} {j:Int} {E:STy α} {z:List α} {o:Bool} {t ty:TypeId} {ops:List Oper} {i:Nat} {sl:List (Nat×Nat×Value)} {ms:List MemD} {fr:Fr} {Γ:List Ent} {hd1 hd':Value→List Ent} {m:Option (Out S R)} (hV:((U.zipIdx.all fun p=>!(p.1.contains l.length) || ((ancs l).getD p.2 []).contains i))=true) (h:∀ u,FndA hd (elA v 1 j) o (aB E) z (.rd o (aB E) u z) (hd1 u)) (h2:∀ u,FndH (hd1 u) v j u (hd' u))
   (k:∀ u,AD tq P cx K l tail base U (hd' u) (.a as ops (i+1) ((i,d,u) :: sl) ms Γ m)):AD tq P cx K l tail base U hd (.lb true v j fr t x A d ty as ops i sl ms Γ m)
 | lce {hd:List Ent} {A:List Nat} {as:List (List Nat)} {d:Nat} {x:Operand} {a:Addr} {u:Value} {t ty:TypeId} {ops:List Oper} {i:Nat} {sl:List (Nat×Nat×Value)} {ms:List MemD} {fr:Fr} {Γ:List Ent} {m:Option (Out S R)} (h:FndC Γ a u)
   (k:AD tq P cx K l tail base U hd (.a as ops (i+1) ((i,d,u) :: sl) ms Γ m)):AD tq P cx K l tail base U hd (.la fr a none t x A d ty as ops i sl ms Γ m)
 | las {hd:List Ent} {A:List Nat} {as:List (List Nat)} {d n:Nat} {x:Operand} {a:Addr} {ds:List Value} {t ty:TypeId} {ops:List Oper} {i:Nat} {sl:List (Nat×Nat×Value)} {ms:List MemD} {fr:Fr} {Γ:List Ent} {m:Option (Out S R)} (h:FndW Γ a n ds)
   (k:AD tq P cx K l tail base U hd (.a as ops (i+1) ((i,d,.agg ds.toArray) :: sl) ms Γ m)):AD tq P cx K l tail base U hd (.la fr a (some n) t x A d ty as ops i sl ms Γ m)
 | ldi {hd:List Ent} {A:List Nat} {as:List (List Nat)} {d:Nat} {x:Operand} {a:Addr} {k:IntKind} {z:Int} {t ty:TypeId} {ops:List Oper} {i:Nat} {sl:List (Nat×Nat×Value)} {ms:List MemD} {fr:Fr} {Γ:List Ent} {m:Option (Out S R)}
   (h:AD tq P cx K l tail base U hd (.a as ops (i+1) ((i,d,.int k z) :: sl) ms Γ m)):AD tq P cx K l tail base U hd (.ld (aC k) z fr a t x A d ty as ops i sl ms Γ m)
 | ldb {hd:List Ent} {A:List Nat} {as:List (List Nat)} {d:Nat} {x:Operand} {a:Addr} {z:Bool} {t ty:TypeId} {ops:List Oper} {i:Nat} {sl:List (Nat×Nat×Value)} {ms:List MemD} {fr:Fr} {Γ:List Ent} {m:Option (Out S R)}
   (h:AD tq P cx K l tail base U hd (.a as ops (i+1) ((i,d,.bool z) :: sl) ms Γ m)):AD tq P cx K l tail base U hd (.ld sBool z fr a t x A d ty as ops i sl ms Γ m)
 | lds {hd:List Ent} {α:Type} {A:List Nat} {as:List (List Nat)} {d:Nat} {x:Operand} {v:Value} {j:Int} {E:STy α} {z:List α} {o:Bool} {t ty:TypeId} {ops:List Oper} {i:Nat} {sl:List (Nat×Nat×Value)} {ms:List MemD} {fr:Fr} {Γ:List Ent} {Γ1 Γ':Value→List Ent} {m:Option (Out S R)} (h:∀ u,FndA Γ (elA v 1 j) o (aB E) z (.rd o (aB E) u z) (Γ1 u)) (h2:∀ u,FndH (Γ1 u) v j u (Γ' u))
   (k:∀ u,AD tq P cx K l tail base U hd (.a as ops (i+1) ((i,d,u) :: sl) ms (Γ' u) m)):AD tq P cx K l tail base U hd (.ld (aB E) z fr (elA v 1 j) t x A d ty as ops i sl ms Γ m)
 | cal {hd:List Ent} {us:List Nat} {A:List Nat} {as:List (List Nat)} {d:Nat} {f:FuncId} {xs:List Operand} {ats:Array TypeId} {ty:TypeId} {ops:List Oper} {i:Nat} {sl:List (Nat×Nat×Value)} {ms:List MemD} {Γ:List Ent} {m:Option (Out S R)} (hU:U.getD i []=us) (h:AD tq P cx K l tail base U hd (.oc us f xs ats A d ty as ops i sl ms Γ m)):AD tq P cx K l tail base U hd (.o A (.call ⟨.value (.func f),xs.toArray,ats⟩) d ty as ops i sl ms Γ m)
 | call {hd:List Ent} {β V:Type} {A:List Nat} {as:List (List Nat)} {d:Nat} {f:FuncId} {xs:List Operand} {ats:Array TypeId} {ty:TypeId} {mo:Option β} {rt:β→V→List Value} {ps:β→V→List Ent} {ops:List Oper} {i:Nat} {sl:List (Nat×Nat×Value)} {ms:List MemD} {fr:Fr} {Γ:List Ent} {g:β→Option (Out S R)} [hf:FnC P f]
   (hv:dO A none sl base fr) (hc:∀ x:Xof ms,CallD P f xs (visF A ms x++fr) (visE A ms x++Γ) mo rt ps) (hi:InhX ms) (hsrc:srcB A ms=true) (ho:∀ y v,owB (ps y v)=true)
   (h:∀ y,AD tq P cx K l tail base U hd (.cr (fun v=>tupv (rt y v)) (ps y) d as ops i sl ms Γ (g y))):AD tq P cx K l tail base U hd (.oc [] f xs ats A d ty as ops i sl ms Γ (mo>>=g))
 | callH {hd:List Ent} {β V:Type} {A:List Nat} {as:List (List Nat)} {d:Nat} {f:FuncId} {xs:List Operand} {ats:Array TypeId} {ty:TypeId} {mo:Option β} {rt:β→V→List Value} {ps:β→V→List Ent} {ops:List Oper} {i:Nat} {sl:List (Nat×Nat×Value)} {ms:List MemD} {fr:Fr} {Γ:List Ent} {g:β→Option (Out S R)} [hf:FnC P f]
   (hV:((U.set i []).all fun us=>!(us.contains l.length))=true) (hv:dO A none sl base fr) (hc:∀ x:Xof ms,CallH P f xs (visF A ms x++fr) hd (visE A ms x++Γ) mo rt ps) (hi:InhX ms) (hsrc:srcB A ms=true) (ho:∀ y v,owB (ps y v)=true)
   (h:∀ y,AD tq P cx K l tail base U hd (.cr (fun v=>tupv (rt y v)) (ps y) d as ops i sl ms Γ (g y))):AD tq P cx K l tail base U hd (.oc [l.length] f xs ats A d ty as ops i sl ms Γ (mo>>=g))
 | callM {hd:List Ent} {β V:Type} {j1:Nat} {a1:MemD} {ms1:List MemD} {A:List Nat} {as:List (List Nat)} {d:Nat} {f:FuncId} {xs:List Operand} {ats:Array TypeId} {ty:TypeId} {mo:Option β} {rt:β→V→List Value} {ps:β→V→List Ent} {ops:List Oper} {i:Nat} {sl:List (Nat×Nat×Value)} {ms:List MemD} {fr:Fr} {Γ:List Ent} {g:β→Option (Out S R)} [hf:FnC P f]
   (h1:GetJ ms j1 a1 ms1) (hs1:a1.src=[]) (h4:memB j1 A=true) (hv:dO A none sl base fr) (hc:∀ (q:a1.V) (x:Xof ms1),CallH P f xs (visF A ms1 x++fr) (a1.ps undef q) (visE A ms1 x++Γ) mo rt ps) (hi:InhX ms1) (hsrc:srcB A ms1=true) (ho:∀ y v,owB (ps y v)=true)
   (h:∀ y,AD tq P cx K l tail base U hd (.cr (fun v=>tupv (rt y v)) (ps y) d as ops i (reSl j1 i sl) ms1 Γ (g y))):AD tq P cx K l tail base U hd (.oc [j1] f xs ats A d ty as ops i sl ms Γ (mo>>=g))
 | crv {hd:List Ent} {u:Unit→Value} {d:Nat} {as:List (List Nat)} {ops:List Oper} {i:Nat} {sl:List (Nat×Nat×Value)} {ms:List MemD} {Γ:List Ent} {m:Option (Out S R)} (h:AD tq P cx K l tail base U hd (.a as ops (i+1) ((i,d,u ()) :: sl) ms Γ m)):AD tq P cx K l tail base U hd (.cr u (fun _=>[]) d as ops i sl ms Γ m)
 | crb {hd:List Ent} {u:Unit→Value} {ps:Unit→List Ent} {d:Nat} {as:List (List Nat)} {ops:List Oper} {i:Nat} {sl:List (Nat×Nat×Value)} {ms:List MemD} {Γ:List Ent} {m:Option (Out S R)} (h:AD tq P cx K l tail base U hd (.a as ops (i+1) ((i,d,u ()) :: sl) (⟨i,d,[],Unit,fun _=>u,fun _=>ps⟩ :: ms) Γ m)):AD tq P cx K l tail base U hd (.cr u ps d as ops i sl ms Γ m)
 | crm {hd:List Ent} {V:Type} {u:V→Value} {ps:V→List Ent} {d:Nat} {as:List (List Nat)} {ops:List Oper} {i:Nat} {sl:List (Nat×Nat×Value)} {ms:List MemD} {Γ:List Ent} {m:Option (Out S R)} (h:AD tq P cx K l tail base U hd (.a as ops (i+1) sl (⟨i,d,[],V,fun _=>u,fun _=>ps⟩ :: ms) Γ m)):AD tq P cx K l tail base U hd (.cr u ps d as ops i sl ms Γ m)
 | val {hd:List Ent} {A:List Nat} {as:List (List Nat)} {op:Op} {d:Nat} {ty:TypeId} {u:Value} {ops:List Oper} {i:Nat} {sl:List (Nat×Nat×Value)} {ms:List MemD} {fr:Fr} {Γ:List Ent} {m:Option (Out S R)} (hv:dO A none sl base fr) (hq:VQ P Γ fr op u)
   (h:AD tq P cx K l tail base U hd (.a as ops (i+1) ((i,d,u) :: sl) ms Γ m)):AD tq P cx K l tail base U hd (.o A op d ty as ops i sl ms Γ m)
 | ari {hd:List Ent} {A:List Nat} {as:List (List Nat)} {op:BinOp} {x y:Operand} {k k':IntKind} {a b:Int} {t t':TypeId} {d:Nat} {ty:TypeId} {ops:List Oper} {i:Nat} {sl:List (Nat×Nat×Value)} {ms:List MemD} {fr:Fr} {Γ:List Ent} {f:Int→Option (Out S R)} (hv:dO A none sl base fr) (hx:opv fr x=some (.int k a)) (hy:opv fr y=some (.int k' b)) (hk:AoK op k k')
   (h:∀ z,AD tq P cx K l tail base U hd (.a as ops (i+1) ((i,d,.int k z) :: sl) ms Γ (f z))):AD tq P cx K l tail base U hd (.o A (.binOp op t x y t') d ty as ops i sl ms Γ (aop op k a b>>=f))
 | ixk {hd:List Ent} {α β:Type} {A:List Nat} {as:List (List Nat)} {d:Nat} {x y:Operand} {v:Value} {k:IntKind} {j:Int} {t ty:TypeId} {o1 o2 p1 p2:Bool} {E:STy α} {E2:STy β} {z:β} {xs:List α} {ops:List Oper} {i:Nat} {sl:List (Nat×Nat×Value)} {ms:List MemD} {fr:Fr} {Γ Γx:List Ent} {m:Option (Out S R)} [ht:SLc P t]
   (hy:opv fr y=some (.int k j)) (hr:Fnd Γ v o1 o2 E xs noE Γx) (hi:In (.ad p1 p2 v j E2 z) Γ) (hE:E.size=1)
   (h:AD tq P cx K l tail base U hd (.a as ops (i+1) ((i,d,.pointer (some (elA v 1 j))) :: sl) ms Γ m)):AD tq P cx K l tail base U hd (.ix false v fr x y t A d ty as ops i sl ms Γ m)
 | pz {hd:List Ent} {as:List (List Nat)} {ops:List Oper} {i:Nat} {sl:List (Nat×Nat×Value)} {ms:List MemD} {Γ:List Ent} {m:Option (Out S R)} (h:AD tq P cx K l tail base U hd (.a as ops i sl ms Γ m)):AD tq P cx K l tail base U hd (.p [] as ops i sl ms Γ m)
 | pe {hd:List Ent} {e:Ent} {Δ:List Ent} {as:List (List Nat)} {ops:List Oper} {i:Nat} {sl:List (Nat×Nat×Value)} {ms:List MemD} {Γ:List Ent} {m:Option (Out S R)} (h:AD tq P cx K l tail base U hd (.p Δ as ops i sl ms (e :: Γ) m)):AD tq P cx K l tail base U hd (.p (e :: Δ) as ops i sl ms Γ m)
 | idxS {hd:List Ent} {α V:Type} {Sc:STy α} {cl:α→V→List Value} {en:α→V→List Ent} {A:List Nat} {as:List (List Nat)} {d n:Nat} {x y:Operand} {v:Value} {xs:List α} {k:IntKind} {j:Int} {t ty:TypeId} {ops:List Oper} {i:Nat} {sl:List (Nat×Nat×Value)} {ms:List MemD} {fr:Fr} {Γ Γx:List Ent} {f:α→Option (Out S R)} [ht:SNc P t n]
   (hy:opv fr y=some (.int k j)) (hr:Fnd Γ v false false (sStr Sc) xs noE Γx) (hs:SOc Sc V cl en) (hn:Sc.size=n)
   (h:∀ z u,AD tq P cx K l tail base U hd (.p (.ats (elA v n j) (cl z u) :: en z u) as ops (i+1) ((i,d,.pointer (some (elA v n j))) :: sl) ms Γ (f z))):AD tq P cx K l tail base U hd (.ix false v fr x y t A d ty as ops i sl ms Γ (idx xs j>>=f))
 | idxG {hd:List Ent} {α V:Type} {Sc:STy α} {cl:α→V→List Value} {en:α→V→List Ent} {A:List Nat} {as:List (List Nat)} {d n e bt:Nat} {x y:Operand} {v:Value} {us:List (List Value)} {xs:List α} {k:IntKind} {j:Int} {t ty:TypeId} {ops:List Oper} {i:Nat} {sl:List (Nat×Nat×Value)} {ms:List MemD} {fr:Fr} {Γ Γ1:List Ent} {f:α→Option (Out S R)} [ht:SBc P t e n bt]
   (hy:opv fr y=some (.int k j)) (h1:Sel Γ (.own (aJ e (sCel n)) v us) Γ1) (hg:In (.rd false (sGh Sc) (.bool true) (us,xs)) Γ) (hs:SOc Sc V cl en)
   (h:∀ z u,AD tq P cx K l tail base U hd (.p (.rd false (sPu us j) (.bool true) (cl z u) :: en z u) as ops (i+1) ((i,d,.pointer (some (elA v n j))) :: sl) ms Γ (f z))):AD tq P cx K l tail base U hd (.ix false v fr x y t A d ty as ops i sl ms Γ (idx xs j>>=f))
 | laG {hd:List Ent} {A:List Nat} {as:List (List Nat)} {d n e off:Nat} {x:Operand} {v u:Value} {us:List (List Value)} {j:Int} {cs:List Value} {t ty:TypeId} {ops:List Oper} {i:Nat} {sl:List (Nat×Nat×Value)} {ms:List MemD} {fr:Fr} {Γ Γ1:List Ent} {m:Option (Out S R)} (h1:Sel Γ (.own (aJ e (sCel n)) v us) Γ1) (hp:In (.rd false (sPu us j) (.bool true) cs) Γ) (hc:cs[off]? = some u)
   (k:AD tq P cx K l tail base U hd (.a as ops (i+1) ((i,d,u) :: sl) ms Γ m)):AD tq P cx K l tail base U hd (.la fr ((elA v n j).add off) none t x A d ty as ops i sl ms Γ m)
 | laG0 {hd:List Ent} {A:List Nat} {as:List (List Nat)} {d n e:Nat} {x:Operand} {v u:Value} {us:List (List Value)} {j:Int} {cs:List Value} {t ty:TypeId} {ops:List Oper} {i:Nat} {sl:List (Nat×Nat×Value)} {ms:List MemD} {fr:Fr} {Γ Γ1:List Ent} {m:Option (Out S R)} (h1:Sel Γ (.own (aJ e (sCel n)) v us) Γ1) (hp:In (.rd false (sPu us j) (.bool true) cs) Γ) (hc:cs[0]? = some u)
   (k:AD tq P cx K l tail base U hd (.a as ops (i+1) ((i,d,u) :: sl) ms Γ m)):AD tq P cx K l tail base U hd (.la fr (elA v n j) none t x A d ty as ops i sl ms Γ m)
 | callR {hd:List Ent} {β V:Type} {A:List Nat} {as:List (List Nat)} {d:Nat} {f:FuncId} {xs:List Operand} {ats:Array TypeId} {ty:TypeId} {mo:Option β} {rt:β→V→List Value} {ps:β→V→List Ent} {ops:List Oper} {i:Nat} {sl:List (Nat×Nat×Value)} {ms:List MemD} {fr:Fr} {Γ:List Ent} {g:β→Option (Out S R)} [hf:FnC P f]
   (hv:dO A none sl base fr) (hc:∀ x:Xof ms,CallR P f xs (visF A ms x++fr) Γ mo rt ps) (hi:InhX ms) (hsrc:srcB A ms=true)
   (h:∀ y,AD tq P cx K l tail base U hd (.cr (fun v=>tupv (rt y v)) (ps y) d as ops i sl ms Γ (g y))):AD tq P cx K l tail base U hd (.oc [] f xs ats A d ty as ops i sl ms Γ (mo>>=g))
 | callHR {hd:List Ent} {β V:Type} {A:List Nat} {as:List (List Nat)} {d:Nat} {f:FuncId} {xs:List Operand} {ats:Array TypeId} {ty:TypeId} {mo:Option β} {rt:β→V→List Value} {ps:β→V→List Ent} {ops:List Oper} {i:Nat} {sl:List (Nat×Nat×Value)} {ms:List MemD} {fr:Fr} {Γ:List Ent} {g:β→Option (Out S R)} [hf:FnC P f]
   (hV:((U.set i []).all fun us=>!(us.contains l.length))=true) (hv:dO A none sl base fr) (hc:∀ x:Xof ms,CallHR P f xs (visF A ms x++fr) hd Γ mo rt ps) (hi:InhX ms) (hsrc:srcB A ms=true)
   (h:∀ y,AD tq P cx K l tail base U hd (.cr (fun v=>tupv (rt y v)) (ps y) d as ops i sl ms Γ (g y))):AD tq P cx K l tail base U hd (.oc [l.length] f xs ats A d ty as ops i sl ms Γ (mo>>=g))
 | callMR {hd:List Ent} {β V:Type} {j1:Nat} {a1:MemD} {ms1:List MemD} {A:List Nat} {as:List (List Nat)} {d:Nat} {f:FuncId} {xs:List Operand} {ats:Array TypeId} {ty:TypeId} {mo:Option β} {rt:β→V→List Value} {ps:β→V→List Ent} {ops:List Oper} {i:Nat} {sl:List (Nat×Nat×Value)} {ms:List MemD} {fr:Fr} {Γ:List Ent} {g:β→Option (Out S R)} [hf:FnC P f]
   (h1:GetJ ms j1 a1 ms1) (hs1:a1.src=[]) (h4:memB j1 A=true) (hv:dO A none sl base fr) (hc:∀ (q:a1.V) (x:Xof ms1),CallHR P f xs ((a1.d,a1.rt undef q) :: (visF A ms1 x++fr)) (a1.ps undef q) Γ mo rt ps) (hi:InhX ms1) (hsrc:srcB A ms1=true)
   (h:∀ y,AD tq P cx K l tail base U hd (.cr (fun v=>tupv (rt y v)) (ps y) d as ops i (reSl j1 i sl) ms1 Γ (g y))):AD tq P cx K l tail base U hd (.oc [j1] f xs ats A d ty as ops i sl ms Γ (mo>>=g))
 | slH {hd:List Ent} {α:Type} {o:Bool} {A:List Nat} {as:List (List Nat)} {d:Nat} {x lo hi:Operand} {v:Value} {k1 k2:IntKind} {a b:Int} {E T:STy α} {xs:List α} {t e ty:TypeId} {ops:List Oper} {i:Nat} {sl:List (Nat×Nat×Value)} {ms:List MemD} {fr:Fr} {Γ Γ1:List Ent} {Γ':Value→List α→List Ent} {f:List α→Option (Out S R)} [ht:SLc P t]
   (hv:dO A none sl base fr) (hx:opv fr x=some v) (hlo:opv fr lo=some (.int k1 a)) (hhi:opv fr hi=some (.int k2 b)) (hc:Sel Γ (.own (aJ e T) v xs) Γ1) (hr:∀ v' ys,Fnd Γ v o o E xs (.rd o (aB E) v' ys) (Γ' v' ys)) (hE:E.size=1)
   (h:∀ v' ys,AD tq P cx K l tail base U hd (.a as ops (i+1) ((i,d,v') :: sl) ms (Γ' v' ys) (f ys))):AD tq P cx K l tail base U hd (.o A (.slice t x (some lo) (some hi) none) d ty as ops i sl ms Γ (cutL xs a b>>=f))
 | apR {o1 o2:Bool} {yv:Value} {fr:Fr} {Γx:List Ent} {hd:List Ent} {us:List Nat} {t e:TypeId} {E:STy Int} {z0:Int} {bt t1 t2:Nat} {k:IntKind} {xs ys:List Int} {a1:MemD} {ms1:List MemD} {f:Unit→Option (Out S R)} {A:List Nat} {as:List (List Nat)} {d:Nat} {ty:TypeId} {ops:List Oper} {i:Nat} {sl:List (Nat×Nat×Value)} {ms:List MemD} {Γ:List Ent} [hz:STc P t Int e E z0 bt] (h1:GetD ms t1 a1 ms1) (h3:∀ u v,a1.ps u v=[.own (aJ e (aC k)) (a1.rt u v) xs]) (hu:us=[a1.j]) (h4:memB a1.j A=true) (hv:dO A none sl base fr) (hx:look fr t2=some yv) (hr:Fnd Γ yv o1 o2 (aC k) ys noE Γx)
   (h:AD tq P cx K l tail base U hd (.a as ops (i+1) sl (⟨i,d,[],Value,fun _ v=>v,fun _ v=>[.own (aJ e (aC k)) v (xs++ys)]⟩ :: ms1) Γ (f ()))):AD tq P cx K l tail base U hd (.ap us t1 t2 t A d ty as ops i sl ms Γ (fits bt (xs.length+ys.length)>>=f))
 | apO {e2:TypeId} {a2:MemD} {ms2:List MemD} {hd:List Ent} {us:List Nat} {t e:TypeId} {E:STy Int} {z0:Int} {bt t1 t2:Nat} {k:IntKind} {xs ys:List Int} {a1:MemD} {ms1:List MemD} {f:Unit→Option (Out S R)} {A:List Nat} {as:List (List Nat)} {d:Nat} {ty:TypeId} {ops:List Oper} {i:Nat} {sl:List (Nat×Nat×Value)} {ms:List MemD} {Γ:List Ent} [hz:STc P t Int e E z0 bt] (h1:GetD ms t1 a1 ms1) (h3:∀ u v,a1.ps u v=[.own (aJ e (aC k)) (a1.rt u v) xs]) (hu:us=[a1.j]) (h4:memB a1.j A=true) (h2:GetD ms1 t2 a2 ms2) (h7:∀ u v,a2.ps u v=[.own (aJ e2 (aC k)) (a2.rt u v) ys]) (h5:memB a2.j A=true)
   (h:AD tq P cx K l tail base U hd (.a as ops (i+1) sl (⟨i,d,[],Value,fun _ v=>v,fun _ v=>[.own (aJ e (aC k)) v (xs++ys)]⟩ :: ms1) Γ (f ()))):AD tq P cx K l tail base U hd (.ap us t1 t2 t A d ty as ops i sl ms Γ (fits bt (xs.length+ys.length)>>=f))
end Go.Dk
namespace Go.Dk
open Go Go.Li
theorem memB_iff {t:Nat} {l:List Nat}:memB t l=true↔t∈l:=by
 induction l with
 | nil=>simp [memB]
 | cons a l ih=>
  unfold memB
  cases hb:Nat.beq t a with
  | true=>simp [Nat.eq_of_beq_eq_true hb]
  | false=>simp only [cond_false,ih,List.mem_cons]; exact ⟨.inr,fun h=>h.resolve_left fun e=>by rw [e,Nat.beq_refl] at hb; cases hb⟩
def visl (l:List Oper) (U:List (List Nat)) (mt:Nat):List (List Nat):=(List.range mt).map fun i=>((ancs l).getD i []).filter (needB l U mt i)
theorem vis_mem {l:List Oper} {U:List (List Nat)} {mt i j:Nat} (h:j∈(visl l U mt).getD i []):j∈(ancs l).getD i []∧needB l U mt i j=true:=by
 unfold visl at h
 rw [List.getD_eq_getElem?_getD,List.getElem?_map] at h
 by_cases hi:i < mt
 ·rw [List.getElem?_range hi] at h
  exact List.mem_filter.1 h
 ·rw [List.getElem?_eq_none (by simpa using hi)] at h
  exact absurd h List.not_mem_nil
variable {Z:Nat→Prop}
structure RelS (Z:Nat→Prop) (l:List Oper) (S:List Gives) (sl:List (Nat×Nat×Value)) (ms:List MemD):Prop where
 v:∀ p∈sl,∃ j,(j=p.1∨j∈(ancs l).getD p.1 [])∧dstAt l j=some p.2.1∧∃ s,S[j]? = some s∧s.b=true∧∀ f w r x,s.V f w r x→x=p.2.2
 m:∀ a∈ms,(S[a.j]? = some ⟨true,MV Z a⟩∧dstAt l a.j=some a.d)∨(S[a.j]? = some ⟨true,MVn Z a⟩∧dstAt l a.j=none∧∃ k∈(ancs l).getD a.j [],dstAt l k=some a.d)
 s:∀ i s,S[i]? = some s→StN Z ((ancs l).getD i []) l s
 d:(ms.map (·.j)).Nodup
 t:∀ i j k,j∈(ancs l).getD k []→k∈(ancs l).getD i []→j∈(ancs l).getD i []
theorem RelS.lt {l:List Oper} {S:List Gives} {sl:List (Nat×Nat×Value)} {ms:List MemD} (h:RelS Z l S sl ms) {a:MemD} (ha:a∈ms):a.j < S.length:=by
 rcases h.m a ha with h | h <;> exact (List.getElem?_eq_some_iff.1 h.1).1
theorem RelS.got {l:List Oper} {S S2:List Gives} {sl:List (Nat×Nat×Value)} {ms:List MemD} (h:RelS Z l S sl ms) {a:MemD} (ha:a∈ms) {g:Nat→List Nat} {r:Nat→Value} {w:World} (hd:Done l (S++S2) a.j g r w):MV Z a (g a.j) w r (r a.d):=by
 rcases h.m a ha with h1 | h1
 ·have h2:=hd.1 a.d h1.2
  rw [List.getElem?_append_left (List.getElem?_eq_some_iff.1 h1.1).1,h1.1] at h2
  exact h2
 ·obtain ⟨x,hx⟩:=hd.2 h1.2.1 _ (by rw [List.getElem?_append_left (List.getElem?_eq_some_iff.1 h1.1).1]; exact h1.1) rfl
  exact hx
theorem RelS.slot {l:List Oper} {S:List Gives} {sl:List (Nat×Nat×Value)} {ms:List MemD} (h:RelS Z l S sl ms) {a:MemD} (ha:a∈ms) {i:Nat} (hi:a.j∈(ancs l).getD i []):∃ k∈(ancs l).getD i [],dstAt l k=some a.d:=by
 rcases h.m a ha with h1 | ⟨_,_,k,hk,hd⟩
 ·exact ⟨a.j,hi,h1.2⟩
 ·exact ⟨k,h.t i k a.j hk hi,hd⟩
theorem RelS.old {l:List Oper} {S S2:List Gives} {sl:List (Nat×Nat×Value)} {ms:List MemD} (h:RelS Z l S sl ms) {a:MemD} (ha:a∈ms):((S++S2)[a.j]? = some ⟨true,MV Z a⟩∧dstAt l a.j=some a.d)∨((S++S2)[a.j]? = some ⟨true,MVn Z a⟩∧dstAt l a.j=none∧∃ k∈(ancs l).getD a.j [],dstAt l k=some a.d):=by
 rw [List.getElem?_append_left (h.lt ha)]
 exact h.m a ha
theorem RelS.oldv {l:List Oper} {S S2:List Gives} {sl:List (Nat×Nat×Value)} {ms:List MemD} (h:RelS Z l S sl ms) {p:Nat×Nat×Value} (hp:p∈sl):∃ j,(j=p.1∨j∈(ancs l).getD p.1 [])∧dstAt l j=some p.2.1∧∃ s,(S++S2)[j]? = some s∧s.b=true∧∀ f w r x,s.V f w r x→x=p.2.2:=by
 obtain ⟨j,hj,h1,s,h2,h3⟩:=h.v p hp
 exact ⟨j,hj,h1,s,by rw [List.getElem?_append_left (List.getElem?_eq_some_iff.1 h2).1]; exact h2,h3⟩
theorem RelS.see {l:List Oper} {S S2:List Gives} {sl:List (Nat×Nat×Value)} {ms:List MemD} (h:RelS Z l S sl ms) {p:Nat×Nat×Value} (hp:p∈sl) {r:Nat→Value} (ho:∀ j,(j=p.1∨j∈(ancs l).getD p.1 [])→j < S.length→Old l (S++S2) j r):r p.2.1=p.2.2:=by
 obtain ⟨j,hj,h1,s,h2,h3,h4⟩:=h.v p hp
 have hl:=(List.getElem?_eq_some_iff.1 h2).1
 have:=ho j hj hl _ h1 s (by rw [List.getElem?_append_left hl]; exact h2)
 rw [if_pos h3] at this
 obtain ⟨f,w,hV⟩:=this
 exact h4 f w r _ hV
theorem RelS.val {l:List Oper} {S:List Gives} {sl:List (Nat×Nat×Value)} {ms:List MemD} (h:RelS Z l S sl ms) {d:Nat} {u:Value} (hd:dstAt l S.length=some d):RelS Z l (S++[sV u]) ((S.length,d,u) :: sl) ms:=by
 refine ⟨?_,fun a ha=>h.old ha,?_,h.d,h.t⟩
 ·intro p hp
  rcases List.mem_cons.1 hp with rfl | hp
  ·exact ⟨S.length,.inl rfl,hd,sV u,by simp,rfl,fun _ _ _ _ h=>h⟩
  ·exact h.oldv hp
 ·intro i s hs
  by_cases hi:i < S.length
  ·rw [List.getElem?_append_left hi] at hs; exact h.s i s hs
  ·rw [List.getElem?_append_right (by omega)] at hs
   have hi0:i - S.length=0:=by
    have:=(List.getElem?_eq_some_iff.1 hs).1
    simp at this; omega
   rw [hi0] at hs
   cases hs
   exact Stab.n stable_val
theorem RelS.mem {l:List Oper} {S:List Gives} {sl:List (Nat×Nat×Value)} {ms:List MemD} (h:RelS Z l S sl ms) {b:MemD} (hj:b.j=S.length) (hd:dstAt l S.length=some b.d) (hsr:∀ t∈b.src,∃ j∈(ancs l).getD S.length [],dstAt l j=some t):RelS Z l (S++[⟨true,MV Z b⟩]) sl (b :: ms):=by
 have hlt:∀ a∈ms,a.j < S.length:=fun a ha=>h.lt ha
 refine ⟨fun p hp=>?_,?_,?_,?_,h.t⟩
 ·exact h.oldv hp
 ·intro a ha
  rcases List.mem_cons.1 ha with rfl | ha
  ·exact .inl ⟨by rw [hj]; simp,by rw [hj]; exact hd⟩
  ·exact h.old ha
 ·intro i s hs
  by_cases hi:i < S.length
  ·rw [List.getElem?_append_left hi] at hs; exact h.s i s hs
  ·rw [List.getElem?_append_right (by omega)] at hs
   have hi0:i - S.length=0:=by
    have:=(List.getElem?_eq_some_iff.1 hs).1
    simp at this; omega
   have hi1:i=S.length:=by omega
   rw [hi0] at hs
   cases hs
   rw [hi1]
   exact stable_mv hsr
 ·rw [List.map_cons,List.nodup_cons]
  refine ⟨fun hm=>?_,h.d⟩
  obtain ⟨a,ha,he⟩:=List.mem_map.1 hm
  have:=hlt a ha
  omega
theorem RelS.addv {l:List Oper} {S:List Gives} {sl:List (Nat×Nat×Value)} {ms:List MemD} (h:RelS Z l S sl ms) {j d:Nat} {u:Value} (hd:dstAt l j=some d) {s:Gives} (hs:S[j]? = some s) (hb:s.b=true) (hV:∀ f w r x,s.V f w r x→x=u):RelS Z l S ((j,d,u) :: sl) ms:=
 ⟨fun p hp=>by
  rcases List.mem_cons.1 hp with rfl | hp
  ·exact ⟨j,.inl rfl,hd,s,hs,hb,hV⟩
  ·exact h.v p hp,h.m,h.s,h.d,h.t⟩
theorem RelS.re {l:List Oper} {S:List Gives} {sl:List (Nat×Nat×Value)} {ms:List MemD} (h:RelS Z l S sl ms) {j i:Nat} (hj:j∈(ancs l).getD i []):RelS Z l S (reSl j i sl) ms:=by
 refine ⟨fun p hp=>?_,h.m,h.s,h.d,h.t⟩
 obtain ⟨q,hq,rfl⟩:=List.mem_map.1 hp
 obtain ⟨k,hk,h1⟩:=h.v q hq
 cases hb:Nat.beq q.1 j with
 | false=>exact ⟨k,hk,h1⟩
 | true=>
  refine ⟨k,.inr ?_,h1⟩
  have hq1:=Nat.eq_of_beq_eq_true hb
  show k∈(ancs l).getD i []
  rcases hk with rfl | hk
  ·rw [hq1]; exact hj
  ·rw [hq1] at hk; exact h.t i k j hk hj
theorem RelS.memN {l:List Oper} {S:List Gives} {sl:List (Nat×Nat×Value)} {ms:List MemD} (h:RelS Z l S sl ms) {b:MemD} (hj:b.j=S.length) (hd:dstAt l S.length=none) (hk:∃ k∈(ancs l).getD S.length [],dstAt l k=some b.d) (hsr:b.src=[]):RelS Z l (S++[⟨true,MVn Z b⟩]) sl (b :: ms):=by
 have hlt:∀ a∈ms,a.j < S.length:=fun a ha=>h.lt ha
 refine ⟨fun p hp=>?_,?_,?_,?_,h.t⟩
 ·exact h.oldv hp
 ·intro a ha
  rcases List.mem_cons.1 ha with rfl | ha
  ·exact .inr ⟨by rw [hj]; simp,by rw [hj]; exact hd,by rw [hj]; exact hk⟩
  ·exact h.old ha
 ·intro i s hs
  by_cases hi:i < S.length
  ·rw [List.getElem?_append_left hi] at hs; exact h.s i s hs
  ·rw [List.getElem?_append_right (by omega)] at hs
   have hi0:i - S.length=0:=by
    have:=(List.getElem?_eq_some_iff.1 hs).1
    simp at this; omega
   have hi1:i=S.length:=by omega
   rw [hi0] at hs
   cases hs
   rw [hi1]
   exact stable_mvn hk fun t ht=>by rw [hsr] at ht; cases ht
 ·rw [List.map_cons,List.nodup_cons]
  refine ⟨fun hm=>?_,h.d⟩
  obtain ⟨a,ha,he⟩:=List.mem_map.1 hm
  have:=hlt a ha
  omega
theorem agr_base {l:List Oper} {m:Nat} {base:Fr} {r r0:Nat→Value} (hh:hotB l m base=true) (ha:agr r0 base) (ho:∀ t,(∀ j,j < m→dstAt l j≠some t)→r t=r0 t):agr r base:=by
 intro t v hl
 have hm:∃ u,(t,u)∈base:=by
  clear hh ha
  induction base with
  | nil=>cases hl
  | cons p base ih=>
   obtain ⟨a,u⟩:=p
   unfold look at hl
   cases hb:Nat.beq t a with
   | true=>exact ⟨u,by rw [Nat.eq_of_beq_eq_true hb]; simp⟩
   | false=>rw [hb] at hl; obtain ⟨u',h⟩:=ih hl; exact ⟨u',by simp [h]⟩
 obtain ⟨u,hu⟩:=hm
 rw [ho t fun j hj=>hotB_spec hh (t,u) hu j hj]
 exact ha t v hl
section
variable {P:Program} {l:List Oper} {mt:Nat} {S:List Gives} {sl:List (Nat×Nat×Value)} {ms:List MemD} {base fr:Fr} {r r0:Nat→Value} {w w0:World} {g:Nat→List Nat} {i:Nat} {A:List Nat} {U:List (List Nat)}
theorem agr_vis (hR:RelS Z l S sl ms) (hA:A=(visl l U mt).getD i []) (hv:dO A none sl base fr) (hb:agr r base) {S':List Gives} (hO:∀ j∈(ancs l).getD i [],Old l (S++S') j r):agr r fr:=by
 refine hv.sound hb ?_ (fun _ _ _ h=>nomatch h)
 intro p hp hm
 have hi:=(vis_mem (by rw [← hA]; exact memB_iff.1 hm)).1
 exact hR.see hp fun j hj _=>hO j (hj.elim (fun e=>e ▸ hi) fun hj=>hR.t i j p.1 hj hi)
theorem owes_val {H:List Nat} {o:Oper} {u:Value} (hh:hotB l mt base=true) (ha:agr r0 base) (hR:RelS Z l S sl ms) (ho:l[S.length]? = some o) (hg:o.guard=none) (hA:A=(visl l U mt).getD S.length []) (hv:dO A none sl base fr)
  (h:∀ r,agr r fr→∀ w,Chg H w0 w→(execOp (ev r) o).run P w = .ok (.value u) w):Owes P l mt (S++[sV u]) U r0 w0 H S.length:=
 Owes.val ho (by simp) hg fun g r w hC hO hn hot=>h r (agr_vis hR hA hv (agr_base hh ha hot) hO) w hC
end
end Go.Dk
namespace Go.Dk
open Go Go.Li
section
variable {R S:Type} {P:Program} {cx:Cx R} {K:Kont R S} {l tail:List Oper} {base fr:Fr} {w:World} {Z:Nat→Prop} {U:List (List Nat)}
def Pre (P:Program) (Z:Nat→Prop) (l:List Oper) (mt:Nat) (U:List (List Nat)) (r0:Nat→Value) (w0:World) (H:List Nat) (i:Nat) (sl:List (Nat×Nat×Value)) (ms:List MemD):Prop:=
 ∃ S:List Gives,S.length=i∧RelS Z l S sl ms∧∀ j,j < i→Owes P l mt S U r0 w0 H j
def StX (B:Bs) (Z:Nat→Prop) (hd Γ:List Ent) (H:List Nat) (w:World):Prop:=∃ F Hd,(SA Z w hd [] Hd∧(∀ b∈Hd,b∈H∧b < w.heap.size)∧(∀ b∈H,b < w.heap.size)∧Hd.Nodup)∧SA Z w Γ [] F∧Gd B Z (H++F) w
theorem StX.stay {B:Bs} {Γ:List Ent} {F H:List Nat} {w w':World} (hS:SA Z w Γ [] F) (hG:Gd B Z (H++F) w) (hC:Chg H w w'):SA Z w' Γ [] F:=
 hS.keep hC (fun b hb=>hG.apart b (List.mem_append_left _ hb)) (fun _ _=>List.not_mem_nil) (fun b hb hf=>(List.nodup_append.1 hG.nd).2.2 b hb b hf rfl)
def Fin (P:Program) (cx:Cx R) (K:Kont R S) (l:List Oper) (mt:Nat) (U:List (List Nat)) (hd:List Ent) (_id:Nat) (base:Fr) (i:Nat) (sl:List (Nat×Nat×Value)) (ms:List MemD) (Γ:List Ent) (m:Option (Out S R)):Prop:=
 ∀ B o,m=some o→∀ r0 w0 H Z,agr r0 base→StX B Z hd Γ H w0→Pre P Z l mt U r0 w0 H i sl ms→AnyW P cx.n l (postK P cx B K o) r0 w0
theorem Pre.re {mt:Nat} {r0:Nat→Value} {w0:World} {H:List Nat} {i k j:Nat} {sl:List (Nat×Nat×Value)} {ms:List MemD} (h:Pre P Z l mt U r0 w0 H k sl ms) (hj:j∈(ancs l).getD i []):Pre P Z l mt U r0 w0 H k (reSl j i sl) ms:=by
 obtain ⟨S,h1,h2,h3⟩:=h
 exact ⟨S,h1,h2.re hj,h3⟩
structure Here (l:List Oper) (mt:Nat) (U:List (List Nat)) (as:List (List Nat)) (ops:List Oper) (i:Nat):Prop where
 a:as=(visl l U mt).drop i
 o:ops=(l.take mt).drop i
 le:i≤mt
structure At0 (l:List Oper) (mt:Nat) (U:List (List Nat)) (A:List Nat) (op:Op) (ty:TypeId) (as:List (List Nat)) (ops:List Oper) (i:Nat):Prop where
 A:A=(visl l U mt).getD i []
 o:∃ pos aft,l[i]? = some ⟨none,op,ty,pos,aft,none⟩
 n:Here l mt U as ops (i+1)
theorem Here.consN {mt:Nat} {A:List Nat} {as:List (List Nat)} {op:Op} {ty:TypeId} {pos:String} {aft:Array Edge} {ops:List Oper} {i:Nat} (h:Here l mt U (A :: as) (⟨none,op,ty,pos,aft,none⟩ :: ops) i):At0 l mt U A op ty as ops i:=by
 obtain ⟨h1,h2,h3⟩:=h
 have e1:(visl l U mt)[i]? = some A:=by
  have:=congrArg (fun x=>x[0]?) h1
  simpa using this.symm
 have e2:(l.take mt)[i]? = some ⟨none,op,ty,pos,aft,none⟩:=by
  have:=congrArg (fun x=>x[0]?) h2
  simpa using this.symm
 have t1:as=(visl l U mt).drop (i+1):=by
  have:=congrArg List.tail h1
  simpa [List.tail_drop] using this
 have t2:ops=(l.take mt).drop (i+1):=by
  have:=congrArg List.tail h2
  simpa [List.tail_drop] using this
 have hi:i < mt:=by
  have:=(List.getElem?_eq_some_iff.1 e1).1
  simpa [visl] using this
 rw [List.getElem?_take,if_pos hi] at e2
 exact ⟨by rw [List.getD_eq_getElem?_getD,e1]; rfl,⟨pos,aft,e2⟩,t1,t2,hi⟩
structure At1 (l:List Oper) (mt:Nat) (U:List (List Nat)) (A:List Nat) (op:Op) (d:Nat) (ty:TypeId) (as:List (List Nat)) (ops:List Oper) (i:Nat):Prop where
 A:A=(visl l U mt).getD i []
 o:∃ pos aft,l[i]? = some ⟨some d,op,ty,pos,aft,none⟩
 n:Here l mt U as ops (i+1)
theorem Here.cons {mt:Nat} {A:List Nat} {as:List (List Nat)} {op:Op} {d:Nat} {ty:TypeId} {pos:String} {aft:Array Edge} {ops:List Oper} {i:Nat} (h:Here l mt U (A :: as) (⟨some d,op,ty,pos,aft,none⟩ :: ops) i):At1 l mt U A op d ty as ops i:=by
 obtain ⟨h1,h2,h3⟩:=h
 have e1:(visl l U mt)[i]? = some A:=by
  have:=congrArg (fun x=>x[0]?) h1
  simpa using this.symm
 have e2:(l.take mt)[i]? = some ⟨some d,op,ty,pos,aft,none⟩:=by
  have:=congrArg (fun x=>x[0]?) h2
  simpa using this.symm
 have t1:as=(visl l U mt).drop (i+1):=by
  have:=congrArg List.tail h1
  simpa [List.tail_drop] using this
 have t2:ops=(l.take mt).drop (i+1):=by
  have:=congrArg List.tail h2
  simpa [List.tail_drop] using this
 have hi:i < mt:=by
  have:=(List.getElem?_eq_some_iff.1 e1).1
  simpa [visl] using this
 rw [List.getElem?_take,if_pos hi] at e2
 exact ⟨by rw [List.getD_eq_getElem?_getD,e1]; rfl,⟨pos,aft,e2⟩,t1,t2,hi⟩
theorem Pre.val {mt:Nat} {A:List Nat} {op:Op} {d:Nat} {ty:TypeId} {as:List (List Nat)} {ops:List Oper} {i:Nat} {sl:List (Nat×Nat×Value)} {ms:List MemD} {r0:Nat→Value} {w0:World} {H:List Nat} {u:Value} (h:Pre P Z l mt U r0 w0 H i sl ms) (hh:hotB l mt base=true) (ha:agr r0 base) (h1:At1 l mt U A op d ty as ops i)
  (hv:dO A none sl base fr) (hq:∀ r,agr r fr→∀ pos aft g w,Chg H w0 w→(execOp (ev r) ⟨some d,op,ty,pos,aft,g⟩).run P w = .ok (.value u) w):Pre P Z l mt U r0 w0 H (i+1) ((i,d,u) :: sl) ms:=by
 obtain ⟨S',hl,hR,hO⟩:=h
 subst hl
 obtain ⟨hA,⟨pos,aft,ho⟩,_⟩:=h1
 refine ⟨S'++[sV u],by simp,hR.val (by unfold dstAt; rw [ho]; rfl),fun j hj=>?_⟩
 by_cases h2:j < S'.length
 ·exact Owes.more (hO j h2) h2
 ·obtain rfl:j=S'.length:=by omega
  exact owes_val hh ha hR ho rfl hA hv fun r hr=>hq r hr _ _ _
def Pre1 (P:Program) (Z:Nat→Prop) (l:List Oper) (mt:Nat) (U:List (List Nat)) (r0:Nat→Value) (w0:World) (H:List Nat) (i:Nat) (sl:List (Nat×Nat×Value)) (ms:List MemD) (a:MemD):Prop:=
 ∃ S:List Gives,S.length=i∧RelS Z l S sl ms∧(∀ j,j < i→Owes P l mt S U r0 w0 H j)∧
  ∀ V:List Nat→World→(Nat→Value)→Value→Prop,(∀ f w r x,MV Z a f w r x→∃ f',(∀ b∈f',b∈f)∧V f' w r x)→Owes P l mt (S++[⟨true,V⟩]) U r0 w0 H i
theorem HL.front {Δ Γ:List Ent} {Fd F:List Nat} (h:HL Z w Δ Fd) (hs:SA Z w Γ [] F):SA Z w (Δ++Γ) [] (Fd++F):=by
 induction h with
 | nil=>exact hs
 | own h _ ih=>rw [List.append_assoc]; exact SA.cons ih h
 | fact h _ ih=>exact SA.fact ih h
def visB (A:List Nat) (g:Nat→List Nat):List MemD→List Nat
 | []=>[]
 | a :: l=>bif memB a.j A then g a.j++visB A g l else visB A g l
def HV (Z:Nat→Prop) (w:World) (Δ:List Ent) (B:List Nat):Prop:=∃ Vo Vr,(∀ b∈Vo++Vr,b∈B)∧(∀ b∈Vr,b < w.heap.size)∧HL (fun b=>Z b∨b∈Vr) w Δ Vo
theorem HV.front {Δ Γ:List Ent} {B F:List Nat} (h:HV Z w Δ B) (hs:SA Z w Γ [] F):∃ G:List Nat,(∀ b∈G,b∈B++F∧b < w.heap.size)∧∃ F':List Nat,(∀ b∈F',b∈G)∧SA (fun b=>Z b∨b∈G) w (Δ++Γ) [] F':=by
 obtain ⟨Vo,Vr,h1,h2,h3⟩:=h
 have hS:=h3.front (hs.mono (Z':=fun b=>Z b∨b∈Vr) (fun _ h=>.inl h) fun _ h=>h)
 refine ⟨Vr++(Vo++F),fun b hb=>?_,Vo++F,fun b hb=>List.mem_append_right _ hb,hS.mono (fun b h=>h.imp id fun h=>List.mem_append_left _ h) fun _ h=>h⟩
 rcases List.mem_append.1 hb with hb | hb
 ·exact ⟨List.mem_append_left _ (h1 b (List.mem_append_right _ hb)),h2 b hb⟩
 ·refine ⟨?_,hS.lt b hb⟩
  rcases List.mem_append.1 hb with hb | hb
  ·exact List.mem_append_left _ (h1 b (List.mem_append_left _ hb))
  ·exact List.mem_append_right _ hb
theorem HV.app {Δ Δ':List Ent} {f B:List Nat} (h:HN Z w Δ f) (k:HV Z w Δ' B):HV Z w (Δ++Δ') (f++B):=by
 obtain ⟨Fo,Fr,rfl,h1,h2⟩:=h.all
 obtain ⟨Vo,Vr,k1,k2,k3⟩:=k
 refine ⟨Fo++Vo,Fr++Vr,fun b hb=>?_,fun b hb=>(List.mem_append.1 hb).elim (h1 b) (k2 b),(h2.mono fun b h=>h.imp id fun h=>List.mem_append_left _ h).app (k3.mono fun b h=>h.imp id fun h=>List.mem_append_right _ h)⟩
 have:=fun h=>k1 b h
 simp only [List.mem_append] at hb this ⊢
 rcases hb with (h | h) | h | h
 ·exact .inl (.inl h)
 ·exact .inr (this (.inl h))
 ·exact .inl (.inr h)
 ·exact .inr (this (.inr h))
theorem pickV {A:List Nat} {g:Nat→List Nat} {r:Nat→Value}:∀ {ms:List MemD},InhX ms→srcB A ms=true→(∀ a∈ms,memB a.j A=true→MV Z a (g a.j) w r (r a.d))→
  ∃ x:Xof ms,(∀ p∈visF A ms x,r p.1=p.2)∧HV Z w (visE A ms x) (visB A g ms):=by
 intro ms
 induction ms with
 | nil=>intro _ _ _; exact ⟨(),fun p hp=>absurd hp List.not_mem_nil,[],[],fun b (h:b∈[])=>absurd h List.not_mem_nil,fun b (h:b∈[])=>absurd h List.not_mem_nil,.nil⟩
 | cons a ms ih=>
  intro hi hsr h
  unfold srcB at hsr
  rw [Bool.and_eq_true] at hsr
  cases hi with
  | cons h1 h2=>
   obtain ⟨x,hx,hl⟩:=ih h2 hsr.2 fun b hb=>h b (List.mem_cons_of_mem _ hb)
   cases hb:memB a.j A with
   | false=>
    obtain ⟨v⟩:=h1.ne
    refine ⟨(v,x),?_,?_⟩
    ·simp only [visF,hb,cond_false]; exact hx
    ·simp only [visE,visB,hb,cond_false]; exact hl
   | true=>
    obtain ⟨v,e1,e2,_⟩:=h a (by simp) hb
    have es:srcV a r=srcF a (mF ms x):=by
     have h3:=hsr.1
     rw [hb,cond_true,List.all_eq_true] at h3
     refine srcT_eq fun t ht=>?_
     have h4:=h3 t ht
     cases hj:fstJ t ms with
     | none=>rw [hj] at h4; cases h4
     | some j=>rw [hj] at h4; unfold lookD; rw [look_vis hj h4 hx]
    rw [es] at e1 e2
    refine ⟨(v,x),?_,?_⟩
    ·simp only [visF,hb,cond_true]
     intro p hp
     rcases List.mem_cons.1 hp with rfl | hp
     ·exact e1
     ·exact hx p hp
    ·simp only [visE,visB,hb,cond_true]; exact HV.app e2 hl
theorem fstJ_mem {t j:Nat}:∀ {ms:List MemD},fstJ t ms=some j→∃ a∈ms,a.j=j∧a.d=t:=by
 intro ms
 induction ms with
 | nil=>intro h; cases h
 | cons a l ih=>
  intro h
  unfold fstJ at h
  cases hb:Nat.beq t a.d with
  | true=>rw [hb] at h; cases h; exact ⟨a,by simp,rfl,(Nat.eq_of_beq_eq_true hb).symm⟩
  | false=>rw [hb] at h; obtain ⟨b,h1,h2⟩:=ih h; exact ⟨b,List.mem_cons_of_mem _ h1,h2⟩
theorem src_anc {mt i:Nat} {A:List Nat} (hA:A=(visl l U mt).getD i []) {S':List Gives} {sl:List (Nat×Nat×Value)} {ms:List MemD} {t:Nat} (hR:RelS Z l S' sl ms) (hj:∃ j,fstJ t ms=some j∧memB j A=true):∃ j∈(ancs l).getD i [],dstAt l j=some t:=by
 obtain ⟨j,h1,h2⟩:=hj
 obtain ⟨a,ha,rfl,rfl⟩:=fstJ_mem h1
 exact hR.slot ha (vis_mem (by rw [← hA]; exact memB_iff.1 h2)).1
theorem see {mt:Nat} {A:List Nat} {S' S2:List Gives} {sl:List (Nat×Nat×Value)} {ms:List MemD} {g:Nat→List Nat} {r:Nat→Value} (hR:RelS Z l S' sl ms) (hA:A=(visl l U mt).getD S'.length []) (hi:InhX ms) (hsr:srcB A ms=true) (hn:∀ j,needB l U mt S'.length j=true→Done l (S'++S2) j g r w) :
  ∃ x:Xof ms,(∀ p∈visF A ms x,r p.1=p.2)∧HV Z w (visE A ms x) (visB A g ms):=
 pickV hi hsr fun a hm hb=>by
  exact hR.got hm (hn a.j (vis_mem (by rw [← hA]; exact memB_iff.1 hb)).2)
theorem Pre.mem {mt:Nat} {A:List Nat} {op:Op} {d:Nat} {ty:TypeId} {as:List (List Nat)} {ops:List Oper} {i:Nat} {sl:List (Nat×Nat×Value)} {ms:List MemD} {r0:Nat→Value} {w0:World} {H:List Nat} {a:MemD} (h:Pre P Z l mt U r0 w0 H i sl ms) (h1:At1 l mt U A op d ty as ops i) (haj:a.j=i) (had:a.d=d)
  (hsr:∀ S',RelS Z l S' sl ms→∀ t∈a.src,∃ j∈(ancs l).getD i [],dstAt l j=some t)
  (hq:∀ S' S2,S'.length=i→RelS Z l S' sl ms→∀ (g:Nat→List Nat) (r:Nat→Value) (w:World),Chg H w0 w→(∀ j∈(ancs l).getD S'.length [],Old l (S'++S2) j r)→(∀ j,needB l U mt S'.length j=true→Done l (S'++S2) j g r w)→(∀ t,(∀ j,j < mt→dstAt l j≠some t)→r t=r0 t)→∀ pos aft,
   OpW P ⟨some d,op,ty,pos,aft,none⟩ r w fun v w'=>Chg [] w w'∧∃ f,(∀ b∈f,w.heap.size≤b∧b < w'.heap.size)∧MV Z a f w' r v):Pre P Z l mt U r0 w0 H (i+1) sl (a :: ms):=by
 obtain ⟨S',hl,hR,hO⟩:=h
 subst hl
 subst had
 obtain ⟨hA,⟨pos,aft,ho⟩,_⟩:=h1
 refine ⟨S'++[⟨true,MV Z a⟩],by simp,hR.mem haj (by unfold dstAt; rw [ho]; rfl) (hsr S' hR),fun j hj=>?_⟩
 by_cases h2:j < S'.length
 ·exact Owes.more (hO j h2) h2
 ·obtain rfl:j=S'.length:=by omega
  exact Owes.memX (V:=MV Z a) ho (by simp) rfl fun g r w hC hO hn hot=>hq S' _ rfl hR g r w hC hO hn hot pos aft
theorem GetD.sub {ms ms':List MemD} {a:MemD} {t:Nat} (h:GetD ms t a ms'):a∈ms∧a.d=t∧(∀ b∈ms',b∈ms)∧(ms'.map (·.j)).Sublist (ms.map (·.j)):=by
 induction h with
 | here=>exact ⟨by simp,rfl,fun b hb=>List.mem_cons_of_mem _ hb,by simp⟩
 | there _ ih=>
  obtain ⟨h1,h2,h3,h4⟩:=ih
  refine ⟨List.mem_cons_of_mem _ h1,h2,fun b hb=>?_,by simpa using h4⟩
  rcases List.mem_cons.1 hb with rfl | hb
  ·simp
  ·exact List.mem_cons_of_mem _ (h3 b hb)
theorem RelS.sub {S':List Gives} {sl:List (Nat×Nat×Value)} {ms ms':List MemD} (h:RelS Z l S' sl ms) (hm:∀ b∈ms',b∈ms) (hn:(ms'.map (·.j)).Sublist (ms.map (·.j))):RelS Z l S' sl ms':=⟨h.v,fun a ha=>h.m a (hm a ha),h.s,h.d.sublist hn,h.t⟩
theorem app_pre {mt:Nat} {t e et:TypeId} {E:STy Int} {z0:Int} {bt t1 t2 j2 d2 i d:Nat} {k:IntKind} {y:Int} {xs:List Int} {a1:MemD} {ms ms1 ms2:List MemD} {sl:List (Nat×Nat×Value)} {A:List Nat} {ty:TypeId} {as:List (List Nat)} {ops:List Oper} {r0:Nat→Value} {w0:World} {H:List Nat} (hz:STc P t Int e E z0 bt) (h1:GetD ms t1 a1 ms1) (h2:GetD ms1 t2 ⟨j2,d2,[],Nat,fun _ b=>.slice (some ⟨b,0,none⟩) 1 1,fun _ b=>[.row b [.int k y] et]⟩ ms2) (h3:∀ u v,a1.ps u v=[.own (aJ e (aC k)) (a1.rt u v) xs]) (h4:memB a1.j A=true) (h5:memB j2 A=true) (h6:U.getD i []=[a1.j])
  (hf:fits bt (xs.length+1)=some ()) (hat:At1 l mt U A (.call ⟨.builtin .append,#[.tmp t1,.tmp t2],#[t,t]⟩) d ty as ops i) (h:Pre P Z l mt U r0 w0 H i sl ms) :
  Pre P Z l mt U r0 w0 H (i+1) sl (⟨i,d,[],Value,fun _ v=>v,fun _ v=>[.own (aJ e (aC k)) v (xs++[y])]⟩ :: ms1):=by
 obtain ⟨S',hl,hR,hO⟩:=h
 subst hl
 obtain ⟨hA,⟨pos,aft,ho⟩,_⟩:=hat
 obtain ⟨b1,b2⟩:=fits_some hf
 obtain ⟨q1,hE,i',z,q3,q4,q5,q6,q7,q8⟩:=hz.h
 obtain ⟨m1,m2,m3,m4⟩:=h1.sub
 obtain ⟨n1,n2,_,_⟩:=h2.sub
 refine ⟨S'++[⟨true,MV Z ⟨S'.length,d,[],Value,fun _ v=>v,fun _ v=>[.own (aJ e (aC k)) v (xs++[y])]⟩⟩],by simp,(hR.sub m3 m4).mem rfl (by unfold dstAt; rw [ho]; rfl) (by intro t h; cases h),fun j hj=>?_⟩
 by_cases hlt:j < S'.length
 ·exact Owes.more (hO j hlt) hlt
 ·obtain rfl:j=S'.length:=by omega
  intro o' s' ho' hs' g r w hC hV0 hOld hn hot hdis hfr
  rw [ho] at ho'
  cases ho'
  rw [List.getElem?_append_right (Nat.le_refl _),Nat.sub_self] at hs'
  cases hs'
  rw [if_pos rfl]
  refine ⟨rfl,?_⟩
  have get:∀ a∈ms,memB a.j A=true→MV Z a (g a.j) w r (r a.d):=fun a hm hb=>by
   exact hR.got hm (hn a.j (vis_mem (by rw [← hA]; exact memB_iff.1 hb)).2)
  obtain ⟨v1,c1,c2,c3⟩:=get a1 m1 h4
  obtain ⟨v2,f1,f2,f3⟩:=get _ (m3 _ n1) h5
  rw [h3,← c1,m2] at c2
  rw [m2] at c1
  simp only at f1 f2
  subst n2
  replace c2:=c2.own rfl
  replace f2:=f2.own rfl
  generalize hg1:g a1.j=G1 at c2 c3
  generalize hg2:g j2=G2 at f2 f3
  cases c2 with
  | fact h _=>exact h.elim
  | @own _ ff F0 _ hown hnil=>
   cases hnil
   rw [List.append_nil] at c3
   cases f2 with
   | fact h _=>exact h.elim
   | @own _ gg F0 _ hrow hnil=>
    cases hnil
    obtain ⟨rfl,hrow⟩:=hrow
    have hb:blks g (U.getD S'.length [])=ff:=by rw [h6]; simp [blks,hg1]
    refine OpW_mono (OpW.append1 (E:=aC k) (F:=ff) q1 q3 q4 q5 rfl q6 (s:=.tmp t1) (x:=.tmp d2) rfl ⟨hown,c3⟩ (fun b hb=>hb) f1 hrow ⟨rfl,rfl⟩ (by rw [q7]; exact b1) b2) ?_
    rintro v w' ⟨hC',f',hf',hV⟩
    rw [hb]
    refine ⟨hC',f',hf',v,rfl,?_,hV.2⟩
    have:=HL.own (Z:=fun _=>False) (e:=.own (aJ e (aC k)) v (xs++[y])) (f:=f') hV.1 .nil
    exact .inl (by simpa using this)
theorem OpW.appendS {α:Type} {E:STy α} {F f k:List Nat} {t e:TypeId} {s x:Operand} {i:TypeInfo} {z:Value} {sv yv:Value} {xs ys:List α} {r:Nat→Value} {w:World} {d:Option Nat} {ty:TypeId} {pos:String} {aft:Array Edge} (hnf:∀ {h cs x f},E.rep h cs x f→f=[])
  (ht:P.underlying t=some (.slice e)) (hi:P.info? e=some i) (hz:i.zero=some z) (hs:i.size=1) (hE:E.size=1) (hzs:z.oneCell'=true)
  (hsv:ev r s=sv) (hO:OwnV (aJ e E) xs f w sv) (hF:∀ b∈f,b∈F) (hx:ev r x=yv) (hy:(aB E).rep w.heap [yv] ys k)
  (hb:(xs.length+ys.length) * i.bytes≤140737488355328) (h63:xs.length+ys.length≤maxLen) :
  OpW P ⟨d,.call ⟨.builtin .append,#[s,x],#[t,t]⟩,ty,pos,aft,none⟩ r w fun v w'=>Chg F w w'∧∃ f',(∀ b∈f',(b∈F∨w.heap.size≤b)∧b < w'.heap.size)∧OwnV (aJ e E) (xs++ys) f' w' v:=by
 have hcells:=imm_cells hy
 rcases Nat.eq_zero_or_pos ys.length with hy0 | hy0
 ·obtain rfl:ys=[]:=List.eq_nil_of_length_eq_zero hy0
  obtain ⟨b0,c0,hyv⟩:=imm_len hy
  obtain ⟨base,cap,hv,hr⟩:=hO.1
  obtain rfl:sv = .slice base xs.length cap:=by simpa using hv
  have hcap:xs.length≤cap:=by
   rcases hr with ⟨_,rfl,rfl,_⟩ | ⟨_,_,_,_,_,_,h,_⟩
   ·simp
   ·exact h
  have hrun:=append_nothing (P:=P) (w:=w) (ty:=ty) ht hi (b:=base) (a:=b0) (c:=c0) hcap
  subst hyv
  have hrun2:(execOp (ev r) ⟨d,.call ⟨.builtin .append,#[s,x],#[t,t]⟩,ty,pos,aft,none⟩).run P w = .ok (.value (.slice base xs.length cap)) w:=by
   simp only [execOp,resolve,invoke,builtin,Sem.run_bind,Sem.run_pure,Result.andThen_ok,List.map_toArray,List.map_cons,List.map_nil,hsv,hx,List.length_nil,hrun]
  unfold OpW
  rw [hrun2]
  exact ⟨Chg.refl _ _,f,fun b hb=>⟨.inl (hF b hb),STy.lt _ hO.1 b hb⟩,by rw [List.append_nil]; exact hO⟩
 ·rcases hcells with rfl | ⟨a,c,news,g1,hyv,hnews,hrep,_⟩
  ·simp at hy0
  ·obtain ⟨rfl,_⟩:=repL_nofp (h':=w.heap) hnf hrep
   obtain ⟨v,w',f',h,hC,hrep',hsub,hnd⟩:=own_append (d:=d) (ty:=ty) (pos:=pos) (aft:=aft) (g:=none) ht hi hz (by rw [hs,hE]) (by rw [cells_one hzs,hE]; rfl) hsv hO.1 hO.2 (hx.trans hyv) hnews hrep (fun _ h=>nomatch h) hy0 hb h63
   unfold OpW
   rw [h]
   refine ⟨hC.mono hF,f',fun b hb=>⟨?_,STy.lt _ hrep' b hb⟩,hrep',hnd List.nodup_nil⟩
   rcases hsub b hb with h | h | h
   ·exact .inl (hF b h)
   ·cases h
   ·exact .inr h
theorem appR_pre {mt:Nat} {t e:TypeId} {E:STy Int} {z0:Int} {bt t1 t2 i d:Nat} {k:IntKind} {xs ys:List Int} {a1:MemD} {ms ms1:List MemD} {sl:List (Nat×Nat×Value)} {A:List Nat} {ty:TypeId} {as:List (List Nat)} {ops:List Oper} {r0:Nat→Value} {w0:World} {H:List Nat} {o1 o2:Bool} {yv:Value} {Γ Γx:List Ent} {F:List Nat} (hz:STc P t Int e E z0 bt) (h1:GetD ms t1 a1 ms1) (h3:∀ u v,a1.ps u v=[.own (aJ e (aC k)) (a1.rt u v) xs]) (h4:memB a1.j A=true) (h6:U.getD i []=[a1.j]) (hh:hotB l mt base=true) (ha:agr r0 base) (hv:dO A none sl base fr) (hx:look fr t2=some yv) (hr:Fnd Γ yv o1 o2 (aC k) ys noE Γx) (hS:∀ w,Chg H w0 w→SA Z w Γ [] F)
  (hf:fits bt (xs.length+ys.length)=some ()) (hat:At1 l mt U A (.call ⟨.builtin .append,#[.tmp t1,.tmp t2],#[t,t]⟩) d ty as ops i) (h:Pre P Z l mt U r0 w0 H i sl ms) :
  Pre P Z l mt U r0 w0 H (i+1) sl (⟨i,d,[],Value,fun _ v=>v,fun _ v=>[.own (aJ e (aC k)) v (xs++ys)]⟩ :: ms1):=by
 obtain ⟨S',hl,hR,hO⟩:=h
 subst hl
 obtain ⟨hA,⟨pos,aft,ho⟩,_⟩:=hat
 obtain ⟨b1,b2⟩:=fits_some hf
 obtain ⟨q1,hE,i',z,q3,q4,q5,q6,q7,q8⟩:=hz.h
 obtain ⟨m1,m2,m3,m4⟩:=h1.sub
 refine ⟨S'++[⟨true,MV Z ⟨S'.length,d,[],Value,fun _ v=>v,fun _ v=>[.own (aJ e (aC k)) v (xs++ys)]⟩⟩],by simp,(hR.sub m3 m4).mem rfl (by unfold dstAt; rw [ho]; rfl) (by intro t h; cases h),fun j hj=>?_⟩
 by_cases hlt:j < S'.length
 ·exact Owes.more (hO j hlt) hlt
 ·obtain rfl:j=S'.length:=by omega
  intro o' s' ho' hs' g r w hC hV0 hOld hn hot hdis hfr
  rw [ho] at ho'
  cases ho'
  rw [List.getElem?_append_right (Nat.le_refl _),Nat.sub_self] at hs'
  cases hs'
  rw [if_pos rfl]
  refine ⟨rfl,?_⟩
  have get:∀ a∈ms,memB a.j A=true→MV Z a (g a.j) w r (r a.d):=fun a hm hb=>by
   exact hR.got hm (hn a.j (vis_mem (by rw [← hA]; exact memB_iff.1 hb)).2)
  obtain ⟨v1,c1,c2,c3⟩:=get a1 m1 h4
  rw [h3,← c1,m2] at c2
  rw [m2] at c1
  replace c2:=c2.own rfl
  have hyv:ev r (.tmp t2)=yv:=agr_vis hR hA hv (agr_base hh ha hot) hOld t2 yv hx
  obtain ⟨_,_,⟨⟨kk,hread,_⟩,_⟩,_⟩:=hr.sound (hS w hC)
  generalize hg1:g a1.j=G1 at c2 c3
  cases c2 with
  | fact h _=>exact h.elim
  | @own _ ff F0 _ hown hnil=>
   cases hnil
   rw [List.append_nil] at c3
   have hb:blks g (U.getD S'.length [])=ff:=by rw [h6]; simp [blks,hg1]
   refine OpW_mono (OpW.appendS (E:=aC k) (F:=ff) sInt_nofp q1 q3 q4 q5 rfl q6 (s:=.tmp t1) (x:=.tmp t2) rfl ⟨hown,c3⟩ (fun b hb=>hb) hyv hread (by rw [q7]; exact b1) b2) ?_
   rintro v w' ⟨hC',f',hf',hV⟩
   rw [hb]
   refine ⟨hC',f',hf',v,rfl,?_,hV.2⟩
   have:=HL.own (Z:=fun _=>False) (e:=.own (aJ e (aC k)) v (xs++ys)) (f:=f') hV.1 .nil
   exact .inl (by simpa using this)
theorem appO_pre {mt:Nat} {t e:TypeId} {E:STy Int} {z0:Int} {bt t1 t2 i d:Nat} {k:IntKind} {xs ys:List Int} {a1:MemD} {ms ms1:List MemD} {sl:List (Nat×Nat×Value)} {A:List Nat} {ty:TypeId} {as:List (List Nat)} {ops:List Oper} {r0:Nat→Value} {w0:World} {H:List Nat} {e2:TypeId} {a2:MemD} {ms2:List MemD} (hz:STc P t Int e E z0 bt) (h1:GetD ms t1 a1 ms1) (h3:∀ u v,a1.ps u v=[.own (aJ e (aC k)) (a1.rt u v) xs]) (h4:memB a1.j A=true) (h6:U.getD i []=[a1.j]) (h2:GetD ms1 t2 a2 ms2) (h7:∀ u v,a2.ps u v=[.own (aJ e2 (aC k)) (a2.rt u v) ys]) (h5:memB a2.j A=true)
  (hf:fits bt (xs.length+ys.length)=some ()) (hat:At1 l mt U A (.call ⟨.builtin .append,#[.tmp t1,.tmp t2],#[t,t]⟩) d ty as ops i) (h:Pre P Z l mt U r0 w0 H i sl ms) :
  Pre P Z l mt U r0 w0 H (i+1) sl (⟨i,d,[],Value,fun _ v=>v,fun _ v=>[.own (aJ e (aC k)) v (xs++ys)]⟩ :: ms1):=by
 obtain ⟨S',hl,hR,hO⟩:=h
 subst hl
 obtain ⟨hA,⟨pos,aft,ho⟩,_⟩:=hat
 obtain ⟨b1,b2⟩:=fits_some hf
 obtain ⟨q1,hE,i',z,q3,q4,q5,q6,q7,q8⟩:=hz.h
 obtain ⟨m1,m2,m3,m4⟩:=h1.sub
 obtain ⟨n1,n2,_,_⟩:=h2.sub
 refine ⟨S'++[⟨true,MV Z ⟨S'.length,d,[],Value,fun _ v=>v,fun _ v=>[.own (aJ e (aC k)) v (xs++ys)]⟩⟩],by simp,(hR.sub m3 m4).mem rfl (by unfold dstAt; rw [ho]; rfl) (by intro t h; cases h),fun j hj=>?_⟩
 by_cases hlt:j < S'.length
 ·exact Owes.more (hO j hlt) hlt
 ·obtain rfl:j=S'.length:=by omega
  intro o' s' ho' hs' g r w hC hV0 hOld hn hot hdis hfr
  rw [ho] at ho'
  cases ho'
  rw [List.getElem?_append_right (Nat.le_refl _),Nat.sub_self] at hs'
  cases hs'
  rw [if_pos rfl]
  refine ⟨rfl,?_⟩
  have get:∀ a∈ms,memB a.j A=true→MV Z a (g a.j) w r (r a.d):=fun a hm hb=>by
   exact hR.got hm (hn a.j (vis_mem (by rw [← hA]; exact memB_iff.1 hb)).2)
  obtain ⟨v1,c1,c2,c3⟩:=get a1 m1 h4
  rw [h3,← c1,m2] at c2
  rw [m2] at c1
  replace c2:=c2.own rfl
  obtain ⟨v2,f1,f2,f3⟩:=get a2 (m3 _ n1) h5
  rw [h7,← f1,n2] at f2
  replace f2:=f2.own rfl
  have hyv:ev r (.tmp t2)=r t2:=rfl
  obtain ⟨kk,hread⟩ : ∃ kk,(aB (aC k)).rep w.heap [r t2] ys kk:=by
   generalize g a2.j=G2 at f2
   cases f2 with
   | fact h _=>exact h.elim
   | @own _ gg F0 _ hown hnil=>exact ⟨_,(Le.own (Le.refl (aC k)) e2).le hown⟩
  generalize hg1:g a1.j=G1 at c2 c3
  cases c2 with
  | fact h _=>exact h.elim
  | @own _ ff F0 _ hown hnil=>
   cases hnil
   rw [List.append_nil] at c3
   have hb:blks g (U.getD S'.length [])=ff:=by rw [h6]; simp [blks,hg1]
   refine OpW_mono (OpW.appendS (E:=aC k) (F:=ff) sInt_nofp q1 q3 q4 q5 rfl q6 (s:=.tmp t1) (x:=.tmp t2) rfl ⟨hown,c3⟩ (fun b hb=>hb) hyv hread (by rw [q7]; exact b1) b2) ?_
   rintro v w' ⟨hC',f',hf',hV⟩
   rw [hb]
   refine ⟨hC',f',hf',v,rfl,?_,hV.2⟩
   have:=HL.own (Z:=fun _=>False) (e:=.own (aJ e (aC k)) v (xs++ys)) (f:=f') hV.1 .nil
   exact .inl (by simpa using this)
theorem op_storeSeg {t:TypeId} {x y:Operand} {i:TypeInfo} {b off:Nat} {cs us:List Value} {e:TypeId} {r:Nat→Value} {d:Option Nat} {ty:TypeId} {pos:String} {aft:Array Edge} {gg:Option (Nat×Bool)}
  (hi:P.info? t=some i) (hs:us.length=i.size) (hrow:Row w b cs e) (hl:off+us.length≤cs.length) (hx:ev r x = .pointer (some ⟨b,off,none⟩)) (hy:(ev r y).cells.toList=us) (hu:∀ u∈us,u.oneCell'=true) :
  (execOp (ev r) ⟨d,.store t x y,ty,pos,aft,gg⟩).run P w = .ok .skip (w.setRow b (cs.take off++us++cs.drop (off+us.length)).toArray):=by
 have h:=run_storeCells_at P b off e us 0 cs.toArray w hrow (by simpa using hl) hu
 simp only [Nat.add_zero] at h
 have hy':(ev r y).cells=us.toArray:=by rw [← hy]
 simp only [execOp,Instr.storeAt,Instr.sureAddr,hx,storeVar]
 simp [hy',sizeOf,typeInfo,hi,hs,h]
theorem sto_pre {mt:Nat} {t e:TypeId} {t1 j1 n i:Nat} {y:Operand} {u:Value} {us cs ds:List Value} {ms ms1:List MemD} {sl:List (Nat×Nat×Value)} {A:List Nat} {ty:TypeId} {as:List (List Nat)} {ops:List Oper} {r0:Nat→Value} {w0:World} {H:List Nat} {Γ:List Ent} {F:List Nat} (hh:hotB l mt base=true) (ha:agr r0 base) (ht:STo P t n)
  (h1:GetD ms t1 ⟨j1,t1,[],Nat,fun _ b=>.pointer (some ⟨b,0,none⟩),fun _ b=>[.row b cs e]⟩ ms1) (hv:dO A none sl base fr) (hy:opv fr y=some u) (hc:CellsD Γ u us) (hn':us.length=n) (hs:SegD us 0 cs ds) (ho:Ones Γ us) (h4:memB j1 A=true) (h6:U.getD i []=[j1])
  (hS:∀ w,Chg H w0 w→SA Z w Γ [] F) (hat:At0 l mt U A (.store t (.tmp t1) y) ty as ops i) (h:Pre P Z l mt U r0 w0 H i sl ms) :
  Pre P Z l mt U r0 w0 H (i+1) sl (⟨i,t1,[],Nat,fun _ b=>.pointer (some ⟨b,0,none⟩),fun _ b=>[.row b ds e]⟩ :: ms1):=by
 obtain ⟨S',hl,hR,hO⟩:=h
 subst hl
 obtain ⟨hA,⟨pos,aft,hop⟩,_⟩:=hat
 obtain ⟨ti,q1,q2⟩:=ht.h
 obtain ⟨m1,_,m3,m4⟩:=h1.sub
 have hvis:=vis_mem (by rw [← hA]; exact memB_iff.1 h4)
 refine ⟨S'++[⟨true,MVn Z ⟨S'.length,t1,[],Nat,fun _ b=>.pointer (some ⟨b,0,none⟩),fun _ b=>[.row b ds e]⟩⟩],by simp,(hR.sub m3 m4).memN (b:=⟨S'.length,t1,[],Nat,fun _ b=>.pointer (some ⟨b,0,none⟩),fun _ b=>[.row b ds e]⟩) rfl (by unfold dstAt; rw [hop]; rfl) (hR.slot m1 hvis.1) rfl,fun j hj=>?_⟩
 by_cases hlt:j < S'.length
 ·exact Owes.more (hO j hlt) hlt
 ·obtain rfl:j=S'.length:=by omega
  intro o' s' ho' hs' g r w hC hV0 hOld hn hot hdis hfr
  rw [hop] at ho'
  cases ho'
  rw [List.getElem?_append_right (Nat.le_refl _),Nat.sub_self] at hs'
  cases hs'
  rw [if_pos rfl]
  refine ⟨rfl,?_⟩
  obtain ⟨b,c1,c2,c3⟩:=hR.got m1 (hn j1 hvis.2)
  simp only at c1 c2
  replace c2:=c2.own rfl
  generalize hg1:g j1=G1 at c2 c3
  cases c2 with
  | fact h _=>exact h.elim
  | @own _ ff F0 _ hown hnil=>
   cases hnil
   obtain ⟨rfl,hrow⟩:=hown
   have hb:blks g (U.getD S'.length [])=[b]:=by rw [h6]; simp [blks,hg1]
   have hr:=agr_vis hR hA hv (agr_base hh ha hot) hOld
   obtain ⟨e1,e2⟩:=hs.eq
   have hS':=hS w hC
   have hrun:=op_storeSeg (P:=P) (d:=none) (ty:=ty) (pos:=pos) (aft:=aft) (gg:=none) q1 (by rw [hn',q2]) hrow e1 (x:=.tmp t1) c1 (y:=y) (by rw [aT hr hy]; exact hc.eq hS') (ho.one hS')
   unfold OpW
   rw [hrun,hb]
   have hrow':=setRow_heap w b cs.toArray (cs.take 0++us++cs.drop (0+us.length)).toArray e _ hrow
   have hlt2:b < w.heap.size:=hrow.lt
   refine ⟨⟨rfl,rfl,rfl,Nat.le_refl _,by simp,fun j _ hj=>setRow_other w b j _ fun h=>hj (by simp [h])⟩,[b],fun b' hb'=>?_,b,c1,?_,by simp⟩
   ·rw [List.mem_singleton.1 hb']
    exact ⟨.inl (by simp),by simpa using hlt2⟩
   ·refine .inl (HL.own (f:=[b]) ⟨rfl,?_⟩ .nil)
    rw [e2]
    exact hrow'
theorem alc_pre {mt:Nat} {t i d:Nat} {cs:List Value} {sl:List (Nat×Nat×Value)} {ms:List MemD} {A:List Nat} {ty:TypeId} {as:List (List Nat)} {ops:List Oper} {r0:Nat→Value} {w0:World} {H:List Nat} (hz:ZVc P t cs) (h1:At1 l mt U A (.alloc t) d ty as ops i) (h:Pre P Z l mt U r0 w0 H i sl ms) :
   Pre P Z l mt U r0 w0 H (i+1) sl (⟨i,d,[],Nat,fun _ b=>.pointer (some ⟨b,0,none⟩),fun _ b=>[.row b cs t]⟩ :: ms):=by
 obtain ⟨i',z,t1,t2,t3⟩:=hz.h
 refine h.mem h1 rfl rfl (fun _ _ _ h=>nomatch h) fun S' S2 hl hR g r w hC hOld hn hot pos aft=>OpW_mono (OpW.alc (cs:=cs) t1 t2 (by rw [← t3])) ?_
 rintro v w' ⟨hC,f,hf,b,e1,e2,hrow⟩
 refine ⟨hC,f,hf,b,e2,?_,by rw [e1]; simp⟩
 have:=HL.own (Z:=fun _=>False) (e:=.row b cs t) (f:=[b]) ⟨rfl,hrow⟩ .nil
 rw [e1]
 exact .inl (by simpa using this)
theorem ln_pre {mt t n:Nat} {A:List Nat} {st:TypeId} {d:Nat} {ty:TypeId} {as:List (List Nat)} {ops:List Oper} {i:Nat} {sl:List (Nat×Nat×Value)} {ms:List MemD} {r0:Nat→Value} {w0:World} {H:List Nat} (h:Pre P Z l mt U r0 w0 H i sl ms) (h1:At1 l mt U A (.call ⟨.builtin .len,#[.tmp t],#[st]⟩) d ty as ops i) (ht:SLc P st) (hi:InhX ms) (hsr:srcB A ms=true) (hx:∀ x:Xof ms,LnD (visF A ms x) (visE A ms x) t n):Pre P Z l mt U r0 w0 H (i+1) ((i,d,.int .i64 (n:Int)) :: sl) ms:=by
 obtain ⟨S',hl,hR,hO⟩:=h
 subst hl
 obtain ⟨hA,⟨pos,aft,ho⟩,_⟩:=h1
 obtain ⟨e,i',q1,_,_⟩:=ht.h
 refine ⟨S'++[sV (.int .i64 (n:Int))],by simp,hR.val (by unfold dstAt; rw [ho]; rfl),fun j hj=>?_⟩
 by_cases h2:j < S'.length
 ·exact Owes.more (hO j h2) h2
 ·obtain rfl:j=S'.length:=by omega
  refine Owes.val (v:=.int .i64 (n:Int)) ho (by simp) rfl fun g r w hC hOld hn hot=>?_
  obtain ⟨x,hv,hE⟩:=see hR hA hi hsr hn
  obtain ⟨hlk,hln⟩:=hx x
  have hrt:=(agr_app hv agr_nil) t _ (by rw [List.append_nil]; exact hlk)
  obtain ⟨_,_,_,_,hS⟩:=hE.front (Γ:=[]) (F:=[]) rfl
  rw [List.append_nil] at hS
  obtain ⟨b,c,rfl⟩:=hln.sound hS
  exact op_len q1 (x:=.tmp t) hrt
theorem Pre.dep {mt t:Nat} {A:List Nat} {op:Op} {d:Nat} {ty:TypeId} {as:List (List Nat)} {ops:List Oper} {i:Nat} {sl:List (Nat×Nat×Value)} {ms:List MemD} {r0:Nat→Value} {w0:World} {H:List Nat} {X:Value→Value} (h:Pre P Z l mt U r0 w0 H i sl ms) (h1:At1 l mt U A op d ty as ops i) (hi:InhX ms) (hsr:srcB A ms=true) (hj:∃ j,fstJ t ms=some j∧memB j A=true)
  (hq:∀ (r:Nat→Value) (x:Xof ms),(∀ p∈visF A ms x,r p.1=p.2)→∀ w pos aft,(execOp (ev r) ⟨some d,op,ty,pos,aft,none⟩).run P w = .ok (.value (X (r t))) w):Pre P Z l mt U r0 w0 H (i+1) sl (⟨i,d,[t],Unit,fun u _=>X u,fun _ _=>[]⟩ :: ms):=by
 refine h.mem h1 rfl rfl (fun S' hR t' ht=>by rw [List.mem_singleton.1 ht]; exact src_anc h1.A hR hj) ?_
 intro S' S2 hl hR g r w hC hOld hn hot pos aft
 obtain ⟨x,hx,_⟩:=see hR (by rw [hl]; exact h1.A) hi hsr hn
 unfold OpW
 rw [hq r x hx]
 exact ⟨Chg.refl _ _,[],fun b hb=>absurd hb List.not_mem_nil,(),rfl,.inl .nil,List.nodup_nil⟩
theorem bld_pre {mt:Nat} {t:TypeId} {ps:List (Nat×Operand)} {zc:List Value} {pl:List (Nat×Nat)} {A:List Nat} {as:List (List Nat)} {d:Nat} {ty:TypeId} {ops:List Oper} {i:Nat} {sl:List (Nat×Nat×Value)} {ms:List MemD} {fr:Fr} {hd Γ:List Ent} {B:Bs} {r0:Nat→Value} {w0:World} {H:List Nat} {X:Value→List Value} {ts:List Nat} (hh:hotB l mt base=true) (hb:BuC P t zc pl) (hi:InhX ms) (hsr:srcB A ms=true) (hj:tsB A ms ts=true) (hv:dO A none sl base fr)
   (hx:∀ x:Xof ms,FillD (visE A ms x++Γ) (visF A ms x++fr) pl ps zc (X (srcT (lookD (mF ms x)) ts))) (h1:At1 l mt U A (.build t ps.toArray) d ty as ops i) (ha:agr r0 base) (hs:StX B Z hd Γ H w0) (h:Pre P Z l mt U r0 w0 H i sl ms) :
   Pre P Z l mt U r0 w0 H (i+1) sl (⟨i,d,ts,Unit,fun u _=>.agg (X u).toArray,fun _ _=>[]⟩ :: ms):=by
 have hts:∀ t∈ts,∃ j,fstJ t ms=some j∧memB j A=true:=fun t ht=>by
  have:=List.all_eq_true.1 hj t ht
  cases hf:fstJ t ms with
  | none=>rw [hf] at this; cases this
  | some j=>rw [hf] at this; exact ⟨j,rfl,this⟩
 refine h.mem h1 rfl rfl (fun S' hR t' ht=>src_anc h1.A hR (hts t' ht)) ?_
 intro S' S2 hl hR g r w hC hOld hn hot pos aft
 have hA:=h1.A
 rw [← hl] at hA
 have hbs:=agr_vis hR hA hv (agr_base hh ha hot) hOld
 obtain ⟨x,hxv,hxl⟩:=see hR hA hi hsr hn
 obtain ⟨F,Hd,⟨hHL,hHd,hHlt,hHn⟩,hS,hG⟩:=hs
 obtain ⟨G,_,_,_,hS2⟩:=hxl.front (StX.stay hS hG hC)
 have e:srcT (lookD (mF ms x)) ts=srcT r ts:=srcT_eq fun t ht=>by
  obtain ⟨j,h2,h3⟩:=hts t ht
  unfold lookD
  rw [look_vis h2 h3 hxv]
 have hF:=hx x
 rw [e] at hF
 have hrun:=(VQ.bld (P:=P) (hb:=hb) hF).sound hS2 (agr_app hxv hbs) (some d) ty pos aft none w (Chg.refl _ _)
 unfold OpW
 rw [hrun]
 exact ⟨Chg.refl _ _,[],fun b hb=>absurd hb List.not_mem_nil,(),rfl,.inl .nil,List.nodup_nil⟩
theorem lit_pre {mt:Nat} {α:Type} {t e:TypeId} {E:STy α} {z0:α} {bt i d:Nat} {sl:List (Nat×Nat×Value)} {ms:List MemD} {A:List Nat} {ty:TypeId} {as:List (List Nat)} {ops:List Oper} {r0:Nat→Value} {w0:World} {H:List Nat} (hz:STc P t α e E z0 bt) (h1:At1 l mt U A (.buildSlice t 0 #[]) d ty as ops i) (h:Pre P Z l mt U r0 w0 H i sl ms) :
   Pre P Z l mt U r0 w0 H (i+1) sl (⟨i,d,[],Value,fun _ v=>v,fun _ v=>[.own (aJ e E) v []]⟩ :: ms):=by
 obtain ⟨t1,_,i',z,t2,_⟩:=hz.h
 refine h.mem h1 rfl rfl (fun _ _ _ h=>nomatch h) fun S' S2 hl hR g r w hC hOld hn hot pos aft=>OpW_mono (OpW.made (own_lit0 (E:=E) t1 t2)) ?_
 rintro v w' ⟨hC,f,hf,hV⟩
 refine ⟨hC,f,hf,v,rfl,?_,hV.2⟩
 have:=HL.own (Z:=fun _=>False) (e:=.own (aJ e E) v []) (f:=f) hV.1 .nil
 exact .inl (by simpa using this)
theorem mk_pre {mt n:Nat} {α:Type} {t e:TypeId} {E:STy α} {z0:α} {bt i d:Nat} {sl:List (Nat×Nat×Value)} {ms:List MemD} {A:List Nat} {ty:TypeId} {as:List (List Nat)} {ops:List Oper} {r0:Nat→Value} {w0:World} {H:List Nat} {x:Operand} {z:Int} (hh:hotB l mt base=true) (ha:agr r0 base) (hz:STc P t α e E z0 bt) (hv:dO A none sl base fr) (hx:opv fr x=some (.int .i64 z)) (hn:mk bt z=some n) (h1:At1 l mt U A (.makeSlice t x x) d ty as ops i) (h:Pre P Z l mt U r0 w0 H i sl ms) :
   Pre P Z l mt U r0 w0 H (i+1) sl (⟨i,d,[],Value,fun _ v=>v,fun _ v=>[.own (aJ e E) v (List.replicate n z0)]⟩ :: ms):=by
 obtain ⟨e1,e2,e3⟩:=mk_some hn
 obtain ⟨t1,hE,i',z',t2,t3,t4,t5,t6,t7⟩:=hz.h
 subst e1
 refine h.mem h1 rfl rfl (fun _ _ _ h=>nomatch h) fun S' S2 hl hR g r w hC hOld hn hot pos aft=>?_
 have hb:=agr_vis hR (by rw [hl]; exact h1.A) hv (agr_base hh ha hot) hOld
 refine OpW_mono (OpW.made (own_make (E:=E) (z0:=z0) t1 t2 t3 t4 hE t5 t7 (aT hb hx) (aT hb hx) (by rw [t6]; exact e2) e3)) ?_
 rintro v w' ⟨hC,f,hf,hV⟩
 refine ⟨hC,f,hf,v,rfl,?_,hV.2⟩
 have:=HL.own (Z:=fun _=>False) (e:=.own (aJ e E) v (List.replicate n z0)) (f:=f) hV.1 .nil
 exact .inl (by simpa using this)
theorem lt_pre {mt:Nat} {α:Type} {t e:TypeId} {E:STy α} {z0:α} {bt i d:Nat} {sl:List (Nat×Nat×Value)} {ms:List MemD} {A:List Nat} {ty:TypeId} {as:List (List Nat)} {ops:List Oper} {r0:Nat→Value} {w0:World} {H:List Nat} {x:Operand} {u:Value} {Γ:List Ent} {F:List Nat} (hh:hotB l mt base=true) (ha:agr r0 base) (hz:STc P t α e E z0 bt) (hv:dO A none sl base fr) (hx:opv fr x=some u) (ho:One Γ u) (hS:∀ w,Chg H w0 w→SA Z w Γ [] F) (h1:At1 l mt U A (.buildSlice t 1 #[(0,x)]) d ty as ops i) (h:Pre P Z l mt U r0 w0 H i sl ms) :
   Pre P Z l mt U r0 w0 H (i+1) sl (⟨i,d,[],Nat,fun _ b=>.slice (some ⟨b,0,none⟩) 1 1,fun _ b=>[.row b [u] e]⟩ :: ms):=by
 obtain ⟨t1,hE,i',z',t2,t3,t4,t5,t6,t7⟩:=hz.h
 refine h.mem h1 rfl rfl (fun _ _ _ h=>nomatch h) fun S' S2 hl hR g r w hC hOld hn hot pos aft=>?_
 have hb:=agr_vis hR (by rw [hl]; exact h1.A) hv (agr_base hh ha hot) hOld
 refine OpW_mono (OpW.lit1 t1 t2 t3 t4 (aT hb hx) (ho.one (hS w hC))) ?_
 rintro v w' ⟨hC,f,hf,b,e1,e2,hrow⟩
 refine ⟨hC,f,hf,b,e2,?_,by rw [e1]; simp⟩
 have:=HL.own (Z:=fun _=>False) (e:=.row b [u] e) (f:=[b]) ⟨rfl,hrow⟩ .nil
 rw [e1]
 exact .inl (by simpa using this)
theorem ltn_pre {mt n:Nat} {t e:TypeId} {i d:Nat} {sl:List (Nat×Nat×Value)} {ms:List MemD} {A:List Nat} {ty:TypeId} {as:List (List Nat)} {ops:List Oper} {r0:Nat→Value} {w0:World} {H:List Nat} {ps:List (Nat×Operand)} {us:List Value} {Γ:List Ent} {F:List Nat} (hh:hotB l mt base=true) (ha:agr r0 base) (hz:LTc P t e) (hv:dO A none sl base fr) (hd:LitD Γ fr 0 ps us) (hn:us.length=n) (hb:(Nat.ble 1 n && Nat.ble n 16777216)=true) (hS:∀ w,Chg H w0 w→SA Z w Γ [] F) (h1:At1 l mt U A (.buildSlice t n ps.toArray) d ty as ops i) (h:Pre P Z l mt U r0 w0 H i sl ms) :
   Pre P Z l mt U r0 w0 H (i+1) sl (⟨i,d,[],Nat,fun _ b=>.slice (some ⟨b,0,none⟩) n n,fun _ b=>[.row b us e]⟩ :: ms):=by
 refine h.mem h1 rfl rfl (fun _ _ _ h=>nomatch h) fun S' S2 hl hR g r w hC hOld hnn hot pos aft=>?_
 have hb':=agr_vis hR (by rw [hl]; exact h1.A) hv (agr_base hh ha hot) hOld
 unfold OpW
 rw [hd.op hb' (hS w hC) hz hn hb]
 refine ⟨Chg.alloc _ _ _,[w.heap.size],fun b hb=>by rw [List.mem_singleton.1 hb]; simp,w.heap.size,rfl,?_,by simp⟩
 have:=HL.own (Z:=fun _=>False) (e:=.row w.heap.size us e) (f:=[w.heap.size]) ⟨rfl,heap_alloc_new w _⟩ .nil
 exact .inl (by simpa using this)
theorem mlt_pre {mt t:Nat} {α:Type} {s e:TypeId} {E:STy α} {z0:α} {bt i d:Nat} {sl:List (Nat×Nat×Value)} {ms:List MemD} {A:List Nat} {ty:TypeId} {as:List (List Nat)} {ops:List Oper} {r0:Nat→Value} {w0:World} {H:List Nat} (hz:STc P s α e E z0 bt) (hi:InhX ms) (hsr:srcB A ms=true) (hj:∃ j,fstJ t ms=some j∧memB j A=true) (hx:∀ x:Xof ms,OneD (visF A ms x) (visE A ms x) t) (h1:At1 l mt U A (.buildSlice s 1 #[(0,.tmp t)]) d ty as ops i) (h:Pre P Z l mt U r0 w0 H i sl ms) :
   Pre P Z l mt U r0 w0 H (i+1) sl (⟨i,d,[t],Nat,fun _ b=>.slice (some ⟨b,0,none⟩) 1 1,fun u b=>[.row b [u] e]⟩ :: ms):=by
 obtain ⟨t1,hE,i',z',t2,t3,t4,t5,t6,t7⟩:=hz.h
 refine h.mem h1 rfl rfl (fun S' hR t' ht=>by rw [List.mem_singleton.1 ht]; exact src_anc h1.A hR hj) ?_
 intro S' S2 hl hR g r w hC hOld hn hot pos aft
 obtain ⟨x,hv,hE⟩:=see hR (by rw [hl]; exact h1.A) hi hsr hn
 obtain ⟨hlk,hone⟩:=hx x
 have hrt:r t=_:=(agr_app hv agr_nil) t _ (by rw [List.append_nil]; exact hlk)
 obtain ⟨_,_,_,_,hS⟩:=hE.front (Γ:=[]) (F:=[]) rfl
 rw [List.append_nil] at hS
 refine OpW_mono (OpW.lit1 t1 t2 t3 t4 (x:=.tmp t) rfl (by show (r t).oneCell'=true; rw [hrt]; exact hone.one hS)) ?_
 rintro v w' ⟨hC,f,hf,b,e1,e2,hrow⟩
 refine ⟨hC,f,hf,b,e2,?_,by rw [e1]; simp⟩
 have:=HL.own (Z:=fun _=>False) (e:=.row b [r t] e) (f:=[b]) ⟨rfl,hrow⟩ .nil
 rw [e1]
 exact .inl (by simpa [srcV,srcT] using this)
theorem call_pre {mt:Nat} {β V:Type} {A:List Nat} {as:List (List Nat)} {d:Nat} {f:FuncId} {xs:List Operand} {ats:Array TypeId} {ty:TypeId} {mo:Option β} {rt:β→V→List Value} {ps:β→V→List Ent} {ops:List Oper} {i:Nat} {sl:List (Nat×Nat×Value)} {ms:List MemD} {fr:Fr} {hd Γ:List Ent} {B:Bs} {r0:Nat→Value} {w0:World} {H:List Nat} {y:β} (hh:hotB l mt base=true) (hf:FnC P f) (hv:dO A none sl base fr)
   (hc:∀ x:Xof ms,CallD P f xs (visF A ms x++fr) (visE A ms x++Γ) mo rt ps) (hi:InhX ms) (hsr:srcB A ms=true) (hw:∀ y v,owB (ps y v)=true) (h1:At1 l mt U A (.call ⟨.value (.func f),xs.toArray,ats⟩) d ty as ops i) (hy:mo=some y) (ha:agr r0 base) (hs:StX B Z hd Γ H w0) (h:Pre P Z l mt U r0 w0 H i sl ms) :
   Pre1 P Z l mt U r0 w0 H i sl ms ⟨i,d,[],V,fun _ v=>tupv (rt y v),fun _=>ps y⟩:=by
 obtain ⟨S',hl,hR,hO⟩:=h
 subst hl
 refine ⟨S',rfl,hR,hO,fun V' hV=>?_⟩
 obtain ⟨hA,⟨pos,aft,ho⟩,_⟩:=h1
 refine Owes.memX (V:=V') ho (by simp) rfl fun g r w hC hOld hn hot=>?_
 have hb:=agr_vis hR hA hv (agr_base hh ha hot) hOld
 obtain ⟨x,hx,hxl⟩:=see hR hA hi hsr hn
 obtain ⟨hx1,hct,hd,hr⟩:=hc x
 obtain ⟨fn,c,f1,f2,f3⟩:=hf.h
 refine Calls.of_ct f1 f2 f3 ?_
 rw [opvs_ev (agr_app hx hb) hx1]
 obtain ⟨F,Hd,⟨hHL,hHd,hHlt,hHn⟩,hS,hG⟩:=hs
 obtain ⟨G,hG',FV,hF',hS2⟩:=hxl.front (StX.stay hS hG hC)
 rw [ct_eq] at hct
 refine (hct.2 w (fun b=>Z b∨b∈G) [] (hr.sound (fun _ h=>h) (fun _ b hb=>.inr (hF' b hb)) hS2 hd.ho) List.nodup_nil (fun b hb=>absurd hb List.not_mem_nil)
  (fun b hb=>hb.elim (fun h=>Nat.lt_of_lt_of_le (hG.zlt b h) hC.size) fun h=>(hG' b h).2) y hy).mono ?_
 rintro e w' ⟨v,he,Z2,F2,hl2,hg2⟩
 have hl3:HL (fun _=>False) w' (ps y v) F2:=hl_own (hw y v) hl2
 have hlt:=(hl3.front (Γ:=[]) (F:=[]) rfl).lt
 obtain ⟨f',hsub,hV'⟩:=hV F2 w' r _ ⟨v,rfl,.inl hl3,hg2.nd⟩
 refine ⟨_,he,hg2.chg,f',fun b hb=>⟨(hg2.low b (hsub b hb)).resolve_left List.not_mem_nil,hlt b (by simpa using hsub b hb)⟩,hV'⟩
theorem visB_mem {A:List Nat} {g:Nat→List Nat} {b:Nat}:∀ {ms:List MemD},b∈visB A g ms→∃ a∈ms,memB a.j A=true∧b∈g a.j:=by
 intro ms
 induction ms with
 | nil=>intro h; exact absurd h List.not_mem_nil
 | cons a l ih=>
  intro h
  unfold visB at h
  cases hb:memB a.j A with
  | true=>
   rw [hb] at h
   rcases List.mem_append.1 h with h | h
   ·exact ⟨a,by simp,hb,h⟩
   ·obtain ⟨c,h1,h2⟩:=ih h; exact ⟨c,List.mem_cons_of_mem _ h1,h2⟩
  | false=>rw [hb] at h; obtain ⟨c,h1,h2⟩:=ih h; exact ⟨c,List.mem_cons_of_mem _ h1,h2⟩
theorem needV_of {mt i:Nat} (h:((U.set i []).all fun us=>!(us.contains l.length))=true):needV l U mt i=true:=by
 unfold needV
 simp only [List.all_eq_true,List.mem_range,Bool.or_eq_true,Bool.not_eq_true'] at h ⊢
 intro k _
 by_cases hk:k=i
 ·exact .inl (.inr (by rw [hk]; exact Nat.beq_refl i))
 ·refine .inl (.inl ?_)
  rw [List.getD_eq_getElem?_getD]
  cases hu:U[k]? with
  | none=>rfl
  | some us=>exact h us (List.mem_of_getElem? (i:=k) (by rw [List.getElem?_set_ne (fun e=>hk e.symm)]; exact hu))
theorem HO.mono {Z':Nat→Prop} (hz:∀ b,Z b→Z' b) {Δ:List Ent} {F:List Nat} (h:HO Z w Δ F):HO Z' w Δ F:=by
 induction h with
 | nil=>exact .nil
 | own h _ ih=>exact .own (h.mono hz) ih
 | rd _ ih=>exact .rd ih
 | ats _ ih=>exact .ats ih
theorem callH_pre {mt:Nat} {β V:Type} {A:List Nat} {as:List (List Nat)} {d:Nat} {f:FuncId} {xs:List Operand} {ats:Array TypeId} {ty:TypeId} {mo:Option β} {rt:β→V→List Value} {ps:β→V→List Ent} {ops:List Oper} {i:Nat} {sl:List (Nat×Nat×Value)} {ms:List MemD} {fr:Fr} {hd Γ:List Ent} {B:Bs} {r0:Nat→Value} {w0:World} {H:List Nat} {y:β} (hh:hotB l mt base=true) (hf:FnC P f) (hv:dO A none sl base fr)
   (hU:U.getD i []=[l.length]) (hVc:((U.set i []).all fun us=>!(us.contains l.length))=true)
   (hc:∀ x:Xof ms,CallH P f xs (visF A ms x++fr) hd (visE A ms x++Γ) mo rt ps) (hi:InhX ms) (hsr:srcB A ms=true) (hw:∀ y v,owB (ps y v)=true) (h1:At1 l mt U A (.call ⟨.value (.func f),xs.toArray,ats⟩) d ty as ops i) (hy:mo=some y) (ha:agr r0 base) (hs:StX B Z hd Γ H w0) (h:Pre P Z l mt U r0 w0 H i sl ms) :
   Pre1 P Z l mt U r0 w0 H i sl ms ⟨i,d,[],V,fun _ v=>tupv (rt y v),fun _=>ps y⟩:=by
 obtain ⟨S',hl,hR,hO⟩:=h
 subst hl
 refine ⟨S',rfl,hR,hO,fun V' hV=>?_⟩
 obtain ⟨hA,⟨pos,aft,ho⟩,_⟩:=h1
 intro o' s' ho' hs' g r w hC hV0 hOld hn hot hdis hfr
 rw [ho] at ho'
 cases ho'
 rw [List.getElem?_append_right (Nat.le_refl _),Nat.sub_self] at hs'
 cases hs'
 rw [if_pos rfl]
 refine ⟨rfl,?_⟩
 obtain ⟨hC0,hgH,hfr0⟩:=hV0 (needV_of hVc)
 have hb:=agr_vis hR hA hv (agr_base hh ha hot) hOld
 obtain ⟨x,hx,hxl⟩:=see hR hA hi hsr hn
 obtain ⟨hx1,hct,heo,hr⟩:=hc x
 obtain ⟨fn,c,f1,f2,f3⟩:=hf.h
 refine Calls.of_ct f1 f2 f3 ?_
 rw [opvs_ev (agr_app hx hb) hx1]
 obtain ⟨F,Hd,⟨hHL,hHd,hHlt,hHn⟩,hS,hG⟩:=hs
 obtain ⟨G,hG',FV,hF',hS2⟩:=hxl.front (StX.stay hS hG hC)
 obtain ⟨Fd,F',hHO,_,hpm⟩:=heo.sound (hHL.keep0 hC0)
 have hsub:∀ b∈Fd,b∈H:=fun b hb=>(hHd b (hpm.mem_iff.1 (List.mem_append_left _ hb))).1
 have hnd:=List.nodup_append.1 hG.nd
 have hblk:blks g (U.getD S'.length [])=H:=by rw [hU]; simp [blks,hgH]
 rw [hblk]
 rw [ct_eq] at hct
 refine (hct.2 w (fun b=>Z b∨b∈G) Fd (hr.sound (fun _ h=>h) (fun _ b hb=>.inr (hF' b hb)) hS2 (hHO.mono fun _ h=>.inl h)) ((hpm.nodup_iff.2 hHn).sublist (List.sublist_append_left _ _)) (fun b hb=>?_)
  (fun b hb=>hb.elim (fun h=>Nat.lt_of_lt_of_le (hG.zlt b h) hC.size) fun h=>(hG' b h).2) y hy).mono ?_
 ·rintro (hz | hz)
  ·exact hG.apart b (List.mem_append_left _ (hsub b hb)) hz
  ·rcases List.mem_append.1 (hG' b hz).1 with hz | hz
   ·obtain ⟨a,ham,hab,hag⟩:=visB_mem hz
    have h2:=hfr0 a.j (vis_mem (by rw [← hA]; exact memB_iff.1 hab)).1 b hag
    have h3:=hHlt b (hsub b hb)
    omega
   ·exact hnd.2.2 b (hsub b hb) b hz rfl
 ·rintro e w' ⟨v,he,Z2,F2,hl2,hg2⟩
  have hl3:HL (fun _=>False) w' (ps y v) F2:=hl_own (hw y v) hl2
  have hlt:=(hl3.front (Γ:=[]) (F:=[]) rfl).lt
  obtain ⟨f',hsb,hV'⟩:=hV F2 w' r _ ⟨v,rfl,.inl hl3,hg2.nd⟩
  exact ⟨_,he,hg2.chg.mono hsub,f',fun b hb=>⟨(hg2.low b (hsb b hb)).imp (hsub b) id,hlt b (by simpa using hsb b hb)⟩,hV'⟩
theorem GetJ.sub {ms ms':List MemD} {a:MemD} {t:Nat} (h:GetJ ms t a ms'):a∈ms∧a.j=t∧(∀ b∈ms',b∈ms)∧(ms'.map (·.j)).Sublist (ms.map (·.j))∧((ms.map (·.j)).Nodup→∀ b∈ms',b.j≠t):=by
 induction h with
 | here=>exact ⟨by simp,rfl,fun b hb=>List.mem_cons_of_mem _ hb,by simp,fun hn b hb he=>by rw [List.map_cons,List.nodup_cons] at hn; exact hn.1 (by rw [← he]; exact List.mem_map_of_mem hb)⟩
 | there _ ih=>
  obtain ⟨h1,h2,h3,h4,h5⟩:=ih
  refine ⟨List.mem_cons_of_mem _ h1,h2,fun b hb=>?_,by simpa using h4,fun hn b hb=>?_⟩
  ·rcases List.mem_cons.1 hb with rfl | hb
   ·simp
   ·exact List.mem_cons_of_mem _ (h3 b hb)
  ·rw [List.map_cons,List.nodup_cons] at hn
   rcases List.mem_cons.1 hb with rfl | hb
   ·intro he
    exact hn.1 (by rw [he,← h2]; exact List.mem_map_of_mem h1)
   ·exact h5 hn.2 b hb
theorem callM_pre {mt:Nat} {β V:Type} {j1:Nat} {a1:MemD} {A:List Nat} {as:List (List Nat)} {d:Nat} {f:FuncId} {xs:List Operand} {ats:Array TypeId} {ty:TypeId} {mo:Option β} {rt:β→V→List Value} {ps:β→V→List Ent} {ops:List Oper} {i:Nat} {sl:List (Nat×Nat×Value)} {ms ms1:List MemD} {fr:Fr} {hd Γ:List Ent} {B:Bs} {r0:Nat→Value} {w0:World} {H:List Nat} {y:β} (hh:hotB l mt base=true) (hf:FnC P f) (hv:dO A none sl base fr)
   (hU:U.getD i []=[j1]) (hg1:GetJ ms j1 a1 ms1) (hs1:a1.src=[]) (h4:memB j1 A=true)
   (hc:∀ (q:a1.V) (x:Xof ms1),CallH P f xs (visF A ms1 x++fr) (a1.ps undef q) (visE A ms1 x++Γ) mo rt ps) (hi:InhX ms1) (hsr:srcB A ms1=true) (hw:∀ y v,owB (ps y v)=true) (h1:At1 l mt U A (.call ⟨.value (.func f),xs.toArray,ats⟩) d ty as ops i) (hy:mo=some y) (ha:agr r0 base) (hs:StX B Z hd Γ H w0) (h:Pre P Z l mt U r0 w0 H i sl ms) :
   Pre1 P Z l mt U r0 w0 H i sl ms1 ⟨i,d,[],V,fun _ v=>tupv (rt y v),fun _=>ps y⟩:=by
 obtain ⟨S',hl,hR0,hO⟩:=h
 subst hl
 obtain ⟨m1,m2,m3,m4,m5⟩:=hg1.sub
 have hR:=hR0.sub m3 m4
 refine ⟨S',rfl,hR,hO,fun V' hV=>?_⟩
 obtain ⟨hA,⟨pos,aft,ho⟩,_⟩:=h1
 intro o' s' ho' hs' g r w hC hV0 hOld hn hot hdis hfr
 rw [ho] at ho'
 cases ho'
 rw [List.getElem?_append_right (Nat.le_refl _),Nat.sub_self] at hs'
 cases hs'
 rw [if_pos rfl]
 refine ⟨rfl,?_⟩
 have hvis:=vis_mem (by rw [← hA]; exact memB_iff.1 h4)
 have hb:=agr_vis hR hA hv (agr_base hh ha hot) hOld
 obtain ⟨x,hx,hxl⟩:=see hR hA hi hsr hn
 obtain ⟨q,_,hq2,hq3⟩:=hR0.got m1 (hn a1.j (by rw [m2]; exact hvis.2))
 have hsv:srcV a1 r=undef:=by unfold srcV; rw [hs1]; rfl
 rw [hsv,m2] at hq2
 rw [m2] at hq3
 obtain ⟨hx1,hct,heo,hr⟩:=hc q x
 obtain ⟨fn,c,f1,f2,f3⟩:=hf.h
 refine Calls.of_ct f1 f2 f3 ?_
 rw [opvs_ev (agr_app hx hb) hx1]
 obtain ⟨F,Hd,⟨hHL,hHd,hHlt,hHn⟩,hS,hG⟩:=hs
 have hSt:=StX.stay hS hG hC
 obtain ⟨G,hG',FV,hF',hS2⟩:=hxl.front hSt
 obtain ⟨Fo,Fr,hff,hFr,hq4⟩:=hq2.all
 have hSq:SA (fun b=>Z b∨b∈Fr) w (a1.ps undef q) [] Fo:=by
  have:=hq4.front (Γ:=[]) (F:=[]) rfl
  simpa using this
 have hnq:=List.nodup_append.1 (hff ▸ hq3)
 obtain ⟨Fd,F',hHO,_,hpm⟩:=heo.sound hSq
 have hsub0:∀ b∈Fd,b∈Fo:=fun b hb=>hpm.mem_iff.1 (List.mem_append_left _ hb)
 have hsub:∀ b∈Fd,b∈g j1:=fun b hb=>by rw [hff]; exact List.mem_append_left _ (hsub0 b hb)
 have hnd:=List.nodup_append.1 hG.nd
 have hblk:blks g (U.getD S'.length [])=g j1:=by rw [hU]; simp [blks]
 rw [hblk]
 rw [ct_eq] at hct
 have hfb:∀ b∈g j1,w0.heap.size≤b∨b∈H:=fun b hb=>(hfr j1 hvis.1 b hb).1
 refine (hct.2 w (fun b=>Z b∨b∈Fr++G) Fd (hr.sound (fun _ h=>h) (fun _ b hb=>.inr (List.mem_append_right _ (hF' b hb))) (hS2.mono (fun _ h=>h.imp id fun h=>List.mem_append_right _ h) fun _ h=>h) (hHO.mono fun _ h=>h.imp id fun h=>List.mem_append_left _ h)) ((hpm.nodup_iff.2 hnq.1).sublist (List.sublist_append_left _ _)) (fun b hb=>?_)
  (fun b hb=>hb.elim (fun h=>Nat.lt_of_lt_of_le (hG.zlt b h) hC.size) fun h=>(List.mem_append.1 h).elim (hFr b) fun h=>(hG' b h).2) y hy).mono ?_
 ·rintro (hz | hz)
  ·rcases hfb b (hsub b hb) with h | h
   ·have:=hG.zlt b hz; omega
   ·exact hG.apart b (List.mem_append_left _ h) hz
  ·rcases List.mem_append.1 hz with hz | hz
   ·exact hnq.2.2 b (hsub0 b hb) b hz rfl
   rcases List.mem_append.1 (hG' b hz).1 with hz | hz
   ·obtain ⟨a,ham,hab,hag⟩:=visB_mem hz
    exact hdis a.j (vis_mem (by rw [← hA]; exact memB_iff.1 hab)).1 j1 hvis.1 (m5 hR0.d a ham) b hag (hsub b hb)
   ·rcases hfb b (hsub b hb) with h | h
    ·have:=hS.lt b hz; omega
    ·exact hnd.2.2 b h b hz rfl
 ·rintro e w' ⟨v,he,Z2,F2,hl2,hg2⟩
  have hl3:HL (fun _=>False) w' (ps y v) F2:=hl_own (hw y v) hl2
  have hlt:=(hl3.front (Γ:=[]) (F:=[]) rfl).lt
  obtain ⟨f',hsb,hV'⟩:=hV F2 w' r _ ⟨v,rfl,.inl hl3,hg2.nd⟩
  exact ⟨_,he,hg2.chg.mono hsub,f',fun b hb=>⟨(hg2.low b (hsb b hb)).imp (hsub b) id,hlt b (by simpa using hsb b hb)⟩,hV'⟩
theorem SA.app {Γ Γ':List Ent} {F F':List Nat}:∀ {cur:List Nat},SA Z w Γ' cur F'→SA Z w Γ [] F→SA Z w (Γ'++Γ) cur (F'++F):=by
 induction Γ' generalizing F' with
 | nil=>intro cur h hs; cases h; exact hs.any
 | cons e Γ' ih=>
  intro cur h hs
  cases e with
  | own T v x=>obtain ⟨f,F1,rfl,h1,h2⟩:=h; exact ⟨f,F1++F,by rw [List.append_assoc],h1,ih h2 hs⟩
  | om e E v xs=>obtain ⟨f,F1,rfl,h1,h2⟩:=h; exact ⟨f,F1++F,by rw [List.append_assoc],h1,ih h2 hs⟩
  | row b cs e=>obtain ⟨f,F1,rfl,h1,h2⟩:=h; exact ⟨f,F1++F,by rw [List.append_assoc],h1,ih h2 hs⟩
  | hol e E v xs j u=>obtain ⟨f,F1,rfl,h1,h2⟩:=h; exact ⟨f,F1++F,by rw [List.append_assoc],h1,ih h2 hs⟩
  | rd o T v x=>exact ⟨h.1,ih h.2 hs⟩
  | ad o1 o2 v j T x=>exact ⟨h.1,ih h.2 hs⟩
  | ats p cs=>exact ⟨h.1,ih h.2 hs⟩
  | hd v j u=>exact ⟨h.1,ih h.2 hs⟩
open Classical in
theorem rdN {w':World} {Zc Z2:Nat→Prop} {Fd F2 K:List Nat} {Δ:List Ent} (hl:HL Z2 w' Δ F2) (hg:Gd ⟨w,Zc,Fd⟩ Z2 F2 w') (hz:∀ b,Zc b→Z b∨b∈K) (hK:∀ b∈Fd,b∈K) :
  ∃ f,(∀ b∈f,(b∈K∨w.heap.size≤b)∧b < w'.heap.size)∧HN Z w' Δ f∧f.Nodup:=by
 have hlt:=(hl.front (Γ:=[]) (F:=[]) rfl).lt
 by_cases ho:owB Δ=true
 ·exact ⟨F2,fun b hb=>⟨(hg.low b hb).imp (hK b) id,hlt b (by simpa using hb)⟩,.inl (hl_own ho hl),hg.nd⟩
 ·let Fr:=(List.range w'.heap.size).filter fun b=>decide (Z2 b∧(b∈K∨w.heap.size≤b))
  have hFr:∀ b,b∈Fr↔b < w'.heap.size∧Z2 b∧(b∈K∨w.heap.size≤b):=fun b=>by simp [Fr]
  refine ⟨F2++Fr,fun b hb=>?_,.inr ⟨F2,Fr,rfl,⟨by simpa using ho,fun b hb=>((hFr b).1 hb).1⟩,hl.mono fun b hb=>?_⟩,?_⟩
  ·rcases List.mem_append.1 hb with hb | hb
   ·exact ⟨(hg.low b hb).imp (hK b) id,hlt b (by simpa using hb)⟩
   ·exact ⟨((hFr b).1 hb).2.2,((hFr b).1 hb).1⟩
  ·rcases hg.zlow b hb with h | h | h
   ·rcases hz b h with h | h
    ·exact .inl h
    ·exact .inr ((hFr b).2 ⟨hg.zlt b hb,hb,.inl h⟩)
   ·exact .inr ((hFr b).2 ⟨hg.zlt b hb,hb,.inl (hK b h)⟩)
   ·exact .inr ((hFr b).2 ⟨hg.zlt b hb,hb,.inr h⟩)
  ·refine nodup_app hg.nd (List.nodup_range.filter _) fun b hb hf=>hg.apart b hb ((hFr b).1 hf).2.1
theorem callR_pre {mt:Nat} {β V:Type} {A:List Nat} {as:List (List Nat)} {d:Nat} {f:FuncId} {xs:List Operand} {ats:Array TypeId} {ty:TypeId} {mo:Option β} {rt:β→V→List Value} {ps:β→V→List Ent} {ops:List Oper} {i:Nat} {sl:List (Nat×Nat×Value)} {ms:List MemD} {fr:Fr} {hd Γ:List Ent} {B:Bs} {r0:Nat→Value} {w0:World} {H:List Nat} {y:β} (hh:hotB l mt base=true) (hf:FnC P f) (hv:dO A none sl base fr)
   (hc:∀ x:Xof ms,CallR P f xs (visF A ms x++fr) Γ mo rt ps) (hi:InhX ms) (hsr:srcB A ms=true) (h1:At1 l mt U A (.call ⟨.value (.func f),xs.toArray,ats⟩) d ty as ops i) (hy:mo=some y) (ha:agr r0 base) (hs:StX B Z hd Γ H w0) (h:Pre P Z l mt U r0 w0 H i sl ms) :
   Pre1 P Z l mt U r0 w0 H i sl ms ⟨i,d,[],V,fun _ v=>tupv (rt y v),fun _=>ps y⟩:=by
 obtain ⟨S',hl,hR,hO⟩:=h
 subst hl
 refine ⟨S',rfl,hR,hO,fun V' hV=>?_⟩
 obtain ⟨hA,⟨pos,aft,ho⟩,_⟩:=h1
 refine Owes.memX (V:=V') ho (by simp) rfl fun g r w hC hOld hn hot=>?_
 have hb:=agr_vis hR hA hv (agr_base hh ha hot) hOld
 obtain ⟨x,hx,hxl⟩:=see hR hA hi hsr hn
 obtain ⟨hx1,hct,hd,hr⟩:=hc x
 obtain ⟨fn,c,f1,f2,f3⟩:=hf.h
 refine Calls.of_ct f1 f2 f3 ?_
 rw [opvs_ev (agr_app hx hb) hx1]
 obtain ⟨F,Hd,⟨hHL,hHd,hHlt,hHn⟩,hS,hG⟩:=hs
 have hSt:=StX.stay hS hG hC
 rw [ct_eq] at hct
 refine (hct.2 w Z [] (hr.sound (fun _ h=>h) (fun h=>nomatch h) hSt hd.ho) List.nodup_nil (fun b hb=>absurd hb List.not_mem_nil)
  (fun b h=>Nat.lt_of_lt_of_le (hG.zlt b h) hC.size) y hy).mono ?_
 rintro e w' ⟨v,he,Z2,F2,hl2,hg2⟩
 obtain ⟨f2,k1,k2,k3⟩:=rdN (Z:=Z) (K:=[]) hl2 hg2 (fun _ h=>.inl h) fun _ h=>h
 obtain ⟨f',hsub,hV'⟩:=hV f2 w' r _ ⟨v,rfl,k2,k3⟩
 exact ⟨_,he,hg2.chg,f',fun b hb=>⟨(k1 b (hsub b hb)).1.resolve_left List.not_mem_nil,(k1 b (hsub b hb)).2⟩,hV'⟩
theorem callHR_pre {mt:Nat} {β V:Type} {A:List Nat} {as:List (List Nat)} {d:Nat} {f:FuncId} {xs:List Operand} {ats:Array TypeId} {ty:TypeId} {mo:Option β} {rt:β→V→List Value} {ps:β→V→List Ent} {ops:List Oper} {i:Nat} {sl:List (Nat×Nat×Value)} {ms:List MemD} {fr:Fr} {hd Γ:List Ent} {B:Bs} {r0:Nat→Value} {w0:World} {H:List Nat} {y:β} (hh:hotB l mt base=true) (hf:FnC P f) (hv:dO A none sl base fr)
   (hU:U.getD i []=[l.length]) (hVc:((U.set i []).all fun us=>!(us.contains l.length))=true)
   (hc:∀ x:Xof ms,CallHR P f xs (visF A ms x++fr) hd Γ mo rt ps) (hi:InhX ms) (hsr:srcB A ms=true) (h1:At1 l mt U A (.call ⟨.value (.func f),xs.toArray,ats⟩) d ty as ops i) (hy:mo=some y) (ha:agr r0 base) (hs:StX B Z hd Γ H w0) (h:Pre P Z l mt U r0 w0 H i sl ms) :
   Pre1 P Z l mt U r0 w0 H i sl ms ⟨i,d,[],V,fun _ v=>tupv (rt y v),fun _=>ps y⟩:=by
 obtain ⟨S',hl,hR,hO⟩:=h
 subst hl
 refine ⟨S',rfl,hR,hO,fun V' hV=>?_⟩
 obtain ⟨hA,⟨pos,aft,ho⟩,_⟩:=h1
 intro o' s' ho' hs' g r w hC hV0 hOld hn hot hdis hfr
 rw [ho] at ho'
 cases ho'
 rw [List.getElem?_append_right (Nat.le_refl _),Nat.sub_self] at hs'
 cases hs'
 rw [if_pos rfl]
 refine ⟨rfl,?_⟩
 obtain ⟨hC0,hgH,hfr0⟩:=hV0 (needV_of hVc)
 have hb:=agr_vis hR hA hv (agr_base hh ha hot) hOld
 obtain ⟨x,hx,hxl⟩:=see hR hA hi hsr hn
 obtain ⟨hx1,hct,heo,hr⟩:=hc x
 obtain ⟨fn,c,f1,f2,f3⟩:=hf.h
 refine Calls.of_ct f1 f2 f3 ?_
 rw [opvs_ev (agr_app hx hb) hx1]
 obtain ⟨F,Hd,⟨hHL,hHd,hHlt,hHn⟩,hS,hG⟩:=hs
 have hSt:=StX.stay hS hG hC
 obtain ⟨Fd,F',hHO,hSr,hpm⟩:=heo.sound (hHL.keep0 hC0)
 have hsub:∀ b∈Fd,b∈H:=fun b hb=>(hHd b (hpm.mem_iff.1 (List.mem_append_left _ hb))).1
 have hnd:=List.nodup_append.1 hG.nd
 have hblk:blks g (U.getD S'.length [])=H:=by rw [hU]; simp [blks,hgH]
 rw [hblk]
 rw [ct_eq] at hct
 refine (hct.2 w Z Fd (hr.sound (fun _ h=>h) (fun h=>nomatch h) (hSr.app hSt) hHO) ((hpm.nodup_iff.2 hHn).sublist (List.sublist_append_left _ _)) (fun b hb=>hG.apart b (List.mem_append_left _ (hsub b hb)))
  (fun b h=>Nat.lt_of_lt_of_le (hG.zlt b h) hC.size) y hy).mono ?_
 rintro e w' ⟨v,he,Z2,F2,hl2,hg2⟩
 obtain ⟨f2,k1,k2,k3⟩:=rdN (Z:=Z) (K:=H) hl2 hg2 (fun _ h=>.inl h) hsub
 obtain ⟨f',hsb,hV'⟩:=hV f2 w' r _ ⟨v,rfl,k2,k3⟩
 exact ⟨_,he,hg2.chg.mono hsub,f',fun b hb=>k1 b (hsb b hb),hV'⟩
theorem callMR_pre {mt:Nat} {β V:Type} {j1:Nat} {a1:MemD} {A:List Nat} {as:List (List Nat)} {d:Nat} {f:FuncId} {xs:List Operand} {ats:Array TypeId} {ty:TypeId} {mo:Option β} {rt:β→V→List Value} {ps:β→V→List Ent} {ops:List Oper} {i:Nat} {sl:List (Nat×Nat×Value)} {ms ms1:List MemD} {fr:Fr} {hd Γ:List Ent} {B:Bs} {r0:Nat→Value} {w0:World} {H:List Nat} {y:β} (hh:hotB l mt base=true) (hf:FnC P f) (hv:dO A none sl base fr)
   (hU:U.getD i []=[j1]) (hg1:GetJ ms j1 a1 ms1) (hs1:a1.src=[]) (h4:memB j1 A=true)
   (hc:∀ (q:a1.V) (x:Xof ms1),CallHR P f xs ((a1.d,a1.rt undef q) :: (visF A ms1 x++fr)) (a1.ps undef q) Γ mo rt ps) (hi:InhX ms1) (hsr:srcB A ms1=true) (h1:At1 l mt U A (.call ⟨.value (.func f),xs.toArray,ats⟩) d ty as ops i) (hy:mo=some y) (ha:agr r0 base) (hs:StX B Z hd Γ H w0) (h:Pre P Z l mt U r0 w0 H i sl ms) :
   Pre1 P Z l mt U r0 w0 H i sl ms1 ⟨i,d,[],V,fun _ v=>tupv (rt y v),fun _=>ps y⟩:=by
 obtain ⟨S',hl,hR0,hO⟩:=h
 subst hl
 obtain ⟨m1,m2,m3,m4,m5⟩:=hg1.sub
 have hR:=hR0.sub m3 m4
 refine ⟨S',rfl,hR,hO,fun V' hV=>?_⟩
 obtain ⟨hA,⟨pos,aft,ho⟩,_⟩:=h1
 intro o' s' ho' hs' g r w hC hV0 hOld hn hot hdis hfr
 rw [ho] at ho'
 cases ho'
 rw [List.getElem?_append_right (Nat.le_refl _),Nat.sub_self] at hs'
 cases hs'
 rw [if_pos rfl]
 refine ⟨rfl,?_⟩
 have hvis:=vis_mem (by rw [← hA]; exact memB_iff.1 h4)
 have hb:=agr_vis hR hA hv (agr_base hh ha hot) hOld
 obtain ⟨x,hx,hxl⟩:=see hR hA hi hsr hn
 obtain ⟨q,hq1,hq2,hq3⟩:=hR0.got m1 (hn a1.j (by rw [m2]; exact hvis.2))
 have hsv:srcV a1 r=undef:=by unfold srcV; rw [hs1]; rfl
 rw [hsv,m2] at hq2
 rw [hsv] at hq1
 rw [m2] at hq3
 obtain ⟨hx1,hct,heo,hr⟩:=hc q x
 obtain ⟨fn,c,f1,f2,f3⟩:=hf.h
 refine Calls.of_ct f1 f2 f3 ?_
 rw [opvs_ev (agr_app (g:=(a1.d,a1.rt undef q) :: visF A ms1 x) (fun p hp=>(List.mem_cons.1 hp).elim (fun e=>e ▸ hq1) (hx p)) hb) hx1]
 obtain ⟨F,Hd,⟨hHL,hHd,hHlt,hHn⟩,hS,hG⟩:=hs
 have hSt:=StX.stay hS hG hC
 obtain ⟨Fo,Fr,hff,hFr,hq4⟩:=hq2.all
 have hSq:SA (fun b=>Z b∨b∈Fr) w (a1.ps undef q) [] Fo:=by
  have:=hq4.front (Γ:=[]) (F:=[]) rfl
  simpa using this
 have hnq:=List.nodup_append.1 (hff ▸ hq3)
 obtain ⟨Fd,F',hHO,hSr,hpm⟩:=heo.sound hSq
 have hsub0:∀ b∈Fd,b∈Fo:=fun b hb=>hpm.mem_iff.1 (List.mem_append_left _ hb)
 have hsub:∀ b∈Fd,b∈g j1:=fun b hb=>by rw [hff]; exact List.mem_append_left _ (hsub0 b hb)
 have hnd:=List.nodup_append.1 hG.nd
 have hblk:blks g (U.getD S'.length [])=g j1:=by rw [hU]; simp [blks]
 rw [hblk]
 rw [ct_eq] at hct
 have hfb:∀ b∈g j1,w0.heap.size≤b∨b∈H:=fun b hb=>(hfr j1 hvis.1 b hb).1
 refine (hct.2 w (fun b=>Z b∨b∈Fr) Fd (hr.sound (fun _ h=>h) (fun h=>nomatch h) (hSr.app (hSt.mono (fun _ h=>.inl h) fun _ h=>h)) hHO) ((hpm.nodup_iff.2 hnq.1).sublist (List.sublist_append_left _ _)) (fun b hb=>?_)
  (fun b hb=>hb.elim (fun h=>Nat.lt_of_lt_of_le (hG.zlt b h) hC.size) (hFr b)) y hy).mono ?_
 ·rintro (hz | hz)
  ·rcases hfb b (hsub b hb) with h | h
   ·have:=hG.zlt b hz; omega
   ·exact hG.apart b (List.mem_append_left _ h) hz
  ·exact hnq.2.2 b (hsub0 b hb) b hz rfl
 ·rintro e w' ⟨v,he,Z2,F2,hl2,hg2⟩
  obtain ⟨f2,k1,k2,k3⟩:=rdN (Z:=Z) (K:=g j1) hl2 hg2 (fun b h=>h.imp id fun h=>by rw [hff]; exact List.mem_append_right _ h) hsub
  obtain ⟨f',hsb,hV'⟩:=hV f2 w' r _ ⟨v,rfl,k2,k3⟩
  exact ⟨_,he,hg2.chg.mono hsub,f',fun b hb=>k1 b (hsb b hb),hV'⟩
theorem Pre.valV {mt:Nat} {A:List Nat} {op:Op} {d:Nat} {ty:TypeId} {as:List (List Nat)} {ops:List Oper} {i:Nat} {sl:List (Nat×Nat×Value)} {ms:List MemD} {r0:Nat→Value} {w0:World} {H:List Nat} {u:Value} (h:Pre P Z l mt U r0 w0 H i sl ms) (hh:hotB l mt base=true) (ha:agr r0 base) (h1:At1 l mt U A op d ty as ops i)
  (hV:(U.zipIdx.all fun p=>!(p.1.contains l.length) || ((ancs l).getD p.2 []).contains i)=true) (hv:dO A none sl base fr) (hq:∀ r,agr r fr→∀ pos aft g w,Chg [] w0 w→(execOp (ev r) ⟨some d,op,ty,pos,aft,g⟩).run P w = .ok (.value u) w):Pre P Z l mt U r0 w0 H (i+1) ((i,d,u) :: sl) ms:=by
 obtain ⟨S',hl,hR,hO⟩:=h
 subst hl
 obtain ⟨hA,⟨pos,aft,ho⟩,_⟩:=h1
 refine ⟨S'++[sV u],by simp,hR.val (by unfold dstAt; rw [ho]; rfl),fun j hj=>?_⟩
 by_cases h2:j < S'.length
 ·exact Owes.more (hO j h2) h2
 ·obtain rfl:j=S'.length:=by omega
  have hN:needV l U mt S'.length=true:=by
   unfold needV
   simp only [List.all_eq_true,List.mem_range,Bool.or_eq_true,Bool.not_eq_true'] at hV ⊢
   intro k _
   rw [List.getD_eq_getElem?_getD]
   cases hu:U[k]? with
   | none=>exact .inl (.inl rfl)
   | some us=>
    have hm:(us,k)∈U.zipIdx:=by rw [List.mem_zipIdx_iff_getElem?]; exact hu
    exact (hV _ hm).imp .inl id
  intro o' s' ho' hs' g r w hC hV0 hOld hn hot hdis hfr
  rw [ho] at ho'
  cases ho'
  rw [List.getElem?_append_right (Nat.le_refl _),Nat.sub_self] at hs'
  cases hs'
  rw [if_pos rfl]
  refine ⟨rfl,?_⟩
  unfold OpW
  rw [hq r (agr_vis hR hA hv (agr_base hh ha hot) hOld) _ _ _ w (hV0 hN).1]
  exact ⟨Chg.refl _ _,[],fun b hb=>absurd hb List.not_mem_nil,rfl⟩
theorem apH_pre {mt:Nat} {hd hd':List Ent} {α:Type} {t e e' et:TypeId} {E E':STy α} {z0:α} {bt t1 t2 j2:Nat} {v u yv:Value} {j:Int} {y:α} {z:List α} {xs:List (List α)} {o1 o2:Bool} {Γx:List Ent} {ms2:List MemD} {A:List Nat} {as:List (List Nat)} {d:Nat} {ty:TypeId} {ops:List Oper} {i:Nat} {sl:List (Nat×Nat×Value)} {ms:List MemD} {Γ:List Ent} {B:Bs} {r0:Nat→Value} {w0:World} {H:List Nat} (hh:hotB l mt base=true) (ha:agr r0 base) (hT:STc P t α e E z0 bt) (hU:U.getD i []=[l.length])
   (hVc:((U.set i []).all fun us=>!(us.contains l.length))=true) (hv:dO A none sl base fr) (hs:look fr t1=some u) (h2:GetD ms t2 ⟨j2,t2,[],Nat,fun _ b=>.slice (some ⟨b,0,none⟩) 1 1,fun _ b=>[.row b [yv] et]⟩ ms2) (h5:memB j2 A=true) (hl:Loc hd u (.row v j)) (hz:Fnd hd u o1 o2 E' z noE Γx) (h1:Sel hd (.own (aJ e' (aJ e E)) v xs) hd') (hr:RT (aJ e E) (aB E')) (hy:TkE [] E yv y [])
   (hf:fits bt (z.length+1)=some ()) (hat:At1 l mt U A (.call ⟨.builtin .append,#[.tmp t1,.tmp t2],#[t,t]⟩) d ty as ops i) (hst:StX B Z hd Γ H w0) (h:Pre P Z l mt U r0 w0 H i sl ms) :
  Pre P Z l mt U r0 w0 H (i+1) sl (⟨i,d,[],Value,fun _ v'=>v',fun _ v'=>[.own (aJ e E) v' (z++[y]),.own (sHole e' (aJ e E) j.toNat) v xs]⟩ :: ms)∧StX B Z hd' Γ H w0:=by
 obtain ⟨F,Hd,⟨hHL,hHd,hHlt,hHn⟩,hS,hG⟩:=hst
 obtain ⟨fm0,F10,hp10,_,hS10⟩:=h1.sound hHL
 refine ⟨?_,F,F10,⟨hS10,fun b hb=>hHd b (hp10.mem_iff.1 (List.mem_append_right _ hb)),hHlt,(hp10.nodup_iff.2 hHn).sublist (List.sublist_append_right _ _)⟩,hS,hG⟩
 obtain ⟨S',hl',hR,hO⟩:=h
 subst hl'
 obtain ⟨hA,⟨pos,aft,ho⟩,_⟩:=hat
 obtain ⟨b1,b2⟩:=fits_some hf
 obtain ⟨q1,q2,ii,zz,q3,q4,q5,q6,q7,_⟩:=hT.h
 obtain ⟨n1,_,_,_⟩:=h2.sub
 refine ⟨S'++[⟨true,MV Z ⟨S'.length,d,[],Value,fun _ v'=>v',fun _ v'=>[.own (aJ e E) v' (z++[y]),.own (sHole e' (aJ e E) j.toNat) v xs]⟩⟩],by simp,hR.mem rfl (by unfold dstAt; rw [ho]; rfl) (by intro t h; cases h),fun k hk=>?_⟩
 by_cases hlt:k < S'.length
 ·exact Owes.more (hO k hlt) hlt
 ·obtain rfl:k=S'.length:=by omega
  intro o' s' ho' hs' g r w hC hV0 hOld hn hot hdis hfr
  rw [ho] at ho'
  cases ho'
  rw [List.getElem?_append_right (Nat.le_refl _),Nat.sub_self] at hs'
  cases hs'
  rw [if_pos rfl]
  refine ⟨rfl,?_⟩
  obtain ⟨hC0,hgH,hfr0⟩:=hV0 (needV_of hVc)
  have hHw:=hHL.keep0 hC0
  obtain ⟨j0,j1,hcell⟩:=Loc.row hl rfl hHw
  obtain ⟨cur',_,⟨⟨gz,hgz,_⟩,_⟩,_⟩:=hz.sound hHw
  obtain ⟨fm,F1,hp1,hOw,_⟩:=h1.sound hHw
  obtain ⟨ky,F2,hp2,hky,_⟩:=hy.sound (Z:=Z) (w:=w) (F:=[]) rfl
  have hk0:ky=[]:=by
   cases ky with
   | nil=>rfl
   | cons a l=>exact absurd (hp2.mem_iff.1 (List.mem_append_left _ List.mem_cons_self)) List.not_mem_nil
  subst hk0
  rw [own_slen hOw] at j1
  obtain ⟨k,gm,a1,a2,a3⟩:=own_hole rfl hOw (List.getElem?_eq_getElem j1) hcell
  have hzz:xs[j.toNat]=z:=hr.det (hr.le.le a1) hgz
  rw [hzz] at a1
  have hfmn:(k++gm).Nodup:=a2.nodup_iff.2 ((hp1.nodup_iff.2 hHn).sublist (List.sublist_append_left _ _))
  have hkn:=List.nodup_append.1 hfmn
  have hsubk:∀ b∈k++gm,b∈H:=fun b hb=>(hHd b (hp1.mem_iff.1 (List.mem_append_left _ (a2.mem_iff.1 hb)))).1
  obtain ⟨b,c1,c2,c3⟩:=hR.got n1 (hn j2 (vis_mem (by rw [← hA]; exact memB_iff.1 h5)).2)
  simp only at c1 c2
  replace c2:=c2.own rfl
  generalize hg1:g j2=G1 at c2 c3
  cases c2 with
  | fact h _=>exact h.elim
  | @own _ ff F0 _ hrow0 hnil=>
   cases hnil
   obtain ⟨rfl,hrow⟩:=hrow0
   have hb:=agr_vis hR hA hv (agr_base hh ha hot) hOld
   obtain ⟨v',w',f',hrun,hC',hrep,hsub,hnd'⟩:=own_append (E:=E) (d:=some d) (ty:=ty) (pos:=pos) (aft:=aft) (g:=none) (r:=r) (s:=.tmp t1) (x:=.tmp t2) (k:=[]) (ys:=[y]) (news:=[yv]) q1 q3 q4 (by rw [q5,q2]) (by rw [cells_one q6,q2]; rfl) (hb _ _ hs) a1 hkn.1 c1 (fun i u hi=>hrow.at i u hi) (repL_single hky) (fun _ h=>absurd h List.not_mem_nil) (by simp) (by rw [q7]; exact b1) b2
   unfold OpW
   rw [hrun]
   have hblk:blks g (U.getD S'.length [])=H:=by rw [hU]; simp [blks,hgH]
   rw [hblk]
   have hgm:(sHole e' (aJ e E) j.toNat).rep w'.heap [v] xs gm:=STy.keep _ a3 hC' fun b hb hk=>hkn.2.2 b hk b hb rfl
   refine ⟨hC'.mono fun b hb=>hsubk b (List.mem_append_left _ hb),f'++gm,fun b hb=>?_,v',rfl,?_,?_⟩
   ·rcases List.mem_append.1 hb with hb | hb
    ·refine ⟨?_,STy.lt _ hrep b hb⟩
     rcases hsub b hb with h | h | h
     ·exact .inl (hsubk b (List.mem_append_left _ h))
     ·exact absurd h List.not_mem_nil
     ·exact .inr h
    ·exact ⟨.inl (hsubk b (List.mem_append_right _ hb)),STy.lt _ hgm b hb⟩
   ·have:=HL.own (Z:=fun _=>False) (e:=.own (aJ e E) v' (z++[y])) (f:=f') hrep (HL.own (e:=.own (sHole e' (aJ e E) j.toNat) v xs) (f:=gm) hgm .nil)
    exact .inl (by simpa using this)
   ·refine nodup_app (hnd' List.nodup_nil) hkn.2.1 fun b hb hm=>?_
    rcases hsub b hb with h | h | h
    ·exact hkn.2.2 b h b hm rfl
    ·exact absurd h List.not_mem_nil
    ·have:=STy.lt _ a3 b hm; omega
theorem apL_pre {mt:Nat} {hd hd':List Ent} {t e e' e3 et:TypeId} {kk:IntKind} {E':STy (List Int)} {z0:List Int} {bt t1 t2 t3 j2 j3 n:Nat} {v u:Value} {us:List Value} {j:Int} {ys:List Int} {z:List (List Int)} {xs:List (List (List Int))} {o1 o2:Bool} {Γx:List Ent} {ms2 ms3:List MemD} {A:List Nat} {as:List (List Nat)} {d:Nat} {ty:TypeId} {ops:List Oper} {i:Nat} {sl:List (Nat×Nat×Value)} {ms:List MemD} {Γ:List Ent} {B:Bs} {r0:Nat→Value} {w0:World} {H:List Nat} (hh:hotB l mt base=true) (ha:agr r0 base) (hT:STc P t (List Int) e (aJ e3 (aC kk)) z0 bt) (hU:U.getD i []=[l.length,j3])
   (hVc:((U.set i []).all fun us=>!(us.contains l.length))=true) (hv:dO A none sl base fr) (hs:look fr t1=some u) (h2:GetD ms t2 ⟨j2,t2,[t3],Nat,fun _ b=>.slice (some ⟨b,0,none⟩) 1 1,fun u b=>[.row b [u] et]⟩ ms2) (h3:GetD ms2 t3 ⟨j3,t3,[],Nat,fun _ b=>.slice (some ⟨b,0,none⟩) n n,fun _ b=>[.row b us e3]⟩ ms3) (h5:memB j2 A=true) (h6:memB j3 A=true) (hl:Loc hd u (.row v j)) (hz:Fnd hd u o1 o2 E' z noE Γx) (h1:Sel hd (.own (aJ e' (aJ e (aJ e3 (aC kk)))) v xs) hd') (hr:RT (aJ e (aJ e3 (aC kk))) (aB E')) (hi:LiI kk us ys) (hn':us.length=n) (hb':Nat.ble n 16777216=true)
   (hf:fits bt (z.length+1)=some ()) (hat:At1 l mt U A (.call ⟨.builtin .append,#[.tmp t1,.tmp t2],#[t,t]⟩) d ty as ops i) (hst:StX B Z hd Γ H w0) (h:Pre P Z l mt U r0 w0 H i sl ms) :
  Pre P Z l mt U r0 w0 H (i+1) sl (⟨i,d,[],Value,fun _ v'=>v',fun _ v'=>[.own (aJ e (aJ e3 (aC kk))) v' (z++[ys]),.own (sHole e' (aJ e (aJ e3 (aC kk))) j.toNat) v xs]⟩ :: ms3)∧StX B Z hd' Γ H w0:=by
 obtain ⟨F,Hd,⟨hHL,hHd,hHlt,hHn⟩,hS,hG⟩:=hst
 obtain ⟨fm0,F10,hp10,_,hS10⟩:=h1.sound hHL
 refine ⟨?_,F,F10,⟨hS10,fun b hb=>hHd b (hp10.mem_iff.1 (List.mem_append_right _ hb)),hHlt,(hp10.nodup_iff.2 hHn).sublist (List.sublist_append_right _ _)⟩,hS,hG⟩
 obtain ⟨S',hl',hR,hO⟩:=h
 subst hl'
 obtain ⟨hA,⟨pos,aft,ho⟩,_⟩:=hat
 obtain ⟨b1,b2⟩:=fits_some hf
 obtain ⟨q1,q2,ii,zz,q3,q4,q5,q6,q7,_⟩:=hT.h
 obtain ⟨n1,_,m3,m4⟩:=h2.sub
 obtain ⟨n3,_,m5,m6⟩:=h3.sub
 refine ⟨S'++[⟨true,MV Z ⟨S'.length,d,[],Value,fun _ v'=>v',fun _ v'=>[.own (aJ e (aJ e3 (aC kk))) v' (z++[ys]),.own (sHole e' (aJ e (aJ e3 (aC kk))) j.toNat) v xs]⟩⟩],by simp,(hR.sub (fun b hb=>m3 b (m5 b hb)) (m6.trans m4)).mem rfl (by unfold dstAt; rw [ho]; rfl) (by intro t h; cases h),fun k hk=>?_⟩
 by_cases hlt:k < S'.length
 ·exact Owes.more (hO k hlt) hlt
 ·obtain rfl:k=S'.length:=by omega
  intro o' s' ho' hs' g r w hC hV0 hOld hn hot hdis hfr
  rw [ho] at ho'
  cases ho'
  rw [List.getElem?_append_right (Nat.le_refl _),Nat.sub_self] at hs'
  cases hs'
  rw [if_pos rfl]
  refine ⟨rfl,?_⟩
  obtain ⟨hC0,hgH,hfr0⟩:=hV0 (needV_of hVc)
  have hHw:=hHL.keep0 hC0
  obtain ⟨j0,j1,hcell⟩:=Loc.row hl rfl hHw
  obtain ⟨cur',_,⟨⟨gz,hgz,_⟩,_⟩,_⟩:=hz.sound hHw
  obtain ⟨fm,F1,hp1,hOw,_⟩:=h1.sound hHw
  rw [own_slen hOw] at j1
  obtain ⟨k,gm,a1,a2,a3⟩:=own_hole rfl hOw (List.getElem?_eq_getElem j1) hcell
  have hzz:xs[j.toNat]=z:=hr.det (hr.le.le a1) hgz
  rw [hzz] at a1
  have hfmn:(k++gm).Nodup:=a2.nodup_iff.2 ((hp1.nodup_iff.2 hHn).sublist (List.sublist_append_left _ _))
  have hkn:=List.nodup_append.1 hfmn
  have hsubk:∀ b∈k++gm,b∈H:=fun b hb=>(hHd b (hp1.mem_iff.1 (List.mem_append_left _ (a2.mem_iff.1 hb)))).1
  have hv3:=vis_mem (by rw [← hA]; exact memB_iff.1 h6)
  obtain ⟨b,c1,c2,c3⟩:=hR.got n1 (hn j2 (vis_mem (by rw [← hA]; exact memB_iff.1 h5)).2)
  obtain ⟨b3,d1,d2,d3⟩:=hR.got (m3 _ n3) (hn j3 hv3.2)
  replace c1:r t2 = .slice (some ⟨b,0,none⟩) 1 1:=c1
  replace c2:HL (fun _=>False) w [.row b [r t3] et] (g j2):=c2.own rfl
  replace d1:r t3 = .slice (some ⟨b3,0,none⟩) n n:=d1
  replace d2:HL (fun _=>False) w [.row b3 us e3] (g j3):=d2.own rfl
  have hf3:=hfr0 j3 hv3.1
  generalize hg1:g j2=G1 at c2 c3
  generalize hg3:g j3=G3 at d2 d3 hf3
  cases c2 with
  | fact h _=>exact h.elim
  | @own _ ff F0 _ hrow0 hnil=>
   cases hnil
   obtain ⟨rfl,hrow⟩:=hrow0
   cases d2 with
   | fact h _=>exact h.elim
   | @own _ ff3 F3 _ hrow3 hnil3=>
    cases hnil3
    obtain ⟨rfl,hrow3⟩:=hrow3
    obtain ⟨e1,e2⟩:=LiI.sound hi w.heap
    have hble:=Nat.le_of_ble_eq_true hb'
    have hE:(aJ e3 (aC kk)).rep w.heap [r t3] ys [b3]:=by
     rw [d1]
     refine ⟨some ⟨b3,0,none⟩,n,by rw [← hn',e1],.inr ⟨b3,us.toArray,[],rfl,hrow3,rfl,by rw [← hn',e1]; exact Nat.le_refl _,Nat.le_trans hble (by decide),by rw [show (aC kk).size=1 from rfl,Nat.mul_one]; simp [hn'],?_⟩⟩
     rw [show (aC kk).size=1 from rfl,Nat.mul_one,List.toList_toArray,← e1,List.take_length]
     exact e2
    have hnew:w0.heap.size≤b3:=hf3 b3 (by simp)
    have hout:∀ b∈k++gm,b≠b3:=fun b hb he=>by
     have:=hHlt b (hsubk b hb)
     omega
    have hb:=agr_vis hR hA hv (agr_base hh ha hot) hOld
    obtain ⟨v',w',f',hrun,hC',hrep,hsub,hnd'⟩:=own_append (E:=aJ e3 (aC kk)) (d:=some d) (ty:=ty) (pos:=pos) (aft:=aft) (g:=none) (r:=r) (s:=.tmp t1) (x:=.tmp t2) (k:=[b3]) (ys:=[ys]) (news:=[r t3]) q1 q3 q4 (by rw [q5,q2]) (by rw [cells_one q6,q2]; rfl) (hb _ _ hs) a1 hkn.1 c1 (fun i u hi=>hrow.at i u hi) (repL_single hE) (fun b hb hm=>hout b (List.mem_append_left _ hm) (List.mem_singleton.1 hb)) (by simp) (by rw [q7]; exact b1) b2
    unfold OpW
    rw [hrun]
    have hblk:blks g (U.getD S'.length [])=H++[b3]:=by rw [hU]; simp [blks,hgH,hg3]
    rw [hblk]
    have hgm:(sHole e' (aJ e (aJ e3 (aC kk))) j.toNat).rep w'.heap [v] xs gm:=STy.keep _ a3 hC' fun b hb hk=>hkn.2.2 b hk b hb rfl
    refine ⟨hC'.mono fun b hb=>List.mem_append_left _ (hsubk b (List.mem_append_left _ hb)),f'++gm,fun b hb=>?_,v',rfl,?_,?_⟩
    ·rcases List.mem_append.1 hb with hb | hb
     ·refine ⟨?_,STy.lt _ hrep b hb⟩
      rcases hsub b hb with h | h | h
      ·exact .inl (List.mem_append_left _ (hsubk b (List.mem_append_left _ h)))
      ·exact .inl (List.mem_append_right _ h)
      ·exact .inr h
     ·exact ⟨.inl (List.mem_append_left _ (hsubk b (List.mem_append_right _ hb))),STy.lt _ hgm b hb⟩
    ·have:=HL.own (Z:=fun _=>False) (e:=.own (aJ e (aJ e3 (aC kk))) v' (z++[ys])) (f:=f') hrep (HL.own (e:=.own (sHole e' (aJ e (aJ e3 (aC kk))) j.toNat) v xs) (f:=gm) hgm .nil)
     exact .inl (by simpa using this)
    ·refine nodup_app (hnd' (by simp)) hkn.2.1 fun b hb hm=>?_
     rcases hsub b hb with h | h | h
     ·exact hkn.2.2 b h b hm rfl
     ·exact hout b (List.mem_append_right _ hm) (List.mem_singleton.1 h)
     ·have:=STy.lt _ a3 b hm; omega
theorem apM_pre {mt:Nat} {t e e3 et:TypeId} {kk:IntKind} {z0:List Int} {bt t1 t2 t3 j1 j2 j3 n:Nat} {us:List Value} {ys:List Int} {z:List (List Int)} {a1:MemD} {ms1 ms2 ms3:List MemD} {A:List Nat} {as:List (List Nat)} {d:Nat} {ty:TypeId} {ops:List Oper} {i:Nat} {sl:List (Nat×Nat×Value)} {ms:List MemD} {r0:Nat→Value} {w0:World} {H:List Nat} (hT:STc P t (List Int) e (aJ e3 (aC kk)) z0 bt) (hU:U.getD i []=[j1,j3])
   (h1:GetD ms t1 a1 ms1) (h2:GetD ms1 t2 ⟨j2,t2,[t3],Nat,fun _ b=>.slice (some ⟨b,0,none⟩) 1 1,fun u b=>[.row b [u] et]⟩ ms2) (h3:GetD ms2 t3 ⟨j3,t3,[],Nat,fun _ b=>.slice (some ⟨b,0,none⟩) n n,fun _ b=>[.row b us e3]⟩ ms3) (hp:∀ u v,a1.ps u v=[.own (aJ e (aJ e3 (aC kk))) (a1.rt u v) z]) (hj:a1.j=j1) (hne:Nat.beq j1 j3=false) (h4:memB j1 A=true) (h5:memB j2 A=true) (h6:memB j3 A=true) (hi:LiI kk us ys) (hn':us.length=n) (hb':Nat.ble n 16777216=true)
   (hf:fits bt (z.length+1)=some ()) (hat:At1 l mt U A (.call ⟨.builtin .append,#[.tmp t1,.tmp t2],#[t,t]⟩) d ty as ops i) (h:Pre P Z l mt U r0 w0 H i sl ms) :
  Pre P Z l mt U r0 w0 H (i+1) sl (⟨i,d,[],Value,fun _ v'=>v',fun _ v'=>[.own (aJ e (aJ e3 (aC kk))) v' (z++[ys])]⟩ :: ms3):=by
 obtain ⟨S',hl',hR,hO⟩:=h
 subst hl'
 subst hj
 obtain ⟨hA,⟨pos,aft,ho⟩,_⟩:=hat
 obtain ⟨b1,b2⟩:=fits_some hf
 obtain ⟨q1,q2,ii,zz,q3,q4,q5,q6,q7,_⟩:=hT.h
 obtain ⟨k1,k2,k3,k4⟩:=h1.sub
 obtain ⟨n1,_,m3,m4⟩:=h2.sub
 obtain ⟨n3,_,m5,m6⟩:=h3.sub
 refine ⟨S'++[⟨true,MV Z ⟨S'.length,d,[],Value,fun _ v'=>v',fun _ v'=>[.own (aJ e (aJ e3 (aC kk))) v' (z++[ys])]⟩⟩],by simp,(hR.sub (fun b hb=>k3 b (m3 b (m5 b hb))) ((m6.trans m4).trans k4)).mem rfl (by unfold dstAt; rw [ho]; rfl) (by intro t h; cases h),fun k hk=>?_⟩
 by_cases hlt:k < S'.length
 ·exact Owes.more (hO k hlt) hlt
 ·obtain rfl:k=S'.length:=by omega
  intro o' s' ho' hs' g r w hC hV0 hOld hn hot hdis hfr
  rw [ho] at ho'
  cases ho'
  rw [List.getElem?_append_right (Nat.le_refl _),Nat.sub_self] at hs'
  cases hs'
  rw [if_pos rfl]
  refine ⟨rfl,?_⟩
  have hv1:=vis_mem (by rw [← hA]; exact memB_iff.1 h4)
  have hv3:=vis_mem (by rw [← hA]; exact memB_iff.1 h6)
  obtain ⟨v1,p1,p2,p3⟩:=hR.got k1 (hn a1.j hv1.2)
  rw [hp,← p1,k2] at p2
  replace p2:=p2.own rfl
  obtain ⟨b,c1,c2,c3⟩:=hR.got (k3 _ n1) (hn j2 (vis_mem (by rw [← hA]; exact memB_iff.1 h5)).2)
  obtain ⟨b3,d1,d2,d3⟩:=hR.got (k3 _ (m3 _ n3)) (hn j3 hv3.2)
  replace c1:r t2 = .slice (some ⟨b,0,none⟩) 1 1:=c1
  replace c2:HL (fun _=>False) w [.row b [r t3] et] (g j2):=c2.own rfl
  replace d1:r t3 = .slice (some ⟨b3,0,none⟩) n n:=d1
  replace d2:HL (fun _=>False) w [.row b3 us e3] (g j3):=d2.own rfl
  have hd13:=hdis a1.j hv1.1 j3 hv3.1 (fun e=>by rw [e,Nat.beq_refl] at hne; cases hne)
  generalize hg1:g j2=G1 at c2 c3
  generalize hg3:g j3=G3 at d2 d3 hd13
  generalize hg2:g a1.j=G2 at p2 p3 hd13
  cases c2 with
  | fact h _=>exact h.elim
  | @own _ ff F0 _ hrow0 hnil=>
   cases hnil
   obtain ⟨rfl,hrow⟩:=hrow0
   cases d2 with
   | fact h _=>exact h.elim
   | @own _ ff3 F3 _ hrow3 hnil3=>
    cases hnil3
    obtain ⟨rfl,hrow3⟩:=hrow3
    cases p2 with
    | fact h _=>exact h.elim
    | @own _ k F4 _ hown hnil4=>
     cases hnil4
     rw [List.append_nil] at p3
     obtain ⟨e1,e2⟩:=LiI.sound hi w.heap
     have hble:=Nat.le_of_ble_eq_true hb'
     have hE:(aJ e3 (aC kk)).rep w.heap [r t3] ys [b3]:=by
      rw [d1]
      refine ⟨some ⟨b3,0,none⟩,n,by rw [← hn',e1],.inr ⟨b3,us.toArray,[],rfl,hrow3,rfl,by rw [← hn',e1]; exact Nat.le_refl _,Nat.le_trans hble (by decide),by rw [show (aC kk).size=1 from rfl,Nat.mul_one]; simp [hn'],?_⟩⟩
      rw [show (aC kk).size=1 from rfl,Nat.mul_one,List.toList_toArray,← e1,List.take_length]
      exact e2
     have hout:∀ b∈k,b≠b3:=fun b hb he=>hd13 b (by simpa using hb) (by simp [he])
     obtain ⟨v',w',f',hrun,hC',hrep,hsub,hnd'⟩:=own_append (E:=aJ e3 (aC kk)) (d:=some d) (ty:=ty) (pos:=pos) (aft:=aft) (g:=none) (r:=r) (s:=.tmp t1) (x:=.tmp t2) (k:=[b3]) (ys:=[ys]) (news:=[r t3]) q1 q3 q4 (by rw [q5,q2]) (by rw [cells_one q6,q2]; rfl) rfl hown p3 c1 (fun i u hi=>hrow.at i u hi) (repL_single hE) (fun b hb hm=>hout b hm (List.mem_singleton.1 hb)) (by simp) (by rw [q7]; exact b1) b2
     unfold OpW
     rw [hrun]
     have hblk:blks g (U.getD S'.length [])=k++[b3]:=by rw [hU]; simp [blks,hg2,hg3]
     rw [hblk]
     refine ⟨hC'.mono fun b hb=>List.mem_append_left _ hb,f',fun b hb=>?_,v',rfl,?_,hnd' (by simp)⟩
     ·refine ⟨?_,STy.lt _ hrep b hb⟩
      rcases hsub b hb with h | h | h
      ·exact .inl (List.mem_append_left _ h)
      ·exact .inl (List.mem_append_right _ h)
      ·exact .inr h
     ·have:=HL.own (Z:=fun _=>False) (e:=.own (aJ e (aJ e3 (aC kk))) v' (z++[ys])) (f:=f') hrep .nil
      exact .inl (by simpa using this)
end
end Go.Dk
namespace Go.Dk
open Go Go.Li
section
variable {R S:Type} {P:Program} {cx:Cx R} {K:Kont R S} {l tail:List Oper} {base fr:Fr} {U:List (List Nat)} {hd:List Ent}
def semA (P:Program) (cx:Cx R) (K:Kont R S) (l:List Oper) (mt:Nat) (U:List (List Nat)) (hd:List Ent) (id:Nat) (base:Fr):JA R S→Prop
 | .a as ops i sl ms Γ m=>Here l mt U as ops i→Fin P cx K l mt U hd id base i sl ms Γ m
 | .o A op d ty as ops i sl ms Γ m=>At1 l mt U A op d ty as ops i→Fin P cx K l mt U hd id base i sl ms Γ m
 | .oc us f xs ats A d ty as ops i sl ms Γ m=>U.getD i []=us→At1 l mt U A (.call ⟨.value (.func f),xs.toArray,ats⟩) d ty as ops i→Fin P cx K l mt U hd id base i sl ms Γ m
 | .os A op ty as ops i sl ms Γ m=>At0 l mt U A op ty as ops i→Fin P cx K l mt U hd id base i sl ms Γ m
 | .ow _ A op d ty as ops i sl ms Γ m=>At1 l mt U A op d ty as ops i→Fin P cx K l mt U hd id base i sl ms Γ m
 | .ix _ v fr x y t A d ty as ops i sl ms Γ m=>dO A none sl base fr→opv fr x=some v→At1 l mt U A (.indexAddr t x y) d ty as ops i→Fin P cx K l mt U hd id base i sl ms Γ m
 | .lb _ v j fr t x A d ty as ops i sl ms Γ m=>dO A none sl base fr→opv fr x=some (.pointer (some (elA v 1 j)))→NA P t→At1 l mt U A (.load t x) d ty as ops i→Fin P cx K l mt U hd id base i sl ms Γ m
 | .ap us t1 t2 t A d ty as ops i sl ms Γ m=>U.getD i []=us→At1 l mt U A (.call ⟨.builtin .append,#[.tmp t1,.tmp t2],#[t,t]⟩) d ty as ops i→Fin P cx K l mt U hd id base i sl ms Γ m
 | .la fr a lk t x A d ty as ops i sl ms Γ m=>dO A none sl base fr→opv fr x=some (.pointer (some a))→(match lk with | none=>NA P t | some n=>AG P t n)→At1 l mt U A (.load t x) d ty as ops i→Fin P cx K l mt U hd id base i sl ms Γ m
 | .ld E z fr a t x A d ty as ops i sl ms Γ m=>dO A none sl base fr→opv fr x=some (.pointer (some a))→NA P t→At1 l mt U A (.load t x) d ty as ops i→
   ∀ B o,m=some o→∀ r0 w0 H Z,agr r0 base→StX B Z hd Γ H w0→(∃ u,∀ w,Chg H w0 w→w.cell? a=some u∧∃ g,E.rep w.heap [u] z g)→Pre P Z l mt U r0 w0 H i sl ms→AnyW P cx.n l (postK P cx B K o) r0 w0
 | .p Δ as ops i sl ms Γ m=>Here l mt U as ops i→Fin P cx K l mt U hd id base i sl ms (Δ.reverse++Γ) m
 | .cr u ps d as ops i sl ms Γ m=>Here l mt U as ops (i+1)→dstAt l i=some d→
   ∀ B o,m=some o→∀ r0 w0 H Z,agr r0 base→StX B Z hd Γ H w0→Pre1 P Z l mt U r0 w0 H i sl ms ⟨i,d,[],_,fun _=>u,fun _=>ps⟩→AnyW P cx.n l (postK P cx B K o) r0 w0
theorem cel_cells {w:World} {e n:Nat} {v:Value} {us:List (List Value)} {f:List Nat} {j:Int} {c:List Value} (hO:(aJ e (sCel n)).rep w.heap [v] us f) (hj:0≤j) (hu:us[j.toNat]? = some c):c.length=n∧(∀ u∈c,u.oneCell'=true)∧∀ i u,c[i]? = some u→w.cell? ((elA v n j).add i)=some u:=by
 obtain ⟨_,_,cs,f1,⟨rfl,h1,h2,_⟩,_,h3⟩:=imm_get (((Le.own (Le.refl (sCel n)) e).le) hO) j hj hu
 exact ⟨h1,h2,h3⟩
theorem repL_cut {α:Type} {E:STy α} {h:Array Obj}:∀ {xs:List α} {cs:List Value} {f:List Nat} (n m:Nat),repL E h cs xs f→∃ f3,repL E h ((cs.drop (n * E.size)).take (m * E.size)) ((xs.drop n).take m) f3∧∀ b∈f3,b∈f:=by
 intro xs
 induction xs with
 | nil=>rintro cs f n m ⟨rfl,rfl⟩; exact ⟨[],by simpa using ⟨rfl,rfl⟩,fun _ h=>h⟩
 | cons x xs ih=>
  rintro cs f n m ⟨c,ds,f1,f2,rfl,rfl,h1,h2⟩
  cases n with
  | zero=>
   cases m with
   | zero=>exact ⟨[],by simpa using ⟨rfl,rfl⟩,fun _ h=>absurd h List.not_mem_nil⟩
   | succ m=>
    obtain ⟨f3,h3,h4⟩:=ih 0 m h2
    simp only [Nat.zero_mul,List.drop_zero] at h3 ⊢
    refine ⟨f1++f3,?_,fun b hb=>(List.mem_append.1 hb).elim (List.mem_append_left _) fun hb=>List.mem_append_right _ (h4 b hb)⟩
    have e:(m+1) * E.size=c.length+m * E.size:=by rw [E.len h1,Nat.add_mul,Nat.one_mul,Nat.add_comm]
    rw [e,List.take_append,List.take_of_length_le (by omega),List.take_succ_cons]
    exact ⟨c,_,f1,f3,rfl,rfl,h1,by simpa using h3⟩
  | succ n=>
   obtain ⟨f3,h3,h4⟩:=ih n m h2
   refine ⟨f3,?_,fun b hb=>List.mem_append_right _ (h4 b hb)⟩
   have e:(n+1) * E.size=c.length+n * E.size:=by rw [E.len h1,Nat.add_mul,Nat.one_mul,Nat.add_comm]
   rw [e,List.drop_append,List.drop_of_length_le (by omega),List.nil_append,List.drop_succ_cons]
   simpa using h3
theorem cut_fact {Z:Nat→Prop} {w:World} {cur g:List Nat} {o:Bool} {α:Type} {E:STy α} {base:Option Addr} {cap a b:Nat} {xs:List α} (hE:E.size=1) (hr:(aB E).rep w.heap [.slice base xs.length cap] xs g) (hg:∀ i∈g,inZ o Z cur i) (hab:a≤b) (hb:b≤xs.length) (hc:xs.length≤cap) :
  fact Z w cur (.rd o (aB E) (sliced base a b cap 1) ((xs.drop a).take (b - a))):=by
 have hlen:((xs.drop a).take (b - a)).length=b - a:=by rw [List.length_take,List.length_drop]; omega
 obtain ⟨base',cap',hv,hr'⟩:=hr
 obtain ⟨rfl,rfl⟩ : base=base'∧cap=cap':=by simpa using hv
 by_cases hj:a=b
 ·subst hj
  exact ⟨[],⟨_,cap - a,by unfold sliced; rw [hlen],.inl ⟨by simp,rfl⟩⟩,fun _ h=>absurd h List.not_mem_nil⟩
 ·rcases hr' with ⟨rfl,_⟩ | ⟨b0,off,cr,e',fz,f',rfl,g1,rfl,g2⟩
  ·exfalso; simp at hb; omega
  ·have hne : ¬ (cap=a):=by omega
   obtain ⟨f3,hrep,hsub⟩:=repL_cut a (b - a) g2
   refine ⟨b0 :: f3,⟨some ⟨b0,off+a,none⟩,cap - a,?_,.inr ⟨b0,off+a,cr,e',fz,f3,rfl,g1,rfl,?_⟩⟩,fun i hi=>?_⟩
   ·unfold sliced
    rw [hlen,if_neg hne]
    simp [addr_add]
   ·rw [hE,Nat.mul_one,Nat.mul_one,Nat.mul_one,List.drop_take,List.take_take,List.drop_drop,Nat.min_eq_left (by omega)] at hrep
    rw [hE,Nat.mul_one,hlen]
    exact hrep
   ·rcases List.mem_cons.1 hi with rfl | hi
    ·exact hg _ (by simp)
    ·exact hg _ (List.mem_cons_of_mem _ (hsub i hi))
theorem AD.sound {tq:Bool} {mt id:Nat} (hh:hotB l mt base=true)
  (hnil:∀ hd i sl ms Γ m,srcA ms=true→endB U sl ms=true→(∀ x:Xof ms,D P cx (.p (allF sl (mF ms x)) (allE ms x) base Γ fun fr Γ=>.tg tq (hasG tail) l tail K Γ fr m))→semA P cx K l mt U hd id base (.a [] [] i sl ms Γ m))
  {J:JA R S} (h:AD tq P cx K l tail base U hd J):semA P cx K l mt U hd id base J:=by
 have stay:∀ {B:Bs} {Z:Nat→Prop} {hd Γ:List Ent} {H:List Nat} {w0:World},StX B Z hd Γ H w0→∃ F Hd,(SA Z w0 hd [] Hd∧(∀ b∈Hd,b∈H∧b < w0.heap.size)∧(∀ b∈H,b < w0.heap.size)∧Hd.Nodup)∧SA Z w0 Γ [] F∧Gd B Z (H++F) w0∧∀ w,Chg H w0 w→SA Z w Γ [] F:=by
  rintro B Z hd Γ H w0 ⟨F,Hd,h1,h2,h3⟩
  exact ⟨F,Hd,h1,h2,h3,fun w hC=>StX.stay h2 h3 hC⟩
 induction h with
 | nil hs he h=>exact hnil _ _ _ _ _ _ hs he h
 | cons _ ih=>exact fun h=>ih h.cons
 | consN _ ih=>exact fun h=>ih h.consN
 | sto h1 hv hy hc hn hs' ho h4 h6 _ ih=>
  rename_i ht _
  intro h B o ho' r0 w0 H Z ha hs hp
  obtain ⟨F,_,_,_,_,hK⟩:=stay hs
  exact ih h.n B o ho' r0 w0 H Z ha hs (sto_pre hh ha ht h1 hv hy hc hn hs' ho h4 h6 hK h hp)
 | ixs hv hx _ _ ih=>exact fun h1=>ih hv hx h1
 | @idxH hd α A as d x y v k j t ty o1 o2 E xs ops i sl ms fr Γ hd' f ht hy hr hE _ ih=>
  intro hv hx h1 B o ho r0 w0 H Z ha hs hp
  obtain ⟨z,hz,ho⟩:=bind_some ho
  replace hz:=idx_some hz
  obtain ⟨e,ii,q1,q2,q3⟩:=ht.h
  obtain ⟨F,Hd,⟨hL,hL2⟩,hS,hG,hK⟩:=stay hs
  obtain ⟨cur',_,⟨⟨n,hn,_⟩,hel⟩,hins⟩:=(hr z).sound hL
  obtain ⟨⟨a,c,hv'⟩,hlt,_⟩:=imm_get hn j hz.1 hz.2
  refine ih z h1.n B o ho r0 w0 H Z ha ⟨F,Hd,⟨hins (hel hE j z hz.1 hz.2),hL2⟩,hS,hG⟩ (hp.val hh ha h1 hv fun r hr' _ _ _ w hC=>?_)
  rw [op_indexAddr q1 q2 ((aT hr' hx).trans hv') (aT hr' hy) hz.1 (by omega),q3,hv']
  rfl
 | @idx hd α A as d x y v k j t ty o1 o2 E xs ops i sl ms fr Γ Γ' f ht hy hr hE _ ih=>
  intro hv hx h1 B o ho r0 w0 H Z ha hs hp
  obtain ⟨z,hz,ho⟩:=bind_some ho
  replace hz:=idx_some hz
  obtain ⟨F,Hd,hL,hS,hG,hK⟩:=stay hs
  obtain ⟨cur',_,⟨⟨n,hn,_⟩,hel⟩,hins⟩:=(hr z).sound hS
  refine ih z h1.n B o ho r0 w0 H Z ha ⟨F,Hd,hL,hins (hel hE j z hz.1 hz.2),hG⟩ (hp.val hh ha h1 hv fun r hr' _ _ _ w hC=>?_)
  obtain ⟨_,_,⟨⟨n',hn',_⟩,_⟩,_⟩:=(hr z).sound (hK w hC)
  exact Ix ht.h hn' hz (aT hr' hx) (aT hr' hy) hE w (Chg.refl _ _)
 | @ixk hd α β A as d x y v k j t ty o1 o2 p1 p2 E E2 z xs ops i sl ms fr Γ Γx m ht hy hr hi hE _ ih=>
  intro hv hx h1 B o ho r0 w0 H Z ha hs hp
  obtain ⟨F,Hd,hL,hS,hG,hK⟩:=stay hs
  refine ih h1.n B o ho r0 w0 H Z ha ⟨F,Hd,hL,hS,hG⟩ (hp.val hh ha h1 hv fun r hr' _ _ _ w hC=>?_)
  obtain ⟨_,_,⟨⟨n',hn',_⟩,_⟩,_⟩:=hr.sound (hK w hC)
  obtain ⟨j0,j1⟩:=hi.ad hS
  obtain ⟨a,c,hv'⟩:=imm_len hn'
  have hlt:j.toNat < xs.length:=by rw [hv'] at j1; exact j1
  exact Ix ht.h hn' ⟨j0,List.getElem?_eq_getElem hlt⟩ (aT hr' hx) (aT hr' hy) hE w (Chg.refl _ _)
 | pz _ ih=>exact ih
 | @pe hd e Δ as ops i sl ms Γ m _ ih=>
  intro h1
  have h2:=ih h1
  have h3:(e :: Δ).reverse++Γ=Δ.reverse++e :: Γ:=by rw [List.reverse_cons,List.append_assoc]; rfl
  rw [h3]
  exact h2
 | @idxS hd α V Sc cl en A as d n x y v xs k j t ty ops i sl ms fr Γ Γx f ht hy hr hso hn _ ih=>
  intro hv hx hA B o ho r0 w0 H Z ha hs hp
  replace hso:SO Sc V cl en:=by cases hso; assumption
  obtain ⟨z,hz,ho⟩:=bind_some ho
  replace hz:=idx_some hz
  obtain ⟨e,i',h1,h2,h3⟩:=ht.h
  obtain ⟨F,Hd,hL,hS,hG,hK⟩:=stay hs
  obtain ⟨cur',_,⟨⟨f0,hf0,hb0⟩,_⟩,_⟩:=hr.sound hS
  have hZ:∀ b∈f0,Z b:=fun b hb=>(hb0 b hb).elim (fun h=>h) (fun h=>h)
  obtain ⟨⟨a,c,hv'⟩,hlt,cs,f1,hrep,hf1,hcell⟩:=imm_get hf0 j hz.1 hz.2
  have hn':(sStr Sc).size=n:=hn
  rw [hn'] at hcell
  obtain ⟨u,rfl,hen⟩:=hso.op hrep.2
  have hblk:Z (elA v n j).block:=by
   obtain ⟨base,cap,hv',hr'⟩:=hf0
   rcases hr' with ⟨rfl,_⟩ | ⟨b,off,cr,e',fz,f',rfl,_,rfl,_⟩
   ·simp at hlt; omega
   ·obtain rfl:v = .slice (some ⟨b,off,none⟩) xs.length cap:=by simpa using hv'
    have:(elA (.slice (some ⟨b,off,none⟩) xs.length cap) n j).block=b:=by unfold elA; rw [add_block]
    rw [this]; exact hZ b (by simp)
  have hAt:fact Z w0 [] (.ats (elA v n j) (cl z u)):=⟨fun i u' hi=>hcell i u' hi,fun _=>hblk⟩
  have hall:HL Z w0 (.ats (elA v n j) (cl z u) :: en z u) []:=.fact hAt (hl_facts (hen Z fun b hb=>hZ b (hf1 b hb)))
  obtain ⟨F',hp',hS2⟩:=hall.build hS
  refine ih z u hA.n B o ho r0 w0 H Z ha ⟨F',Hd,hL,hS2,hG.perm (List.Perm.append_left H (by simpa using hp'))⟩ (hp.val hh ha hA hv fun r hr' _ _ _ w hC=>?_)
  rw [op_indexAddr h1 h2 ((aT hr' hx).trans hv') (aT hr' hy) hz.1 (by omega),h3,hv']
  rfl
 | @idxG hd α V Sc cl en A as d n e bt x y v us xs k j t ty ops i sl ms fr Γ Γ1 f ht hy h1 hg hso _ ih=>
  intro hv hx hA B o ho r0 w0 H Z ha hs hp
  replace hso:SO Sc V cl en:=by cases hso; assumption
  obtain ⟨z,hz,ho⟩:=bind_some ho
  replace hz:=idx_some hz
  obtain ⟨q1,i',_,q2,_,_,q3,_⟩:=ht.h
  obtain ⟨F,Hd,hL,hS,hG,hK⟩:=stay hs
  obtain ⟨f0,F1,_,hO,_⟩:=h1.sound hS
  obtain ⟨g0,hk,hgz⟩:=hg.rd hS []
  obtain ⟨c,g1,e1,e2,e3⟩:=gl_get j.toNat hk.2.1 hz.2
  obtain ⟨u,rfl,hen⟩:=hso.op e2
  have hlen:us.length=xs.length:=gl_len hk.2.1
  have hlt:j.toNat < xs.length:=(List.getElem?_eq_some_iff.1 hz.2).1
  have hv':∃ a c,v = .slice (some a) us.length c:=by
   obtain ⟨b0,cap,hv,hr⟩:=hO
   obtain rfl:v = .slice b0 us.length cap:=by simpa using hv
   rcases hr with ⟨_,_,rfl,_⟩ | ⟨b,cur,f',rfl,_⟩
   ·rw [← hlen] at hlt; simp at hlt
   ·exact ⟨_,_,rfl⟩
  obtain ⟨a,c',rfl⟩:=hv'
  have hall:HL Z w0 (.rd false (sPu us j) (.bool true) (cl z u) :: en z u) []:=.fact ⟨[],⟨rfl,⟨hz.1,e1⟩,rfl⟩,fun _ h=>absurd h List.not_mem_nil⟩ (hl_facts (hen Z fun b hb=>hgz b (e3 b hb)))
  obtain ⟨F',hp',hS2⟩:=hall.build hS
  refine ih z u hA.n B o ho r0 w0 H Z ha ⟨F',Hd,hL,hS2,hG.perm (List.Perm.append_left H (by simpa using hp'))⟩ (hp.val hh ha hA hv fun r hr' _ _ _ w hC=>?_)
  rw [op_indexAddr q1 q2 (aT hr' hx) (aT hr' hy) hz.1 (by omega),q3]
  rfl
 | @laG hd A as d n e off x v u us j cs t ty ops i sl ms fr Γ Γ1 m h1 hp0 hc _ ih=>
  intro hv hx ht hA B o ho r0 w0 H Z ha hs hp
  obtain ⟨F,_,_,hS,_,hK⟩:=stay hs
  refine ih hA.n B o ho r0 w0 H Z ha hs (hp.val hh ha hA hv fun r hr _ _ _ w hC=>?_)
  obtain ⟨f,F1,_,hO,_⟩:=h1.sound (hK w hC)
  obtain ⟨_,⟨_,⟨hj,hu⟩,_⟩,_⟩:=hp0.rd (hK w hC) []
  exact Ld ht ((cel_cells hO hj hu).2.2 off u hc) (aT hr hx) w (Chg.refl _ _)
 | @laG0 hd A as d n e x v u us j cs t ty ops i sl ms fr Γ Γ1 m h1 hp0 hc _ ih=>
  intro hv hx ht hA B o ho r0 w0 H Z ha hs hp
  obtain ⟨F,_,_,hS,_,hK⟩:=stay hs
  refine ih hA.n B o ho r0 w0 H Z ha hs (hp.val hh ha hA hv fun r hr _ _ _ w hC=>?_)
  obtain ⟨f,F1,_,hO,_⟩:=h1.sound (hK w hC)
  obtain ⟨_,⟨_,⟨hj,hu⟩,_⟩,_⟩:=hp0.rd (hK w hC) []
  exact Ld ht ((cel_cells hO hj hu).2.2 0 u hc) (aT hr hx) w (Chg.refl _ _)
 | load hv hx _ ih=>rename_i ht _; exact fun h1=>ih hv hx ht.h h1
 | lsw _ _ ih=>exact fun hv hx ht h1=>ih hv hx ht h1
 | @slH hd α o A as d x lo hi v k1 k2 a b E T xs t e ty ops i sl ms fr Γ Γ1 Γ' f ht hv hx hlo hhi hc hr hE _ ih=>
  intro h1 B oo ho r0 w0 H Z ha hs hp
  obtain ⟨ys,hys,ho⟩:=bind_some ho
  obtain ⟨j0,j1,j2,rfl⟩:=cutL_some hys
  obtain ⟨e',i',q1,q2,q3⟩:=ht.h
  obtain ⟨F,Hd,hL,hS,hG,hK⟩:=stay hs
  obtain ⟨f1,F1,_,hO,_⟩:=hc.sound hS
  obtain ⟨base,cap,rfl,hcap⟩ : ∃ base cap,v = .slice base xs.length cap∧xs.length≤cap:=by
   obtain ⟨base,cap,hv,hr⟩:=hO
   refine ⟨base,cap,by simpa using hv,?_⟩
   rcases hr with ⟨_,rfl,rfl,_⟩ | ⟨b0,cur,f0,_,_,_,hnc,_⟩
   ·simp
   ·exact hnc
  obtain ⟨cur',_,⟨⟨g0,hg0,hb0⟩,_⟩,hins⟩:=(hr (sliced base a.toNat b.toNat cap 1) ((xs.drop a.toNat).take (b.toNat - a.toNat))).sound hS
  have hf:=cut_fact (a:=a.toNat) (b:=b.toNat) hE hg0 (fun i hi=>(hb0 i hi).elim (fun h=>h) fun h=>h) (by omega) (by omega) hcap
  refine ih _ _ h1.n B oo ho r0 w0 H Z ha ⟨F,Hd,hL,hins hf,hG⟩ (hp.val hh ha h1 hv fun r hr' _ _ _ w hC=>?_)
  have q4:P.elem t=e':=by simp [Program.elem,q1]
  have hsz:(sizeOf (P.elem t)).run P w = .ok 1 w:=by rw [q4]; simp [sizeOf,typeInfo,q2,q3]
  simp [execOp,aT hr' hx,aT hr' hlo,aT hr' hhi,run_sliceAt_slice w t _ _ _ _ (by rw [q4]; exact q1),run_slice_lh (P:=P) w t base xs.length cap (by rw [q4]; exact q1) k1 k2 a b j0 j1 (by omega),hsz,Result.andThen]
 | @ldsH hd α A as d x v j E z o' t ty ops i sl ms fr Γ hd1 hd' m hV h h2' _ ih=>
  intro hv hx ht h1 B o ho r0 w0 H Z ha hs hp
  obtain ⟨F,Hd,⟨hL,hL2⟩,hS,hG,hK⟩:=stay hs
  obtain ⟨_,⟨u,k,h3,h4,h5⟩,_⟩:=(h (.bool true)).sound hL
  obtain ⟨cur',⟨u',k',h4',h5',h6⟩,hins⟩:=(h u).sound hL
  rw [h3] at h4'
  cases h4'
  exact ih u h1.n B o ho r0 w0 H Z ha ⟨F,Hd,⟨(h2' u).sound h3 (hins ⟨k',h5',h6⟩),hL2⟩,hS,hG⟩ (hp.valV hh ha h1 hV hv fun r hr _ _ _ w hC=>Ld ht h3 (aT hr hx) w hC)
 | @lel hd α A as d x v j o E z t ty ops i sl ms fr Γ Γx m h _ ih=>
  intro hv hx ht h1 B o' ho r0 w0 H Z ha hs hp
  obtain ⟨F,Hd,hL,hS,hG,hK⟩:=stay hs
  obtain ⟨_,⟨u,k,h2,h3,_⟩,_⟩:=h.sound hS
  refine ih hv hx ht h1 B o' ho r0 w0 H Z ha hs ⟨u,fun w hC=>?_⟩ hp
  have hb:(elA v 1 j).block ∉ H:=fun hm=>(h.blk hS).elim (fun h=>h.elim (fun h=>absurd h List.not_mem_nil) fun h=>(List.nodup_append.1 hG.nd).2.2 _ hm _ h rfl) fun h=>hG.apart _ (List.mem_append_left _ hm) h
  have hc:=hC.cell hb h2
  obtain ⟨_,⟨u',k',h4,h5,_⟩,_⟩:=h.sound (hK w hC)
  rw [hc] at h4
  cases h4
  exact ⟨hc,k',h5⟩
 | lce h _ ih=>
  intro hv hx ht h1 B o ho r0 w0 H Z ha hs hp
  obtain ⟨F,_,_,hS,_,hK⟩:=stay hs
  exact ih h1.n B o ho r0 w0 H Z ha hs (hp.val hh ha h1 hv fun r hr _ _ _ w hC=>Ld ht (h.sound (hK w hC)) (aT hr hx) w (Chg.refl _ _))
 | las h _ ih=>
  intro hv hx ht h1 B o ho r0 w0 H Z ha hs hp
  obtain ⟨F,_,_,hS,_,hK⟩:=stay hs
  refine ih h1.n B o ho r0 w0 H Z ha hs (hp.val hh ha h1 hv fun r hr _ _ _ w hC=>?_)
  obtain ⟨h2,h3⟩:=h.sound (hK w hC)
  exact Lg ht h2 (aT hr hx) h3 w (Chg.refl _ _)
 | ldi _ ih=>
  intro hv hx ht h1 B o ho r0 w0 H Z ha hs hu hp
  obtain ⟨u,hu⟩:=hu
  obtain ⟨_,_,h3,_⟩:=hu w0 (Chg.refl _ _)
  obtain rfl:u=_:=by simpa using h3
  exact ih h1.n B o ho r0 w0 H Z ha hs (hp.val hh ha h1 hv fun r hr _ _ _ w hC=>Ld ht (hu w hC).1 (aT hr hx) w (Chg.refl _ _))
 | ldb _ ih=>
  intro hv hx ht h1 B o ho r0 w0 H Z ha hs hu hp
  obtain ⟨u,hu⟩:=hu
  obtain ⟨_,_,h3,_⟩:=hu w0 (Chg.refl _ _)
  obtain rfl:u=_:=by simpa using h3
  exact ih h1.n B o ho r0 w0 H Z ha hs (hp.val hh ha h1 hv fun r hr _ _ _ w hC=>Ld ht (hu w hC).1 (aT hr hx) w (Chg.refl _ _))
 | @lds hd α A as d x v j E z o' t ty ops i sl ms fr Γ Γ1 Γ' m h h2' _ ih=>
  intro hv hx ht h1 B o ho r0 w0 H Z ha hs hu hp
  obtain ⟨u,hu⟩:=hu
  obtain ⟨h2,_⟩:=hu w0 (Chg.refl _ _)
  obtain ⟨F,Hd,hL,hS,hG,hK⟩:=stay hs
  obtain ⟨cur',⟨u',k',h4,h5,h6⟩,hins⟩:=(h u).sound hS
  rw [h2] at h4
  cases h4
  exact ih u h1.n B o ho r0 w0 H Z ha ⟨F,Hd,hL,(h2' u).sound h2 (hins ⟨k',h5,h6⟩),hG⟩ (hp.val hh ha h1 hv fun r hr _ _ _ w hC=>Ld ht (hu w hC).1 (aT hr hx) w (Chg.refl _ _))
 | @lit0 hd α A as d t e ty E z0 bt ops i sl ms Γ m hz _ ih=>
  intro h1 B o ho r0 w0 H Z ha hs hp
  exact ih h1.n B o ho r0 w0 H Z ha hs (lit_pre hz h1 hp)
 | cal hU _ ih=>exact fun h1=>ih hU h1
 | @call hd β V A as d f xs ats ty mo rt ps ops i sl ms fr Γ g hf hv hc hi hsr hw _ ih=>
  intro _ h1 B o ho r0 w0 H Z ha hs hp
  obtain ⟨y,hy,ho⟩:=bind_some ho
  obtain ⟨pos,aft,h2⟩:=h1.o
  exact ih y h1.n (by unfold dstAt; rw [h2]; rfl) B o ho r0 w0 H Z ha hs (call_pre hh hf hv hc hi hsr hw h1 hy ha hs hp)
 | @callH hd β V A as d f xs ats ty mo rt ps ops i sl ms fr Γ g hf hV hv hc hi hsr hw _ ih=>
  intro hU h1 B o ho r0 w0 H Z ha hs hp
  obtain ⟨y,hy,ho⟩:=bind_some ho
  obtain ⟨pos,aft,h2⟩:=h1.o
  exact ih y h1.n (by unfold dstAt; rw [h2]; rfl) B o ho r0 w0 H Z ha hs (callH_pre hh hf hv hU hV hc hi hsr hw h1 hy ha hs hp)
 | @callR hd β V A as d f xs ats ty mo rt ps ops i sl ms fr Γ g hf hv hc hi hsr _ ih=>
  intro hU h1 B o ho r0 w0 H Z ha hs hp
  obtain ⟨y,hy,ho⟩:=bind_some ho
  obtain ⟨pos,aft,h2⟩:=h1.o
  exact ih y h1.n (by unfold dstAt; rw [h2]; rfl) B o ho r0 w0 H Z ha hs (callR_pre hh hf hv hc hi hsr h1 hy ha hs hp)
 | @callHR hd β V A as d f xs ats ty mo rt ps ops i sl ms fr Γ g hf hV hv hc hi hsr _ ih=>
  intro hU h1 B o ho r0 w0 H Z ha hs hp
  obtain ⟨y,hy,ho⟩:=bind_some ho
  obtain ⟨pos,aft,h2⟩:=h1.o
  exact ih y h1.n (by unfold dstAt; rw [h2]; rfl) B o ho r0 w0 H Z ha hs (callHR_pre hh hf hv hU hV hc hi hsr h1 hy ha hs hp)
 | @callMR hd β V j1 a1 ms1 A as d f xs ats ty mo rt ps ops i sl ms fr Γ g hf hg hs1 h4 hv hc hi hsr _ ih=>
  intro hU h1 B o ho r0 w0 H Z ha hs hp
  obtain ⟨y,hy,ho⟩:=bind_some ho
  obtain ⟨pos,aft,h2⟩:=h1.o
  exact ih y h1.n (by unfold dstAt; rw [h2]; rfl) B o ho r0 w0 H Z ha hs (let ⟨S',e1,e2,e3⟩:=callMR_pre hh hf hv hU hg hs1 h4 hc hi hsr h1 hy ha hs hp; ⟨S',e1,e2.re (vis_mem (by rw [← h1.A]; exact memB_iff.1 h4)).1,e3⟩)
 | @callM hd β V j1 a1 ms1 A as d f xs ats ty mo rt ps ops i sl ms fr Γ g hf hg hs1 h4 hv hc hi hsr hw _ ih=>
  intro hU h1 B o ho r0 w0 H Z ha hs hp
  obtain ⟨y,hy,ho⟩:=bind_some ho
  obtain ⟨pos,aft,h2⟩:=h1.o
  exact ih y h1.n (by unfold dstAt; rw [h2]; rfl) B o ho r0 w0 H Z ha hs (let ⟨S',e1,e2,e3⟩:=callM_pre hh hf hv hU hg hs1 h4 hc hi hsr hw h1 hy ha hs hp; ⟨S',e1,e2.re (vis_mem (by rw [← h1.A]; exact memB_iff.1 h4)).1,e3⟩)
 | @crb hd u ps d as ops i sl ms Γ m _ ih=>
  intro h1 hd' B o ho r0 w0 H Z ha hs ⟨S',hl,hR,hO,hL⟩
  subst hl
  refine ih h1 B o ho r0 w0 H Z ha hs ⟨S'++[⟨true,MV Z ⟨S'.length,d,[],Unit,fun _=>u,fun _=>ps⟩⟩],by simp,(hR.mem (b:=⟨S'.length,d,[],Unit,fun _=>u,fun _=>ps⟩) rfl hd' (fun _ h=>nomatch h)).addv (s:=⟨true,MV Z ⟨S'.length,d,[],Unit,fun _=>u,fun _=>ps⟩⟩) hd' (by simp) rfl (fun f w r x ⟨v,h,_⟩=>h),fun j hj=>?_⟩
  by_cases h2:j < S'.length
  ·exact Owes.more (hO j h2) h2
  ·obtain rfl:j=S'.length:=by omega
   exact hL _ fun f w r x h=>⟨f,fun _ h=>h,h⟩
 | @crv hd u d as ops i sl ms Γ m _ ih=>
  intro h1 hd' B o ho r0 w0 H Z ha hs ⟨S',hl,hR,hO,hL⟩
  subst hl
  refine ih h1 B o ho r0 w0 H Z ha hs ⟨_,by simp,hR.val hd',fun j hj=>?_⟩
  by_cases h2:j < S'.length
  ·exact Owes.more (hO j h2) h2
  ·obtain rfl:j=S'.length:=by omega
   exact hL (pl fun _ _ x=>x=_) fun f w r x ⟨v,h,_⟩=>⟨[],fun _ h=>absurd h List.not_mem_nil,h⟩
 | @crm hd V u ps d as ops i sl ms Γ m _ ih=>
  intro h1 hd' B o ho r0 w0 H Z ha hs ⟨S',hl,hR,hO,hL⟩
  subst hl
  refine ih h1 B o ho r0 w0 H Z ha hs ⟨_,by simp,hR.mem rfl hd' (fun _ h=>nomatch h),fun j hj=>?_⟩
  by_cases h2:j < S'.length
  ·exact Owes.more (hO j h2) h2
  ·obtain rfl:j=S'.length:=by omega
   exact hL _ fun f w r x h=>⟨f,fun _ h=>h,h⟩
 | aps hU _ ih=>exact fun h1=>ih hU h1
 | apL hVc hv hs' h2 h3 h5 h6 hl hz h1 hr hi hn hb _ ih=>
  rename_i hT _
  intro hU h B o ho r0 w0 H Z ha hs hp
  obtain ⟨u,hu,ho⟩:=bind_some ho
  obtain ⟨p1,p2⟩:=apL_pre hh ha hT hU hVc hv hs' h2 h3 h5 h6 hl hz h1 hr hi hn hb hu h hs hp
  exact ih h.n B o ho r0 w0 H Z ha p2 p1
 | apH hVc hv hs' h2 h5 hl hz h1 hr hy _ ih=>
  rename_i hT _
  intro hU h B o ho r0 w0 H Z ha hs hp
  obtain ⟨u,hu,ho⟩:=bind_some ho
  obtain ⟨p1,p2⟩:=apH_pre hh ha hT hU hVc hv hs' h2 h5 hl hz h1 hr hy hu h hs hp
  exact ih h.n B o ho r0 w0 H Z ha p2 p1
 | apM h1 h2 h3 hp' hj hne h4 h5 h6 hi hn hb _ ih=>
  rename_i hT _
  intro hU h B o ho r0 w0 H Z ha hs hp
  obtain ⟨u,hu,ho⟩:=bind_some ho
  exact ih h.n B o ho r0 w0 H Z ha hs (apM_pre hT hU h1 h2 h3 hp' hj hne h4 h5 h6 hi hn hb hu h hp)
 | ap1 h1 h2 h3 hw h4 h5 _ ih=>
  rename_i hz _
  intro h6 h B o ho r0 w0 H Z ha hs hp
  obtain ⟨u,hu,ho⟩:=bind_some ho
  exact ih h.n B o ho r0 w0 H Z ha hs (app_pre hz h1 h2 h3 h4 h5 (h6.trans hw) hu h hp)
 | apR h1 h3 hw h4 hv hx hr _ ih=>
  rename_i hz _
  intro h6 h B o ho r0 w0 H Z ha hs hp
  obtain ⟨u,hu,ho⟩:=bind_some ho
  obtain ⟨F,_,_,_,_,hK⟩:=stay hs
  exact ih h.n B o ho r0 w0 H Z ha hs (appR_pre hz h1 h3 h4 (h6.trans hw) hh ha hv hx hr hK hu h hp)
 | apO h1 h3 hw h4 h2 h7 h5 _ ih=>
  rename_i hz _
  intro h6 h B o ho r0 w0 H Z ha hs hp
  obtain ⟨u,hu,ho⟩:=bind_some ho
  exact ih h.n B o ho r0 w0 H Z ha hs (appO_pre hz h1 h3 h4 (h6.trans hw) h2 h7 h5 hu h hp)
 | sw1 _ _ ih=>exact fun h1=>ih h1
 | sw2 _ _ ih=>exact fun h1=>ih h1
 | sw3 _ _ ih=>exact fun h1=>ih h1
 | sw4 _ _ ih=>exact fun h1=>ih h1
 | sw6 _ _ ih=>exact fun h1=>ih h1
 | wl0 _ ih=>exact fun h1=>ih h1
 | alc _ ih=>
  rename_i hz _
  intro h1 B o ho r0 w0 H Z ha hs hp
  exact ih h1.n B o ho r0 w0 H Z ha hs (alc_pre hz h1 hp)
 | sw5 _ _ ih=>exact fun h1=>ih h1
 | mln hi hsr hx _ ih=>
  rename_i ht _
  intro h1 B o ho r0 w0 H Z ha hs hp
  exact ih h1.n B o ho r0 w0 H Z ha hs (ln_pre hp h1 ht hi hsr hx)
 | wv hv hq _ ih=>
  intro h1 B o ho r0 w0 H Z ha hs hp
  obtain ⟨F,_,_,_,_,hK⟩:=stay hs
  exact ih h1.n B o ho r0 w0 H Z ha hs (hp.val hh ha h1 hv fun r hr _ _ _ w hC=>hq.sound (hK w hC) hr _ _ _ _ _ w (Chg.refl _ _))
 | wlt hv hx ho _ ih=>
  rename_i hz _
  intro h1 B o ho' r0 w0 H Z ha hs hp
  obtain ⟨F,_,_,_,_,hK⟩:=stay hs
  exact ih h1.n B o ho' r0 w0 H Z ha hs (lt_pre hh ha hz hv hx ho hK h1 hp)
 | ltn hv hd' hn hb _ ih=>
  rename_i hz _
  intro h1 B o ho' r0 w0 H Z ha hs hp
  obtain ⟨F,_,_,_,_,hK⟩:=stay hs
  exact ih h1.n B o ho' r0 w0 H Z ha hs (ltn_pre hh ha hz hv hd' hn hb hK h1 hp)
 | ltu hv hd' hn hb _ ih=>
  rename_i hz _
  intro h1 B o ho' r0 w0 H Z ha hs hp
  obtain ⟨F,_,_,_,_,hK⟩:=stay hs
  exact ih h1.n B o ho' r0 w0 H Z ha hs (ltn_pre hh ha ⟨hz.h⟩ hv hd' hn hb hK h1 hp)
 | @ari hd A as op x y k k' a b t t' d ty ops i sl ms fr Γ f hv hx hy hk _ ih=>
  intro h1 B o ho r0 w0 H Z ha hs hp
  obtain ⟨z,hz,ho⟩:=bind_some ho
  have hk':shB op=true∨k=k':=by
   cases hk with
   | same=>exact .inr rfl
   | sh h=>exact .inl h
  exact ih z h1.n B o ho r0 w0 H Z ha hs (hp.val hh ha h1 hv fun r hr _ _ _ w hC=>op_aop (aT hr hx) (aT hr hy) hk' hz)
 | mk hv hx _ ih=>
  rename_i hz _
  intro h1 B o ho r0 w0 H Z ha hs hp
  obtain ⟨n,hn,ho⟩:=bind_some ho
  exact ih n h1.n B o ho r0 w0 H Z ha hs (mk_pre hh ha hz hv hx hn h1 hp)
 | mmv hi hsr hj _ ih=>
  intro h1 B o ho r0 w0 H Z ha hs hp
  exact ih h1.n B o ho r0 w0 H Z ha hs (hp.dep (X:=fun u=>u) h1 hi hsr hj fun r x hx w pos aft=>(Mv (W:=w) _ rfl) w (Chg.refl _ _))
 | @mex hd t k A as d ty ops i sl ms Γ m hi hsr hj hxx _ ih=>
  intro h1 B o ho r0 w0 H Z ha hs hp
  refine ih h1.n B o ho r0 w0 H Z ha hs (hp.dep (X:=fun u=>tupOf u _) h1 hi hsr hj fun r x hx w pos aft=>?_)
  obtain ⟨hlk,hc⟩:=hxx x
  have hrt:=(agr_app hx agr_nil) _ _ (by rw [List.append_nil]; exact hlk)
  have:=(Ex (W:=w) (P:=P) (r:=r) (d:=some d) (ty:=ty) (pos:=pos) (aft:=aft) (g:=none) _ (x:=.tmp t) hrt (by simpa using hc)) w (Chg.refl _ _)
  rw [this,hrt]
  simp [tupOf,hc]
 | mfd hi hsr hj hxx _ ih=>
  rename_i hf _
  intro h1 B o ho r0 w0 H Z ha hs hp
  refine ih h1.n B o ho r0 w0 H Z ha hs (hp.dep (X:=fun u=>fldOf u _) h1 hi hsr hj fun r x hx w pos aft=>?_)
  obtain ⟨hlk,hc⟩:=hxx x
  obtain ⟨fs,f,ds,q1,q2,q3,q4,q5⟩:=hf.h
  have hrt:=(agr_app hx agr_nil) _ _ (by rw [List.append_nil]; exact hlk)
  rw [op_field q1 q2 q3 q4 q5 (x:=.tmp _) hrt (by simpa using hc),hrt]
  simp [fldOf,hc]
 | mif hi hsr hj _ ih=>
  rename_i hf _
  intro h1 B o ho r0 w0 H Z ha hs hp
  obtain ⟨ds,q1,q2⟩:=hf.h
  exact ih h1.n B o ho r0 w0 H Z ha hs (hp.dep (X:=fun u=>.iface _ u) h1 hi hsr hj fun r x hx w pos aft=>(If (W:=w) q1 q2 _ rfl) w (Chg.refl _ _))
 | mbl hi hsr _ hj hv hxx _ ih=>
  rename_i hb _ _
  intro h1 B o ho r0 w0 H Z ha hs hp
  exact ih h1.n B o ho r0 w0 H Z ha hs (bld_pre hh hb hi hsr hj hv hxx h1 ha hs hp)
 | mlt hi hsr hj hxx _ ih=>
  rename_i hz _
  intro h1 B o ho r0 w0 H Z ha hs hp
  exact ih h1.n B o ho r0 w0 H Z ha hs (mlt_pre hz hi hsr hj hxx h1 hp)
 | val hv hq _ ih=>
  intro h1 B o ho r0 w0 H Z ha hs hp
  obtain ⟨F,_,_,_,_,hK⟩:=stay hs
  exact ih h1.n B o ho r0 w0 H Z ha hs (hp.val hh ha h1 hv fun r hr _ _ _ w hC=>hq.sound (hK w hC) hr _ _ _ _ _ w (Chg.refl _ _))
end
end Go.Dk
namespace Go.Dk
open Go Go.Li
section
variable {R S:Type} {P:Program} {cx:Cx R} {K:Kont R S} {l tail:List Oper} {base fr:Fr} {w:World} {Z:Nat→Prop}
theorem postI_panic {n:Nat} {Q:Exit→(Nat→Value)→World→Prop} {r:Nat→Value} (hQ:∀ c,¬ Q (.panic c) r w):∀ its,∀ c,¬ postI P n Q its (.panic c) r w:=by
 intro its
 induction its with
 | nil=>exact hQ
 | cons a its ih=>cases a <;> exact ih
theorem baseQ_panic {B:Bs} {b:Kb R S} {o:Out S R} {r:Nat→Value}:∀ c,¬ baseQ P cx B b o (.panic c) r w:=by
 intro c
 cases b <;> cases o <;> exact fun h=>h
theorem postK_panic {B:Bs} {K:Kont R S} {o:Out S R} {r:Nat→Value}:∀ c,¬ postK P cx B K o (.panic c) r w:=postI_panic baseQ_panic _
def allB (g:Nat→List Nat):List MemD→List Nat
 | []=>[]
 | a :: l=>g a.j++allB g l
theorem allB_mem {g:Nat→List Nat}:∀ {ms:List MemD} {b:Nat},b∈allB g ms→∃ a∈ms,b∈g a.j:=by
 intro ms
 induction ms with
 | nil=>intro b h; exact absurd h List.not_mem_nil
 | cons a ms ih=>
  intro b h
  rcases List.mem_append.1 h with h | h
  ·exact ⟨a,by simp,h⟩
  ·obtain ⟨c,h1,h2⟩:=ih h
   exact ⟨c,List.mem_cons_of_mem _ h1,h2⟩
theorem perm_vr {Vo Vr A F:List Nat} (h:(Vo++Vr).Perm A):((Vo++F)++Vr).Perm (A++F):=by
 refine List.Perm.trans ?_ (h.append_right F)
 rw [List.append_assoc,List.append_assoc]
 exact List.Perm.append_left Vo List.perm_append_comm
theorem pickA {g:Nat→List Nat} {r:Nat→Value}:∀ {ms:List MemD},srcA ms=true→(ms.map (·.j)).Nodup→(∀ a∈ms,∀ b∈ms,a.j≠b.j→Dis (g a.j) (g b.j))→(∀ a∈ms,MV Z a (g a.j) w r (r a.d))→
  ∃ x:Xof ms,(∀ p∈mF ms x,r p.1=p.2)∧(∃ Vo Vr,(Vo++Vr).Perm (allB g ms)∧(∀ b∈Vr,b < w.heap.size)∧HL (orZ Z Vr) w (allE ms x) Vo)∧(allB g ms).Nodup:=by
 intro ms
 induction ms with
 | nil=>intro _ _ _ _; exact ⟨(),fun p hp=>absurd hp List.not_mem_nil,⟨[],[],.refl _,fun b (h:b∈[])=>absurd h List.not_mem_nil,.nil⟩,List.nodup_nil⟩
 | cons a ms ih=>
  intro hsr hd hi h
  unfold srcA at hsr
  rw [Bool.and_eq_true] at hsr
  rw [List.map_cons,List.nodup_cons] at hd
  obtain ⟨x,hx,hl,hn⟩:=ih hsr.2 hd.2 (fun b hb c hc=>hi b (List.mem_cons_of_mem _ hb) c (List.mem_cons_of_mem _ hc)) fun b hb=>h b (List.mem_cons_of_mem _ hb)
  obtain ⟨v,e1,e2,e3⟩:=h a (by simp)
  have es:srcV a r=srcF a (mF ms x):=by
   have h3:=hsr.1
   rw [List.all_eq_true] at h3
   refine srcT_eq fun t ht=>?_
   unfold lookD
   rw [look_all (h3 t ht) hx]
  rw [es] at e1 e2
  refine ⟨(v,x),?_,?_,nodup_app e3 hn ?_⟩
  rotate_left
  ·obtain ⟨Fo,Fr,hf,h1,h2⟩:=e2.all
   obtain ⟨Vo,Vr,k1,k2,k3⟩:=hl
   refine ⟨Fo++Vo,Fr++Vr,?_,fun b hb=>(List.mem_append.1 hb).elim (h1 b) (k2 b),(h2.mono fun b h=>h.imp id fun h=>List.mem_append_left _ h).app (k3.mono fun b h=>h.imp id fun h=>List.mem_append_right _ h)⟩
   show List.Perm _ (g a.j++allB g ms)
   rw [hf]
   refine List.Perm.trans ?_ (k1.append_left (Fo++Fr))
   rw [List.append_assoc,List.append_assoc]
   refine List.Perm.append_left Fo ?_
   rw [← List.append_assoc,← List.append_assoc]
   exact List.Perm.append_right Vr List.perm_append_comm
  rotate_right
  ·intro p hp
   rcases List.mem_cons.1 hp with rfl | hp
   ·exact e1
   ·exact hx p hp
  ·intro b hb hm
   obtain ⟨c,h1,h2⟩:=allB_mem hm
   exact hi a (by simp) c (List.mem_cons_of_mem _ h1) (fun e=>hd.1 (by rw [e]; exact List.mem_map_of_mem h1)) b hb h2
theorem allF_all {r:Nat→Value} {f:Fr}:∀ {sl:List (Nat×Nat×Value)},(∀ p∈sl,r p.2.1=p.2.2)→(∀ p∈f,r p.1=p.2)→∀ p∈allF sl f,r p.1=p.2:=by
 intro sl
 induction sl with
 | nil=>intro _ h; exact h
 | cons a sl ih=>
  intro h1 h2 p hp
  rcases List.mem_cons.1 hp with rfl | hp
  ·exact h1 a (by simp)
  ·exact ih (fun p hp=>h1 p (List.mem_cons_of_mem _ hp)) h2 p hp
theorem nil_fin {mt id:Nat} {U:List (List Nat)} {Zl:List Nat} {hdl:List Ent} (hU:((List.range mt).all fun i=>(U.getD i []).all fun u=>Nat.beq u l.length || ((ancs l).getD i []).contains u)=true) (hh:hotB l mt base=true) (hd:dstOk cx.n l=true) (hA:anyB l mt Zl=true) (hZ:zOk l mt Zl=true) (hml:mt≤l.length) (ht:tail=l.drop mt) {i:Nat} {sl:List (Nat×Nat×Value)} {ms:List MemD} {Γ:List Ent} {m:Option (Out S R)} (hsa:srcA ms=true) (hen:endB U sl ms=true)
  (h:∀ x:Xof ms,D P cx (.p (allF sl (mF ms x)) (allE ms x) base Γ fun fr Γ=>.tg false (hasG tail) l tail K Γ fr m)):semA P cx K l mt U hdl id base (.a [] [] i sl ms Γ m):=by
 rintro ⟨_,h2,h3⟩ B o ho r0 w0 H Z ha hs ⟨S',hl,hR,hO⟩
 have hi:i=mt:=by
  have:=congrArg List.length h2
  simp at this
  omega
 subst hl
 obtain ⟨F,Hd,⟨hHL,hHd,hHlt,hHn⟩,hS,hG⟩:=hs
 refine W_anyC (N:=Z) (S:=S') (U:=U) (H:=H) hd hA hZ (fun c r w h=>postK_panic c h) hml hi hHlt hU (fun b hb=>⟨hG.zlt b hb,fun h=>hG.apart b (List.mem_append_left _ h) hb⟩) (fun i s hs=>hR.s i s hs) (fun j hj=>hO j (by omega)) ?_
 intro g r w hI
 have hused:∀ k j,j∈U.getD k []→∀ a∈ms,a.j≠j:=by
  intro k j hj
  unfold endB at hen
  rw [List.getD_eq_getElem?_getD] at hj
  cases hk:U[k]? with
  | none=>rw [hk] at hj; exact absurd hj List.not_mem_nil
  | some us=>
   rw [hk] at hj
   have h1:=List.all_eq_true.1 (List.all_eq_true.1 hen us (List.mem_of_getElem? hk)) j hj
   intro a ha he
   have:=List.all_eq_true.1 h1 a ha
   rw [he,Nat.beq_refl] at this
   cases this
 have hD:∀ j,j < mt→(∀ k,j ∉ U.getD k [])→Done l S' j g r w:=fun j hj hn=>hI.done j hj fun k _=>hn k
 have hlt:∀ a∈ms,a.j < mt:=fun a ha=>hi ▸ hR.lt ha
 obtain ⟨x,hx,hxl,hxn⟩:=pickA (g:=g) (r:=r) (w:=w) hsa hR.d (fun a ha b hb hab=>hI.dis _ _ (hlt a ha) (hlt b hb) hab) fun a ha=>by
  have:=hR.got (S2:=[]) ha (by rw [List.append_nil]; exact hD a.j (hlt a ha) (fun k hk=>hused k _ hk a ha rfl))
  exact this
 have hndHF:=List.nodup_append.1 hG.nd
 have hfr:∀ b∈allB g ms,w0.heap.size≤b∨b∈H:=fun b hb=>by
  obtain ⟨a,h1,h2⟩:=allB_mem hb
  exact (hI.fresh a.j (hlt a h1) b h2).1.imp (fun h=>h) (·.1)
 have hS1:=StX.stay hS hG hI.chg
 obtain ⟨Vo,Vr,hvp,hvl,hxl⟩:=hxl
 obtain ⟨F',hp,hS2⟩:=hxl.build (hS1.mono (fun _ h=>.inl h) fun _ h=>h)
 have hG3:Gd B Z (allB g ms++F) w:=by
  refine ⟨nodup_app hxn hndHF.2.1 fun b hb hF=>(hfr b hb).elim (fun h=>Nat.lt_irrefl _ (Nat.lt_of_lt_of_le (hS.lt b hF) h)) (fun h=>hndHF.2.2 b h b hF rfl),?_,fun b hb=>Nat.lt_of_lt_of_le (hG.zlt b hb) hI.chg.size,?_,hG.zup,hG.zlow,hG.chg.then hI.chg fun b hb=>hG.low b (List.mem_append_left _ hb)⟩
  ·intro b hb hz
   rcases List.mem_append.1 hb with hb | hb
   ·exact (hfr b hb).elim (fun h=>Nat.lt_irrefl _ (Nat.lt_of_lt_of_le (hG.zlt b hz) h)) (fun h=>hG.apart b (List.mem_append_left _ h) hz)
   ·exact hG.apart b (List.mem_append_right _ hb) hz
  ·intro b hb
   rcases List.mem_append.1 hb with hb | hb
   ·exact (hfr b hb).elim (fun h=>.inr (Nat.le_trans hG.chg.size h)) (fun h=>hG.low b (List.mem_append_left _ h))
   ·exact hG.low b (List.mem_append_right _ hb)
 have hagr:agr r ((allF sl (mF ms x)).reverse++base):=by
  refine agr_rev (allF_all (fun p hp=>?_) hx) (agr_base hh ha hI.other)
  exact hR.see (S2:=[]) hp fun j _ hj=>(by rw [List.append_nil]; exact hI.old j (hi ▸ hj))
 have:=(h x).sound B o ho r w hagr ⟨_,F',hS2,((hG3.perm (perm_vr hvp)).freeze hvl).perm hp⟩
 rw [ht] at this
 exact this
def Kq (q:Option (Bool×Nat×Value)) (f:Fr):Fr:=
 match q with
 | none=>f
 | some (_,d,u)=>(d,u) :: f
theorem Kp.lk {ws:List Nat} {q:Option (Bool×Nat×Value)} {f g:Fr} (h:Kp ws q f g):(∀ b d u,q=some (b,d,u)→b=memB d ws)→∀ t v,look g t=some v→memB t ws=false∧look (Kq q f) t=some v:=by
 induction h with
 | nil=>intro _ t v h; cases h
 | cons _ ih=>intro _ t v h; exact ih (by rintro b d u h; cases h; rfl) t v h
 | @drop ws d u f g _ ih=>
  intro hq t v h
  obtain ⟨h1,h2⟩:=ih (by rintro b d u h; cases h) t v h
  refine ⟨h1,?_⟩
  show look ((d,u) :: f) t=some v
  unfold look
  cases hb:Nat.beq t d with
  | true=>have:=hq true d u rfl; rw [Nat.eq_of_beq_eq_true hb,← this] at h1; cases h1
  | false=>exact h2
 | @keep ws d u f g _ ih=>
  intro hq t v h
  unfold look at h
  show memB t ws=false∧look ((d,u) :: f) t=some v
  unfold look
  cases hb:Nat.beq t d with
  | true=>rw [hb] at h; exact ⟨by rw [Nat.eq_of_beq_eq_true hb]; exact (hq false d u rfl).symm,h⟩
  | false=>
   rw [hb] at h
   obtain ⟨h1,h2⟩:=ih (by rintro b d u h; cases h) t v h
   unfold memB at h1
   rw [hb] at h1
   exact ⟨h1,h2⟩
theorem Kp.sound {ws:List Nat} {f g:Fr} {r:Nat→Value} (h:Kp ws none f g) (ha:agr r f):agr r g:=
 fun t v hl=>ha t v (h.lk (by rintro b d u h; cases h) t v hl).2
theorem anyW {id:Nat} (hd:List Ent) (mt:Nat) (Zl:List Nat) (U as:List (List Nat)) {ops:List Oper} {Γ Γ1:List Ent} {fr:Fr} {m:Option (Out S R)}
  (hB:(P.follows .mixedOrders && dstOk cx.n l && anyB l mt Zl && zOk l mt Zl && Nat.ble mt l.length && (visl l U mt == as) && ((List.range mt).all fun i=>(U.getD i []).all fun u=>Nat.beq u l.length || ((ancs l).getD i []).contains u))=true)
  (ho:ops=l.take mt) (ht:tail=l.drop mt) (hf:Kp (dsts ops) none fr base) (hh:hotB l mt base=true) (he:EO Γ hd Γ1) (how:OW Γ hd)
  (h:AD false P cx K l tail base U hd (.a as ops 0 [] [] Γ1 m)):∀ B o,m=some o→∀ r w,agr r fr→St B Γ w→AnyW P cx.n l (postK P cx B K o) r w:=by
 simp only [Bool.and_eq_true] at hB
 obtain ⟨⟨⟨⟨⟨⟨_,b2⟩,b3⟩,b4⟩,b5⟩,b6⟩,b7⟩:=hB
 intro B o hm r w ha hs
 obtain ⟨Z,F,hS,hG⟩:=hs
 obtain ⟨Fd,F',h1,h2,h3⟩:=he.sound hS
 have hSd:SA Z w hd [] Fd:=by
  have:=(HO.hl how hS h1).front (Γ:=[]) (F:=[]) rfl
  simpa using this
 have hX:StX B Z hd Γ1 Fd w:=⟨F',Fd,⟨hSd,fun b hb=>⟨hb,hSd.lt b hb⟩,hSd.lt,(List.nodup_append.1 (hG.perm h3).nd).1⟩,h2,hG.perm h3⟩
 refine AD.sound (id:=id) hh (fun _ _ _ _ _ _ hs he h=>nil_fin b7 hh b2 b3 b4 (Nat.le_of_ble_eq_true b5) ht hs he h) h
  ⟨by rw [List.drop_zero]; exact (eq_of_beq b6).symm,by rw [List.drop_zero]; exact ho,Nat.zero_le _⟩ B o hm r w Fd Z (hf.sound ha) hX ⟨[],rfl,⟨fun _ h=>absurd h List.not_mem_nil,fun _ h=>absurd h List.not_mem_nil,fun i s h=>by simp at h,List.nodup_nil,fun _ _ _ h1 h2=>ancs_trans l (anyB_back b3) h1 h2⟩,fun j hj=>absurd hj (Nat.not_lt_zero j)⟩
theorem anyH {id:Nat} (hd:List Ent) (mt:Nat) (Zl:List Nat) (U as:List (List Nat)) {ops:List Oper} {Γ Γ1:List Ent} {fr:Fr} {m:Option (Out S R)}
  (hB:(P.follows .mixedOrders && dstOk cx.n l && anyB l mt Zl && zOk l mt Zl && Nat.ble mt l.length && (visl l U mt == as) && ((List.range mt).all fun i=>(U.getD i []).all fun u=>Nat.beq u l.length || ((ancs l).getD i []).contains u))=true)
  (ho:ops=l.take mt) (ht:tail=l.drop mt) (hf:Kp (dsts ops) none fr base) (hh:hotB l mt base=true) (he:EO Γ hd Γ1) (how:OW Γ hd)
  (h:AD false P cx K l tail base U hd (.a as ops 0 [] [] Γ1 m)):Bx (sem P cx (.dr id l K Γ fr m)):=by
 have hm:P.follows .mixedOrders=true:=by
  simp only [Bool.and_eq_true] at hB
  exact hB.1.1.1.1.1.1
 rw [bx_eq]
 intro B o hm' r w ha hs
 exact (anyW (id:=id) hd mt Zl U as hB ho ht hf hh he how h B o hm' r w ha hs).W hm
theorem anyP {id:Nat} {l0:List Oper} (σ π:List Nat) (hd:List Ent) (mt:Nat) (Zl:List Nat) (U as:List (List Nat)) {ops:List Oper} {Γ Γ1:List Ent} {fr:Fr} {m:Option (Out S R)}
  (hB:(P.follows .mixedOrders && prmB l0 σ π && dstOk cx.n (prmL l0 σ π) && anyB (prmL l0 σ π) mt Zl && zOk (prmL l0 σ π) mt Zl && Nat.ble mt (prmL l0 σ π).length && (visl (prmL l0 σ π) U mt == as) && ((List.range mt).all fun i=>(U.getD i []).all fun u=>Nat.beq u (prmL l0 σ π).length || ((ancs (prmL l0 σ π)).getD i []).contains u))=true)
  (hl:l=prmL l0 σ π) (ho:ops=l.take mt) (ht:tail=l.drop mt) (hf:Kp (dsts ops) none fr base) (hh:hotB l mt base=true) (he:EO Γ hd Γ1) (how:OW Γ hd)
  (h:AD false P cx K l tail base U hd (.a as ops 0 [] [] Γ1 m)):Bx (sem P cx (.dr id l0 K Γ fr m)):=by
 subst hl
 simp only [Bool.and_eq_true] at hB
 obtain ⟨⟨⟨⟨⟨⟨⟨b0,b1⟩,b2⟩,b3⟩,b4⟩,b5⟩,b6⟩,b7⟩:=hB
 rw [bx_eq]
 intro B o hm' r w ha hs
 refine ((anyW (id:=id) hd mt Zl U as ?_ ho ht hf hh he how h B o hm' r w ha hs).prm b1).W b0
 simp only [Bool.and_eq_true]
 exact ⟨⟨⟨⟨⟨⟨b0,b2⟩,b3⟩,b4⟩,b5⟩,b6⟩,b7⟩
theorem any {id:Nat} (mt:Nat) (Zl:List Nat) (U as:List (List Nat)) {ops:List Oper} {Γ:List Ent} {fr:Fr} {m:Option (Out S R)}
  (hB:(P.follows .mixedOrders && dstOk cx.n l && anyB l mt Zl && zOk l mt Zl && Nat.ble mt l.length && (visl l U mt == as) && ((List.range mt).all fun i=>(U.getD i []).all fun u=>Nat.beq u l.length || ((ancs l).getD i []).contains u))=true)
  (ho:ops=l.take mt) (ht:tail=l.drop mt) (hf:Kp (dsts ops) none fr base) (hh:hotB l mt base=true)
  (h:AD false P cx K l tail base U [] (.a as ops 0 [] [] Γ m)):Bx (sem P cx (.dr id l K Γ fr m)):=anyH [] mt Zl U as hB ho ht hf hh .nil .nil h
end
end Go.Dk
namespace Go.Li
open Go
section
variable {P:Program} {n:Nat} {Q:Exit→(Nat→Value)→World→Prop} {r0:Nat→Value} {w0:World} {l:List Oper} {S:List Gives}
def anyqB (l:List Oper) (m:Nat):Bool:=
 ((List.range l.length).all fun i=>((l.getD i default).after.toList.filter (Region.binds .any)).all fun e=>Nat.blt e.on i) &&
 ((List.range l.length).all fun i=>Nat.blt i m || (List.range m).all fun j=>((ancs l).getD i []).contains j) &&
 nodupB ((l.take m).filterMap (·.dst)) && Region.noSelect l.toArray && Region.lexFrom .any l.toArray (l.length - m) m (List.replicate m true++List.replicate (l.length - m) false).toArray
theorem anyqB_back {m:Nat} (h:anyqB l m=true):∀ (i:Nat) (o:Oper),l[i]? = some o→∀ e∈o.after.toList.filter (Region.binds .any),e.on < i:=by
 simp only [anyqB,Bool.and_eq_true,List.all_eq_true,List.mem_range] at h
 intro i o ho e he
 have hi:i < l.length:=(List.getElem?_eq_some_iff.1 ho).1
 have:=h.1.1.1.1 i hi e (by rw [List.getD_eq_getElem?_getD,ho]; exact he)
 exact Nat.lt_of_succ_le (Nat.le_of_ble_eq_true this)
theorem W_anyqC {m:Nat} {U:List (List Nat)} {H:List Nat} {N:Nat→Prop} (hd:dstOk n l=true) (hA:anyqB l m=true) (hml:m≤l.length)
  (hS:S.length=m)
  (hH:∀ b∈H,b < w0.heap.size) (hU:((List.range m).all fun i=>(U.getD i []).all fun u=>Nat.beq u l.length || ((ancs l).getD i []).contains u)=true)
  (hN:∀ b,N b→b < w0.heap.size∧b ∉ H)
  (stable:∀ (i:Nat) (s:Gives),S[i]? = some s→∀ f F (w w':World) (r r':Nat→Value) v,Chg F w w'→(∀ b∈f,b ∉ F)→(∀ b∈F,¬ N b)→(∀ j∈(ancs l).getD i [],∀ t,dstAt l j=some t→r' t=r t)→s.V f w r v→s.V f w' r' v)
  (owes:∀ i,i < m→Owes P l m S U r0 w0 H i)
  (next:∀ g r w,HeadInv' l m S U r0 w0 H (fun j=>j < m) g r w→QL P (Chg [] w) l (l.drop m) r fun r'=>∀ w',Chg [] w w'→Q .normal r' w') :
  AnyW P n l Q r0 w0:=by
 simp only [anyqB,Bool.and_eq_true,List.all_eq_true,List.mem_range,Bool.or_eq_true] at hA
 obtain ⟨⟨⟨⟨hA1,hA2⟩,hA3⟩,hns⟩,hlex⟩:=hA
 have hback:∀ (i:Nat) (o:Oper),l[i]? = some o→∀ e∈o.after.toList.filter (Region.binds .any),e.on < i:=by
  intro i o ho e he
  have hi:i < l.length:=(List.getElem?_eq_some_iff.1 ho).1
  have:=hA1 i hi e (by rw [List.getD_eq_getElem?_getD,ho]; exact he)
  exact Nat.lt_of_succ_le (Nat.le_of_ble_eq_true this)
 have hbig:∀ i,m≤i→i < l.length→∀ j,j < m→j∈(ancs l).getD i []:=by
  intro i h1 h2 j hj
  rcases hA2 i h2 with h | h
  ·exact absurd (Nat.lt_of_succ_le (Nat.le_of_ble_eq_true h)) (Nat.not_lt.2 h1)
  ·have:=h j hj
   simpa using this
 have hUs:∀ i,i < m→∀ u∈U.getD i [],u=l.length∨u∈(ancs l).getD i []:=by
  intro i hi u hu
  simp only [List.all_eq_true,List.mem_range] at hU
  have:=hU i hi u hu
  simpa using this
 have hnd:=nodup_dst _ (nodupB_spec hA3)
 have hanc:=ancs_back l hback
 intro a h1 h2 h3
 let Cl (L:Array Bool):Prop:=L.size=l.length∧∀ j o,l[j]? = some o→L.getD j false=true→∀ e∈o.after.toList.filter (Region.binds .any),L.getD e.on false=true
 have clAnc:∀ L,Cl L→∀ i j,(∀ o,l[i]? = some o→∀ e∈o.after.toList.filter (Region.binds .any),L.getD e.on false=true)→j∈(ancs l).getD i []→L.getD j false=true:=by
  intro L hL i
  induction i using Nat.strongRecOn with
  | _ i ih=>
   intro j hi hj
   obtain ⟨_,o,ho,e,he,hje⟩:=hanc i j hj
   have hl:=hi o ho e he
   rcases hje with rfl | hje
   ·exact hl
   ·exact ih e.on (hback i o ho e he) j (fun o' ho' e' he'=>hL.2 _ _ ho' hl e' he') hje
 have rdy:∀ L i,i∈Region.ready .any l.toArray L→L.getD i true=false∧∃ o,l[i]? = some o∧∀ e∈o.after.toList.filter (Region.binds .any),L.getD e.on false=true:=by
  intro L i hi
  obtain ⟨g1,o,ho,hall⟩:=mem_ready.1 hi
  refine ⟨g1,o,by simpa using ho,fun e he=>?_⟩
  have:=List.mem_filter.1 he
  exact hall e (by simpa using this.1) this.2
 have rdyMk:∀ L i o,L.size=l.length→l[i]? = some o→L.getD i false=false→(∀ e∈o.after.toList.filter (Region.binds .any),L.getD e.on false=true)→i∈Region.ready .any l.toArray L:=by
  intro L i o hs ho hu hall
  refine mem_ready.2 ⟨?_,o,by simpa using ho,fun e he hb=>hall e (List.mem_filter.2 ⟨by simpa using he,hb⟩)⟩
  have hi:i < L.size:=by rw [hs]; exact (List.getElem?_eq_some_iff.1 ho).1
  simp [hi] at hu ⊢; exact hu
 have clSet:∀ L i o,Cl L→l[i]? = some o→(∀ e∈o.after.toList.filter (Region.binds .any),L.getD e.on false=true)→Cl (L.setIfInBounds i true):=by
  intro L i o hL ho hall
  refine ⟨by rw [Array.size_setIfInBounds]; exact hL.1,fun j o' ho' hj e he=>?_⟩
  by_cases hij:i=j
  ·subst hij
   have:o'=o:=Option.some.inj (ho'.symm.trans ho)
   subst this
   exact getD_set_true (hall e he)
  ·rw [getD_set_ne false hij] at hj
   exact getD_set_true (hL.2 j o' ho' hj e he)
 have getSet:∀ (L:Array Bool) i j,L.size=l.length→i < l.length→((L.setIfInBounds i true).getD j false=true↔j=i∨L.getD j false=true):=by
  intro L i j hs hi
  by_cases hij:i=j
  ·subst hij
   simp [hs,hi]
  ·rw [getD_set_ne false hij]
   constructor
   ·exact .inr
   ·rintro (h | h)
    ·exact absurd h.symm hij
    ·exact h
 have cnt:∀ (L:Array Bool) i,L.size=l.length→i < l.length→L.getD i false=false→(L.setIfInBounds i true).toList.count false+1=L.toList.count false:=by
  intro L i hs hi hu
  have hi':i < L.toList.length:=by simpa [hs] using hi
  have hu':L.toList[i]=false:=by
   rw [Array.getElem_toList]
   simp [hs,hi] at hu
   exact hu
  rw [Array.toList_setIfInBounds,List.count_set hi',hu']
  have:0 < L.toList.count false:=List.count_pos_iff.2 (by rw [← hu']; exact List.getElem_mem hi')
  rw [if_pos (by rfl),if_neg (by decide)]
  omega
 have hd':dstOk n (l.drop m)=true:=by
  simp only [dstOk,List.all_eq_true] at hd ⊢
  exact fun o ho=>hd o (List.mem_of_mem_drop ho)
 have tail:∀ (fuel:Nat) (L:Array Bool) (a:Act) (w:World),Cl L→(∀ j,L.getD j false=true↔j < m)→L.toList.count false=fuel→a.tmps.size=n→a.defers=[]→
   (QL P (Chg [] w) l (l.drop m) (rho a) fun r'=>∀ w',Chg [] w w'→Q .normal r' w')→wpAny P .any l.toArray (fun e a' w'=>a'.tmps.size=n∧a'.defers=[]∧Q e (rho a') w') fuel L a w:=by
  intro fuel L a w hL hLk hf g1 g2 hq
  have hLe:L=(List.replicate m true++List.replicate (l.length - m) false).toArray:=by
   apply Array.ext
   ·simp [hL.1]; omega
   ·intro i hi hj
    have h1:=hLk i
    simp only [Array.getD_eq_getD_getElem?,Array.getElem?_eq_getElem hi,Option.getD_some] at h1
    have e:(List.replicate m true++List.replicate (l.length - m) false).toArray[i]'hj=decide (i < m):=by
     simp only [List.getElem_toArray,List.getElem_append,List.getElem_replicate,List.length_replicate]
     split
     ·rename_i h; simp [h]
     ·rename_i h; simp [h]
    rw [e]
    cases hb:L[i] with
    | false=>exact (decide_eq_false fun h=>by have:=h1.2 h; rw [hb] at this; cases this).symm
    | true=>exact (decide_eq_true (h1.1 hb)).symm
  have hcount:fuel=l.length - m:=by
   rw [← hf,hLe]
   simp [List.count_append,List.count_replicate]
  have q1:=QL.wpQuiet (n:=n) (l:=l) (l.drop m) a hd hd' g1 g2 hq
  have q2:=wpAnyQ_lex (md:=.any) hns (l.drop m) m L a (fun j=>by simp [List.getElem?_drop]) (by rw [hLe,List.length_drop]; exact hlex) q1
  refine wpAny_of_quiet (C:=Chg [] w) (Q:=fun a'=>a'.tmps.size=n∧a'.defers=[]∧∀ w',Chg [] w w'→Q .normal (rho a') w') (fun a' w' hw' hh=>⟨hh.1,hh.2.1,hh.2.2 w' hw'⟩) _ _ _ _ (Chg.refl _ _) ?_
  rw [hcount,← List.length_drop]
  exact q2
 have head:∀ (fuel:Nat) (L:Array Bool) (a:Act) (w:World) (g:Nat→List Nat),Cl L→(∀ j,L.getD j false=true→j < m)→L.toList.count false=fuel→a.tmps.size=n→a.defers=[]→
   HeadInv' l m S U r0 w0 H (fun j=>L.getD j false=true) g (rho a) w→wpAny P .any l.toArray (fun e a' w'=>a'.tmps.size=n∧a'.defers=[]∧Q e (rho a') w') fuel L a w:=by
  intro fuel
  induction fuel with
  | zero=>
   intro L a w g hL hLm hf g1 g2 inv
   have hall:∀ j,j < l.length→L.getD j false=true:=by
    intro j hj
    cases hb:L.getD j false with
    | true=>rfl
    | false=>have:=cnt L j hL.1 hj hb; omega
   have hLk:∀ j,L.getD j false=true↔j < m:=fun j=>⟨hLm j,fun h=>hall j (by omega)⟩
   refine tail 0 L a w hL hLk hf g1 g2 (next g _ _ ?_)
   exact ⟨inv.chg,fun hk=>inv.chg0 fun k hkL=>hk k ((hLk k).1 hkL),inv.vg,fun j hj=>inv.vd j ((hLk j).2 hj),fun j hj hk=>inv.done j ((hLk j).2 hj) (fun k hkL=>hk k ((hLk k).1 hkL)),fun j hj=>inv.old j ((hLk j).2 hj),inv.other,fun j hj b hb=>⟨(inv.fresh j ((hLk j).2 hj) b hb).1.imp (fun h=>h) fun h=>⟨h.1,h.2.imp fun k hk=>⟨(hLk k).1 hk.1,hk.2⟩⟩,(inv.fresh j ((hLk j).2 hj) b hb).2⟩,fun i j hi hj=>inv.dis i j ((hLk i).2 hi) ((hLk j).2 hj)⟩
  | succ fuel ih=>
   intro L a w g hL hLm hf g1 g2 inv
   by_cases hall:∀ j,j < m→L.getD j false=true
   ·have hLk:∀ j,L.getD j false=true↔j < m:=fun j=>⟨hLm j,hall j⟩
    refine tail _ L a w hL hLk hf g1 g2 (next g _ _ ?_)
    exact ⟨inv.chg,fun hk=>inv.chg0 fun k hkL=>hk k ((hLk k).1 hkL),inv.vg,fun j hj=>inv.vd j ((hLk j).2 hj),fun j hj hk=>inv.done j ((hLk j).2 hj) (fun k hkL=>hk k ((hLk k).1 hkL)),fun j hj=>inv.old j ((hLk j).2 hj),inv.other,fun j hj b hb=>⟨(inv.fresh j ((hLk j).2 hj) b hb).1.imp (fun h=>h) fun h=>⟨h.1,h.2.imp fun k hk=>⟨(hLk k).1 hk.1,hk.2⟩⟩,(inv.fresh j ((hLk j).2 hj) b hb).2⟩,fun i j hi hj=>inv.dis i j ((hLk i).2 hi) ((hLk j).2 hj)⟩
   ·obtain ⟨j0,hj0,hu0⟩ : ∃ j,j < m∧L.getD j false=false:=by
     apply Classical.byContradiction
     intro hno
     apply hall
     intro j hj
     cases hb:L.getD j false with
     | true=>rfl
     | false=>exact absurd ⟨j,hj,hb⟩ hno
    have hsome:∃ i,i∈Region.ready .any l.toArray L:=by
     have:∀ k,(∃ j,j < k∧j < m∧L.getD j false=false)→∃ i,i∈Region.ready .any l.toArray L:=by
      intro k
      induction k with
      | zero=>rintro ⟨j,h,_⟩; omega
      | succ k ihk=>
       rintro ⟨j,hjk,hjm,hju⟩
       by_cases hlow:∃ j,j < k∧j < m∧L.getD j false=false
       ·exact ihk hlow
       ·obtain rfl:j=k:=by
         apply Classical.byContradiction
         intro h
         exact hlow ⟨j,by omega,hjm,hju⟩
        have hjl:j < l.length:=by omega
        refine ⟨j,rdyMk L j l[j] hL.1 (List.getElem?_eq_getElem hjl) hju fun e he=>?_⟩
        have hlt:=hback j _ (List.getElem?_eq_getElem hjl) e he
        cases hb:L.getD e.on false with
        | true=>rfl
        | false=>exact absurd ⟨e.on,hlt,by omega,hb⟩ hlow
     exact this (j0+1) ⟨j0,by omega,hj0,hu0⟩
    have main:∀ i oi,i < m→l[i]? = some oi→L.getD i false=false→(∀ e∈oi.after.toList.filter (Region.binds .any),L.getD e.on false=true)→
      (Region.wanted oi (yl l (rho a))=true∧OpW P oi (rho a) w fun v w'=>wpAny P .any l.toArray (fun e a' w'=>a'.tmps.size=n∧a'.defers=[]∧Q e (rho a') w') fuel (L.setIfInBounds i true) (a.put oi.dst v) w')∨
      (Region.wanted oi (yl l (rho a))=false∧wpAny P .any l.toArray (fun e a' w'=>a'.tmps.size=n∧a'.defers=[]∧Q e (rho a') w') fuel (L.setIfInBounds i true) (a.put oi.dst undef) w):=by
     intro i oi him hoi hiu hedge
     have hilt:i < l.length:=(List.getElem?_eq_some_iff.1 hoi).1
     have hedge':∀ o,l[i]? = some o→∀ e∈o.after.toList.filter (Region.binds .any),L.getD e.on false=true:=fun o' ho'=>by
      have:o'=oi:=Option.some.inj (ho'.symm.trans hoi)
      subst this; exact hedge
     obtain ⟨s,hs⟩ : ∃ s,S[i]? = some s:=⟨S[i]'(by omega),List.getElem?_eq_getElem (by omega)⟩
     have hc:=cnt L i hL.1 hilt hiu
     have hcl:=clSet L i oi hL hoi hedge
     have hlm:∀ j,(L.setIfInBounds i true).getD j false=true→j < m:=by
      intro j hj
      rcases (getSet L i j hL.1 hilt).1 hj with rfl | hj
      ·exact him
      ·exact hLm j hj
     have hiL:∀ k,L.getD k false=true→k≠i∧i ∉ (ancs l).getD k []:=by
      intro k hk
      refine ⟨fun h=>(by rw [h,hiu] at hk; cases hk),fun hm'=>?_⟩
      have:=clAnc L hL k i (fun o' ho' e' he'=>hL.2 k o' ho' hk e' he') hm'
      rw [hiu] at this; cases this
     have ow:=owes i him oi s hoi hs g (rho a) w inv.chg (fun hV=>by
       have hno:∀ k,L.getD k false=true→l.length ∉ U.getD k []:=fun k hk hkV=>by
        simp only [needV,List.all_eq_true,List.mem_range,Bool.or_eq_true,Bool.not_eq_true',List.contains_eq_mem,decide_eq_false_iff_not,decide_eq_true_eq] at hV
        rcases hV k (hLm k hk) with (h | h) | h
        ·exact h hkV
        ·exact (hiL k hk).1 (Nat.eq_of_beq_eq_true h)
        ·exact (hiL k hk).2 h
       have h0:=inv.chg0 hno
       exact ⟨h0.1,h0.2,fun j hj b hb=>(inv.fresh j (clAnc L hL i j hedge' hj) b hb).1.elim (fun h=>h) fun h=>absurd h.2.choose_spec.2 (hno _ h.2.choose_spec.1)⟩) (fun j hj=>inv.old j (clAnc L hL i j hedge' hj)) (fun j hj=>by
       simp only [needB,Bool.and_eq_true,List.all_eq_true,List.mem_range,Bool.or_eq_true,Bool.not_eq_true',List.contains_eq_mem,decide_eq_false_iff_not,decide_eq_true_eq] at hj
       refine inv.done j (clAnc L hL i j hedge' hj.1) fun k hk hjk=>?_
       rcases hj.2 k (hLm k hk) with (h | h) | h
       ·exact h hjk
       ·exact (hiL k hk).1 (Nat.eq_of_beq_eq_true h)
       ·exact (hiL k hk).2 h) inv.other
      (fun i' hi' j' hj'=>inv.dis i' j' (clAnc L hL i i' hedge' hi') (clAnc L hL i j' hedge' hj'))
      (fun j hj b hb=>⟨(inv.fresh j (clAnc L hL i j hedge' hj) b hb).1.imp (fun h=>h) (·.1),(inv.fresh j (clAnc L hL i j hedge' hj) b hb).2⟩)
     have hblk:∀ b∈blks g (U.getD i []),(∃ u,u∈U.getD i []∧L.getD u false=true∧b∈g u)∨(l.length∈U.getD i []∧b∈g l.length):=by
      intro b hb
      obtain ⟨u,hu,hbu⟩:=List.mem_flatMap.1 hb
      rcases hUs i him u hu with rfl | h
      ·exact .inr ⟨hu,hbu⟩
      ·exact .inl ⟨u,hu,clAnc L hL i u hedge' h,hbu⟩
     have hdo:∀ k',oi.dst=some k'→k' < a.tmps.size:=by
      intro k' hk'
      have hm':oi∈l:=List.mem_of_getElem? hoi
      simp only [dstOk,List.all_eq_true] at hd
      have:=hd oi hm'
      rw [hk'] at this
      rw [g1]
      exact Nat.lt_of_succ_le (Nat.le_of_ble_eq_true this)
     have hdi:dstAt l i=oi.dst:=by unfold dstAt; rw [hoi]; rfl
     have hfr:∀ v t,(oi.dst≠some t)→rho (a.put oi.dst v) t=rho a t:=by
      intro v t ht
      rw [rho_putO hdo]
      cases hdd:oi.dst with
      | none=>rfl
      | some d=>
       show (bif Nat.beq t d then v else rho a t)=rho a t
       cases hb:Nat.beq t d with
       | false=>rfl
       | true=>exact absurd (by rw [hdd,Nat.eq_of_beq_eq_true hb]) ht
     have hfr2:∀ v d,oi.dst=some d→rho (a.put oi.dst v) d=v:=by
      intro v d hdd
      rw [rho_putO hdo,hdd]
      show (bif Nat.beq d d then v else rho a d)=v
      rw [Nat.beq_refl]; rfl
     have step:∀ v w' f,Chg (blks g (U.getD i [])) w w'→(∀ b∈f,(b∈blks g (U.getD i [])∨w.heap.size≤b)∧b < w'.heap.size)→(if s.b then s.V f w' (rho a) v else v=undef)→
       wpAny P .any l.toArray (fun e a' w'=>a'.tmps.size=n∧a'.defers=[]∧Q e (rho a') w') fuel (L.setIfInBounds i true) (a.put oi.dst v) w':=by
      intro v w' f hC hf' hV
      have hslot:∀ j',j' < m→j'≠i→∀ t,dstAt l j'=some t→rho (a.put oi.dst v) t=rho a t:=by
       intro j' hj' hne t ht
       refine hfr v t fun h=>hne (hnd j' i t ?_ ?_)
       ·rw [dstAt_take hj']; exact ht
       ·rw [dstAt_take him,hdi]; exact h
      have hnN:∀ b∈blks g (U.getD i []),¬ N b:=fun b hb hn=>by
       rcases hblk b hb with ⟨u,_,huL,hbu⟩ | ⟨_,hbu⟩
       ·rcases (inv.fresh u huL b hbu).1 with h | h
        ·have:=(hN b hn).1; omega
        ·exact (hN b hn).2 h.1
       ·exact (hN b hn).2 (inv.vg b hbu)
      refine ih _ _ _ (fun j=>if j=i then f else if j∈U.getD i [] then [] else g j) hcl hlm (by omega) (by rw [size_put]; exact g1) (by rw [defers_put]; exact g2)
       ⟨inv.chg.then hC fun b hb=>(by
        rcases hblk b hb with ⟨u,_,huL,hbu⟩ | ⟨_,hbu⟩
        ·exact (inv.fresh u huL b hbu).1.elim .inr fun h=>.inl h.1
        ·exact .inl (inv.vg b hbu)),fun hno=>?_,?_,fun j hj=>?_,?_,fun j hj d hdj sj hsj=>?_,?_,?_,?_⟩
      ·have hi0:l.length ∉ U.getD i []:=hno i ((getSet L i i hL.1 hilt).2 (.inl rfl))
       have h0:=inv.chg0 fun k hk=>hno k ((getSet L i k hL.1 hilt).2 (.inr hk))
       refine ⟨h0.1.then hC fun b hb=>?_,?_⟩
       ·rcases hblk b hb with ⟨u,_,huL,hbu⟩ | ⟨h,_⟩
        ·exact (inv.fresh u huL b hbu).1.elim .inr fun ⟨_,k,hk,hkV⟩=>absurd hkV (hno k ((getSet L i k hL.1 hilt).2 (.inr hk)))
        ·exact absurd h hi0
       ·show (if l.length=i then f else if l.length∈U.getD i [] then [] else g l.length)=H
        rw [if_neg (by omega),if_neg hi0]
        exact h0.2
      ·intro b hb
       have hb':b∈(if l.length=i then f else if l.length∈U.getD i [] then [] else g l.length):=hb
       rw [if_neg (by omega)] at hb'
       split at hb'
       ·cases hb'
       ·exact inv.vg b hb'
      ·intro b hb hv
       have hv':b∈(if l.length=i then f else if l.length∈U.getD i [] then [] else g l.length):=hv
       rw [if_neg (by omega)] at hv'
       split at hv'
       ·cases hv'
       ·rename_i hnv
        have hb':b∈(if j=i then f else if j∈U.getD i [] then [] else g j):=hb
        split at hb'
        ·rcases (hf' b hb').1 with h | h
         ·rcases hblk b h with ⟨u,_,huL,hbu⟩ | ⟨h,_⟩
          ·exact inv.vd u huL b hbu hv'
          ·exact hnv h
         ·have h1:=hH b (inv.vg b hv')
          have h2:=inv.chg.size
          omega
        ·rename_i hji
         split at hb'
         ·cases hb'
         ·exact inv.vd j (((getSet L i j hL.1 hilt).1 hj).resolve_left hji) b hb' hv'
      ·intro j hj hal
       refine ⟨fun d hdj=>?_,fun hdn sj hsj hbj=>?_⟩
       rotate_left
       ·by_cases hji:j=i
        ·subst hji
         rw [hs] at hsj
         cases hsj
         rw [if_pos hbj] at hV
         refine ⟨v,?_⟩
         simp only [if_pos]
         exact stable j s hs _ [] w' w' (rho a) _ v (Chg.refl _ _) (fun _ _ h=>nomatch h) (fun _ h=>nomatch h) (fun j' hj' t ht=>hslot j' (by have:=(hanc j j' hj').1; omega) (by have:=(hanc j j' hj').1; omega) t ht) hV
        ·have hj2:=((getSet L i j hL.1 hilt).1 hj).resolve_left hji
         have hju:j ∉ U.getD i []:=hal i ((getSet L i i hL.1 hilt).2 (.inl rfl))
         obtain ⟨x,hx⟩:=(inv.done j hj2 (fun k hk=>hal k ((getSet L i k hL.1 hilt).2 (.inr hk)))).2 hdn sj hsj hbj
         have hg':(fun j=>if j=i then f else if j∈U.getD i [] then [] else g j) j=g j:=by
          show (if j=i then f else if j∈U.getD i [] then [] else g j)=g j
          rw [if_neg hji,if_neg hju]
         rw [hg']
         refine ⟨x,stable j sj hsj _ _ _ _ (rho a) _ _ hC (fun b hb' hbk=>?_) hnN (fun j' hj' t ht=>hslot j' (by have:=(hanc j j' hj').1; have:=hLm j hj2; omega) (fun h=>?_) t ht) hx⟩
         ·rcases hblk b hbk with ⟨u,huU,huL,hbu⟩ | ⟨_,hbu⟩
          ·exact inv.dis j u hj2 huL (fun h=>hju (h ▸ huU)) b hb' hbu
          ·exact inv.vd j hj2 b hb' hbu
         ·subst h
          have:=clAnc L hL j j' (fun o' ho' e' he'=>hL.2 j o' ho' hj2 e' he') hj'
          rw [hiu] at this; cases this
       by_cases hji:j=i
       ·subst hji
        rw [hs]
        simp only [if_pos]
        rw [hdi] at hdj
        rw [hfr2 v d hdj]
        split
        ·rename_i hb
         rw [if_pos hb] at hV
         exact stable j s hs _ [] w' w' (rho a) _ v (Chg.refl _ _) (fun _ _ h=>nomatch h) (fun _ h=>nomatch h) (fun j' hj' t ht=>hslot j' (by have:=(hanc j j' hj').1; omega) (by have:=(hanc j j' hj').1; omega) t ht) hV
        ·rename_i hb
         rw [if_neg hb] at hV
         exact hV
       ·have hj2:=((getSet L i j hL.1 hilt).1 hj).resolve_left hji
        have hjm:=hLm j hj2
        have hju:j ∉ U.getD i []:=hal i ((getSet L i i hL.1 hilt).2 (.inl rfl))
        have hdd:oi.dst≠some d:=by
         intro h
         apply hji
         refine hnd j i d ?_ ?_
         ·rw [dstAt_take hjm]; exact hdj
         ·rw [dstAt_take him,hdi]; exact h
        have:=(inv.done j hj2 (fun k hk=>hal k ((getSet L i k hL.1 hilt).2 (.inr hk)))).1 d hdj
        rw [hfr v d hdd]
        have hg':(fun j=>if j=i then f else if j∈U.getD i [] then [] else g j) j=g j:=by
         show (if j=i then f else if j∈U.getD i [] then [] else g j)=g j
         rw [if_neg hji,if_neg hju]
        rw [hg']
        cases hsj:S[j]? with
        | none=>trivial
        | some sj=>
         rw [hsj] at this
         simp only [] at this ⊢
         split
         ·rename_i hb
          rw [if_pos hb] at this
          refine stable j sj hsj _ _ _ _ (rho a) _ _ hC (fun b hb' hbk=>?_) hnN (fun j' hj' t ht=>hslot j' (by have:=(hanc j j' hj').1; omega) (fun h=>?_) t ht) this
          rotate_left
          ·subst h
           have:=clAnc L hL j j' (fun o' ho' e' he'=>hL.2 j o' ho' hj2 e' he') hj'
           rw [hiu] at this; cases this
          rcases hblk b hbk with ⟨u,huU,huL,hbu⟩ | ⟨_,hbu⟩
          ·exact inv.dis j u hj2 huL (fun h=>hju (h ▸ huU)) b hb' hbu
          ·exact inv.vd j hj2 b hb' hbu
         ·rename_i hb
          rw [if_neg hb] at this
          exact this
      ·by_cases hji:j=i
       ·subst hji
        rw [hs] at hsj
        cases hsj
        rw [hdi] at hdj
        rw [hfr2 v d hdj]
        split
        ·rename_i hb
         rw [if_pos hb] at hV
         exact ⟨f,w',stable j s hs _ [] w' w' (rho a) _ v (Chg.refl _ _) (fun _ _ h=>nomatch h) (fun _ h=>nomatch h) (fun j' hj' t ht=>hslot j' (by have:=(hanc j j' hj').1; omega) (by have:=(hanc j j' hj').1; omega) t ht) hV⟩
        ·rename_i hb
         rw [if_neg hb] at hV
         exact hV
       ·have hj2:=((getSet L i j hL.1 hilt).1 hj).resolve_left hji
        have hjm:=hLm j hj2
        have hdd:oi.dst≠some d:=by
         intro h
         apply hji
         refine hnd j i d ?_ ?_
         ·rw [dstAt_take hjm]; exact hdj
         ·rw [dstAt_take him,hdi]; exact h
        have:=inv.old j hj2 d hdj sj hsj
        rw [hfr v d hdd]
        split
        ·rename_i hb
         rw [if_pos hb] at this
         obtain ⟨f1,w1,h1⟩:=this
         refine ⟨f1,w1,stable j sj hsj _ [] w1 w1 (rho a) _ _ (Chg.refl _ _) (fun _ _ h=>nomatch h) (fun _ h=>nomatch h) (fun j' hj' t ht=>hslot j' (by have:=(hanc j j' hj').1; omega) (fun h=>?_) t ht) h1⟩
         subst h
         have:=clAnc L hL j j' (fun o' ho' e' he'=>hL.2 j o' ho' hj2 e' he') hj'
         rw [hiu] at this; cases this
        ·rename_i hb
         rw [if_neg hb] at this
         exact this
      ·intro t ht
       rw [hfr v t (fun h=>ht i him (by rw [hdi]; exact h))]
       exact inv.other t ht
      ·intro j hj b hb
       by_cases hji:j=i
       ·simp only [if_pos hji] at hb
        have hh:=hf' b hb
        have hsz:=inv.chg.size
        rcases hh.1 with h | h
        ·rcases hblk b h with ⟨u,_,huL,hbu⟩ | ⟨hv,hbu⟩
         ·exact ⟨(inv.fresh u huL b hbu).1.imp (fun h=>h) fun h=>⟨h.1,h.2.imp fun k hk=>⟨(getSet L i k hL.1 hilt).2 (.inr hk.1),hk.2⟩⟩,hh.2⟩
         ·exact ⟨.inr ⟨inv.vg b hbu,i,(getSet L i i hL.1 hilt).2 (.inl rfl),hv⟩,hh.2⟩
        ·exact ⟨.inl (by omega),hh.2⟩
       ·have hj2:=((getSet L i j hL.1 hilt).1 hj).resolve_left hji
        simp only [if_neg hji] at hb
        split at hb
        ·cases hb
        ·have h1:=inv.fresh j hj2 b hb
         have h2:=hC.size
         exact ⟨h1.1.imp (fun h=>h) fun h=>⟨h.1,h.2.imp fun k hk=>⟨(getSet L i k hL.1 hilt).2 (.inr hk.1),hk.2⟩⟩,by omega⟩
      ·have hone:∀ j',(L.setIfInBounds i true).getD j' false=true→j'≠i→∀ b∈f,b ∉ (if j'∈U.getD i [] then [] else g j'):=by
        intro j' hj' e2 b hb hb'
        have hL':=((getSet L i j' hL.1 hilt).1 hj').resolve_left e2
        split at hb'
        ·cases hb'
        ·rename_i hju
         rcases (hf' b hb).1 with h | h
         ·rcases hblk b h with ⟨u,huU,huL,hbu⟩ | ⟨_,hbu⟩
          ·exact inv.dis u j' huL hL' (fun h=>hju (h ▸ huU)) b hbu hb'
          ·exact inv.vd j' hL' b hb' hbu
         ·have:=inv.fresh j' hL' b hb'
          omega
       intro i' j' hi' hj' hne b hb hb'
       by_cases e1:i'=i
       ·have e2:j'≠i:=fun h=>hne (e1.trans h.symm)
        simp only [if_pos e1] at hb
        simp only [if_neg e2] at hb'
        exact hone j' hj' e2 b hb hb'
       ·simp only [if_neg e1] at hb
        by_cases e2:j'=i
        ·simp only [if_pos e2] at hb'
         exact hone i' hi' e1 b hb' hb
        ·simp only [if_neg e2] at hb'
         split at hb
         ·cases hb
         ·split at hb'
          ·cases hb'
          ·exact inv.dis i' j' (((getSet L i i' hL.1 hilt).1 hi').resolve_left e1) (((getSet L i j' hL.1 hilt).1 hj').resolve_left e2) hne b hb hb'
     cases hb:s.b with
     | true=>
      rw [if_pos hb] at ow
      refine .inl ⟨ow.1,OpW_mono ow.2 ?_⟩
      rintro v w' ⟨hC,f,hf',hV⟩
      exact step v w' f hC hf' (by rw [if_pos hb]; exact hV)
     | false=>
      rw [if_neg (by rw [hb]; exact Bool.false_ne_true)] at ow
      exact .inr ⟨ow,step undef w [] (Chg.refl _ _) (fun b h=>nomatch h) (by rw [if_neg (by rw [hb]; exact Bool.false_ne_true)])⟩
    refine ⟨fun h=>(by obtain ⟨i,hi⟩:=hsome; rw [h] at hi; cases hi),fun i hi=>?_⟩
    obtain ⟨q1,oi,hoi,hedge⟩:=rdy L i hi
    have hilt:i < l.length:=(List.getElem?_eq_some_iff.1 hoi).1
    have hiu:L.getD i false=false:=getD_both q1
    have him:i < m:=by
     rcases Nat.lt_or_ge i m with h | h
     ·exact h
     ·have hj:=hbig i h hilt j0 hj0
      have:=clAnc L hL i j0 (fun o' ho'=>by have:o'=oi:=Option.some.inj (ho'.symm.trans hoi); subst this; exact hedge) hj
      rw [hu0] at this; cases this
    unfold wpOp
    rw [show (l.toArray)[i]? = some oi by simpa using hoi]
    simp only []
    rw [yl_eq (by rw [g1]; exact hd)]
    rcases main i oi him hoi hiu hedge with ⟨hw,h⟩ | ⟨hw,h⟩
    ·rw [if_pos hw]
     exact .inl (h.wp fun v w' hv=>hv)
    ·rw [if_neg (by rw [hw]; exact Bool.false_ne_true)]
     exact h
 refine head _ _ a _ (fun j=>if j=l.length then H else []) ⟨by simp,?_⟩ ?_ ?_ h1 h2 ⟨Chg.nil (Chg.drew _ _),fun _=>⟨Chg.drew _ _,by simp⟩,fun b hb=>by simpa using hb,?_,?_,?_,?_,?_,?_⟩
 ·intro j o ho hj
  rw [getD_replicate_false] at hj; cases hj
 ·intro j hj
  rw [getD_replicate_false] at hj; cases hj
 ·simp
 ·intro j hj
  rw [getD_replicate_false] at hj; cases hj
 ·intro j hj
  rw [getD_replicate_false] at hj; cases hj
 ·intro j hj
  rw [getD_replicate_false] at hj; cases hj
 ·intro t _
  rw [h3]
 ·intro j hj
  rw [getD_replicate_false] at hj; cases hj
 ·intro i j hi
  rw [getD_replicate_false] at hi; cases hi
end
end Go.Li
namespace Go.Dk
open Go Go.Li
section
variable {R S:Type} {P:Program} {cx:Cx R} {K:Kont R S} {l tail:List Oper} {base fr:Fr} {w:World} {Z:Nat→Prop}
theorem nil_finq {mt id:Nat} {U:List (List Nat)} {hdl:List Ent} (hU:((List.range mt).all fun i=>(U.getD i []).all fun u=>Nat.beq u l.length || ((ancs l).getD i []).contains u)=true) (hh:hotB l mt base=true) (hd:dstOk cx.n l=true) (hA:anyqB l mt=true) (hml:mt≤l.length) (ht:tail=l.drop mt) {i:Nat} {sl:List (Nat×Nat×Value)} {ms:List MemD} {Γ:List Ent} {m:Option (Out S R)} (hsa:srcA ms=true) (hen:endB U sl ms=true)
  (h:∀ x:Xof ms,D P cx (.p (allF sl (mF ms x)) (allE ms x) base Γ fun fr Γ=>.tg true (hasG tail) l tail K Γ fr m)):semA P cx K l mt U hdl id base (.a [] [] i sl ms Γ m):=by
 rintro ⟨_,h2,h3⟩ B o ho r0 w0 H Z ha hs ⟨S',hl,hR,hO⟩
 have hi:i=mt:=by
  have:=congrArg List.length h2
  simp at this
  omega
 subst hl
 obtain ⟨F,Hd,⟨hHL,hHd,hHlt,hHn⟩,hS,hG⟩:=hs
 refine W_anyqC (N:=Z) (S:=S') (U:=U) (H:=H) hd hA hml hi hHlt hU (fun b hb=>⟨hG.zlt b hb,fun h=>hG.apart b (List.mem_append_left _ h) hb⟩) (fun i s hs=>hR.s i s hs) (fun j hj=>hO j (by omega)) ?_
 intro g r w hI
 have hused:∀ k j,j∈U.getD k []→∀ a∈ms,a.j≠j:=by
  intro k j hj
  unfold endB at hen
  rw [List.getD_eq_getElem?_getD] at hj
  cases hk:U[k]? with
  | none=>rw [hk] at hj; exact absurd hj List.not_mem_nil
  | some us=>
   rw [hk] at hj
   have h1:=List.all_eq_true.1 (List.all_eq_true.1 hen us (List.mem_of_getElem? hk)) j hj
   intro a ha he
   have:=List.all_eq_true.1 h1 a ha
   rw [he,Nat.beq_refl] at this
   cases this
 have hD:∀ j,j < mt→(∀ k,j ∉ U.getD k [])→Done l S' j g r w:=fun j hj hn=>hI.done j hj fun k _=>hn k
 have hlt:∀ a∈ms,a.j < mt:=fun a ha=>hi ▸ hR.lt ha
 obtain ⟨x,hx,hxl,hxn⟩:=pickA (g:=g) (r:=r) (w:=w) hsa hR.d (fun a ha b hb hab=>hI.dis _ _ (hlt a ha) (hlt b hb) hab) fun a ha=>by
  have:=hR.got (S2:=[]) ha (by rw [List.append_nil]; exact hD a.j (hlt a ha) (fun k hk=>hused k _ hk a ha rfl))
  exact this
 have hndHF:=List.nodup_append.1 hG.nd
 have hfr:∀ b∈allB g ms,w0.heap.size≤b∨b∈H:=fun b hb=>by
  obtain ⟨a,h1,h2⟩:=allB_mem hb
  exact (hI.fresh a.j (hlt a h1) b h2).1.imp (fun h=>h) (·.1)
 have hS1:=StX.stay hS hG hI.chg
 obtain ⟨Vo,Vr,hvp,hvl,hxl⟩:=hxl
 obtain ⟨F',hp,hS2⟩:=hxl.build (hS1.mono (fun _ h=>.inl h) fun _ h=>h)
 have hG3:Gd B Z (allB g ms++F) w:=by
  refine ⟨nodup_app hxn hndHF.2.1 fun b hb hF=>(hfr b hb).elim (fun h=>Nat.lt_irrefl _ (Nat.lt_of_lt_of_le (hS.lt b hF) h)) (fun h=>hndHF.2.2 b h b hF rfl),?_,fun b hb=>Nat.lt_of_lt_of_le (hG.zlt b hb) hI.chg.size,?_,hG.zup,hG.zlow,hG.chg.then hI.chg fun b hb=>hG.low b (List.mem_append_left _ hb)⟩
  ·intro b hb hz
   rcases List.mem_append.1 hb with hb | hb
   ·exact (hfr b hb).elim (fun h=>Nat.lt_irrefl _ (Nat.lt_of_lt_of_le (hG.zlt b hz) h)) (fun h=>hG.apart b (List.mem_append_left _ h) hz)
   ·exact hG.apart b (List.mem_append_right _ hb) hz
  ·intro b hb
   rcases List.mem_append.1 hb with hb | hb
   ·exact (hfr b hb).elim (fun h=>.inr (Nat.le_trans hG.chg.size h)) (fun h=>hG.low b (List.mem_append_left _ h))
   ·exact hG.low b (List.mem_append_right _ hb)
 have hagr:agr r ((allF sl (mF ms x)).reverse++base):=by
  refine agr_rev (allF_all (fun p hp=>?_) hx) (agr_base hh ha hI.other)
  exact hR.see (S2:=[]) hp fun j _ hj=>(by rw [List.append_nil]; exact hI.old j (hi ▸ hj))
 have:=(h x).sound B o ho r w hagr ⟨_,F',hS2,((hG3.perm (perm_vr hvp)).freeze hvl).perm hp⟩
 rw [ht] at this
 exact this
theorem anyqH {id:Nat} (hd:List Ent) (mt:Nat) (U as:List (List Nat)) {ops:List Oper} {Γ Γ1:List Ent} {fr:Fr} {m:Option (Out S R)}
  (hB:(P.follows .mixedOrders && dstOk cx.n l && anyqB l mt && Nat.ble mt l.length && (visl l U mt == as) && ((List.range mt).all fun i=>(U.getD i []).all fun u=>Nat.beq u l.length || ((ancs l).getD i []).contains u))=true)
  (ho:ops=l.take mt) (ht:tail=l.drop mt) (hf:Kp (dsts ops) none fr base) (hh:hotB l mt base=true) (he:EO Γ hd Γ1) (how:OW Γ hd)
  (h:AD true P cx K l tail base U hd (.a as ops 0 [] [] Γ1 m)):Bx (sem P cx (.dr id l K Γ fr m)):=by
 simp only [Bool.and_eq_true] at hB
 obtain ⟨⟨⟨⟨⟨b1,b2⟩,b3⟩,b5⟩,b6⟩,b7⟩:=hB
 rw [bx_eq]
 intro B o hm r w ha hs
 obtain ⟨Z,F,hS,hG⟩:=hs
 obtain ⟨Fd,F',h1,h2,h3⟩:=he.sound hS
 have hSd:SA Z w hd [] Fd:=by
  have:=(HO.hl how hS h1).front (Γ:=[]) (F:=[]) rfl
  simpa using this
 have hX:StX B Z hd Γ1 Fd w:=⟨F',Fd,⟨hSd,fun b hb=>⟨hb,hSd.lt b hb⟩,hSd.lt,(List.nodup_append.1 (hG.perm h3).nd).1⟩,h2,hG.perm h3⟩
 refine AnyW.W b1 ?_
 refine AD.sound (id:=id) hh (fun _ _ _ _ _ _ hs he h=>nil_finq b7 hh b2 b3 (Nat.le_of_ble_eq_true b5) ht hs he h) h
  ⟨by rw [List.drop_zero]; exact (eq_of_beq b6).symm,by rw [List.drop_zero]; exact ho,Nat.zero_le _⟩ B o hm r w Fd Z (hf.sound ha) hX ⟨[],rfl,⟨fun _ h=>absurd h List.not_mem_nil,fun _ h=>absurd h List.not_mem_nil,fun i s h=>by simp at h,List.nodup_nil,fun _ _ _ h1 h2=>ancs_trans l (anyqB_back b3) h1 h2⟩,fun j hj=>absurd hj (Nat.not_lt_zero j)⟩
theorem anyq {id:Nat} (mt:Nat) (U as:List (List Nat)) {ops:List Oper} {Γ:List Ent} {fr:Fr} {m:Option (Out S R)}
  (hB:(P.follows .mixedOrders && dstOk cx.n l && anyqB l mt && Nat.ble mt l.length && (visl l U mt == as) && ((List.range mt).all fun i=>(U.getD i []).all fun u=>Nat.beq u l.length || ((ancs l).getD i []).contains u))=true)
  (ho:ops=l.take mt) (ht:tail=l.drop mt) (hf:Kp (dsts ops) none fr base) (hh:hotB l mt base=true)
  (h:AD true P cx K l tail base U [] (.a as ops 0 [] [] Γ m)):Bx (sem P cx (.dr id l K Γ fr m)):=anyqH [] mt U as hB ho ht hf hh .nil .nil h
end
end Go.Dk
namespace Go.Dk
open Go Go.Li
def blk:Value→Option Nat
 | .slice (some a) _ _=>some a.block
 | _=>none
def NF {α:Type} (E:STy α):Prop:=∀ {h:Array Obj} {cs:List Value} {x:α} {f:List Nat},E.rep h cs x f→f=[]
theorem NF.i {k:IntKind}:NF (aC k):=sInt_nofp
theorem NF.l {α:Type} {E:STy α} (hE:NF E) {h:Array Obj}:∀ {xs:List α} {cs:List Value} {f:List Nat},repL E h cs xs f→f=[]:=by
 intro xs
 induction xs with
 | nil=>rintro cs f ⟨_,rfl⟩; rfl
 | cons x xs ih=>
  rintro cs f ⟨c,cs',f1,f2,rfl,rfl,h1,h2⟩
  rw [hE h1,ih h2]; rfl
structure Good {α:Type} (A:Value→α→Prop) (f:List Nat):Prop where
 sub:∀ u y b,A u y→blk u=some b→b∈f
 one:∀ u y u' y' b,A u y→A u' y'→blk u=some b→blk u'=some b→y=y'
inductive Opn {α:Type}:{β:Type}→STy β→((Value→List α→Prop)→STy β)→Prop
 | row {e:TypeId} {E:STy α}:Opn (aJ e E) (fun A=>sIn A (aJ e E))
 | step {β:Type} {e:TypeId} {T:STy β} {T':(Value→List α→Prop)→STy β} (h:Opn T T'):Opn (aJ e T) (fun A=>aB (T' A))
section
variable {α β:Type} {T:STy β} {T':(Value→List α→Prop)→STy β} {A A':Value→List α→Prop} {f:List Nat} {hp:Array Obj}
theorem Opn.size (h:Opn T T'):(T' A).size=T.size:=by
 cases h <;> rfl
theorem Opn.mono (h:Opn T T') (hA:∀ u y,A u y→A' u y):Le (T' A) (T' A'):=by
 induction h with
 | row=>exact ⟨rfl,fun h=>⟨h.1.imp fun v g=>⟨g.1,hA _ _ g.2⟩,h.2⟩⟩
 | step _ ih=>exact ih.imm
theorem Opn.openL {e:TypeId} (ho:∀ {cs:List Value} {x:β} {f:List Nat},T.rep hp cs x f→f.Nodup→∃ A,Good A f∧(T' A).rep hp cs x f) (hm:∀ {A A':Value→List α→Prop},(∀ u y,A u y→A' u y)→Le (T' A) (T' A')) :
  ∀ {xs:List β} {cs:List Value} {f:List Nat},repL T hp cs xs f→f.Nodup→∃ A,Good A f∧repL (T' A) hp cs xs f:=by
 have _:=e
 intro xs
 induction xs with
 | nil=>rintro cs f ⟨rfl,rfl⟩ _; exact ⟨fun _ _=>False,⟨fun _ _ _ h=>h.elim,fun _ _ _ _ _ h=>h.elim⟩,rfl,rfl⟩
 | cons x xs ih=>
  rintro cs f ⟨c,cs',f1,f2,rfl,rfl,h1,h2⟩ hn
  obtain ⟨n1,n2,n3⟩:=List.nodup_append.1 hn
  obtain ⟨A1,g1,r1⟩:=ho h1 n1
  obtain ⟨A2,g2,r2⟩:=ih h2 n2
  refine ⟨fun u y=>A1 u y∨A2 u y,⟨fun u y b h hb=>?_,fun u y u' y' b h h' hb hb'=>?_⟩,c,cs',f1,f2,rfl,rfl,(hm fun _ _=>.inl).le r1,repL_le (hm fun _ _=>.inr) r2⟩
  ·exact h.elim (fun h=>List.mem_append_left _ (g1.sub u y b h hb)) (fun h=>List.mem_append_right _ (g2.sub u y b h hb))
  ·rcases h with h | h <;> rcases h' with h' | h'
   ·exact g1.one u y u' y' b h h' hb hb'
   ·exact absurd rfl (n3 b (g1.sub _ _ _ h hb) b (g2.sub _ _ _ h' hb'))
   ·exact absurd rfl (n3 b (g1.sub _ _ _ h' hb') b (g2.sub _ _ _ h hb))
   ·exact g2.one u y u' y' b h h' hb hb'
theorem Opn.opened (h:Opn T T'):∀ {cs:List Value} {x:β} {f:List Nat},T.rep hp cs x f→f.Nodup→∃ A,Good A f∧(T' A).rep hp cs x f:=by
 induction h with
 | @row e E=>
  intro cs x f hr _
  obtain ⟨base,cap,rfl,hr'⟩:=id hr
  refine ⟨fun u y=>u = .slice base x.length cap∧y=x,⟨?_,?_⟩,⟨_,rfl,rfl,rfl⟩,hr⟩
  ·rintro u y b ⟨rfl,rfl⟩ hb
   rcases hr' with ⟨rfl,_⟩ | ⟨b0,cur,f',rfl,_,rfl,_⟩
   ·cases hb
   ·cases hb; exact List.mem_cons_self
  ·rintro u y u' y' b ⟨_,rfl⟩ ⟨_,rfl⟩ _ _; rfl
 | @step β e T T' ho ih=>
  intro cs x f hr hn
  obtain ⟨base,cap,rfl,hr'⟩:=hr
  rcases hr' with ⟨rfl,_,rfl,rfl⟩ | ⟨b,cur,f',rfl,hg,rfl,h3,h4,h5,h6⟩
  ·exact ⟨fun _ _=>False,⟨fun _ _ _ h=>h.elim,fun _ _ _ _ _ h=>h.elim⟩,none,cap,rfl,.inl ⟨rfl,rfl⟩⟩
  ·obtain ⟨A,g1,g2⟩:=Opn.openL (e:=e) ih (fun hA=>ho.mono hA) h6 (List.nodup_cons.1 hn).2
   refine ⟨A,⟨fun u y b h hb=>List.mem_cons_of_mem _ (g1.sub u y b h hb),g1.one⟩,_,cap,rfl,.inr ⟨b,0,cur,e,(0,0),f',rfl,hg,rfl,?_⟩⟩
   rw [List.drop_zero,ho.size]
   exact g2
end
section
variable {α:Type} {e e':TypeId} {E:STy α} {A:Value→List α→Prop} {ft f:List Nat} {hp:Array Obj}
theorem close_rows (nf:NF E) (hA:Good A ft):∀ {ys:List (List α)} {us:List Value} {g:List Nat},repL (sIn A (aJ e' E)) hp us ys g→ys.Nodup→
  repL (aJ e' E) hp us ys g∧g.Nodup∧∀ b∈g,b∈ft∧∃ u y,A u y∧blk u=some b∧y∈ys:=by
 intro ys
 induction ys with
 | nil=>rintro us g ⟨rfl,rfl⟩ _; exact ⟨⟨rfl,rfl⟩,List.nodup_nil,fun b hb=>absurd hb List.not_mem_nil⟩
 | cons y ys ih=>
  rintro us g ⟨c,cs',g1,g2,rfl,rfl,⟨⟨u,rfl,hu⟩,hr⟩,h2⟩ hn
  obtain ⟨n1,n2⟩:=List.nodup_cons.1 hn
  obtain ⟨a1,a2,a3⟩:=ih h2 n2
  refine ⟨⟨[u],cs',g1,g2,rfl,rfl,hr,a1⟩,?_,?_⟩
  ·obtain ⟨base,cap,hv,hr'⟩:=hr
   obtain rfl:u = .slice base y.length cap:=by simpa using hv
   rcases hr' with ⟨_,_,_,rfl⟩ | ⟨b,cur,f',rfl,_,rfl,_,_,_,h6⟩
   ·exact a2
   ·rw [nf.l h6]
    refine List.nodup_cons.2 ⟨fun hb=>?_,a2⟩
    obtain ⟨_,u',y',h7,h8,h9⟩:=a3 b hb
    rw [hA.one _ _ _ _ b hu h7 rfl h8] at n1
    exact n1 h9
  ·intro b hb
   rcases List.mem_append.1 hb with hb | hb
   ·obtain ⟨base,cap,hv,hr'⟩:=hr
    obtain rfl:u = .slice base y.length cap:=by simpa using hv
    rcases hr' with ⟨_,_,_,rfl⟩ | ⟨b0,cur,f',rfl,_,rfl,_,_,_,h6⟩
    ·cases hb
    ·rw [nf.l h6,List.mem_singleton] at hb
     subst hb
     exact ⟨hA.sub _ _ _ hu rfl,_,y,hu,rfl,by simp⟩
   ·obtain ⟨b1,u',y',b2,b3,b4⟩:=a3 b hb
    exact ⟨b1,u',y',b2,b3,by simp [b4]⟩
theorem close_own {Z:Nat→Prop} {w:World} {v:Value} {ys:List (List α)} (nf:NF E) (hA:Good A ft) (ho:owns Z w f (.om e (sIn A (aJ e' E)) v ys)) (hn:ys.Nodup) (hf:f.Nodup) (hz:∀ b∈f,¬ Z b) :
  ∃ g,(∀ b∈g,b∈ft)∧(aJ e (aJ e' E)).rep w.heap [v] ys (f++g)∧(f++g).Nodup:=by
 obtain ⟨us,g,h1,h2,h3,_⟩:=ho
 obtain ⟨a1,a2,a3⟩:=close_rows nf hA h2 hn
 have hl:us.length=ys.length:=by have:=repL_len a1; rw [this]; exact Nat.mul_one _
 refine ⟨g,fun b hb=>(a3 b hb).1,?_,List.nodup_append.2 ⟨hf,a2,fun b hb c hc=>fun e=>hz b hb (h3 b (e ▸ hc))⟩⟩
 obtain ⟨base,cap,hv,hr⟩:=h1
 obtain rfl:v = .slice base us.length cap:=by simpa using hv
 rw [hl]
 rcases hr with ⟨rfl,rfl,rfl,rfl⟩ | ⟨b,cur,f',rfl,hg,rfl,c1,c2,c3,c4⟩
 ·cases ys with
  | cons y ys=>simp at hl
  | nil=>obtain ⟨_,rfl⟩:=a1; exact ⟨none,0,rfl,.inl ⟨rfl,rfl,rfl,rfl⟩⟩
 ·obtain ⟨c5,rfl⟩:=repL_val c4
  refine ⟨_,cap,rfl,.inr ⟨b,cur,g,rfl,hg,rfl,by rw [← hl]; exact c1,c2,c3,?_⟩⟩
  have e1:(aJ e' E).size=sVal.size:=rfl
  rw [e1,← hl,c5]
  exact a1
end
section
variable {P:Program} {R:Type} {cx:Cx R}
theorem loopM {S S1 α β:Type} [DecidableEq (List α)] (k t0:Nat) (φ:S1→Value→Fr) (sel:S1→List (List α)) (v0:Value) (f2:Fr) {e e':TypeId} {E:STy α} {T:STy β} {T':(Value→List α→Prop)→STy β} {vs:Value} {x:β} {its:List KI} {kb:Kb R S} {c:Code} {s0:S1} {body:S1→Option (Out S1 R)} {f:S1→Option (Out S R)} {Γ Γ1 Γ2:List Ent} {fr:Fr}
  (ho:Opn T T') (nf:NF E) (ha:Agr fr (φ s0 v0)) (hf:Agr fr f2) (hz:sel s0=[]) (hv:look fr t0=some vs) (h1:Sel Γ (.own T vs x) Γ1) (h2:∀ A:Value→List α→Prop,Sel Γ1 (.om e (sIn A (aJ e' E)) v0 []) Γ2)
  (hb:∀ (A:Value→List α→Prop) s v,D P cx (.p (φ s v) [.om e (sIn A (aJ e' E)) v (sel s)] f2 [.rd false (T' A) vs x] fun fr Γ=>.c ⟨[],.loop Value k (fun s v=>[.om e (sIn A (aJ e' E)) v (sel s)]) φ [.rd false (T' A) vs x] f2⟩ c Γ fr (body s)))
  (hk:∀ s v,D P cx (.p (φ s v) [.own (aJ e (aJ e' E)) v (sel s)] f2 [] fun fr Γ=>.mn ⟨its,kb⟩ Γ fr (f s))) :
  Bx (sem P cx (.bk true k ⟨its,kb⟩ (.loop c) Γ fr (lbind (blockM k (loopM body s0)) fun s=>ndR (sel s)>>=fun _=>f s))):=by
 have _:=hv
 rw [bx_eq]
 intro B o hoo r w hag hst
 obtain ⟨Z,F,hS,hG⟩:=hst
 obtain ⟨ft,F1,hp1,hT,hS1⟩:=h1.sound hS
 have hG1:=hG.perm hp1
 obtain ⟨n1,n2,n3⟩:=List.nodup_append.1 hG1.nd
 obtain ⟨A,hA,hR⟩:=ho.opened (hp:=w.heap) hT n1
 obtain ⟨fo,F2,hp2,hO,hS2⟩:=(h2 A).sound hS1
 have hfl:∀ b∈ft,b < w.heap.size:=STy.lt _ hT
 have hfz:∀ b∈ft,¬ Z b:=fun b hb=>hG1.apart b (List.mem_append_left _ hb)
 have hm1:∀ b∈fo,b∈F1:=fun b hb=>hp2.mem_iff.1 (List.mem_append_left _ hb)
 have hno:fo.Nodup:=(List.nodup_append.1 (hp2.nodup_iff.2 n2)).1
 refine W_for (T:=TT P cx B) (LI B (fun s v=>[.om e (sIn A (aJ e' E)) v (sel s)]) φ [.rd false (T' A) vs x] f2) hoo
  ⟨v0,agr_rev (ha.all hag) (hf.sound hag),fun b=>Z b∨b∈ft,fo,⟨fo,[],(List.append_nil _).symm,by rw [hz]; exact hO.mono fun _=>.inl,⟨ft,hR,fun b hb=>.inr hb⟩,rfl⟩,hno,fun b hb=>?_,fun b hb=>hb.elim (hG.zlt b) (hfl b),fun b hb=>hG1.low b (List.mem_append_right _ (hm1 b hb)),fun b h=>.inl (hG.zup b h),fun b hb=>hb.elim (hG.zlow b) fun hb=>.inr (hG1.low b (List.mem_append_left _ hb)),hG.chg⟩ ?_ ?_ ?_
 ·rintro (h | h)
  ·exact hG1.apart b (List.mem_append_right _ (hm1 b hb)) h
  ·exact n3 b h b (hm1 b hb) rfl
 ·intro x r w he hx
  subst he
  exact postK_ret hx
 ·rintro s r w ⟨v,h1,h2⟩ o ho
  exact (hb A s v).sound B o ho r w h1 h2
 ·rintro s r w' ⟨v,a1,Z2,Fl,hS',hG'⟩ hm
  obtain ⟨_,hn,hm⟩:=bind_some hm
  replace hn:=ndR_some hn
  obtain ⟨f',F',rfl,hom,hrest⟩:=hS'
  have hF':F'=[]:=hrest.2
  subst hF'
  rw [List.append_nil] at hG'
  obtain ⟨g,s1,s2,s3⟩:=close_own nf hA hom hn hG'.nd hG'.apart
  refine (hk s v).sound B o hm r w' a1 ⟨B.Z,f'++g,⟨f'++g,[],(List.append_nil _).symm,s2,rfl⟩,s3,fun b hb hz=>?_,fun b hz=>hG'.zlt b (hG'.zup b hz),fun b hb=>?_,fun _ h=>h,fun _ h=>.inl h,hG'.chg⟩
  ·rcases List.mem_append.1 hb with hb | hb
   ·exact hG'.apart b hb (hG'.zup b hz)
   ·exact hfz b (s1 b hb) (hG.zup b hz)
  ·rcases List.mem_append.1 hb with hb | hb
   ·exact hG'.low b hb
   ·exact hG1.low b (List.mem_append_left _ (s1 b hb))
end
end Go.Dk
namespace Go.Dk
open Go Go.Li
section
variable {R:Type} {P:Program} {cx:Cx R} {B:Bs} {M:Type} {all l:List Oper} {rk:RK R M} {fr:Fr} {w:World} {Z:Nat→Prop} {F cur:List Nat} {Γ Γ1 Γ2 Γ3:List Ent}
theorem D.of {J:Jd R} (h:sem P cx J):D P cx J:=.inj (by rw [bx_eq]; exact h)
theorem hl_rd {Δ : List Ent} (h : FO Δ) : ∀ {Fd : List Nat}, HL Z w Δ Fd → ∀ e ∈ Δ, fact Z w [] e := by
  induction h with
  | nil => intro Fd _ e he; cases he
  | rd _ ih =>
    intro Fd hl e he
    cases hl with
    | own h _ => exact h.elim
    | fact h k => rcases List.mem_cons.1 he with rfl | he
                  · exact h
                  · exact ih k e he
  | ats _ ih =>
    intro Fd hl e he
    cases hl with
    | own h _ => exact h.elim
    | fact h k => rcases List.mem_cons.1 he with rfl | he
                  · exact h
                  · exact ih k e he
theorem lgS {α:Type} (S:STy α) {d:Nat} {t e n bt ty:TypeId} {m:Option M} [ht:SBc P t e n bt]
  (h:∀ v,D P cx (.o false all l rk (.own (aJ e (sCel n)) v [] :: .rd false (sGh S) (.bool true) ([],[]) :: Γ) ((d,v) :: fr) m)):D P cx (.e false (.buildSlice t 0 #[]) (some d) ty all l rk Γ fr m):=by
 refine D.of ?_
 intro B o ho r w ha hs pos aft g
 obtain ⟨h1,i,z,h2,_⟩:=ht.h
 obtain ⟨v,w',f,hr,hC,hO⟩:=own_lit0 (E:=sCel n) (r:=r) (w:=w) (d:=some d) (ty:=ty) (pos:=pos) (aft:=aft) (g:=none) h1 h2
 refine erun_wl (WL.val rfl hr ((h v).sound B o ho _ w' (agr_cons ha) ?_))
 obtain ⟨Z,F,hS,hg⟩:=hs
 have hf:fact Z w [] (.rd false (sGh S) (.bool true) ([],[])):=⟨[],⟨rfl,rfl,fun _ h=>absurd h List.not_mem_nil⟩,fun _ h=>absurd h List.not_mem_nil⟩
 exact St.put (f:=[]) (SA.fact hS hf) hg hC hO.1 hO.2.1 fun b hb=>.inr ((hO.2.2 b hb).resolve_left List.not_mem_nil)
theorem lnS {α:Type} {S:STy α} {q:Bool} {d n e:Nat} {x:Operand} {v:Value} {us:List (List Value)} {xs:List α} {t ty bt:TypeId} {m:Option M} [ht:SBc P t e n bt] (hx:opv fr x=some v) (h1:Sel Γ (.own (aJ e (sCel n)) v us) Γ1) (hg:In (.rd false (sGh S) (.bool true) (us,xs)) Γ)
  (h:D P cx (.o q all l rk Γ ((d,.int .i64 (xs.length:Int)) :: fr) m)):D P cx (.e q (.call ⟨.builtin .len,#[x],#[t]⟩) (some d) ty all l rk Γ fr m):=by
 refine D.of ?_
 intro B o ho r w ha hs pos aft g
 obtain ⟨q1,_⟩:=ht.h
 obtain ⟨Z,F,hS,hG⟩:=@_root_.id _ hs
 obtain ⟨f,F1,_,hO,_⟩:=h1.sound hS
 obtain ⟨k,hk,_⟩:=hg.rd hS []
 obtain ⟨base,cap,hv,_⟩:=hO
 obtain rfl:v = .slice base us.length cap:=by simpa using hv
 have hl:us.length=xs.length:=gl_len hk.2.1
 exact erun_of (v:=.int .i64 (xs.length:Int)) (fun w' _=>by rw [← hl]; exact op_len q1 (aT ha hx)) (h.sound B o ho _ w (agr_cons ha) hs)
theorem ixS {α V:Type} {S:STy α} {cl:α→V→List Value} {en:α→V→List Ent} {q:Bool} {d n e:Nat} {x y:Operand} {v:Value} {us:List (List Value)} {xs:List α} {k:IntKind} {j:Int} {t ty bt:TypeId} {f:α→Option M} [ht:SBc P t e n bt] (hx:opv fr x=some v) (hy:opv fr y=some (.int k j))
  (h1:Sel Γ (.own (aJ e (sCel n)) v us) Γ1) (hg:In (.rd false (sGh S) (.bool true) (us,xs)) Γ) (hs:SOc S V cl en)
  (h:∀ z u,D P cx (.p [] (.rd false (sPu us j) (.bool true) (cl z u) :: en z u) fr Γ fun fr Γ=>.o q all l rk Γ ((d,.pointer (some (elA v n j))) :: fr) (f z))):D P cx (.e q (.indexAddr t x y) (some d) ty all l rk Γ fr (idx xs j>>=f)):=by
 refine D.of ?_
 intro B o ho r w ha hs' pos aft g
 replace hs:SO S V cl en:=by cases hs; assumption
 obtain ⟨z,hz,ho⟩:=bind_some ho
 replace hz:=idx_some hz
 obtain ⟨q1,i,_,q2,_,_,q3,_⟩:=ht.h
 obtain ⟨Z,F,hS,hG⟩:=hs'
 obtain ⟨f0,F1,_,hO,_⟩:=h1.sound hS
 obtain ⟨g0,hk,hgz⟩:=hg.rd hS []
 obtain ⟨c,g1,e1,e2,e3⟩:=gl_get j.toNat hk.2.1 hz.2
 obtain ⟨u,rfl,hen⟩:=hs.op e2
 have hlen:us.length=xs.length:=gl_len hk.2.1
 have hlt:j.toNat < xs.length:=(List.getElem?_eq_some_iff.1 hz.2).1
 have hv:∃ a c,v = .slice (some a) us.length c:=by
  obtain ⟨base,cap,hv,hr⟩:=hO
  obtain rfl:v = .slice base us.length cap:=by simpa using hv
  rcases hr with ⟨_,_,rfl,_⟩ | ⟨b,cur,f',rfl,_⟩
  ·rw [← hlen] at hlt; simp at hlt
  ·exact ⟨_,_,rfl⟩
 obtain ⟨a,c',rfl⟩:=hv
 have hall:HL Z w (.rd false (sPu us j) (.bool true) (cl z u) :: en z u) []:=.fact ⟨[],⟨rfl,⟨hz.1,e1⟩,rfl⟩,fun _ h=>absurd h List.not_mem_nil⟩ (hl_facts (hen Z fun b hb=>hgz b (e3 b hb)))
 obtain ⟨F',hp,hS2⟩:=hall.build hS
 refine erun_of (v:=.pointer (some (elA (.slice (some a) us.length c') n j))) (fun w' hC=>?_) ((h z u).sound B o ho _ w (agr_cons ha) ⟨Z,F',hS2,hG.perm (by simpa using hp)⟩)
 rw [op_indexAddr q1 q2 (aT ha hx) (aT ha hy) hz.1 (by omega),q3]
 rfl
theorem laS {q:Bool} {d n off e:Nat} {x:Operand} {v u:Value} {us:List (List Value)} {j:Int} {cs:List Value} {ty:TypeId} {m:Option M} (h1:Sel Γ (.own (aJ e (sCel n)) v us) Γ1) (hp:In (.rd false (sPu us j) (.bool true) cs) Γ) (hc:cs[off]? = some u)
  (k:D P cx (.o q all l rk Γ ((d,u) :: fr) m)):D P cx (.la ((elA v n j).add off) none q ty x d all l rk Γ fr m):=by
 refine D.of ?_
 intro ht hx B o ho r w ha hs t pos aft g
 obtain ⟨Z,F,hS,_⟩:=@_root_.id _ hs
 obtain ⟨f,F1,_,hO,_⟩:=h1.sound hS
 obtain ⟨_,⟨_,⟨hj,hu⟩,_⟩,_⟩:=hp.rd hS []
 exact erun_of (Ld ht ((cel_cells hO hj hu).2.2 off u hc) (aT ha hx)) (k.sound B o ho _ w (agr_cons ha) hs)
theorem laS0 {q:Bool} {d n e:Nat} {x:Operand} {v u:Value} {us:List (List Value)} {j:Int} {cs:List Value} {ty:TypeId} {m:Option M} (h1:Sel Γ (.own (aJ e (sCel n)) v us) Γ1) (hp:In (.rd false (sPu us j) (.bool true) cs) Γ) (hc:cs[0]? = some u)
  (k:D P cx (.o q all l rk Γ ((d,u) :: fr) m)):D P cx (.la (elA v n j) none q ty x d all l rk Γ fr m):=by
 have e:(elA v n j).add 0=elA v n j:=rfl
 rw [← e]
 exact laS h1 hp hc k
theorem lsS {q:Bool} {d n e:Nat} {x:Operand} {v:Value} {us:List (List Value)} {j:Int} {cs:List Value} {ty:TypeId} {m:Option M} (h1:Sel Γ (.own (aJ e (sCel n)) v us) Γ1) (hp:In (.rd false (sPu us j) (.bool true) cs) Γ)
  (k:D P cx (.o q all l rk Γ ((d,.agg cs.toArray) :: fr) m)):D P cx (.la (elA v n j) (some n) q ty x d all l rk Γ fr m):=by
 refine D.of ?_
 intro ht hx B o ho r w ha hs t pos aft g
 obtain ⟨Z,F,hS,_⟩:=@_root_.id _ hs
 obtain ⟨f,F1,_,hO,_⟩:=h1.sound hS
 obtain ⟨_,⟨_,⟨hj,hu⟩,_⟩,_⟩:=hp.rd hS []
 obtain ⟨e1,_,e3⟩:=cel_cells hO hj hu
 exact erun_of (Lg ht (fun i u hi=>e3 i u hi) (aT ha hx) e1) (k.sound B o ho _ w (agr_cons ha) hs)
theorem apS {α V:Type} {S:STy α} {cl:α→V→List Value} {en:α→V→List Ent} (y:α) {u:V} {d b n e bt:Nat} {s x:Operand} {sv:Value} {us:List (List Value)} {xs:List α} {cs:List Value} {t et ty:TypeId} {f:Unit→Option M} [ht:SBc P t e n bt]
  (hs:opv fr s=some sv) (hx:opv fr x=some (.slice (some ⟨b,0,none⟩) 1 1)) (h0:Sel Γ (.row b cs et) Γ1) (h1:Sel Γ1 (.own (aJ e (sCel n)) sv us) Γ2) (hg:In (.rd false (sGh S) (.bool true) (us,xs)) Γ2) (hso:SOc S V cl en) (_hv:MkV V u) (hc:cs=cl y u) (ho:Ones Γ cs) (hn:cs.length=n) (hfo:FO (en y u)) (hf:EF Γ2 (en y u) Γ3)
  (h:∀ v,D P cx (.o false all l rk (.own (aJ e (sCel n)) v (us++[cs]) :: .rd false (sGh S) (.bool true) (us++[cs],xs++[y]) :: Γ3) ((d,v) :: fr) (f ()))):D P cx (.e false (.call ⟨.builtin .append,#[s,x],#[t,t]⟩) (some d) ty all l rk Γ fr (fits bt (xs.length+1)>>=f)):=by
 refine D.of ?_
 intro B o ho' r w ha hs' pos aft g
 have hso':SO S V cl en:=by cases hso; assumption
 obtain ⟨_,hu,ho'⟩:=bind_some ho'
 obtain ⟨b1,b2⟩:=fits_some hu
 obtain ⟨q1,i,z,q2,q3,q4,q5,q6,_⟩:=ht.h
 obtain ⟨Z,F,hS,hG⟩:=hs'
 have hones:=ho.one hS
 obtain ⟨n0,F0,hp0,⟨rfl,hrow⟩,hS0⟩:=h0.sound hS
 obtain ⟨k,F1,hp,hO,hS1⟩:=h1.sound hS0
 obtain ⟨Fd,F2,Zn,hhl,hS2,hp2⟩:=hf.sound hS1
 obtain ⟨g0,hk,hgz⟩:=hg.rd hS1 []
 have hlen:us.length=xs.length:=gl_len hk.2.1
 have hperm:((k++F1)++[b]).Perm F:=(List.perm_append_comm.trans (hp.append_left [b])).trans hp0
 have hG':Gd B Z (k++F1) w:=Gd.left (F':=[b]) (hG.perm hperm)
 have hpp:((k++F2)++(Fd++Zn)).Perm (k++F1):=by
  rw [List.append_assoc]
  refine List.Perm.append_left k (.trans ?_ hp2)
  rw [← List.append_assoc]
  exact (List.perm_append_comm (l₁:=F2) (l₂:=Fd)).append_right Zn
 have hG2:Gd B Z ((k++F2)++(Fd++Zn)) w:=hG'.perm hpp
 have hlt:∀ b∈Fd++Zn,b < w.heap.size:=fun b hb=>by
  have h3:b∈k++F1:=hpp.mem_iff.1 (List.mem_append_right _ hb)
  rcases List.mem_append.1 h3 with h3 | h3
  ·exact STy.lt _ hO b h3
  ·exact hS1.lt b h3
 have hG3:Gd B (orZ Z (Fd++Zn)) (k++F2) w:=hG2.freeze hlt
 have hmono:∀ b,orZ Z Zn b→orZ Z (Fd++Zn) b:=fun b hb=>hb.imp id fun h=>List.mem_append_right _ h
 obtain ⟨g1,hr1,hz1⟩:=hso'.cl (x:=y) (v:=u) (Z:=orZ Z (Fd++Zn)) (w:=w) (hl_rd hfo (hhl.mono hmono))
 have hdk:Dis [] k:=fun _ h=>absurd h List.not_mem_nil
 have hE:repL (sCel n) w.heap cs [cs] []:=⟨cs,[],[],[],by simp,by simp,⟨rfl,hn,hones,rfl⟩,rfl,rfl⟩
 obtain ⟨v,w',f',hrun,hC,hrep,hsub,hnd⟩:=own_append (E:=sCel n) (d:=some d) (ty:=ty) (pos:=pos) (aft:=aft) (g:=none) (k:=[]) (ys:=[cs]) (news:=cs) q1 q2 q3 (by rw [q5]; rfl) (by rw [q4]; rfl) (aT ha hs) hO (List.nodup_append.1 hG'.nd).1 (aT ha hx) (fun i u hi=>hrow.at i u hi) hE hdk (by simp) (by rw [q6,hlen]; exact b1) (by rw [hlen]; exact b2)
 refine erun_wl (WL.val rfl hrun ((h v).sound B o ho' _ w' (agr_cons ha) ?_))
 have hgh:fact (orZ Z (Fd++Zn)) w [] (.rd false (sGh S) (.bool true) (us++[cs],xs++[y])):=by
  rw [hc]
  refine ⟨g0++g1,⟨rfl,gl_app hr1 hk.2.1,fun b hb=>?_⟩,fun b hb=>?_⟩
  ·rcases List.mem_append.1 hb with hb | hb
   ·exact hk.2.2 b hb
   ·exact S.lt hr1 b hb
  ·rcases List.mem_append.1 hb with hb | hb
   ·exact .inl (hgz b hb)
   ·exact hz1 b hb
 exact St.put (SA.fact (hS2.mono hmono fun _ h=>h) hgh) hG3 hC hrep (hnd List.nodup_nil) fun b hb=>(hsub b hb).imp id fun h=>h.resolve_left List.not_mem_nil
theorem cel_all {n:Nat} {h:Array Obj}:∀ {us:List (List Value)} {cs:List Value} {f:List Nat},repL (sCel n) h cs us f→∀ c∈us,c.length=n∧∀ v∈c,v.oneCell'=true:=by
 intro us
 induction us with
 | nil=>intro cs f _ c hc; cases hc
 | cons a us ih=>
  rintro cs f ⟨c',cs',f1,f2,rfl,rfl,⟨rfl,h1,h2,rfl⟩,h3⟩ c hc
  rcases List.mem_cons.1 hc with rfl | hc
  ·exact ⟨h1,h2⟩
  ·exact ih h3 c hc
theorem cel_rep {n:Nat} {h:Array Obj}:∀ {us:List (List Value)},(∀ c∈us,c.length=n∧∀ v∈c,v.oneCell'=true)→repL (sCel n) h us.flatten us []:=by
 intro us
 induction us with
 | nil=>intro _; exact ⟨rfl,rfl⟩
 | cons a us ih=>
  intro hc
  have h1:=hc a (by simp)
  exact ⟨a,us.flatten,[],[],by simp,rfl,⟨rfl,h1.1,h1.2,rfl⟩,ih fun c hm=>hc c (by simp [hm])⟩
theorem flatten_set {n:Nat} {c:List Value}:∀ {us:List (List Value)} {j:Nat},(∀ x∈us,x.length=n)→j < us.length→(us.set j c).flatten=us.flatten.take (j * n)++c++us.flatten.drop (j * n+n)∧j * n+n≤us.flatten.length:=by
 intro us
 induction us with
 | nil=>intro j _ hj; simp at hj
 | cons a us ih=>
  intro j hl hj
  have ha:a.length=n:=hl a (by simp)
  cases j with
  | zero=>refine ⟨?_,by simp [ha]⟩; simp [← ha]
  | succ j=>
   obtain ⟨h1,h2⟩:=ih (j:=j) (fun x hx=>hl x (by simp [hx])) (by simpa using hj)
   have e:(j+1) * n=n+j * n:=by rw [Nat.add_mul,Nat.one_mul,Nat.add_comm]
   refine ⟨?_,by rw [e,List.flatten_cons,List.length_append,ha]; omega⟩
   rw [List.set_cons_succ,List.flatten_cons,List.flatten_cons,h1,e,List.take_append,List.drop_append,ha]
   have e1:List.take (n+j * n) a=a:=List.take_of_length_le (by omega)
   have e2:List.drop (n+j * n+n) a=[]:=List.drop_eq_nil_of_le (by omega)
   rw [e1,e2,show n+j * n - n=j * n by omega,show n+j * n+n - n=j * n+n by omega]
   simp
theorem stS {α V:Type} {S:STy α} {cl:α→V→List Value} {en:α→V→List Ent} (y:α) {u:V} {n e:Nat} {x0 y0:Operand} {v:Value} {j:Int} {us:List (List Value)} {xs:List α} {cs c0:List Value} {t ty:TypeId} {m:Option M}
  (h1:Sel Γ (.own (aJ e (sCel n)) v us) Γ1) (hp:In (.rd false (sPu us j) (.bool true) c0) Γ) (hg:In (.rd false (sGh S) (.bool true) (us,xs)) Γ1) (hso:SOc S V cl en) (_hv:MkV V u) (hc:cs=cl y u) (ho:Ones Γ cs) (hn:cs.length=n) (hfo:FO (en y u)) (hf:EF Γ1 (en y u) Γ2)
  (h:D P cx (.o false all l rk (.own (aJ e (sCel n)) v (us.set j.toNat cs) :: .rd false (sGh S) (.bool true) (us.set j.toNat cs,xs.set j.toNat y) :: Γ2) fr m)):D P cx (.st (elA v n j) (.agg cs.toArray) n t x0 y0 ty all l rk Γ fr m):=by
 refine D.of ?_
 intro hT hx hy B o ho' r w ha hs' pos aft g
 have hso':SO S V cl en:=by cases hso; assumption
 obtain ⟨i,q1,q2⟩:=hT
 obtain ⟨Z,F,hS,hG⟩:=hs'
 have hones:=ho.one hS
 obtain ⟨_,⟨_,⟨hj,hu⟩,_⟩,_⟩:=hp.rd hS []
 obtain ⟨k,F1,hp1,hO,hS1⟩:=h1.sound hS
 obtain ⟨Fd,F2,Zn,hhl,hS2,hp2⟩:=hf.sound hS1
 obtain ⟨g0,hk,hgz⟩:=hg.rd hS1 []
 have hG':Gd B Z (k++F1) w:=hG.perm hp1
 have hpp:((k++F2)++(Fd++Zn)).Perm (k++F1):=by
  rw [List.append_assoc]
  refine List.Perm.append_left k (.trans ?_ hp2)
  rw [← List.append_assoc]
  exact (List.perm_append_comm (l₁:=F2) (l₂:=Fd)).append_right Zn
 have hG2:Gd B Z ((k++F2)++(Fd++Zn)) w:=hG'.perm hpp
 have hlt:∀ b∈Fd++Zn,b < w.heap.size:=fun b hb=>by
  have h3:b∈k++F1:=hpp.mem_iff.1 (List.mem_append_right _ hb)
  rcases List.mem_append.1 h3 with h3 | h3
  ·exact STy.lt _ hO b h3
  ·exact hS1.lt b h3
 have hG3:Gd B (orZ Z (Fd++Zn)) (k++F2) w:=hG2.freeze hlt
 have hmono:∀ b,orZ Z Zn b→orZ Z (Fd++Zn) b:=fun b hb=>hb.imp id fun h=>List.mem_append_right _ h
 obtain ⟨g1,hr1,hz1⟩:=hso'.cl (x:=y) (v:=u) (Z:=orZ Z (Fd++Zn)) (w:=w) (hl_rd hfo (hhl.mono hmono))
 obtain ⟨g2,hgl,hgb⟩:=gl_set (c:=cs) (by rw [hc]; exact hr1) j.toNat hk.2.1
 have hgh:fact (orZ Z (Fd++Zn)) w [] (.rd false (sGh S) (.bool true) (us.set j.toNat cs,xs.set j.toNat y)):=by
  refine ⟨g2,⟨rfl,hgl,fun b hb=>?_⟩,fun b hb=>?_⟩
  ·exact (hgb b hb).elim (hk.2.2 b) (S.lt hr1 b)
  ·exact (hgb b hb).elim (fun h=>.inl (hgz b h)) (hz1 b)
 have hjl:j.toNat < us.length:=(List.getElem?_eq_some_iff.1 hu).1
 obtain ⟨base,cap,hv',hr⟩:=hO
 obtain rfl:v = .slice base us.length cap:=by simpa using hv'
 rcases hr with ⟨_,_,rfl,_⟩ | ⟨b,cur,f',rfl,h2,rfl,h4,h5,h6,h3⟩
 ·simp at hjl
 ·obtain ⟨hcf,hf'⟩:=cel_flat h3
  subst hf'
  have hall:=cel_all h3
  obtain ⟨e1,e2⟩:=flatten_set (c:=cs) (fun x hx=>(hall x hx).1) hjl
  have hrow:Row w b cur.toList e:=by unfold Row; simpa using h2
  have hcz:cur.toList=us.flatten++cur.toList.drop (us.length * n):=by
   rw [← hcf]; exact (List.take_append_drop _ _).symm
  have hadr:elA (.slice (some ⟨b,0,none⟩) us.length cap) n j = ⟨b,j.toNat * n,none⟩:=by
   simp only [elA,addr_add,Nat.zero_add]
  rw [hadr] at hx
  have hle:j.toNat * n+cs.length≤cur.toList.length:=by
   rw [hn,hcz,List.length_append]; omega
  have hrun:=op_storeSeg (P:=P) (d:=none) (ty:=ty) (pos:=pos) (aft:=aft) (gg:=none) q1 (by rw [hn,q2]) hrow hle (aT ha hx) (y:=y0) (by rw [aT ha hy]; rfl) hones
  refine erun_wl (WL.skip rfl hrun (h.sound B o ho' _ _ ha ?_))
  have hnew:cur.toList.take (j.toNat * n)++cs++cur.toList.drop (j.toNat * n+cs.length)=(us.set j.toNat cs).flatten++cur.toList.drop (us.length * n):=by
   rw [hn,e1]
   conv=>lhs; rw [hcz]
   rw [List.take_append_of_le_length (by omega),List.drop_append_of_le_length (by omega)]
   simp
  have hset:=setRow_heap w b cur (cur.toList.take (j.toNat * n)++cs++cur.toList.drop (j.toNat * n+cs.length)).toArray e _ h2
  refine St.put (f:=[b]) (f':=[b]) (SA.fact (hS2.mono hmono fun _ h=>h) hgh) hG3 ⟨rfl,rfl,rfl,Nat.le_refl _,by simp,fun j' _ hj'=>setRow_other w b j' _ fun h=>hj' (by simp [h])⟩ ?_ (by simp) (fun b hb=>.inl hb)
  refine ⟨_,cap,by rw [List.length_set],.inr ⟨b,_,[],rfl,hset,rfl,by rw [List.length_set]; exact h4,h5,?_,?_⟩⟩
  ·rw [← h6]
   simp only [List.size_toArray,hnew]
   have e3:(us.set j.toNat cs).flatten.length=us.flatten.length:=by
    rw [e1]; simp only [List.length_append,List.length_take,List.length_drop,hn]; omega
   rw [List.length_append,e3,← List.length_append,← hcz,Array.length_toList]
  ·rw [List.toList_toArray,hnew,List.length_set]
   have hlen2:(us.set j.toNat cs).flatten.length=us.length * n:=by
    have e3:(us.set j.toNat cs).flatten.length=us.flatten.length:=by
     rw [e1]; simp only [List.length_append,List.length_take,List.length_drop,hn]; omega
    rw [e3]
    have:=repL_len h3
    rw [hcf] at this
    exact this
   show repL (sCel n) _ (List.take (us.length * n) _) _ _
   rw [List.take_append_of_le_length (by omega),List.take_of_length_le (by omega)]
   refine cel_rep fun c hm=>?_
   rcases List.mem_or_eq_of_mem_set hm with hm | rfl
   ·exact hall c hm
   ·exact ⟨hn,hones⟩
theorem litO {α:Type} {E:STy α} {d n:Nat} {t e ty:TypeId} {ps:List (Nat×Operand)} {us:List Value} {xs:List α} {m:Option M} [hz:LUc P t e] (hl:LitD Γ fr 0 ps us) (hn:us.length=n) (hb:(Nat.ble 1 n && Nat.ble n 16777216)=true) (hx:TkL Γ E us xs Γ1) (hE:E.size=1)
  (h:∀ v,D P cx (.o false all l rk (.own (aJ e E) v xs :: Γ1) ((d,v) :: fr) m)):D P cx (.e false (.buildSlice t n ps.toArray) (some d) ty all l rk Γ fr m):=by
 refine D.of ?_
 intro B o ho r w ha hs pos aft g
 obtain ⟨Z,F,hS,hg⟩:=hs
 refine erun_wl (WL.val rfl (hl.op ha hS ⟨hz.h⟩ hn hb) ((h _).sound B o ho _ _ (agr_cons ha) ?_))
 obtain ⟨e1,f,F2,hp2,hr,hS2⟩:=hx.sound hS
 have hble:n≤16777216:=by
  rw [Bool.and_eq_true] at hb
  exact Nat.le_of_ble_eq_true hb.2
 have hC:Chg [] w (w.alloc (.cells us.toArray e)):=Chg.alloc _ _ _
 have hg':Gd B Z (f++F2) w:=hg.perm hp2
 have hlt:∀ b∈f,b < w.heap.size:=repL_lt hr
 have hnew:=heap_alloc_new w (.cells us.toArray e)
 have hr':repL E (w.alloc (.cells us.toArray e)).heap us xs f:=repL_congr hr fun b hb=>hC.block b (hlt b hb) (fun h=>absurd h List.not_mem_nil)
 refine St.put (f:=f) (f':=w.heap.size :: f) hS2 hg' (Chg.mono hC fun _ h=>absurd h List.not_mem_nil) ⟨_,n,by rw [← hn,e1],.inr ⟨w.heap.size,us.toArray,f,rfl,hnew,rfl,by rw [← hn,e1]; exact Nat.le_refl _,Nat.le_trans hble (by decide),by rw [hE,Nat.mul_one]; simp [hn],?_⟩⟩ ?_ ?_
 ·rw [hE,Nat.mul_one,List.toList_toArray,← e1,List.take_length]
  exact hr'
 ·exact List.nodup_cons.2 ⟨fun hm=>Nat.lt_irrefl _ (hlt _ hm),(List.nodup_append.1 hg'.nd).1⟩
 ·intro b hb
  rcases List.mem_cons.1 hb with rfl | hb
  ·exact .inr (Nat.le_refl _)
  ·exact .inl hb
theorem apR {α:Type} {d b:Nat} {s x:Operand} {v u yv:Value} {j:Int} {y:α} {z:List α} {xs:List (List α)} {t e e' et ty:TypeId} {E E':STy α} {z0:α} {bt:Nat} {o1 o2:Bool} {Γx:List Ent} {f:Unit→Option M} [hT:STc P t α e E z0 bt] (hs:opv fr s=some u) (hx:opv fr x=some (.slice (some ⟨b,0,none⟩) 1 1)) (hl:Loc Γ u (.row v j)) (h0:Sel Γ (.row b [yv] et) Γ1) (hz:Fnd Γ u o1 o2 E' z noE Γx) (h1:Sel Γ1 (.own (aJ e' (aJ e E)) v xs) Γ2) (hr:RT (aJ e E) (aB E')) (hy:TkE Γ2 E yv y Γ3)
  (h:∀ v',D P cx (.o false all l rk (.own (aJ e E) v' (z++[y]) :: .own (sHole e' (aJ e E) j.toNat) v xs :: Γ3) ((d,v') :: fr) (f ()))):D P cx (.e false (.call ⟨.builtin .append,#[s,x],#[t,t]⟩) (some d) ty all l rk Γ fr (fits bt (z.length+1)>>=f)):=by
 refine D.of ?_
 intro B o ho' r w ha hs' pos aft g
 obtain ⟨_,hu,ho'⟩:=bind_some ho'
 obtain ⟨b1,b2⟩:=fits_some hu
 obtain ⟨q1,q2,i,zz,q3,q4,q5,q6,q7,_⟩:=hT.h
 obtain ⟨Z,F,hS,hG⟩:=hs'
 obtain ⟨j0,j1,hcell⟩:=Loc.row hl rfl hS
 obtain ⟨cur',_,⟨⟨gz,hgz,_⟩,_⟩,_⟩:=hz.sound hS
 obtain ⟨n0,F0,hp0,⟨rfl,hrow⟩,hS0⟩:=h0.sound hS
 obtain ⟨fm,F1,hp1,hO,hS1⟩:=h1.sound hS0
 obtain ⟨ky,F2,hp2,hky,hS2⟩:=hy.sound hS1
 rw [own_slen hO] at j1
 obtain ⟨k,gm,a1,a2,a3⟩:=own_hole rfl hO (List.getElem?_eq_getElem j1) hcell
 have hzz:xs[j.toNat]=z:=hr.det (hr.le.le a1) hgz
 rw [hzz] at a1
 have hperm:((k++ky)++(gm++F2)).Perm (fm++F1):=by
  have e1:((k++gm)++(ky++F2)).Perm (fm++F1):=(a2.append_right _).trans (hp2.append_left fm)
  refine .trans ?_ e1
  rw [List.append_assoc,List.append_assoc]
  refine List.Perm.append_left k ?_
  rw [← List.append_assoc,← List.append_assoc]
  exact List.perm_append_comm.append_right F2
 have hG':Gd B Z ((k++ky)++(gm++F2)) w:=Gd.left (F':=[b]) (hG.perm (((hperm.append_right [b]).trans (List.perm_append_comm.trans (hp1.append_left [b]))).trans hp0))
 have hnd:=(List.nodup_append.1 hG'.nd).1
 have hnk:=List.nodup_append.1 hnd
 obtain ⟨v',w',f',hrun,hC,hrep,hsub,hnd'⟩:=own_append (E:=E) (d:=some d) (ty:=ty) (pos:=pos) (aft:=aft) (g:=none) (k:=ky) (ys:=[y]) (news:=[yv]) q1 q3 q4 (by rw [q5,q2]) (by rw [cells_one q6,q2]; rfl) (aT ha hs) a1 hnk.1 (aT ha hx) (fun i u hi=>hrow.at i u hi) (repL_single hky) (fun b hb hm=>hnk.2.2 b hm b hb rfl) (by simp) (by rw [q7]; exact b1) b2
 refine erun_wl (WL.val rfl hrun ((h v').sound B o ho' _ w' (agr_cons ha) ?_))
 have hSh:SA Z w (.own (sHole e' (aJ e E) j.toNat) v xs :: Γ3) [] (gm++F2):=SA.cons hS2 (e:=.own (sHole e' (aJ e E) j.toNat) v xs) a3
 refine St.put hSh hG' (hC.mono fun b hb=>List.mem_append_left _ hb) hrep (hnd' hnk.2.1) fun b hb=>?_
 rcases hsub b hb with h | h | h
 ·exact .inl (List.mem_append_left _ h)
 ·exact .inl (List.mem_append_right _ h)
 ·exact .inr h
theorem ixH {α:Type} {q:Bool} {d j0:Nat} {x y:Operand} {v:Value} {k:IntKind} {j:Int} {xs:List α} {t e ty:TypeId} {E:STy α} {f:α→Option M} [ht:SLc P t] (hx:opv fr x=some v) (hy:opv fr y=some (.int k j)) (h1:Sel Γ (.own (sHole e E j0) v xs) Γ1)
  (h:∀ z,D P cx (.o q all l rk Γ ((d,.pointer (some (elA v 1 j))) :: fr) (f z))):D P cx (.e q (.indexAddr t x y) (some d) ty all l rk Γ fr (idx xs j>>=f)):=by
 refine D.of ?_
 intro B o ho r w ha hs pos aft g
 obtain ⟨z,hz,ho⟩:=bind_some ho
 replace hz:=idx_some hz
 obtain ⟨e',i,q1,q2,q3⟩:=ht.h
 obtain ⟨Z,F,hS,_⟩:=@_root_.id _ hs
 obtain ⟨f0,F1,_,⟨b,cap,cur,f1,f2,p,c0,qq,hv,_⟩,_⟩:=h1.sound hS
 obtain rfl:v = .slice (some ⟨b,0,none⟩) xs.length cap:=by simpa using hv
 have hlt:j.toNat < xs.length:=(List.getElem?_eq_some_iff.1 hz.2).1
 have hz0:=hz.1
 refine erun_of (v:=.pointer (some (elA (.slice (some ⟨b,0,none⟩) xs.length cap) 1 j))) (fun w' hC=>?_) ((h z).sound B o ho _ w (agr_cons ha) hs)
 rw [op_indexAddr q1 q2 (aT ha hx) (aT ha hy) hz.1 (by omega),q3]
 rfl
theorem stR {α:Type} {x0 y0:Operand} {v u:Value} {j:Int} {z:α} {xs:List α} {t e ty:TypeId} {E:STy α} {m:Option M} (h1:Sel Γ (.own E u z) Γ1) (h2:Sel Γ1 (.own (sHole e E j.toNat) v xs) Γ2)
  (h:D P cx (.o false all l rk (.own (aJ e E) v (xs.set j.toNat z) :: Γ2) fr m)):D P cx (.st (elA v 1 j) u 1 t x0 y0 ty all l rk Γ fr m):=by
 refine D.of ?_
 intro hT hx hy B o ho' r w ha hs' pos aft g
 obtain ⟨i,q1,q2⟩:=hT
 obtain ⟨Z,F,hS,hG⟩:=hs'
 obtain ⟨k,F1,hp1,hK,hS1⟩:=h1.sound hS
 obtain ⟨gm,F2,hp2,hM,hS2⟩:=h2.sound hS1
 have hpp:((gm++k)++F2).Perm F:=by
  refine .trans ?_ hp1
  refine .trans ?_ (hp2.append_left k)
  rw [← List.append_assoc k gm F2]
  exact List.perm_append_comm.append_right F2
 have hG':Gd B Z ((gm++k)++F2) w:=hG.perm hpp
 have hnd:=(List.nodup_append.1 hG'.nd).1
 obtain ⟨b,cap,cur,f1,f2,p,c0,qq,hv,g1,rfl,⟨g2,g3,g4,g5⟩,g6,⟨g7,g8⟩,g9,g10⟩:=hM
 obtain rfl:v = .slice (some ⟨b,0,none⟩) xs.length cap:=by simpa using hv
 have hadr:elA (.slice (some ⟨b,0,none⟩) xs.length cap) 1 j = ⟨b,j.toNat,none⟩:=by
  simp only [elA,addr_add,Nat.zero_add,Nat.mul_one]
 rw [hadr] at hx
 have hrow:Row w b cur.toList e:=by unfold Row; simpa using g1
 have hbl:∀ i∈(f1++f2)++k,i≠b:=by
  intro i hi he
  subst he
  have e1:((i :: (f1++f2))++k)=i :: ((f1++f2)++k):=rfl
  rw [e1] at hnd
  exact (List.nodup_cons.1 hnd).1 hi
 refine erun_wl (WL.storeRow q1 q2 hrow (by rw [Array.length_toList,g4]; omega) (aT ha hx) (aT ha hy) (E.one hK u (by simp)) fun w' hC hrow'=>h.sound B o ho' _ w' ha ?_)
 have hsame:∀ i∈(f1++f2)++k,i < w.heap.size→w'.heap[i]? = w.heap[i]?:=fun i hi hl=>hC.block i hl fun hm=>hbl i hi (by simpa using hm)
 have hK':E.rep w'.heap [u] z k:=E.congr hK fun i hi=>hsame i (List.mem_append_right _ hi) (E.lt hK i hi)
 have hrl:=g10 w'.heap (fun i hi=>hsame i (List.mem_append_left _ hi) (g9 i hi)) u z k hK'
 refine St.put (f:=(b :: (f1++f2))++k) (f':=b :: (f1++k++f2)) hS2 hG' (hC.mono fun i hi=>by rw [List.mem_singleton.1 hi]; simp) ⟨_,cap,by rw [List.length_set],.inr ⟨b,_,f1++k++f2,rfl,hrow',rfl,by rw [List.length_set]; exact g2,g3,?_,?_⟩⟩ ?_ ?_
 ·rw [g5]; simp [g4]
 ·have hset:((cur.toList.set j.toNat u).take xs.length)=p++[u]++qq:=by
   rw [List.take_set,g6,← g7]
   simp
  rw [List.length_set,g5,Nat.mul_one]
  simpa [hset] using hrl
 ·have hpm:(b :: (f1++k++f2)).Perm ((b :: (f1++f2))++k):=by
   rw [List.cons_append]
   refine List.Perm.cons b ?_
   rw [List.append_assoc,List.append_assoc]
   exact List.Perm.append_left f1 List.perm_append_comm
  exact hpm.nodup_iff.2 hnd
 ·intro i hi
  refine .inl ?_
  rcases List.mem_cons.1 hi with rfl | hi
  ·simp
  ·rcases List.mem_append.1 hi with hi | hi
   ·rcases List.mem_append.1 hi with hi | hi <;> simp [hi]
   ·simp [hi]
theorem loopP {S S1 V W:Type} (k:Nat) (Δ:S1→V→W→List Ent) (φ:S1→V→W→Fr) (v0:V) (w0:W) (f2:Fr) {its:List KI} {kb:Kb R S} {c:Code} {s0:S1} {body:S1→Option (Out S1 R)} {f:S1→Option (Out S R)}
  (ha:Agr fr (φ s0 v0 w0)) (hf:Agr fr f2) (h0:EO Γ (Δ s0 v0 w0) Γ1) (hn:OW Γ (Δ s0 v0 w0)) (hs:Strip Γ1 Γ2)
  (hb:∀ s v w,D P cx (.p (φ s v w) (Δ s v w) f2 Γ2 fun fr Γ=>.c ⟨[],.loop (V×W) k (fun s v=>Δ s v.1 v.2) (fun s v=>φ s v.1 v.2) Γ2 f2⟩ c Γ fr (body s)))
  (hk:∀ s v w,D P cx (.p (φ s v w) (Δ s v w) f2 Γ2 fun fr Γ=>.mn ⟨its,kb⟩ Γ fr (f s))):Bx (sem P cx (.bk true k ⟨its,kb⟩ (.loop c) Γ fr (lbind (blockM k (Li.loopM body s0)) f))):=
 loop k (fun s v=>Δ s v.1 v.2) (fun s v=>φ s v.1 v.2) (v0,w0) f2 ha hf h0 hn hs (fun s v=>hb s v.1 v.2) (fun s v=>hk s v.1 v.2)
def capR {α:Type} (v:Value) (_:List α):Prop:=∃ a n c,v = .slice a n c∧n≤c
theorem Le.cap {α:Type} {T E:STy α} (hl:Le T E) (e:TypeId):Le (aJ e T) (sIn capR (aB E)):=by
 refine ⟨rfl,fun {h cs x f} hr=>⟨?_,(Le.own hl e).le hr⟩⟩
 obtain ⟨base,cap,rfl,hr⟩:=hr
 refine ⟨_,rfl,_,_,_,rfl,?_⟩
 rcases hr with ⟨_,_,rfl,_⟩ | ⟨_,_,_,_,_,_,h,_⟩
 ·exact Nat.zero_le _
 ·exact h
theorem own_frz {α:Type} {T E:STy α} {e e2:TypeId} {v:Value} {xs:List (List α)} {f:List Nat} {h:Array Obj} (hl:Le T E) (hO:(aJ e (aJ e2 T)).rep h [v] xs f) :
  ∃ fo fz us,(fo++fz).Perm f∧(aJ e sVal).rep h [v] us fo∧repL (sIn capR (aB E)) h us xs fz:=by
 obtain ⟨base,cap,hv,hr⟩:=hO
 rcases hr with ⟨rfl,rfl,rfl,rfl⟩ | ⟨b,cur,f',rfl,h2,rfl,h4,h5,h6,h3⟩
 ·exact ⟨[],[],[],.refl _,⟨none,0,by simpa using hv,.inl ⟨rfl,rfl,rfl,rfl⟩⟩,rfl,rfl⟩
 ·have h7:=repL_len h3
  have h8:(aJ e2 T).size=1:=rfl
  rw [h8,Nat.mul_one] at h6 h3 h7
  try rw [Nat.mul_one] at h7
  refine ⟨[b],f',cur.toList.take xs.length,.refl _,⟨_,cap,by rw [h7]; exact hv,.inr ⟨b,cur,[],rfl,h2,rfl,by rw [h7]; exact h4,h5,by rw [h6]; exact (Nat.mul_one _).symm,?_⟩⟩,repL_le (Le.cap hl e2) h3⟩
  have h9:sVal.size=1:=rfl
  rw [h9,Nat.mul_one,h7]
  exact repL_val_mk (repL_one h3)
theorem St.frz {α:Type} {T E:STy α} {e e2:TypeId} {v:Value} {xs:List (List α)} (hs:St B Γ w) (h1:EO Γ [.own (aJ e (aJ e2 T)) v xs] Γ1) (hr:RT T E):St B (.om e (sIn capR (aB E)) v xs :: Γ1) w:=by
 obtain ⟨Z,F,hS,hG⟩:=hs
 obtain ⟨_,F1,hH,hS1,hp⟩:=h1.sound hS
 obtain ⟨f,hO,hp⟩ : ∃ f,(aJ e (aJ e2 T)).rep w.heap [v] xs f∧(f++F1).Perm F:=by
  cases hH with
  | own h k=>cases k; exact ⟨_,h,by simpa using hp⟩
 obtain ⟨fo,fz,us,hf,ho,hl⟩:=own_frz hr.le hO
 have hpp:((fo++F1)++fz).Perm F:=by
  refine .trans ?_ hp
  refine .trans ?_ (hf.append_right F1)
  rw [List.append_assoc,List.append_assoc]
  exact List.Perm.append_left fo List.perm_append_comm
 have hG2:=Gd.freeze (hG.perm hpp) fun b hb=>hS.lt b (hpp.mem_iff.1 (List.mem_append_right _ hb))
 exact ⟨orZ Z fz,fo++F1,SA.cons (hS1.mono (fun _ h=>.inl h) fun _ h=>h) ⟨us,fz,ho,hl,fun b hb=>.inr hb,rfl⟩,hG2⟩
theorem tailF {S:Type} {id:Nat} (k:Nat) {K:Kont R S} {l ops tl0:List Oper} {α:Type} {T E:STy α} {e e2:TypeId} {v:Value} {xs:List (List α)} {m:Option (Out S R)} (hB:(P.follows .mixedOrders && dstOk cx.n l && ((l.take k).all fun o=>plainB o.op) && Region.lexTailB .any l.toArray k)=true) (ho:ops=l.take k) (ht:tl0=l.drop k)
  (h1:EO Γ [.own (aJ e (aJ e2 T)) v xs] Γ1) (hr:RT T E) (h:D P cx (.o true l ops (.h l tl0 K) (.om e (sIn capR (aB E)) v xs :: Γ1) fr m)):Bx (sem P cx (.dr id l K Γ fr m)):=by
 have h2:=tail (id:=id) k hB ho ht h
 rw [bx_eq] at h2 ⊢
 exact fun B o ho' r w ha hs=>h2 B o ho' r w ha (hs.frz h1 hr)
theorem repL_drop {α:Type} {E:STy α} {h:Array Obj}:∀ {xs:List α} {cs:List Value} {f:List Nat} (n:Nat),repL E h cs xs f→∃ f3,repL E h (cs.drop (n * E.size)) (xs.drop n) f3∧∀ b∈f3,b∈f:=by
 intro xs
 induction xs with
 | nil=>rintro cs f n ⟨rfl,rfl⟩; exact ⟨[],by simpa using ⟨rfl,rfl⟩,fun _ h=>h⟩
 | cons x xs ih=>
  rintro cs f n ⟨c,ds,f1,f2,rfl,rfl,h1,h2⟩
  cases n with
  | zero=>exact ⟨f1++f2,by simpa using ⟨c,ds,f1,f2,rfl,rfl,h1,h2⟩,fun _ h=>h⟩
  | succ n=>
   obtain ⟨f3,h3,h4⟩:=ih n h2
   refine ⟨f3,?_,fun b hb=>List.mem_append_right _ (h4 b hb)⟩
   have e:(n+1) * E.size=c.length+n * E.size:=by rw [E.len h1,Nat.add_mul,Nat.one_mul,Nat.add_comm]
   rw [e,List.drop_append,List.drop_of_length_le (by omega),List.nil_append,List.drop_succ_cons]
   simpa using h3
theorem slT {α:Type} {q:Bool} {d:Nat} {x lo:Operand} {v:Value} {k:IntKind} {j:Int} {E:STy α} {xs:List α} {t ty:TypeId} {f:List α→Option M} [ht:SLc P t] (hx:opv fr x=some v) (hy:opv fr lo=some (.int k j)) (hr:In (.rd false (sIn capR (aB E)) v xs) Γ) (hE:E.size=1)
  (h:∀ v' ys,D P cx (.o q all l rk (.rd false (aB E) v' ys :: Γ) ((d,v') :: fr) (f ys))):D P cx (.e q (.slice t x (some lo) none none) (some d) ty all l rk Γ fr (tl xs j>>=f)):=by
 refine D.of ?_
 intro B o ho r w ha hs pos aft g
 obtain ⟨ys,hys,ho⟩:=bind_some ho
 obtain ⟨h0,h1,rfl⟩:=tl_some hys
 obtain ⟨e,i,q1,q2,q3⟩:=ht.h
 obtain ⟨Z,F,hS,hG⟩:=hs
 obtain ⟨g0,⟨⟨v0,hv0,a0,n0,c0,hv1,hc⟩,base,cap,hv,hr'⟩,hgz⟩:=hr.rd hS []
 obtain rfl:v = .slice base xs.length cap:=by simpa using hv
 obtain rfl:Value.slice base xs.length cap=v0:=by simpa using hv0
 obtain ⟨rfl,rfl,rfl⟩ : base=a0∧xs.length=n0∧cap=c0:=by simpa using hv1
 have hlen:(xs.drop j.toNat).length=xs.length - j.toNat:=List.length_drop
 have hf:fact Z w [] (.rd false (aB E) (sliced base j.toNat xs.length cap 1) (xs.drop j.toNat)):=by
  by_cases hj:j.toNat=xs.length
  ·refine ⟨[],⟨_,cap - j.toNat,by unfold sliced; rw [hlen],.inl ⟨by rw [hj]; simp,rfl⟩⟩,fun _ h=>absurd h List.not_mem_nil⟩
  ·rcases hr' with ⟨rfl,_⟩ | ⟨b,off,cur,e',fz,f',rfl,g1,rfl,g2⟩
   ·exfalso; simp at h1 hj; omega
   ·have hne : ¬ (cap=j.toNat):=by omega
    obtain ⟨f3,hrep,hsub⟩:=repL_drop j.toNat g2
    refine ⟨b :: f3,⟨some ⟨b,off+j.toNat,none⟩,cap - j.toNat,?_,.inr ⟨b,off+j.toNat,cur,e',fz,f3,rfl,g1,rfl,?_⟩⟩,fun i hi=>?_⟩
    ·unfold sliced
     rw [hlen,if_neg hne]
     simp [addr_add]
    ·rw [hE,Nat.mul_one] at hrep ⊢
     rw [Nat.mul_one,List.drop_take,List.drop_drop] at hrep
     rw [hlen]
     exact hrep
    ·rcases List.mem_cons.1 hi with rfl | hi
     ·exact hgz _ (by simp)
     ·exact hgz _ (List.mem_cons_of_mem _ (hsub i hi))
 refine erun_of (v:=sliced base j.toNat xs.length cap 1) (fun w' _=>?_) ((h _ _).sound B o ho _ w (agr_cons ha) ⟨Z,F,SA.fact hS hf,hG⟩)
 have q4:P.elem t=e:=by simp [Program.elem,q1]
 have hsz:(sizeOf (P.elem t)).run P w' = .ok 1 w':=by rw [q4]; simp [sizeOf,typeInfo,q2,q3]
 simp [execOp,aT ha hx,aT ha hy,run_sliceAt_slice w' t _ _ _ _ (by rw [q4]; exact q1),run_slice_l (P:=P) w' t base xs.length cap (by rw [q4]; exact q1) k j h0 h1,hsz,Result.andThen]
theorem stN {α:Type} {x y:Operand} {v u:Value} {j:Int} {z:List α} {xs:List (List α)} {E:STy α} {Q:Value→List α→Prop} {t e ty:TypeId} {Γx:List Ent} {m:Option M} (h0:Rg v j Γ) (h1:Fnd Γ u false false E z noE Γx) (h2:Sel Γ (.om e (sIn Q (aB E)) v xs) Γ1)
  (h:D P cx (.o false all l rk (.om e (aB E) v (xs.set j.toNat z) :: Γ1) fr m)):D P cx (.sl .om v j u t x y ty all l rk Γ fr m):=by
 refine D.of ?_
 intro hT hx hy _ B o ho r w ha hs pos aft g
 obtain ⟨i,hi,hsz⟩:=hT
 obtain ⟨Z,F,hS,hg⟩:=hs
 obtain ⟨j0,j1⟩:=h0.sound hS
 obtain ⟨cur',_,⟨⟨k,hk,hkz⟩,_⟩,_⟩:=h1.sound hS
 obtain ⟨n,F1,hp,⟨us,gg,hO,hr0,hgz,h1s⟩,hS1⟩:=h2.sound hS
 have hle:Le (sIn Q (aB E)) (aB E):=⟨rfl,fun h=>h.2⟩
 have hr:repL (aB E) w.heap us xs gg:=repL_le hle hr0
 replace h1s:(aB E).size=1:=rfl
 have hg':=hg.perm hp
 have hnd:=List.nodup_append.1 hg'.nd
 have hkz':∀ b∈k,Z b:=fun b hb=>(hkz b hb).elim (fun h=>h) (fun h=>h)
 have hzn:∀ b∈n,¬ Z b:=fun b hb=>hg'.apart b (List.mem_append_left _ hb)
 have hl:us.length=xs.length:=by have:=repL_len hr; rw [h1s,Nat.mul_one] at this; exact this
 have hsl:slen v=us.length:=own_slen hO
 rw [hsl,hl] at j1
 refine erun_wl (WLM.store (E:=aB E) (G:=n) (B:=w.heap.size) (g:=gg) (k:=k) hi hsz ⟨us,⟨hO,hnd.1,fun b hb=>.inl hb⟩,hr,h1s⟩ (List.getElem?_eq_getElem j1) (aT ha hx) (aT ha hy) hk (fun b hb hm=>hzn b hm (hkz' b hb)) (fun b hb hm=>hzn b hm (hgz b hb)) fun w' g' hC hO' hg2=>?_)
 obtain ⟨us',ho',hr',hs1'⟩:=hO'
 exact h.sound B o ho _ w' ha (St.put hS1 hg' hC ⟨us',_,ho'.1,hr',(fun b hb=>(hg2 b hb).elim (hgz b) (hkz' b)),hs1'⟩ ho'.2.1 fun b hb=>.inl hb)
theorem own_cell {α:Type} {e:TypeId} {E:STy α} {v:Value} {xs:List α} {f:List Nat} {j:Int} {w:World} (h1:E.size=1) (hO:(aJ e E).rep w.heap [v] xs f) (hj:j.toNat < xs.length):∃ u,w.cell? (elA v 1 j)=some u:=by
 obtain ⟨base,cap,hv,hr⟩:=hO
 obtain rfl:v = .slice base xs.length cap:=by simpa using hv
 rcases hr with ⟨_,_,rfl,_⟩ | ⟨b,cur,f0,rfl,hg,rfl,hnc,hcm,hcs,hrep⟩
 ·simp at hj
 ·rw [h1,Nat.mul_one] at hcs
  have hadr:elA (.slice (some ⟨b,0,none⟩) xs.length cap) 1 j = ⟨b,j.toNat,none⟩:=by
   simp only [elA,addr_add,Nat.zero_add,Nat.mul_one]
  rw [hadr,cell_of_row w b _ cur e _ hg]
  exact ⟨_,Array.getElem?_eq_getElem (by omega)⟩
theorem stO {α:Type} {x0 y0:Operand} {v u:Value} {j:Int} {z:α} {xs:List α} {t e ty:TypeId} {E:STy α} {m:Option M} (h0:Rg v j Γ) (h1:Sel Γ (.own E u z) Γ1) (h2:Sel Γ1 (.own (aJ e E) v xs) Γ2) (h3:E.size=1)
  (h:D P cx (.o false all l rk (.own (aJ e E) v (xs.set j.toNat z) :: Γ2) fr m)):D P cx (.st (elA v 1 j) u 1 t x0 y0 ty all l rk Γ fr m):=by
 refine D.of ?_
 intro hT hx hy B o ho' r w ha hs' pos aft g
 obtain ⟨i,q1,q2⟩:=hT
 obtain ⟨Z,F,hS,hG⟩:=@_root_.id _ hs'
 obtain ⟨j0,j1⟩:=h0.sound hS
 obtain ⟨k,F1,hp1,hK,hS1⟩:=h1.sound hS
 obtain ⟨fm,F2,hp2,hO,hS2⟩:=h2.sound hS1
 rw [own_slen hO] at j1
 obtain ⟨u0,hu0⟩:=own_cell h3 hO j1
 obtain ⟨k0,gm,a1,a2,a3⟩:=own_hole h3 hO (List.getElem?_eq_getElem j1) hu0
 have hpp:((k0++(k++(gm++F2)))).Perm F:=by
  refine .trans ?_ hp1
  have e1:(k0++gm++F2).Perm F1:=(a2.append_right _).trans hp2
  refine .trans ?_ (e1.append_left k)
  rw [← List.append_assoc,List.append_assoc k0 gm F2,← List.append_assoc k k0]
  exact List.perm_append_comm.append_right _
 have hpg:((gm++k)++F2++k0).Perm F:=by
  refine .trans ?_ hpp
  refine .trans List.perm_append_comm ?_
  refine List.Perm.append_left k0 ?_
  rw [← List.append_assoc]
  exact List.perm_append_comm.append_right F2
 have hG':Gd B Z ((gm++k)++F2) w:=Gd.left (F':=k0) (hG.perm hpg)
 have hnd:=(List.nodup_append.1 hG'.nd).1
 obtain ⟨b,cap,cur,f1,f2,p,c0,qq,hv,g1,rfl,⟨g2,g3,g4,g5⟩,g6,⟨g7,g8⟩,g9,g10⟩:=a3
 obtain rfl:v = .slice (some ⟨b,0,none⟩) xs.length cap:=by simpa using hv
 have hadr:elA (.slice (some ⟨b,0,none⟩) xs.length cap) 1 j = ⟨b,j.toNat,none⟩:=by
  simp only [elA,addr_add,Nat.zero_add,Nat.mul_one]
 rw [hadr] at hx
 have hrow:Row w b cur.toList e:=by unfold Row; simpa using g1
 have hbl:∀ i∈(f1++f2)++k,i≠b:=by
  intro i hi he
  subst he
  have e1:((i :: (f1++f2))++k)=i :: ((f1++f2)++k):=rfl
  rw [e1] at hnd
  exact (List.nodup_cons.1 hnd).1 hi
 refine erun_wl (WL.storeRow q1 q2 hrow (by rw [Array.length_toList,g4]; omega) (aT ha hx) (aT ha hy) (E.one hK u (by simp)) fun w' hC hrow'=>h.sound B o ho' _ w' ha ?_)
 have hsame:∀ i∈(f1++f2)++k,i < w.heap.size→w'.heap[i]? = w.heap[i]?:=fun i hi hl=>hC.block i hl fun hm=>hbl i hi (by simpa using hm)
 have hK':E.rep w'.heap [u] z k:=E.congr hK fun i hi=>hsame i (List.mem_append_right _ hi) (E.lt hK i hi)
 have hrl:=g10 w'.heap (fun i hi=>hsame i (List.mem_append_left _ hi) (g9 i hi)) u z k hK'
 refine St.put (f:=(b :: (f1++f2))++k) (f':=b :: (f1++k++f2)) hS2 hG' (hC.mono fun i hi=>by rw [List.mem_singleton.1 hi]; simp) ⟨_,cap,by rw [List.length_set],.inr ⟨b,_,f1++k++f2,rfl,hrow',rfl,by rw [List.length_set]; exact g2,g3,?_,?_⟩⟩ ?_ ?_
 ·rw [g5]; simp [g4]
 ·have hset:((cur.toList.set j.toNat u).take xs.length)=p++[u]++qq:=by
   rw [List.take_set,g6,← g7]
   simp
  rw [List.length_set,g5,Nat.mul_one]
  simpa [hset] using hrl
 ·have hpm:(b :: (f1++k++f2)).Perm ((b :: (f1++f2))++k):=by
   rw [List.cons_append]
   refine List.Perm.cons b ?_
   rw [List.append_assoc,List.append_assoc]
   exact List.Perm.append_left f1 List.perm_append_comm
  exact hpm.nodup_iff.2 hnd
 ·intro i hi
  refine .inl ?_
  rcases List.mem_cons.1 hi with rfl | hi
  ·simp
  ·rcases List.mem_append.1 hi with hi | hi
   ·rcases List.mem_append.1 hi with hi | hi <;> simp [hi]
   ·simp [hi]
theorem St.anew {B:Bs} {Γ Δ Γ1 Γ2 Γ3:List Ent} {w:World} (h:St B Γ w) (h0:EF Γ Δ Γ1) (h1:EO Γ1 Γ2 Γ3) (h2:MF Γ none Γ2):St B (Δ.reverse++Γ2) w:=by
 obtain ⟨Z,F,hs,hg⟩:=h
 obtain ⟨Fd,F',Zn,a1,a2,a3⟩:=h0.sound hs
 obtain ⟨Fd2,F3,c1,c2,c3⟩:=h1.sound a2
 obtain ⟨F2,b1,b2⟩:=HL.build a1 (h2.sound (hs.left (f:=Zn)) (cur':=[]) (by rintro e he; cases he) c1)
 refine St.of (F':=Fd++Fd2) b2 (Gd.left (F':=F3) ((Gd.freeze (hg.perm a3) fun b hb=>hs.lt b (a3.mem_iff.1 (List.mem_append_right _ hb))).perm ?_)) b1
 rw [List.append_assoc]
 exact c3.append_left Fd
theorem jend {S V:Type} {k:Nat} {Δ:S→V→List Ent} {φ:S→V→Fr} {Γ2 Γ3:List Ent} {f2:Fr} {s:S} {v:V} (_hv:MkV V v) (ha:Agr fr (φ s v)) (hf:Agr fr f2) (h0:EF Γ (Δ s v) Γ1) (h1:EO Γ1 Γ2 Γ3) (h2:MF Γ none Γ2):D P cx (.n ⟨[],.loop V k Δ φ Γ2 f2⟩ Γ fr (some (.norm s))):=by
 refine .inj (bxi ?_)
 intro B o ho r w hag hs
 cases ho
 exact ⟨v,agr_rev (ha.all hag) (hf.sound hag),hs.anew h0 h1 h2⟩
theorem join {S S1 V:Type} {t k:Nat} {b:Bool} (Δ:S1→V→List Ent) (φ:S1→V→Fr) (v0:V) (f2:Fr) {its:List KI} {kb:Kb R S} {x y:Code} {s0:S1} {m0:Option (Out S1 R)} {f:S1→Option (Out S R)}
   (_ha:Agr fr (φ s0 v0)) (_hf:Agr fr f2) (_h0:EO Γ (Δ s0 v0) Γ1) (_hs:Strip Γ1 Γ2)
   (hb:D P cx (.cd b ⟨[],.loop V k Δ φ Γ2 f2⟩ x y Γ fr m0)) (hk:∀ s v,D P cx (.p (φ s v) (Δ s v) f2 Γ2 fun fr Γ=>.n ⟨its,kb⟩ Γ fr (f s))):D P cx (.cd b ⟨its,kb⟩ x y Γ fr (jn t s0 m0 f)):=by
 refine .inj (bxi ?_)
 intro B o ho r w hag hst
 replace ho:lbind m0 f=some o:=ho
 cases hm:m0 with
 | none=>rw [hm] at ho; cases ho
 | some o0=>
  have h1:=hb.sound B o0 hm r w hag hst
  rw [hm] at ho
  have hq:∀ e r w,postK P cx B ⟨[],.loop V k Δ φ Γ2 f2⟩ o0 e r w→postK P cx B ⟨its,kb⟩ o e r w:=by
   intro e r w hp
   cases o0 with
   | norm s=>
    cases e with
    | normal=>obtain ⟨v,a1,a2⟩:=hp; exact (hk s v).sound B o ho r w a1 a2
    | _=>exact hp.elim
   | exit j s=>cases ho
   | ret y=>
    cases ho
    cases e with
    | ret=>exact postK_ret hp
    | _=>exact hp.elim
  exact ⟨fun h=>W_mono (h1.1 h) hq,fun h=>W_mono (h1.2 h) hq⟩
theorem joinA {S S1 V A:Type} {t k:Nat} {b:Bool} (a0:A) (Δ:A→S1→V→List Ent) (φ:A→S1→V→Fr) (v0:V) (f2:Fr) {its:List KI} {kb:Kb R S} {x y:Code} {s0:S1} {m0:Option (Out S1 R)} {f:S1→Option (Out S R)}
   (ha:Agr fr (φ a0 s0 v0)) (hf:Agr fr f2) (h0:EO Γ (Δ a0 s0 v0) Γ1) (hs:Strip Γ1 Γ2)
   (hb:D P cx (.cd b ⟨[],.loop V k (Δ a0) (φ a0) Γ2 f2⟩ x y Γ fr m0)) (hk:∀ s v,D P cx (.p (φ a0 s v) (Δ a0 s v) f2 Γ2 fun fr Γ=>.n ⟨its,kb⟩ Γ fr (f s))):D P cx (.cd b ⟨its,kb⟩ x y Γ fr (jn t s0 m0 f)):=
 join (Δ a0) (φ a0) v0 f2 ha hf h0 hs hb hk
theorem gjn {S S1:Type} (t:Nat) {b:Bool} {K:Kont R S} {x y:Code} {s0:S1} {m0:Option (Out S1 R)} {f:S1→Option (Out S R)} (h:D P cx (.cd b K x y Γ fr (jn t s0 m0 f))):D P cx (.cd b K x y Γ fr (jn t s0 m0 f)):=h
theorem gje {S V:Type} (k:Nat) {Δ:S→V→List Ent} {φ:S→V→Fr} {Γ2:List Ent} {f2:Fr} {m:Option (Out S R)} (h:D P cx (.n ⟨[],.loop V k Δ φ Γ2 f2⟩ Γ fr m)):D P cx (.n ⟨[],.loop V k Δ φ Γ2 f2⟩ Γ fr m):=h
theorem rwU {S:Type} {t:Nat} {K:Kont R S} {ops:List Oper} {m:Option (Out S R)} (_ht:lastD ops=some t) (h:D P cx (.o false ops ops (.s K) Γ fr m)):D P cx (.rw false ops K Γ fr m):=.rwu h
theorem cdR {S:Type} {b:Bool} {t:Nat} {K:Kont R S} {x y:Code} {m1 m2:Option (Out S R)} (hl:look fr t=some (.bool b)) (h1:D P cx (.c K x Γ ((t,.bool true) :: fr) m1)) (h2:D P cx (.c K y Γ ((t,.bool false) :: fr) m2)):D P cx (.cd b K x y Γ fr (bif b then m1 else m2)):=by
 refine D.of ?_
 have hc:∀ {r:Nat→Value},agr r fr→∀ c,b=c→agr r ((t,.bool c) :: fr):=by
  intro r ha c hb s u hs
  unfold look at hs
  cases hst:Nat.beq s t with
  | true=>
   rw [hst] at hs
   cases hs
   obtain rfl:=Nat.eq_of_beq_eq_true hst
   rw [← hb]
   exact ha _ _ hl
  | false=>rw [hst] at hs; exact ha _ _ hs
 exact fun B o ho r w ha hs=>⟨fun h=>h1.sound B o (by rw [h] at ho; exact ho) r w (hc ha _ h) hs,fun h=>h2.sound B o (by rw [h] at ho; exact ho) r w (hc ha _ h) hs⟩
theorem ixk {α β:Type} {q:Bool} {d:Nat} {x y:Operand} {v:Value} {k:IntKind} {j:Int} {t ty:TypeId} {o1 o2 p1 p2:Bool} {E:STy α} {E2:STy β} {z:β} {xs:List α} {Γx:List Ent} {m:Option M} [ht:SLc P t] (hx:opv fr x=some v) (hy:opv fr y=some (.int k j)) (hr:Fnd Γ v o1 o2 E xs noE Γx) (hi:In (.ad p1 p2 v j E2 z) Γ) (hE:E.size=1)
  (h:D P cx (.o q all l rk Γ ((d,.pointer (some (elA v 1 j))) :: fr) m)):D P cx (.e q (.indexAddr t x y) (some d) ty all l rk Γ fr m):=by
 refine D.of ?_
 intro B o ho r w ha hs pos aft g
 obtain ⟨Z,F,hS,_⟩:=@_root_.id _ hs
 obtain ⟨_,_,⟨⟨n',hn',_⟩,_⟩,_⟩:=hr.sound hS
 obtain ⟨j0,j1⟩:=hi.ad hS
 obtain ⟨a,c,hv'⟩:=imm_len hn'
 have hlt:j.toNat < xs.length:=by rw [hv'] at j1; exact j1
 exact erun_of (Ix ht.h hn' ⟨j0,List.getElem?_eq_getElem hlt⟩ (aT ha hx) (aT ha hy) hE) (h.sound B o ho _ w (agr_cons ha) hs)
class SOo {α:Type} (S:STy α) (V:outParam Type) (cl:outParam (α→V→List Value)) (en:outParam (α→V→List Ent)):Prop where
 ow:∀ x v,owB (en x v)=true
 op:∀ {w:World} {cs:List Value} {x:α} {g:List Nat},S.rep w.heap cs x g→∃ v,cs=cl x v∧∀ Z:Nat→Prop,HL Z w (en x v) g
 cl:∀ {w:World} {x:α} {v:V} {Z:Nat→Prop} {g:List Nat},HL Z w (en x v) g→S.rep w.heap (cl x v) x g
theorem SOo.i {k:IntKind}:SOo (aC k) Unit (fun x _=>[.int k x]) (fun _ _=>[]):=
 ⟨fun _ _=>rfl,fun h=>⟨(),h.1,fun _=>by rw [h.2]; exact .nil⟩,fun h=>by cases h; exact ⟨rfl,rfl⟩⟩
theorem SOo.s {α:Type} {e:TypeId} {E:STy α}:SOo (aJ e E) Value (fun _ v=>[v]) (fun x v=>[.own (aJ e E) v x]):=by
 refine ⟨fun _ _=>rfl,fun {w cs x g} h=>?_,fun {w x v Z g} h=>?_⟩
 ·obtain ⟨base,cap,rfl,hr⟩:=h
  refine ⟨_,rfl,fun Z=>?_⟩
  have:=HL.own (Z:=Z) (w:=w) (e:=.own (aJ e E) (.slice base x.length cap) x) (f:=g) ⟨base,cap,rfl,hr⟩ .nil
  rwa [List.append_nil] at this
 ·cases h with
  | own h k=>cases k; rw [List.append_nil]; exact h
  | fact h _=>exact h.elim
theorem SOo.ip {β V:Type} {k:IntKind} {B:STy β} {cl:β→V→List Value} {en:β→V→List Ent} (h:SOo B V cl en):SOo (sPair (aC k) B) V (fun x v=>.int k x.1 :: cl x.2 v) (fun x v=>en x.2 v):=by
 refine ⟨fun x v=>h.ow x.2 v,fun {w cs x g} hr=>?_,fun {w x v Z g} he=>?_⟩
 ·obtain ⟨c1,c2,f1,f2,rfl,rfl,⟨rfl,rfl⟩,h2⟩:=hr
  obtain ⟨v,rfl,hv⟩:=h.op h2
  exact ⟨v,rfl,hv⟩
 ·exact ⟨[_],_,[],g,rfl,rfl,⟨rfl,rfl⟩,h.cl he⟩
theorem SOo.sp {α β V:Type} {e:TypeId} {E:STy α} {B:STy β} {cl:β→V→List Value} {en:β→V→List Ent} (h:SOo B V cl en):SOo (sPair (aJ e E) B) (Value×V) (fun x v=>v.1 :: cl x.2 v.2) (fun x v=>.own (aJ e E) v.1 x.1 :: en x.2 v.2):=by
 refine ⟨fun x v=>h.ow x.2 v.2,fun {w cs x g} hr=>?_,fun {w x v Z g} he=>?_⟩
 ·obtain ⟨c1,c2,f1,f2,rfl,rfl,h1,h2⟩:=hr
  obtain ⟨base,cap,rfl,hr1⟩:=h1
  obtain ⟨v,rfl,hv⟩:=h.op h2
  exact ⟨(_,v),rfl,fun Z=>.own ⟨base,cap,rfl,hr1⟩ (hv Z)⟩
 ·cases he with
  | own h1 k=>
   obtain ⟨base,cap,hb,hr1⟩:=h1
   exact ⟨[_],_,_,_,rfl,rfl,⟨base,cap,hb,hr1⟩,h.cl k⟩
  | fact h1 _=>exact h1.elim
theorem SOo.mp {α β V:Type} {f:β→α} {A:STy α} {cl:α→V→List Value} {en:α→V→List Ent} (h:SOo A V cl en):SOo (sMap f A) V (fun y v=>cl (f y) v) (fun y v=>en (f y) v):=
 ⟨fun y v=>h.ow (f y) v,fun hr=>h.op hr,fun he=>h.cl he⟩
inductive SOoc {α:Type} (S:STy α) (V:Type) (cl:α→V→List Value) (en:α→V→List Ent):Prop
 | mk [h:SOo S V cl en]:SOoc S V cl en
theorem ho_hl:∀ {Δ:List Ent} {F:List Nat},owB Δ=true→HO Z w Δ F→HL Z w Δ F:=by
 intro Δ
 induction Δ with
 | nil=>intro F _ h; cases h; exact .nil
 | cons e Δ ih=>
  intro F ho h
  cases e with
  | own T v x=>cases h with | own h k=>exact .own h (ih ho k)
  | row b cs t=>cases h with | own h k=>exact .own h (ih ho k)
  | _=>exact absurd ho (by simp [owB])
theorem apO {α V:Type} {S:STy α} {cl:α→V→List Value} {en:α→V→List Ent} (y:α) {u:V} {d b n e bt:Nat} {s x:Operand} {sv:Value} {xs:List α} {cs:List Value} {t et ty:TypeId} {f:Unit→Option M} [ht:SBc P t e n bt]
  (hs:opv fr s=some sv) (hx:opv fr x=some (.slice (some ⟨b,0,none⟩) 1 1)) (h0:Sel Γ (.row b cs et) Γ1) (h1:Sel Γ1 (.own (aJ e S) sv xs) Γ2) (hso:SOoc S V cl en) (_hv:MkV V u) (hc:cs=cl y u) (hn:S.size=n) (he:EO Γ2 (en y u) Γ3)
  (h:∀ v,D P cx (.o false all l rk (.own (aJ e S) v (xs++[y]) :: Γ3) ((d,v) :: fr) (f ()))):D P cx (.e false (.call ⟨.builtin .append,#[s,x],#[t,t]⟩) (some d) ty all l rk Γ fr (fits bt (xs.length+1)>>=f)):=by
 refine D.of ?_
 intro B o ho' r w ha hs' pos aft g
 have hso':SOo S V cl en:=by cases hso; assumption
 obtain ⟨_,hu,ho'⟩:=bind_some ho'
 obtain ⟨b1,b2⟩:=fits_some hu
 obtain ⟨q1,i,z,q2,q3,q4,q5,q6,_⟩:=ht.h
 obtain ⟨Z,F,hS,hG⟩:=hs'
 obtain ⟨n0,F0,hp0,⟨rfl,hrow⟩,hS0⟩:=h0.sound hS
 obtain ⟨k,F1,hp,hO,hS1⟩:=h1.sound hS0
 obtain ⟨Fd,F2,hho,hS2,hp2⟩:=he.sound hS1
 have hy:S.rep w.heap (cl y u) y Fd:=hso'.cl (ho_hl (hso'.ow y u) hho)
 have hperm:(((k++Fd)++F2)++[b]).Perm F:=by
  refine .trans ?_ hp0
  refine List.perm_append_comm.trans ?_
  refine List.Perm.append_left [b] ?_
  rw [List.append_assoc]
  exact (hp2.append_left k).trans hp
 have hG':Gd B Z ((k++Fd)++F2) w:=Gd.left (F':=[b]) (hG.perm hperm)
 have hnd:=(List.nodup_append.1 hG'.nd).1
 have hnk:=List.nodup_append.1 hnd
 subst hc
 obtain ⟨v,w',f',hrun,hC,hrep,hsub,hnd'⟩:=own_append (E:=S) (d:=some d) (ty:=ty) (pos:=pos) (aft:=aft) (g:=none) (k:=Fd) (ys:=[y]) (news:=cl y u) q1 q2 q3 (by rw [q5,hn]) (by rw [q4,hn]) (aT ha hs) hO hnk.1 (aT ha hx) (fun i u hi=>hrow.at i u hi) (repL_single hy) (fun b hb hm=>hnk.2.2 b hm b hb rfl) (by simp) (by rw [q6]; exact b1) b2
 refine erun_wl (WL.val rfl hrun ((h v).sound B o ho' _ w' (agr_cons ha) ?_))
 refine St.put hS2 hG' (hC.mono fun b hb=>List.mem_append_left _ hb) hrep (hnd' hnk.2.1) fun b hb=>?_
 rcases hsub b hb with h | h | h
 ·exact .inl (List.mem_append_left _ h)
 ·exact .inl (List.mem_append_right _ h)
 ·exact .inr h
end
end Go.Dk
namespace Go.Dk
open Go Go.Li
section
variable {P:Program} {n:Nat} {l:List Oper} {Q:Exit→(Nat→Value)→World→Prop} {S:World→Prop}
def Hw (P:Program) (n:Nat) (l:List Oper) (Q:Exit→(Nat→Value)→World→Prop) (S:World→Prop) (k:Nat) (L:Array Bool) (r:Nat→Value) (w:World):Prop:=
 ∀ a:Act,a.tmps.size=n→a.defers=[]→rho a=r→wpAnyH P .any l.toArray (fun e a' w'=>a'.tmps.size=n∧a'.defers=[]∧Q e (rho a') w') S k L a w
theorem dst_lt {i:Nat} {o:Oper} {a:Act} (hd:dstOk n l=true) (hi:l[i]? = some o) (h1:a.tmps.size=n):∀ k,o.dst=some k→k < a.tmps.size:=by
 intro k hk
 have hm:o∈l:=List.mem_of_getElem? hi
 simp only [dstOk,List.all_eq_true] at hd
 have:=hd o hm
 rw [hk] at this
 rw [h1]
 exact Nat.lt_of_succ_le (Nat.le_of_ble_eq_true this)
theorem Hw.take {k i:Nat} {L:Array Bool} {o:Oper} {v:Value} {r:Nat→Value} {w:World} (hd:dstOk n l=true) (hi:l[i]? = some o) (hs:Region.noSelect l.toArray=true) (hf:Region.free .any l.toArray L i=true) (hr:(Region.ready .any l.toArray L).contains i=true)
  (hp:∀ c r w,¬ Q (.panic c) r w) (hg:o.guard=none) (hy:∀ w,S w→(execOp (ev r) o).run P w = .ok (.value v) w) (hS:S w) (h:Hw P n l Q S k (L.setIfInBounds i true) (updO r o.dst v) w):Hw P n l Q S (k+1) L r w:=by
 intro a h1 h2 h3
 refine wpAnyH_take (v:=v) (by simpa using hi) hs hf hr (fun c a w h=>(hp _ _ _ h.2.2).elim) (.inl ⟨wanted_none hg,fun w hw=>?_⟩) hS (h _ (by rw [size_put]; exact h1) (by rw [defers_put]; exact h2) (by rw [rho_putO (dst_lt hd hi h1),h3]))
 rw [eval_rho,h3]
 exact hy w hw
theorem Hw.step {k i:Nat} {L:Array Bool} {o:Oper} {r:Nat→Value} {w w':World} (hd:dstOk n l=true) (hi:l[i]? = some o) (hr:Region.ready .any l.toArray L=[i]) (hg:o.guard=none) (hy:(execOp (ev r) o).run P w = .ok .skip w') (hS:S w') (h:Hw P n l Q S k (L.setIfInBounds i true) (updO r o.dst undef) w'):Hw P n l Q S (k+1) L r w:=by
 intro a h1 h2 h3
 refine wpAnyH_all hr (by simp) fun j hj=>?_
 obtain rfl:j=i:=by simpa using hj
 unfold wpOp
 rw [show (l.toArray)[j]? = some o by simpa using hi]
 simp only []
 rw [if_pos (wanted_none hg)]
 refine .inl ?_
 unfold Oper.wp
 rw [eval_rho,h3,hy]
 exact ⟨hS,h _ (by rw [size_put]; exact h1) (by rw [defers_put]; exact h2) (by rw [rho_putO (dst_lt hd hi h1),h3])⟩
theorem Hw.done {k:Nat} {L:Array Bool} {r:Nat→Value} {w:World} (hr:Region.ready .any l.toArray L=[]) (h:Q .normal r w):Hw P n l Q S k L r w:=
 fun _ h1 h2 h3=>wpAnyH_done hr ⟨h1,h2,by rw [h3]; exact h⟩ k
theorem Hw.start {r:Nat→Value} {w:World} (h:Hw P n l Q S l.length (Array.replicate l.length false) r { w with drawn:=w.drawn+1 }):AnyW P n l Q r w:=
 fun a h1 h2 h3=>wpAny_of_held _ _ _ _ (h a h1 h2 h3)
def QVs (P:Program) (S:World→Prop):List Oper→(Nat→Value)→((Nat→Value)→Prop)→Prop
 | [],r,K=>K r
 | o :: l,r,K=>o.guard=none∧∃ v,(∀ w,S w→(execOp (ev r) o).run P w = .ok (.value v) w)∧QVs P S l (updO r o.dst v) K
def chkS (l:List Oper):List Nat→Array Bool→Bool
 | [],L=>(Region.ready .any l.toArray L).isEmpty
 | i :: ss,L=>Nat.blt i l.length && (Region.ready .any l.toArray L == [i]) && chkS l ss (L.setIfInBounds i true)
def chkQ (l:List Oper) (ss:List Nat):List Nat→Array Bool→Bool
 | [],L=>chkS l ss L
 | i :: qs,L=>Nat.blt i l.length && (Region.ready .any l.toArray L).contains i && Region.free .any l.toArray L i && chkQ l ss qs (L.setIfInBounds i true)
def pick (l:List Oper) (is:List Nat):List Oper:=is.map fun i=>l.getD i default
theorem at_pick {i:Nat} (h:Nat.blt i l.length=true):l[i]? = some (l.getD i default):=by
 have h1:i < l.length:=Nat.lt_of_succ_le (Nat.le_of_ble_eq_true h)
 rw [List.getD_eq_getElem?_getD,List.getElem?_eq_getElem h1]; rfl
theorem Hw.quiet (hd:dstOk n l=true) (hs:Region.noSelect l.toArray=true) (hp:∀ c r w,¬ Q (.panic c) r w) {ss:List Nat} {w:World} (hS:S w) {K:(Nat→Value)→Prop} (h:∀ L r,chkS l ss L=true→K r→Hw P n l Q S ss.length L r w) :
  ∀ (qs:List Nat) (L:Array Bool) (r:Nat→Value),chkQ l ss qs L=true→QVs P S (pick l qs) r K→Hw P n l Q S (qs.length+ss.length) L r w:=by
 intro qs
 induction qs with
 | nil=>intro L r hc hv; rw [List.length_nil,Nat.zero_add]; exact h L r hc hv
 | cons i qs ih=>
  intro L r hc hv
  unfold chkQ at hc
  simp only [Bool.and_eq_true] at hc
  obtain ⟨⟨⟨c1,c2⟩,c3⟩,c4⟩:=hc
  obtain ⟨hg,v,h1,h2⟩:=hv
  have:=Hw.take hd (at_pick c1) hs c3 c2 hp hg h1 hS (ih _ _ c4 h2)
  rwa [show qs.length+ss.length+1=(i :: qs).length+ss.length by simp; omega] at this
end
inductive JQ
 | q (ops:List Oper) (fr:Fr)
 | la (a:Addr) (lk:Option Nat) (t:TypeId) (x:Operand) (d:Nat) (ty:TypeId) (pos:String) (aft:Array Edge) (ops:List Oper) (fr:Fr)
inductive QA (P:Program) (Γ:List Ent):JQ→Fr→Prop
 | nil {fr:Fr}:QA P Γ (.q [] fr) fr
 | ld {d:Nat} {t ty:TypeId} {x:Operand} {lk:Option Nat} {a:Addr} {pos:String} {aft:Array Edge} {ops:List Oper} {fr fr':Fr} [ht:LK P t lk] (hx:opv fr x=some (.pointer (some a))) (h:QA P Γ (.la a lk t x d ty pos aft ops fr) fr'):QA P Γ (.q (⟨some d,.load t x,ty,pos,aft,none⟩ :: ops) fr) fr'
 | val {d:Nat} {op:Op} {ty:TypeId} {u:Value} {pos:String} {aft:Array Edge} {ops:List Oper} {fr fr':Fr} (hv:VQ P Γ fr op u) (h:QA P Γ (.q ops ((d,u) :: fr)) fr'):QA P Γ (.q (⟨some d,op,ty,pos,aft,none⟩ :: ops) fr) fr'
 | lc {d:Nat} {t ty:TypeId} {x:Operand} {a:Addr} {u:Value} {pos:String} {aft:Array Edge} {ops:List Oper} {fr fr':Fr} (h:FndC Γ a u) (k:QA P Γ (.q ops ((d,u) :: fr)) fr'):QA P Γ (.la a none t x d ty pos aft ops fr) fr'
 | ls {d n:Nat} {t ty:TypeId} {x:Operand} {a:Addr} {ds:List Value} {pos:String} {aft:Array Edge} {ops:List Oper} {fr fr':Fr} (h:FndW Γ a n ds) (k:QA P Γ (.q ops ((d,.agg ds.toArray) :: fr)) fr'):QA P Γ (.la a (some n) t x d ty pos aft ops fr) fr'
inductive RO (fr:Fr):List Oper→List Ent→List (Nat×List Value×TypeId)→List Ent→Prop
 | nil {Γ:List Ent}:RO fr [] Γ [] Γ
 | cons {t ty e:TypeId} {x y:Operand} {b:Nat} {cs:List Value} {pos:String} {aft:Array Edge} {ops:List Oper} {Γ Γ1 Γ2:List Ent} {rs:List (Nat×List Value×TypeId)} (hx:opv fr x=some (.pointer (some ⟨b,0,none⟩))) (h:Sel Γ (.row b cs e) Γ1) (k:RO fr ops Γ1 rs Γ2):RO fr (⟨none,.store t x y,ty,pos,aft,none⟩ :: ops) Γ ((b,cs,e) :: rs) Γ2
inductive SQ (P:Program) (Γ:List Ent) (fr:Fr):List Oper→List (Nat×List Value×TypeId)→List (Nat×List Value×TypeId)→Prop
 | nil:SQ P Γ fr [] [] []
 | cons {n:Nat} {t ty e:TypeId} {x y:Operand} {b:Nat} {u:Value} {us cs ds:List Value} {pos:String} {aft:Array Edge} {ops:List Oper} {rs rs':List (Nat×List Value×TypeId)} [ht:STo P t n] (hx:opv fr x=some (.pointer (some ⟨b,0,none⟩))) (hy:opv fr y=some u) (hc:CellsD Γ u us) (hn:us.length=n) (hs:SegD us 0 cs ds) (ho:Ones Γ us) (k:SQ P Γ fr ops rs rs') :
   SQ P Γ fr (⟨none,.store t x y,ty,pos,aft,none⟩ :: ops) ((b,cs,e) :: rs) ((b,ds,e) :: rs')
def rowsE:List (Nat×List Value×TypeId)→List Ent
 | []=>[]
 | (b,cs,e) :: l=>.row b cs e :: rowsE l
def Rows (w:World) (rs:List (Nat×List Value×TypeId)):Prop:=∀ p∈rs,Row w p.1 p.2.1 p.2.2
section
variable {P:Program} {Γ Γ2:List Ent} {S:World→Prop} {Z:Nat→Prop}
def semQ (P:Program) (S:World→Prop):JQ→Fr→Prop
 | .q ops fr,fr'=>∀ r,agr r fr→QVs P S ops r fun r'=>agr r' fr'
 | .la a lk t x d ty pos aft ops fr,fr'=>(match lk with | none=>NA P t | some n=>AG P t n)→opv fr x=some (.pointer (some a))→∀ r,agr r fr→QVs P S (⟨some d,.load t x,ty,pos,aft,none⟩ :: ops) r fun r'=>agr r' fr'
theorem QA.sound {J:JQ} {fr':Fr} (hS:∀ w,S w→∃ cur F,SA Z w Γ cur F) (h:QA P Γ J fr'):semQ P S J fr':=by
 induction h with
 | nil=>exact fun r h=>h
 | @ld d t ty x lk a pos aft ops fr fr' ht hx _ ih=>exact fun r ha=>ih ht.h hx r ha
 | @val d op ty u pos aft ops fr fr' hv _ ih=>
  intro r ha
  refine ⟨rfl,u,fun w hw=>?_,ih _ (agr_cons ha)⟩
  obtain ⟨cur,F,h⟩:=hS w hw
  exact hv.sound h ha (some d) ty pos aft none w (Chg.refl _ _)
 | @lc d t ty x a u pos aft ops fr fr' h _ ih=>
  intro ht hx r ha
  refine ⟨rfl,u,fun w hw=>?_,ih _ (agr_cons ha)⟩
  obtain ⟨cur,F,hs⟩:=hS w hw
  exact Ld ht (h.sound hs) (aT ha hx) w (Chg.refl _ _)
 | @ls d n t ty x a ds pos aft ops fr fr' h _ ih=>
  intro ht hx r ha
  refine ⟨rfl,_,fun w hw=>?_,ih _ (agr_cons ha)⟩
  obtain ⟨cur,F,hs⟩:=hS w hw
  obtain ⟨h1,h2⟩:=h.sound hs
  exact Lg ht h1 (aT ha hx) h2 w (Chg.refl _ _)
theorem RO.sound {fr:Fr} {ops:List Oper} {rs:List (Nat×List Value×TypeId)} {w:World} (h:RO fr ops Γ rs Γ2):∀ {F:List Nat},SA Z w Γ [] F→∃ F2,(rs.map (·.1)++F2).Perm F∧Rows w rs∧SA Z w Γ2 [] F2:=by
 induction h with
 | nil=>intro F h; exact ⟨F,.refl _,fun _ h=>absurd h List.not_mem_nil,h⟩
 | @cons t ty e x y b cs pos aft ops Γ Γ1 Γ2 rs hx h _ ih=>
  intro F hS
  obtain ⟨f,F1,hp,⟨rfl,hrow⟩,hS1⟩:=h.sound hS
  obtain ⟨F2,hp2,hr,hS2⟩:=ih hS1
  refine ⟨F2,?_,fun p hp=>?_,hS2⟩
  ·exact .trans (List.Perm.cons b hp2) hp
  ·rcases List.mem_cons.1 hp with rfl | hp
   ·exact hrow
   ·exact hr p hp
theorem SQ.sound {n:Nat} {l:List Oper} {Q:Exit→(Nat→Value)→World→Prop} {fr:Fr} {ops:List Oper} {rs rs':List (Nat×List Value×TypeId)} {F2:List Nat} {w0:World} {r:Nat→Value} {F:List Nat} (hd:dstOk n l=true) (ha:agr r fr) (hSA:∀ w,Chg F w0 w→SA Z w Γ2 [] F2) (h:SQ P Γ2 fr ops rs rs') :
  ∀ (ss:List Nat) (L:Array Bool) (w:World),ops=pick l ss→chkS l ss L=true→Chg F w0 w→Rows w rs→(rs.map (·.1)).Nodup→(∀ b∈rs.map (·.1),b∈F)→(∀ w',Chg (rs.map (·.1)) w w'→Rows w' rs'→Q .normal r w')→Hw P n l Q (Chg F w0) ss.length L r w:=by
 induction h with
 | nil=>
  intro ss L w ho hc hC hR hn hF hk
  cases ss with
  | cons i ss=>cases ho
  | nil=>
   exact Hw.done (by simpa [chkS] using hc) (hk w (Chg.refl _ _) hR)
 | @cons n' t ty e x y b u us cs ds pos aft ops rs rs' ht hx hy hcl hn hsg hon _ ih=>
  intro ss L w ho hc hC hR hnd hF hk
  cases ss with
  | nil=>cases ho
  | cons i ss=>
   unfold chkS at hc
   simp only [Bool.and_eq_true] at hc
   obtain ⟨⟨c1,c2⟩,c3⟩:=hc
   have ho':l.getD i default = ⟨none,.store t x y,ty,pos,aft,none⟩∧ops=pick l ss:=by
    unfold pick at ho
    rw [List.map_cons,List.cons.injEq] at ho
    exact ⟨ho.1.symm,ho.2⟩
   have hi:=at_pick c1
   rw [ho'.1] at hi
   obtain ⟨ti,q1,q2⟩:=ht.h
   have hrow:Row w b cs e:=hR (b,cs,e) (by simp)
   obtain ⟨e1,e2⟩:=hsg.eq
   have hSw:=hSA w hC
   have hrun:=op_storeSeg (P:=P) (d:=none) (ty:=ty) (pos:=pos) (aft:=aft) (gg:=none) q1 (by rw [hn,q2]) hrow e1 (aT ha hx) (y:=y) (by rw [aT ha hy]; exact hcl.eq hSw) (hon.one hSw)
   have hrow':=setRow_heap w b cs.toArray (cs.take 0++us++cs.drop (0+us.length)).toArray e _ hrow
   have hC1:Chg [b] w (w.setRow b (cs.take 0++us++cs.drop (0+us.length)).toArray):=⟨rfl,rfl,rfl,Nat.le_refl _,by simp,fun j _ hj=>setRow_other w b j _ fun h=>hj (by simp [h])⟩
   have hC2:=hC.trans (hC1.mono fun b' hb'=>by rw [List.mem_singleton.1 hb']; exact hF b (by simp))
   rw [List.map_cons,List.nodup_cons] at hnd
   refine Hw.step hd hi (by simpa using c2) rfl hrun hC2 (ih ss _ _ ho'.2 c3 hC2 (fun p hp=>(hR p (List.mem_cons_of_mem _ hp)).keep hC1 fun hb=>hnd.1 ?_) hnd.2 (fun b' hb'=>hF b' (by simp at hb' ⊢; exact .inr hb')) fun w' hC' hR'=>?_)
   ·rw [← List.mem_singleton.1 hb]; exact List.mem_map_of_mem (f:=fun q=>q.1) hp
   ·refine hk w' ((hC1.mono (by simp)).trans (hC'.mono fun b' hb'=>List.mem_cons_of_mem _ hb')) fun p hp=>?_
    rcases List.mem_cons.1 hp with rfl | hp
    ·refine Row.keep (F:=rs.map (·.1)) ?_ hC' hnd.1
     rw [e2]
     exact hrow'
    ·exact hR' p hp
theorem SQ.fst {fr:Fr} {ops:List Oper} {rs rs':List (Nat×List Value×TypeId)} (h:SQ P Γ fr ops rs rs'):rs'.map (·.1)=rs.map (·.1):=by
 induction h with
 | nil=>rfl
 | cons _ _ _ _ _ _ _ ih=>simp only [List.map_cons,ih]
theorem rowsE_hl {w:World}:∀ {rs:List (Nat×List Value×TypeId)},Rows w rs→HL Z w (rowsE rs) (rs.map (·.1))
 | [],_=>.nil
 | (b,cs,e) :: l,h=>.own (f:=[b]) (e:=.row b cs e) ⟨rfl,h (b,cs,e) (by simp)⟩ (rowsE_hl fun p hp=>h p (List.mem_cons_of_mem _ hp))
end
section
variable {R S:Type} {P:Program} {cx:Cx R} {K:Kont R S} {l:List Oper}
theorem anyS {id:Nat} (qs ss:List Nat) {qops sops:List Oper} {Γ Γ1:List Ent} {fr fr':Fr} {rs rs':List (Nat×List Value×TypeId)} {m:Option (Out S R)}
  (hB:(P.follows .mixedOrders && dstOk cx.n l && Region.noSelect l.toArray && chkQ l ss qs (Array.replicate l.length false) && Nat.beq l.length (qs.length+ss.length))=true)
  (hq:qops=pick l qs) (hs:sops=pick l ss) (h1:RO fr sops Γ rs Γ1) (h2:QA P Γ1 (.q qops fr) fr') (h3:SQ P Γ1 fr' sops rs rs')
  (h:D P cx (.p [] (rowsE rs') fr' Γ1 fun fr Γ=>.n K Γ fr m)):Bx (sem P cx (.dr id l K Γ fr m)):=by
 simp only [Bool.and_eq_true] at hB
 obtain ⟨⟨⟨⟨b1,b2⟩,b3⟩,b4⟩,b5⟩:=hB
 rw [bx_eq]
 intro B o ho r w ha hst
 obtain ⟨Z,F,hS,hG⟩:=hst
 obtain ⟨F2,hp,hR,hS2⟩:=h1.sound hS
 have hG':=hG.perm hp
 have hnd:=List.nodup_append.1 hG'.nd
 refine AnyW.W b1 (Hw.start (S:=Chg (rs.map (·.1)) { w with drawn:=w.drawn+1 }) ?_)
 have hCd:Chg [] w { w with drawn:=w.drawn+1 }:=Chg.drew _ _
 have hSA:∀ w',Chg (rs.map (·.1)) { w with drawn:=w.drawn+1 } w'→SA Z w' Γ1 [] F2:=fun w' hC=>(hS2.keep0 hCd).keep hC (fun b hb=>hG'.apart b (List.mem_append_left _ hb)) (fun b _=>List.not_mem_nil) (fun b hb hm=>hnd.2.2 b hb b hm rfl)
 rw [show l.length=qs.length+ss.length from Nat.eq_of_beq_eq_true b5] at b4 ⊢
 subst hq hs
 refine Hw.quiet (K:=fun r'=>agr r' fr') b2 b3 (fun c r w h=>postK_panic c h) (Chg.refl _ _) (fun L r' hc hr'=>?_) qs _ r b4 (QA.sound (fun w' hC=>⟨[],F2,hSA w' hC⟩) h2 r ha)
 refine SQ.sound b2 hr' hSA h3 ss L _ rfl hc (Chg.refl _ _) (fun p hp=>(hR p hp).keep0 hCd) hnd.1 (fun b hb=>hb) fun w' hC hR'=>?_
 obtain ⟨F3,e1,e2⟩:=HL.build (rowsE_hl hR') (hSA w' hC)
 have hC2:Chg (rs.map (·.1)) w w':=(hCd.mono fun b hb=>absurd hb List.not_mem_nil).trans hC
 rw [h3.fst] at e1
 have hlow:∀ b∈rs.map (·.1),b∈B.G∨B.w.heap.size≤b:=fun b hb=>hG'.low b (List.mem_append_left _ hb)
 have hg2:Gd B Z (rs.map (·.1)++F2) w':=⟨hG'.nd,hG'.apart,fun b hb=>Nat.lt_of_lt_of_le (hG'.zlt b hb) hC2.size,hG'.low,hG'.zup,hG'.zlow,hG'.chg.then hC2 hlow⟩
 exact h.sound B o ho r' w' (by simpa using hr') ⟨Z,F3,e2,hg2.perm e1⟩
end
end Go.Dk
namespace Go.Dk
open Go Go.Li
theorem ct_read {P:Program} {g:FuncId} {vs:List Value} {Δ:List Ent} {β:Type} {m:Option β} {ow:Bool} {rt:β→Unit→List Value} (hc:Ct P g ow m vs Δ rt (fun _ _=>[])) {w:World} (hl:HL (fun b=>b < w.heap.size) w Δ []) {y:β} (hy:m=some y) :
  Calls P g vs.toArray w fun e w'=>e = .returned (tupv (rt y ()))∧Chg [] w w':=by
 rw [ct_eq] at hc
 refine (hc.2 w _ [] hl List.nodup_nil (fun _ h=>absurd h List.not_mem_nil) (fun _ h=>h) y hy).mono ?_
 rintro e w' ⟨_,he,Z,F,_,hg⟩
 exact ⟨he,hg.chg⟩
theorem fact_rd {w:World} {α:Type} {T:STy α} {v:Value} {x:α} {f:List Nat} (h:T.rep w.heap [v] x f):fact (fun b=>b < w.heap.size) w [] (.rd false T v x):=⟨f,h,fun b hb=>T.lt h b hb⟩
end Go.Dk
