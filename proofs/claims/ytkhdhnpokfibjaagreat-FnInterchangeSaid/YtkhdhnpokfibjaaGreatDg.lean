/- A calculus of walks: regions that draw their order and make memory. No condition. -/
import Derived.Test.YtkhdhnpokfibjaaGreatDe
import Derived.Laws.Slices
namespace Go.Dk
open Go Go.Li
section
variable {w:World}
def sHole {α:Type} (e:TypeId) (E:STy α) (j:Nat):STy (List α) where
 size:=1
 rep h cs xs f:=∃ b cap cur f1 f2 p c0 q,cs=[.slice (some ⟨b,0,none⟩) xs.length cap]∧h[b]? = some (.cells cur e (0,0))∧f=b :: (f1++f2)∧(xs.length≤cap∧cap≤maxLen∧cur.size=cap∧E.size=1)∧cur.toList.take xs.length=p++[c0]++q∧(p.length=j∧j < xs.length)∧
  (∀ i∈f1++f2,i < h.size)∧∀ h':Array Obj,(∀ i∈f1++f2,h'[i]? = h[i]?)→∀ u z k,E.rep h' [u] z k→repL E h' (p++[u]++q) (xs.set j z) (f1++k++f2)
 len:=by rintro h cs x f ⟨b,cap,cur,f1,f2,p,c0,q,rfl,_⟩; rfl
 one:=by rintro h cs x f ⟨b,cap,cur,f1,f2,p,c0,q,rfl,_⟩ v hv; simp at hv; subst hv; rfl
 congr:=by
  rintro h h' cs x f ⟨b,cap,cur,f1,f2,p,c0,q,rfl,h1,rfl,h2,h3,h4,h5,h6⟩ hb
  refine ⟨b,cap,cur,f1,f2,p,c0,q,rfl,(hb b (by simp)).trans h1,rfl,h2,h3,h4,fun i hi=>?_,fun h'' hb'=>h6 h'' fun i hi=>(hb' i hi).trans (hb i (List.mem_cons_of_mem _ hi))⟩
  have:=hb i (List.mem_cons_of_mem _ hi)
  rw [Array.getElem?_eq_getElem (h5 i hi)] at this
  exact (Array.getElem?_eq_some_iff.1 this).1
 lt:=by
  rintro h cs x f ⟨b,cap,cur,f1,f2,p,c0,q,rfl,h1,rfl,h2,h3,h4,h5,h6⟩ i hi
  rcases List.mem_cons.1 hi with rfl | hi
  ·exact (Array.getElem?_eq_some_iff.1 h1).1
  ·exact h5 i hi
theorem own_hole {α:Type} {e:TypeId} {E:STy α} {v u:Value} {xs:List α} {f:List Nat} {j:Int} {z:α} (h1:E.size=1) (hO:(aK e E).rep w.heap [v] xs f) (hz:xs[j.toNat]? = some z) (hu:w.cell? (elA v 1 j)=some u) :
  ∃ k g,E.rep w.heap [u] z k∧(k++g).Perm f∧(sHole e E j.toNat).rep w.heap [v] xs g:=by
 obtain ⟨base,cap,hv,hr⟩:=hO
 obtain rfl:v = .slice base xs.length cap:=by simpa using hv
 have hlt:j.toNat < xs.length:=(List.getElem?_eq_some_iff.1 hz).1
 rcases hr with ⟨_,_,rfl,_⟩ | ⟨b,cur,f0,rfl,hg,rfl,hnc,hcm,hcs,hrep⟩
 ·simp at hlt
 ·rw [h1,Nat.mul_one] at hcs hrep
  have hadr:elA (.slice (some ⟨b,0,none⟩) xs.length cap) 1 j = ⟨b,j.toNat,none⟩:=by
   simp only [elA,addr_add,Nat.zero_add,Nat.mul_one]
  rw [hadr,cell_of_row w b _ cur e _ hg] at hu
  have hltb:∀ i∈f0,i < w.heap.size:=repL_lt hrep
  obtain ⟨c,g0,g1,g2,p,q,hfe,hc,hp,hrc,hset⟩:=repL_split j.toNat z hrep hz
  subst hfe
  rw [h1,Nat.mul_one] at hp
  have hc1:c.length=1:=by rw [E.len hrc,h1]
  obtain ⟨c0,rfl⟩ : ∃ c0,c=[c0]:=by match c,hc1 with | [c0],_=>exact ⟨c0,rfl⟩
  have hcu:c0=u:=by
   have h2:(cur.toList.take xs.length)[j.toNat]? = some c0:=by
    rw [hc,List.append_assoc,List.getElem?_append_right (by omega),hp,Nat.sub_self]; rfl
   rw [List.getElem?_take,if_pos hlt,Array.getElem?_toList,hu] at h2
   exact (Option.some.inj h2).symm
  subst hcu
  refine ⟨g1,b :: (g0++g2),hrc,?_,b,cap,cur,g0,g2,p,c0,q,rfl,hg,rfl,⟨hnc,hcm,hcs,h1⟩,hc,⟨hp,hlt⟩,fun i hi=>hltb i (by rcases List.mem_append.1 hi with hi | hi <;> simp [hi]),fun h' hb' u z' k' hr=>hset h' [u] z' k' (fun i hi=>hb' i (by simp [hi])) (fun i hi=>hb' i (by simp [hi])) hr⟩
  refine (List.perm_append_comm (l₁:=g1) (l₂:=b :: (g0++g2))).trans ?_
  rw [List.cons_append]
  refine List.Perm.cons b ?_
  rw [List.append_assoc,List.append_assoc]
  exact List.Perm.append_left g0 List.perm_append_comm
end
structure MemD where
 j:Nat
 d:Nat
 src:List Nat
 V:Type
 rt:Value→V→Value
 ps:Value→V→List Ent
def Xof:List MemD→Type
 | []=>Unit
 | a :: l=>a.V×Xof l
def srcT (f:Nat→Value):List Nat→Value
 | []=>undef
 | [t]=>f t
 | ts=>.tuple (ts.map f).toArray
def lookD (f:Fr) (t:Nat):Value:=match look f t with
 | some v=>v
 | none=>undef
def srcV (a:MemD) (r:Nat→Value):Value:=srcT r a.src
def srcF (a:MemD) (f:Fr):Value:=srcT (lookD f) a.src
theorem srcT_eq {f g:Nat→Value}:∀ {ts:List Nat},(∀ t∈ts,f t=g t)→srcT f ts=srcT g ts:=by
 intro ts h
 match ts,h with
 | [],_=>rfl
 | [t],h=>exact h t (by simp)
 | t :: s :: ts,h=>
  show Value.tuple (List.map f (t :: s :: ts)).toArray=Value.tuple (List.map g (t :: s :: ts)).toArray
  rw [List.map_congr_left h]
def mF:(ms:List MemD)→Xof ms→Fr
 | [],_=>[]
 | a :: l,x=>(a.d,a.rt (srcF a (mF l x.2)) x.1) :: mF l x.2
def allE:(ms:List MemD)→Xof ms→List Ent
 | [],_=>[]
 | a :: l,x=>a.ps (srcF a (mF l x.2)) x.1++allE l x.2
def visF (A:List Nat):(ms:List MemD)→Xof ms→Fr
 | [],_=>[]
 | a :: l,x=>bif memB a.j A then (a.d,a.rt (srcF a (mF l x.2)) x.1) :: visF A l x.2 else visF A l x.2
def visE (A:List Nat):(ms:List MemD)→Xof ms→List Ent
 | [],_=>[]
 | a :: l,x=>bif memB a.j A then a.ps (srcF a (mF l x.2)) x.1++visE A l x.2 else visE A l x.2
def fstJ (t:Nat):List MemD→Option Nat
 | []=>none
 | a :: l=>bif Nat.beq t a.d then some a.j else fstJ t l
def tsOf (ms:List MemD):List (Nat×Operand)→List Nat
 | []=>[]
 | (_,.tmp s) :: l=>match fstJ s ms with
  | some _=>s :: tsOf ms l
  | none=>tsOf ms l
 | _ :: l=>tsOf ms l
def ixL (s:Nat):List Nat→Option Nat
 | []=>none
 | t :: l=>bif Nat.beq s t then some 0 else (ixL s l).map (·+1)
def tupO (v:Value) (k:Nat):Value:=match v with
 | .tuple vs=>vs.toList.getD k undef
 | _=>undef
def valO (f:Fr) (ts:List Nat) (u:Value):Operand→Value
 | .tmp s=>match ixL s ts with
  | some k=>(match ts with
   | [_]=>u
   | _=>tupO u k)
  | none=>lookD f s
 | x=>match opv f x with
  | some v=>v
  | none=>undef
def partV (k:Nat) (v:Value):List Value:=bif Nat.beq k 1 then [v] else match v with
 | .agg cs=>cs.toList
 | _=>[]
def fillL (pl:List (Nat×Nat)):List (Nat×Value)→List Value→List Value
 | [],cs=>cs
 | (i,v) :: l,cs=>match nthP pl i with
  | some (off,k)=>fillL pl l (cs.take off++partV k v++cs.drop (off+k))
  | none=>cs
def bldL (pl:List (Nat×Nat)) (f:Fr) (ts:List Nat) (ps:List (Nat×Operand)) (zc:List Value) (u:Value):List Value:=fillL pl (ps.map fun p=>(p.1,valO f ts u p.2)) zc
def tsB (A:List Nat) (ms:List MemD) (ts:List Nat):Bool:=ts.all fun t=>match fstJ t ms with
 | some j=>memB j A
 | none=>false
def srcB (A:List Nat):List MemD→Bool
 | []=>true
 | a :: l=>(bif memB a.j A then a.src.all (fun t=>match fstJ t l with
   | some j=>memB j A
   | none=>false) else true) && srcB A l
def srcA:List MemD→Bool
 | []=>true
 | a :: l=>a.src.all (fun t=>(fstJ t l).isSome) && srcA l
theorem look_vis {A:List Nat} {r:Nat→Value} {t:Nat}:∀ {ms:List MemD} {x:Xof ms} {j:Nat},fstJ t ms=some j→memB j A=true→(∀ p∈visF A ms x,r p.1=p.2)→look (mF ms x) t=some (r t):=by
 intro ms
 induction ms with
 | nil=>intro x j h; cases h
 | cons a l ih=>
  intro x j h hj hp
  unfold fstJ at h
  unfold mF look
  cases hb:Nat.beq t a.d with
  | true=>
   rw [hb] at h
   cases h
   have:=hp (a.d,a.rt (srcF a (mF l x.2)) x.1) (by unfold visF; rw [hj]; simp)
   simp only [cond_true]
   rw [Nat.eq_of_beq_eq_true hb,this]
  | false=>
   rw [hb] at h
   refine ih h hj fun p hm=>hp p ?_
   unfold visF
   cases memB a.j A with
   | true=>exact List.mem_cons_of_mem _ hm
   | false=>exact hm
theorem look_all {r:Nat→Value} {t:Nat}:∀ {ms:List MemD} {x:Xof ms},(fstJ t ms).isSome=true→(∀ p∈mF ms x,r p.1=p.2)→look (mF ms x) t=some (r t):=by
 intro ms
 induction ms with
 | nil=>intro x h; cases h
 | cons a l ih=>
  intro x h hp
  unfold fstJ at h
  unfold mF at hp ⊢
  unfold look
  cases hb:Nat.beq t a.d with
  | true=>
   simp only [cond_true]
   rw [Nat.eq_of_beq_eq_true hb,hp (a.d,a.rt (srcF a (mF l x.2)) x.1) (by simp)]
  | false=>
   rw [hb] at h
   exact ih h fun p hm=>hp p (List.mem_cons_of_mem _ hm)
def HN (N:Nat→Prop) (w:World) (Δ:List Ent) (f:List Nat):Prop:=HL (fun _=>False) w Δ f∨∃ Fo Fr,f=Fo++Fr∧(owB Δ=false∧∀ b∈Fr,b < w.heap.size)∧HL (fun b=>N b∨b∈Fr) w Δ Fo
def MVn (N:Nat→Prop) (a:MemD):List Nat→World→(Nat→Value)→Value→Prop:=fun f w r _=>∃ v:a.V,r a.d=a.rt (srcV a r) v∧HN N w (a.ps (srcV a r) v) f∧f.Nodup
def MV (N:Nat→Prop) (a:MemD):List Nat→World→(Nat→Value)→Value→Prop:=fun f w r x=>∃ v:a.V,x=a.rt (srcV a r) v∧HN N w (a.ps (srcV a r) v) f∧f.Nodup
def StN (N:Nat→Prop) (a:List Nat) (l:List Oper) (s:Gives):Prop:=∀ f F (w w':World) (r r':Nat→Value) v,Chg F w w'→(∀ b∈f,b ∉ F)→(∀ b∈F,¬ N b)→(∀ j∈a,∀ t,dstAt l j=some t→r' t=r t)→s.V f w r v→s.V f w' r' v
theorem Stab.n {N:Nat→Prop} {a:List Nat} {l:List Oper} {s:Gives} (h:Stab a l s):StN N a l s:=fun f F w w' r r' v hC hn _=>h f F w w' r r' v hC hn
section
variable {P:Program} {w w':World} {Z:Nat→Prop}
theorem HL.keepN {F H:List Nat} {Δ:List Ent} (h:HL (fun _=>False) w Δ F) (hC:Chg H w w') (hd:∀ b∈F,b ∉ H):HL (fun _=>False) w' Δ F:=by
 induction h with
 | nil=>exact .nil
 | @own e f F Δ h _ ih=>exact .own (h.keep hC (fun _ _ h=>h) fun b hb hm=>hd b (List.mem_append_left _ hm) hb) (ih fun b hb=>hd b (List.mem_append_right _ hb))
 | @fact e F Δ h _ ih=>
  refine .fact ?_ (ih hd)
  cases e with
  | rd o T v x=>
   obtain ⟨g,h1,h2⟩:=h
   have hg:g=[]:=by
    cases g with
    | nil=>rfl
    | cons b g=>exact absurd (h2 b (by simp)) (by cases o <;> simp [inZ])
   subst hg
   exact ⟨[],T.keep h1 hC (fun _ h=>absurd h List.not_mem_nil),fun _ h=>absurd h List.not_mem_nil⟩
  | ad o1 o2 v j T x=>obtain ⟨_,_,u,g,_,_,h3,_⟩:=h; exact absurd h3 (by cases o1 <;> simp [inZ])
  | ats p cs=>
   have hc:cs=[]:=by
    cases cs with
    | nil=>rfl
    | cons c cs=>exact (h.2 (by simp)).elim
   subst hc
   exact ⟨fun j u hj=>by simp at hj,fun hn=>absurd rfl hn⟩
  | hd v j u=>exact absurd h.2.2.2 List.not_mem_nil
  | _=>exact h.elim
theorem HL.keepZ {F H:List Nat} {Δ:List Ent} (h:HL Z w Δ F) (hC:Chg H w w') (hz:∀ b∈H,¬ Z b) (hd:∀ b∈F,b ∉ H):HL Z w' Δ F:=by
 induction h with
 | nil=>exact .nil
 | @own e f F Δ h _ ih=>exact .own (h.keep hC hz fun b hb hm=>hd b (List.mem_append_left _ hm) hb) (ih fun b hb=>hd b (List.mem_append_right _ hb))
 | @fact e F Δ h _ ih=>exact .fact (h.keep hC hz fun _ _ h=>nomatch h) (ih hd)
theorem HN.keep {N:Nat→Prop} {f H:List Nat} {Δ:List Ent} (h:HN N w Δ f) (hC:Chg H w w') (hd:∀ b∈f,b ∉ H) (hz:∀ b∈H,¬ N b):HN N w' Δ f:=by
 rcases h with h | ⟨Fo,Fr,rfl,h1,h2⟩
 ·exact .inl (h.keepN hC hd)
 ·exact .inr ⟨Fo,Fr,rfl,⟨h1.1,fun b hb=>Nat.lt_of_lt_of_le (h1.2 b hb) hC.size⟩,h2.keepZ hC (fun b hb h=>h.elim (hz b hb) fun h=>hd b (List.mem_append_right _ h) hb) fun b hb=>hd b (List.mem_append_left _ hb)⟩
theorem HN.own {N:Nat→Prop} {f:List Nat} {Δ:List Ent} (h:HN N w Δ f) (ho:owB Δ=true):HL (fun _=>False) w Δ f:=by
 rcases h with h | ⟨_,_,_,h1,_⟩
 ·exact h
 ·rw [ho] at h1; cases h1.1
theorem HN.all {N:Nat→Prop} {f:List Nat} {Δ:List Ent} (h:HN N w Δ f):∃ Fo Fr,f=Fo++Fr∧(∀ b∈Fr,b < w.heap.size)∧HL (fun b=>N b∨b∈Fr) w Δ Fo:=by
 rcases h with h | ⟨Fo,Fr,rfl,h1,h2⟩
 ·exact ⟨f,[],by simp,fun b (h:b∈[])=>absurd h List.not_mem_nil,h.mono fun _ h=>h.elim⟩
 ·exact ⟨Fo,Fr,rfl,h1.2,h2⟩
theorem HL.up {F:List Nat} {Δ:List Ent} (h:HL (fun _=>False) w Δ F):HL Z w Δ F:=by
 induction h with
 | nil=>exact .nil
 | own h _ ih=>exact .own (h.mono fun _ h=>h.elim) ih
 | fact h _ ih=>exact .fact (h.mono (fun _ h=>h.elim) fun _ h=>h) ih
theorem HL.app {Δ Δ':List Ent} {F F':List Nat} (h:HL Z w Δ F) (k:HL Z w Δ' F'):HL Z w (Δ++Δ') (F++F'):=by
 induction h with
 | nil=>exact k
 | own h _ ih=>rw [List.append_assoc]; exact .own h ih
 | fact h _ ih=>exact .fact h ih
theorem srcV_eq {a:MemD} {r r':Nat→Value} (h:∀ t∈a.src,r' t=r t):srcV a r'=srcV a r:=srcT_eq h
theorem stable_mv {l:List Oper} {a:List Nat} {b:Bool} {m:MemD} (hs:∀ t∈m.src,∃ j∈a,dstAt l j=some t):StN Z a l ⟨b,MV Z m⟩:=by
 intro f F w w' r r' x hC hn hz hr ⟨v,h1,h2,h3⟩
 have e:=srcV_eq (a:=m) (r:=r) (r':=r') fun t ht=>by
  obtain ⟨j,hj,hd⟩:=hs t ht
  exact hr j hj t hd
 refine ⟨v,by rw [e]; exact h1,by rw [e]; exact h2.keep hC hn hz,h3⟩
theorem stable_mvn {l:List Oper} {a:List Nat} {b:Bool} {m:MemD} (hd:∃ j∈a,dstAt l j=some m.d) (hs:∀ t∈m.src,∃ j∈a,dstAt l j=some t):StN Z a l ⟨b,MVn Z m⟩:=by
 intro f F w w' r r' x hC hn hz hr ⟨v,h1,h2,h3⟩
 have e:=srcV_eq (a:=m) (r:=r) (r':=r') fun t ht=>by
  obtain ⟨j,hj,hd⟩:=hs t ht
  exact hr j hj t hd
 obtain ⟨j,hj,hjd⟩:=hd
 refine ⟨v,by rw [e,hr j hj _ hjd]; exact h1,by rw [e]; exact h2.keep hC hn hz,h3⟩
theorem Owes.more {l:List Oper} {m i:Nat} {U:List (List Nat)} {S S':List Gives} {r0:Nat→Value} {w0:World} {H:List Nat} (h:Owes P l m S U r0 w0 H i) (hi:i < S.length):Owes P l m (S++S') U r0 w0 H i:=by
 intro o s ho hs g r w hC hV hO hn hot hd hf
 rw [List.getElem?_append_left hi] at hs
 refine h o s ho hs g r w hC hV (fun j hj d hd' s' hs'=>hO j hj d hd' s' (by rw [List.getElem?_append_left (List.getElem?_eq_some_iff.1 hs').1]; exact hs')) (fun j hj=>?_) hot hd hf
 have:=hn j hj
 refine ⟨fun d hd'=>?_,fun hd' s' hs' hb'=>?_⟩
 ·have h2:=this.1 d hd'
  by_cases hl:j < S.length
  ·rw [List.getElem?_append_left hl] at h2; exact h2
  ·rw [List.getElem?_eq_none (by omega)]; trivial
 ·exact this.2 hd' s' (by rw [List.getElem?_append_left (List.getElem?_eq_some_iff.1 hs').1]; exact hs') hb'
end
inductive eY (A:List Nat):Option (Bool×Nat×Value)→List (Nat×Nat×Value)→Fr→Fr→Prop
 | nil {base:Fr}:eY A none [] base base
 | cons {j d:Nat} {u:Value} {l:List (Nat×Nat×Value)} {base fr:Fr} (h:eY A (some (memB j A,d,u)) l base fr):eY A none ((j,d,u) :: l) base fr
 | keep {d:Nat} {u:Value} {l:List (Nat×Nat×Value)} {base fr:Fr} (h:eY A none l base fr):eY A (some (true,d,u)) l base ((d,u) :: fr)
 | drop {d:Nat} {u:Value} {l:List (Nat×Nat×Value)} {base fr:Fr} (h:eY A none l base fr):eY A (some (false,d,u)) l base fr
theorem FndA.blk {Γ Γ':List Ent} {v:Addr} {o:Bool} {α:Type} {E:STy α} {x:α} {e:Ent} (h:FndA Γ v o E x e Γ') {Z:Nat→Prop} {w:World}:∀ {cur F:List Nat},SA Z w Γ cur F→(v.block∈cur∨v.block∈F)∨Z v.block:=by
 induction h with
 | @ad o1 o2 α E v j x e Γ=>
  intro cur F hS
  obtain ⟨⟨j0,j1,u,g,h1,h2,h3,h4⟩,h5⟩:=hS
  cases o1 with
  | false=>exact .inr h3
  | true=>exact .inl (.inl h3)
 | @there o2 α E v x e a Γ Γ' h ih=>
  intro cur F hS
  cases a with
  | own T v x=>obtain ⟨f,F',rfl,h2,h3⟩:=hS; exact (ih h3).imp (fun h=>.inr (List.mem_append.2 h)) id
  | om e E v xs=>obtain ⟨f,F',rfl,h2,h3⟩:=hS; exact (ih h3).imp (fun h=>.inr (List.mem_append.2 h)) id
  | row b cs e=>obtain ⟨f,F',rfl,h2,h3⟩:=hS; exact (ih h3).imp (fun h=>h.imp id (List.mem_append_right _)) id
  | hol e E v xs j u=>obtain ⟨f,F',rfl,h2,h3⟩:=hS; exact (ih h3).imp (fun h=>.inr (List.mem_append.2 h)) id
  | _=>exact ih hS.2
inductive VQ (P:Program) (Γ:List Ent) (fr:Fr):Op→Value→Prop
 | mv {x:Operand} {v:Value} (hx:opv fr x=some v):VQ P Γ fr (.move x) v
 | as {x:Operand} {v:Value} (hx:opv fr x=some v):VQ P Γ fr (.assign x) v
 | add {x y:Operand} {t t':TypeId} {a b:Int} (hx:opv fr x=some (.int .i64 a)) (hy:opv fr y=some (.int .i64 b)):VQ P Γ fr (.binOp .add t x y t') (.int .i64 (w64 (a+b)))
 | sub {x y:Operand} {t t':TypeId} {a b:Int} (hx:opv fr x=some (.int .i64 a)) (hy:opv fr y=some (.int .i64 b)):VQ P Γ fr (.binOp .sub t x y t') (.int .i64 (w64 (a - b)))
 | lss {x y:Operand} {t t':TypeId} {k:IntKind} {a b:Int} (hx:opv fr x=some (.int k a)) (hy:opv fr y=some (.int k b)):VQ P Γ fr (.binOp .lss t x y t') (.bool (decide (a < b)))
 | eql {x y:Operand} {t t':TypeId} {k:IntKind} {a b:Int} (hx:opv fr x=some (.int k a)) (hy:opv fr y=some (.int k b)):VQ P Γ fr (.binOp .eql t x y t') (.bool (a == b))
 | neq {x y:Operand} {t t':TypeId} {k:IntKind} {a b:Int} (hx:opv fr x=some (.int k a)) (hy:opv fr y=some (.int k b)):VQ P Γ fr (.binOp .neq t x y t') (.bool (a != b))
 | not {x:Operand} {t:TypeId} {b:Bool} (hx:opv fr x=some (.bool b)):VQ P Γ fr (.unOp .not t x) (.bool (!b))
 | nilc {x:Operand} {a:Addr} (hx:opv fr x=some (.pointer (some a))):VQ P Γ fr (.nilCheck x) (.pointer (some a))
 | ext {x:Operand} {k:Nat} {vs:List Value} {v:Value} (hx:opv fr x=some (.tuple vs.toArray)) (hv:vs[k]? = some v):VQ P Γ fr (.extract x k) v
 | fad {s k off:Nat} {x:Operand} {a a':Addr} [hf:FAc P s k off] (hx:opv fr x=some (.pointer (some a))) (ha:AddA a off a'):VQ P Γ fr (.fieldAddr s x k) (.pointer (some a'))
 | len {x:Operand} {v:Value} {t:TypeId} {n:Nat} [ht:SLc P t] (hx:opv fr x=some v) (hr:LenD Γ v n):VQ P Γ fr (.call ⟨.builtin .len,#[x],#[t]⟩) (.int .i64 (n:Int))
 | bld {t:TypeId} {ps:List (Nat×Operand)} {zc cs:List Value} {pl:List (Nat×Nat)} [hb:BuC P t zc pl] (hf:FillD Γ fr pl ps zc cs):VQ P Γ fr (.build t ps.toArray) (.agg cs.toArray)
 | maxi {x y:Operand} {k k':IntKind} {a b:Int} {ats:Array TypeId} (hx:opv fr x=some (.int k a)) (hy:opv fr y=some (.int k' b)):VQ P Γ fr (.call ⟨.builtin .max,#[x,y],ats⟩) (.int k (if b > a then b else a))
 | mini {x y:Operand} {k k':IntKind} {a b:Int} {ats:Array TypeId} (hx:opv fr x=some (.int k a)) (hy:opv fr y=some (.int k' b)):VQ P Γ fr (.call ⟨.builtin .min,#[x,y],ats⟩) (.int k (if b < a then b else a))
 | cvb {x:Operand} {k k2:IntKind} {n:Int} {s t:TypeId} [ht:ICc P s t k2] (hx:opv fr x=some (.int k n)):VQ P Γ fr (.convert s t x) (.int k2 (k2.wrap n))
 | mul {x y:Operand} {t t':TypeId} {a b:Int} (hx:opv fr x=some (.int .i64 a)) (hy:opv fr y=some (.int .i64 b)):VQ P Γ fr (.binOp .mul t x y t') (.int .i64 (w64 (a * b)))
 | gtr {x y:Operand} {t t':TypeId} {k:IntKind} {a b:Int} (hx:opv fr x=some (.int k a)) (hy:opv fr y=some (.int k b)):VQ P Γ fr (.binOp .gtr t x y t') (.bool (decide (a > b)))
 | geq {x y:Operand} {t t':TypeId} {k:IntKind} {a b:Int} (hx:opv fr x=some (.int k a)) (hy:opv fr y=some (.int k b)):VQ P Γ fr (.binOp .geq t x y t') (.bool (decide (a ≥ b)))
 | leq {x y:Operand} {t t':TypeId} {k:IntKind} {a b:Int} (hx:opv fr x=some (.int k a)) (hy:opv fr y=some (.int k b)):VQ P Γ fr (.binOp .leq t x y t') (.bool (decide (a≤b)))
 | fld {s k off:Nat} {x:Operand} {cs:List Value} {v:Value} [hf:FLc P s k off] (hx:opv fr x=some (.agg cs.toArray)) (hc:cs[off]? = some v):VQ P Γ fr (.field s x k) v
 | lenS {x:Operand} {v:Value} {t:TypeId} {n k:Nat} [ht:SNc P t k] (hx:opv fr x=some v) (hr:LenD Γ v n):VQ P Γ fr (.call ⟨.builtin .len,#[x],#[t]⟩) (.int .i64 (n:Int))
theorem VQ.sound {P:Program} {Γ:List Ent} {fr:Fr} {op:Op} {u:Value} (h:VQ P Γ fr op u) {Z:Nat→Prop} {w:World} {cur F:List Nat} (hS:SA Z w Γ cur F) {r:Nat→Value} (ha:agr r fr) (d:Option Nat) (ty:TypeId) (pos:String) (aft:Array Edge) (g:Option (Nat×Bool)) :
  Rd P w r ⟨d,op,ty,pos,aft,g⟩ u:=by
 cases h with
 | mv hx=>exact Mv _ (aU ha hx)
 | as hx=>exact Av _ (aU ha hx)
 | add hx hy=>exact Ba (aU ha hx) (aU ha hy)
 | sub hx hy=>exact Go.Li.Bs (aU ha hx) (aU ha hy)
 | lss hx hy=>exact Bl (aU ha hx) (aU ha hy)
 | eql hx hy=>exact Be (aU ha hx) (aU ha hy)
 | neq hx hy=>exact Bn (aU ha hx) (aU ha hy)
 | not hx=>exact Nt (aU ha hx)
 | nilc hx=>exact Nk (aU ha hx)
 | ext hx hv=>exact Ex _ (aU ha hx) (by simpa using hv)
 | @fad s k off x a a' hf hx hq=>rw [hq.eq]; exact Fp hf.h (aU ha hx)
 | maxi hx hy=>exact fun _ _=>op_max (aU ha hx) (aU ha hy)
 | mini hx hy=>exact fun _ _=>op_min (aU ha hx) (aU ha hy)
 | @cvb x k k2 n s t ht hx=>exact fun _ _=>op_conv ht.h.1 ht.h.2 (aU ha hx)
 | mul hx hy=>exact Bm (aU ha hx) (aU ha hy)
 | gtr hx hy=>exact Bg (aU ha hx) (aU ha hy)
 | geq hx hy=>exact Bh (aU ha hx) (aU ha hy)
 | leq hx hy=>exact Go.Li.Bk (aU ha hx) (aU ha hy)
 | @fld s k off x cs v hf hx hc=>
  obtain ⟨fs,f,ds,h1,h2,h3,h4,h5⟩:=hf.h
  exact fun _ _=>op_field h1 h2 h3 h4 h5 (aU ha hx) (by simpa using hc)
 | @len x v t n ht hx hr=>
  obtain ⟨b,c,rfl⟩:=hr.sound hS
  obtain ⟨e,i,h1,_,_⟩:=ht.h
  exact fun _ _=>op_len h1 (aU ha hx)
 | @lenS x v t n k ht hx hr=>
  obtain ⟨b,c,rfl⟩:=hr.sound hS
  obtain ⟨e,i,h1,_,_⟩:=ht.h
  exact fun _ _=>op_len h1 (aU ha hx)
 | @bld t ps zc cs pl hb hf=>
  obtain ⟨fs,i,z,h1,h2,h3,h4,h5⟩:=hb.h
  refine Bu ?_
  have:=hf.fill ha hS
  unfold Program.built
  rw [h3,h1]
  simp only [h4,h2]
  rw [show z.cells=zc.toArray by rw [← h5]]
  exact this
theorem eY.sound {A:List Nat} {q:Option (Bool×Nat×Value)} {sl:List (Nat×Nat×Value)} {base fr:Fr} {r:Nat→Value} (h:eY A q sl base fr) (hb:agr r base) :
  (∀ p∈sl,memB p.1 A=true→r p.2.1=p.2.2)→(∀ b d u,q=some (b,d,u)→b=true→r d=u)→agr r fr:=by
 induction h with
 | nil=>intro _ _; exact hb
 | @cons j d u l base fr _ ih=>
  intro h1 _
  refine ih hb (fun p hp=>h1 p (by simp [hp])) ?_
  rintro b d' u' he hbt
  cases he
  exact h1 (j,d,u) (by simp) hbt
 | @keep d u l base fr _ ih=>
  intro h1 h2
  intro s v hl
  unfold look at hl
  cases hb2:Nat.beq s d with
  | true=>rw [hb2] at hl; cases hl; rw [Nat.eq_of_beq_eq_true hb2]; exact h2 true d _ rfl rfl
  | false=>rw [hb2] at hl; exact ih hb h1 (fun _ _ _ h=>nomatch h) s v hl
 | drop _ ih=>intro h1 _; exact ih hb h1 (fun _ _ _ h=>nomatch h)
def allF:List (Nat×Nat×Value)→Fr→Fr
 | [],f=>f
 | (_,d,u) :: l,f=>(d,u) :: allF l f
inductive CallD (P:Program) (f:FuncId) (xs:List Operand) (fr:Fr) (Γ:List Ent) {β V:Type} (mo:Option β) (rt:β→V→List Value) (ps:β→V→List Ent):Prop
 | mk {vs:List Value} {Δ:List Ent} (hx:opvs fr xs=some vs) (hc:Ct P f true mo vs Δ rt ps) (hd:FO Δ) (hr:ER true Γ Δ):CallD P f xs fr Γ mo rt ps
inductive CallR {β V:Type} (P:Program) (f:FuncId) (xs:List Operand) (fr:Fr) (Γ:List Ent) (mo:Option β) (rt:β→V→List Value) (ps:β→V→List Ent):Prop
 | mk {vs:List Value} {Δ:List Ent} (hx:opvs fr xs=some vs) (hc:Ct P f false mo vs Δ rt ps) (hd:FO Δ) (hr:ER false Γ Δ):CallR P f xs fr Γ mo rt ps
inductive CallHR {β V:Type} (P:Program) (f:FuncId) (xs:List Operand) (fr:Fr) (hd Γ:List Ent) (mo:Option β) (rt:β→V→List Value) (ps:β→V→List Ent):Prop
 | mk {vs:List Value} {Δ Γ':List Ent} (hx:opvs fr xs=some vs) (hc:Ct P f false mo vs Δ rt ps) (ho:EO hd Δ Γ') (hr:ER false (Γ'++Γ) Δ):CallHR P f xs fr hd Γ mo rt ps
inductive CallH (P:Program) (f:FuncId) (xs:List Operand) (fr:Fr) (hd:List Ent) (Γ:List Ent) {β V:Type} (mo:Option β) (rt:β→V→List Value) (ps:β→V→List Ent):Prop
 | mk {vs:List Value} {Δ Γ':List Ent} (hx:opvs fr xs=some vs) (hc:Ct P f true mo vs Δ rt ps) (ho:EO hd Δ Γ') (hr:ER true Γ Δ):CallH P f xs fr hd Γ mo rt ps
inductive InhX:List MemD→Prop
 | nil:InhX []
 | cons {a:MemD} {l:List MemD} (h:Inh a.V) (k:InhX l):InhX (a :: l)
theorem InhX.ne {ms:List MemD} (h:InhX ms):Nonempty (Xof ms):=by
 induction h with
 | nil=>exact ⟨()⟩
 | cons h _ ih=>obtain ⟨a⟩:=h.ne; obtain ⟨b⟩:=ih; exact ⟨(a,b)⟩
inductive WhD:List MemD→Nat→Bool→Prop
 | here {a:MemD} {l:List MemD}:WhD (a :: l) a.d true
 | there {a:MemD} {l:List MemD} {t:Nat} {b:Bool} (h:WhD l t b):WhD (a :: l) t b
 | nil {t:Nat}:WhD [] t false
inductive FldD (fr:Fr) (t off:Nat):Prop
 | mk {cs:List Value} {v:Value} (h:look fr t=some (.agg cs.toArray)) (hc:cs[off]? = some v):FldD fr t off
inductive TupD (fr:Fr) (t k:Nat):Prop
 | mk {cs:List Value} {v:Value} (h:look fr t=some (.tuple cs.toArray)) (hc:cs[k]? = some v):TupD fr t k
inductive OneD (fr:Fr) (Γ:List Ent) (t:Nat):Prop
 | mk {v:Value} (h:look fr t=some v) (hc:One Γ v):OneD fr Γ t
inductive LnD (fr:Fr) (Γ:List Ent) (t n:Nat):Prop
 | mk {v:Value} (h:look fr t=some v) (hc:LenD Γ v n):LnD fr Γ t n
inductive JA (R S:Type):Type 1
 | a (as:List (List Nat)) (ops:List Oper) (i:Nat) (sl:List (Nat×Nat×Value)) (ms:List MemD) (Γ:List Ent) (m:Option (Out S R))
 | o (A:List Nat) (op:Op) (d:Nat) (ty:TypeId) (as:List (List Nat)) (ops:List Oper) (i:Nat) (sl:List (Nat×Nat×Value)) (ms:List MemD) (Γ:List Ent) (m:Option (Out S R))
 | ow (b:Bool) (A:List Nat) (op:Op) (d:Nat) (ty:TypeId) (as:List (List Nat)) (ops:List Oper) (i:Nat) (sl:List (Nat×Nat×Value)) (ms:List MemD) (Γ:List Ent) (m:Option (Out S R))
 | ix (b:Bool) (v:Value) (fr:Fr) (x y:Operand) (t:TypeId) (A:List Nat) (d:Nat) (ty:TypeId) (as:List (List Nat)) (ops:List Oper) (i:Nat) (sl:List (Nat×Nat×Value)) (ms:List MemD) (Γ:List Ent) (m:Option (Out S R))
 | lb (b:Bool) (v:Value) (j:Int) (fr:Fr) (t:TypeId) (x:Operand) (A:List Nat) (d:Nat) (ty:TypeId) (as:List (List Nat)) (ops:List Oper) (i:Nat) (sl:List (Nat×Nat×Value)) (ms:List MemD) (Γ:List Ent) (m:Option (Out S R))
 | ap (us:List Nat) (t1 t2:Nat) (t:TypeId) (A:List Nat) (d:Nat) (ty:TypeId) (as:List (List Nat)) (ops:List Oper) (i:Nat) (sl:List (Nat×Nat×Value)) (ms:List MemD) (Γ:List Ent) (m:Option (Out S R))
 | la (fr:Fr) (ad:Addr) (lk:Option Nat) (t:TypeId) (x:Operand) (A:List Nat) (d:Nat) (ty:TypeId) (as:List (List Nat)) (ops:List Oper) (i:Nat) (sl:List (Nat×Nat×Value)) (ms:List MemD) (Γ:List Ent) (m:Option (Out S R))
 | ld {α:Type} (E:STy α) (z:α) (fr:Fr) (ad:Addr) (t:TypeId) (x:Operand) (A:List Nat) (d:Nat) (ty:TypeId) (as:List (List Nat)) (ops:List Oper) (i:Nat) (sl:List (Nat×Nat×Value)) (ms:List MemD) (Γ:List Ent) (m:Option (Out S R))
 | oc (us:List Nat) (f:FuncId) (xs:List Operand) (ats:Array TypeId) (A:List Nat) (d:Nat) (ty:TypeId) (as:List (List Nat)) (ops:List Oper) (i:Nat) (sl:List (Nat×Nat×Value)) (ms:List MemD) (Γ:List Ent) (m:Option (Out S R))
 | os (A:List Nat) (op:Op) (ty:TypeId) (as:List (List Nat)) (ops:List Oper) (i:Nat) (sl:List (Nat×Nat×Value)) (ms:List MemD) (Γ:List Ent) (m:Option (Out S R))
 | cr {V:Type} (u:V→Value) (ps:V→List Ent) (d:Nat) (as:List (List Nat)) (ops:List Oper) (i:Nat) (sl:List (Nat×Nat×Value)) (ms:List MemD) (Γ:List Ent) (m:Option (Out S R))
 | p (Δ:List Ent) (as:List (List Nat)) (ops:List Oper) (i:Nat) (sl:List (Nat×Nat×Value)) (ms:List MemD) (Γ:List Ent) (m:Option (Out S R))
inductive WhE:List Ent→Value→Bool→Prop
 | here {α:Type} {T:STy α} {v:Value} {x:α} {Γ:List Ent}:WhE (.own T v x :: Γ) v true
 | there {e:Ent} {v:Value} {b:Bool} {Γ:List Ent} (h:WhE Γ v b):WhE (e :: Γ) v b
 | nil {v:Value}:WhE [] v false
inductive GetD:List MemD→Nat→MemD→List MemD→Prop
 | here {a:MemD} {l:List MemD}:GetD (a :: l) a.d a l
 | there {a b:MemD} {l l':List MemD} {t:Nat} (h:GetD l t a l'):GetD (b :: l) t a (b :: l')
inductive GetJ:List MemD→Nat→MemD→List MemD→Prop
 | here {a:MemD} {l:List MemD}:GetJ (a :: l) a.j a l
 | there {a b:MemD} {l l':List MemD} {t:Nat} (h:GetJ l t a l'):GetJ (b :: l) t a (b :: l')
def reSl (j i:Nat) (sl:List (Nat×Nat×Value)):List (Nat×Nat×Value):=sl.map fun p=>bif Nat.beq p.1 j then (i,p.2) else p
def endB (U:List (List Nat)) (_sl:List (Nat×Nat×Value)) (ms:List MemD):Bool:=U.all fun us=>us.all fun j=>ms.all fun a=>!Nat.beq a.j j
inductive AD {R S:Type} (tq:Bool) (P:Program) (cx:Cx R) (K:Kont R S) (l tail:List Oper) (base:Fr) (U:List (List Nat)):List Ent→JA R S→Prop
 | nil {hd:List Ent} {i:Nat} {sl:List (Nat×Nat×Value)} {ms:List MemD} {Γ:List Ent} {m:Option (Out S R)} (hsrc:srcA ms=true) (he:endB U sl ms=true) (h:∀ x:Xof ms,D P cx (.p (allF sl (mF ms x)) (allE ms x) base Γ fun fr Γ=>.tg tq (hasG tail) l tail K Γ fr m)):AD tq P cx K l tail base U hd (.a [] [] i sl ms Γ m)
 | cons {hd:List Ent} {A:List Nat} {as:List (List Nat)} {op:Op} {d:Nat} {ty:TypeId} {pos:String} {aft:Array Edge} {ops:List Oper} {i:Nat} {sl:List (Nat×Nat×Value)} {ms:List MemD} {Γ:List Ent} {m:Option (Out S R)} (h:AD tq P cx K l tail base U hd (.o A op d ty as ops i sl ms Γ m)) :
   AD tq P cx K l tail base U hd (.a (A :: as) (⟨some d,op,ty,pos,aft,none⟩ :: ops) i sl ms Γ m)
 | consN {hd:List Ent} {A:List Nat} {as:List (List Nat)} {op:Op} {ty:TypeId} {pos:String} {aft:Array Edge} {ops:List Oper} {i:Nat} {sl:List (Nat×Nat×Value)} {ms:List MemD} {Γ:List Ent} {m:Option (Out S R)} (h:AD tq P cx K l tail base U hd (.os A op ty as ops i sl ms Γ m)) :
   AD tq P cx K l tail base U hd (.a (A :: as) (⟨none,op,ty,pos,aft,none⟩ :: ops) i sl ms Γ m)
 | sto {hd:List Ent} {t e:TypeId} {t1 j1 n:Nat} {y:Operand} {u:Value} {us cs ds:List Value} {ms1:List MemD} {fr:Fr} {A:List Nat} {as:List (List Nat)} {ty:TypeId} {ops:List Oper} {i:Nat} {sl:List (Nat×Nat×Value)} {ms:List MemD} {Γ:List Ent} {m:Option (Out S R)} [ht:STo P t n]
   (h1:GetD ms t1 ⟨j1,t1,[],Nat,fun _ b=>.pointer (some ⟨b,0,none⟩),fun _ b=>[.row b cs e]⟩ ms1) (hv:eY A none sl base fr) (hy:opv fr y=some u) (hc:CellsD Γ u us) (hn:us.length=n) (hs:SegD us 0 cs ds) (ho:Ones Γ us) (h4:memB j1 A=true) (h6:U.getD i []=[j1])
   (h:AD tq P cx K l tail base U hd (.a as ops (i+1) sl (⟨i,t1,[],Nat,fun _ b=>.pointer (some ⟨b,0,none⟩),fun _ b=>[.row b ds e]⟩ :: ms1) Γ m)):AD tq P cx K l tail base U hd (.os A (.store t (.tmp t1) y) ty as ops i sl ms Γ m)
 | lit0 {hd:List Ent} {α:Type} {A:List Nat} {as:List (List Nat)} {d:Nat} {t e ty:TypeId} {E:STy α} {z0:α} {bt:Nat} {ops:List Oper} {i:Nat} {sl:List (Nat×Nat×Value)} {ms:List MemD} {Γ:List Ent} {m:Option (Out S R)} [hz:STc P t α e E z0 bt]
   (h:AD tq P cx K l tail base U hd (.a as ops (i+1) sl (⟨i,d,[],Value,fun _ v=>v,fun _ v=>[.own (aK e E) v []]⟩ :: ms) Γ m)):AD tq P cx K l tail base U hd (.o A (.buildSlice t 0 #[]) d ty as ops i sl ms Γ m)
 | sw4 {hd:List Ent} {t st e:Nat} {α:Type} {E:STy α} {z0:α} {bt:Nat} {b:Bool} {A:List Nat} {as:List (List Nat)} {d:Nat} {ty:TypeId} {ops:List Oper} {i:Nat} {sl:List (Nat×Nat×Value)} {ms:List MemD} {Γ:List Ent} {m:Option (Out S R)} [hz:STc P st α e E z0 bt] (hw:WhD ms t b) (h:AD tq P cx K l tail base U hd (.ow b A (.buildSlice st 1 #[(0,.tmp t)]) d ty as ops i sl ms Γ m)):AD tq P cx K l tail base U hd (.o A (.buildSlice st 1 #[(0,.tmp t)]) d ty as ops i sl ms Γ m)
 | ltn {hd:List Ent} {t e:TypeId} {n:Nat} {ps:List (Nat×Operand)} {us:List Value} {fr:Fr} {A:List Nat} {as:List (List Nat)} {d:Nat} {ty:TypeId} {ops:List Oper} {i:Nat} {sl:List (Nat×Nat×Value)} {ms:List MemD} {Γ:List Ent} {m:Option (Out S R)} [hz:LTc P t e] (hv:eY A none sl base fr) (hl:LitD Γ fr 0 ps us) (hn:us.length=n) (hb:(Nat.ble 1 n && Nat.ble n 16777216)=true)
   (h:AD tq P cx K l tail base U hd (.a as ops (i+1) sl (⟨i,d,[],Nat,fun _ b=>.slice (some ⟨b,0,none⟩) n n,fun _ b=>[.row b us e]⟩ :: ms) Γ m)):AD tq P cx K l tail base U hd (.o A (.buildSlice t n ps.toArray) d ty as ops i sl ms Γ m)
 | ltu {hd:List Ent} {t e:TypeId} {n:Nat} {ps:List (Nat×Operand)} {us:List Value} {fr:Fr} {A:List Nat} {as:List (List Nat)} {d:Nat} {ty:TypeId} {ops:List Oper} {i:Nat} {sl:List (Nat×Nat×Value)} {ms:List MemD} {Γ:List Ent} {m:Option (Out S R)} [hz:LUc P t e] (hv:eY A none sl base fr) (hl:LitD Γ fr 0 ps us) (hn:us.length=n) (hb:(Nat.ble 1 n && Nat.ble n 16777216)=true)
   (h:AD tq P cx K l tail base U hd (.a as ops (i+1) sl (⟨i,d,[],Nat,fun _ b=>.slice (some ⟨b,0,none⟩) n n,fun _ b=>[.row b us e]⟩ :: ms) Γ m)):AD tq P cx K l tail base U hd (.o A (.buildSlice t n ps.toArray) d ty as ops i sl ms Γ m)
 | sw1 {hd:List Ent} {t:Nat} {b:Bool} {A:List Nat} {as:List (List Nat)} {d:Nat} {ty:TypeId} {ops:List Oper} {i:Nat} {sl:List (Nat×Nat×Value)} {ms:List MemD} {Γ:List Ent} {m:Option (Out S R)} (hw:WhD ms t b) (h:AD tq P cx K l tail base U hd (.ow b A (.move (.tmp t)) d ty as ops i sl ms Γ m)):AD tq P cx K l tail base U hd (.o A (.move (.tmp t)) d ty as ops i sl ms Γ m)
 | sw2 {hd:List Ent} {t k:Nat} {b:Bool} {A:List Nat} {as:List (List Nat)} {d:Nat} {ty:TypeId} {ops:List Oper} {i:Nat} {sl:List (Nat×Nat×Value)} {ms:List MemD} {Γ:List Ent} {m:Option (Out S R)} (hw:WhD ms t b) (h:AD tq P cx K l tail base U hd (.ow b A (.extract (.tmp t) k) d ty as ops i sl ms Γ m)):AD tq P cx K l tail base U hd (.o A (.extract (.tmp t) k) d ty as ops i sl ms Γ m)
 | sw3 {hd:List Ent} {s t k:Nat} {b:Bool} {A:List Nat} {as:List (List Nat)} {d:Nat} {ty:TypeId} {ops:List Oper} {i:Nat} {sl:List (Nat×Nat×Value)} {ms:List MemD} {Γ:List Ent} {m:Option (Out S R)} (hw:WhD ms t b) (h:AD tq P cx K l tail base U hd (.ow b A (.field s (.tmp t) k) d ty as ops i sl ms Γ m)):AD tq P cx K l tail base U hd (.o A (.field s (.tmp t) k) d ty as ops i sl ms Γ m)
 | sw6 {hd:List Ent} {t:Nat} {it:TypeId} {b:Bool} {A:List Nat} {as:List (List Nat)} {d:Nat} {ty:TypeId} {ops:List Oper} {i:Nat} {sl:List (Nat×Nat×Value)} {ms:List MemD} {Γ:List Ent} {m:Option (Out S R)} (hw:WhD ms t b) (h:AD tq P cx K l tail base U hd (.ow b A (.makeInterface it (.tmp t)) d ty as ops i sl ms Γ m)):AD tq P cx K l tail base U hd (.o A (.makeInterface it (.tmp t)) d ty as ops i sl ms Γ m)
 | wlt {hd:List Ent} {t e:TypeId} {α:Type} {E:STy α} {z0:α} {bt:Nat} {u:Value} {x:Operand} {fr:Fr} {A:List Nat} {as:List (List Nat)} {d:Nat} {ty:TypeId} {ops:List Oper} {i:Nat} {sl:List (Nat×Nat×Value)} {ms:List MemD} {Γ:List Ent} {m:Option (Out S R)} [hz:STc P t α e E z0 bt] (hv:eY A none sl base fr) (hx:opv fr x=some u) (h1:One Γ u)
   (h:AD tq P cx K l tail base U hd (.a as ops (i+1) sl (⟨i,d,[],Nat,fun _ b=>.slice (some ⟨b,0,none⟩) 1 1,fun _ b=>[.row b [u] e]⟩ :: ms) Γ m)):AD tq P cx K l tail base U hd (.ow false A (.buildSlice t 1 #[(0,x)]) d ty as ops i sl ms Γ m)
 | sw5 {hd:List Ent} {t st:Nat} {b:Bool} {A:List Nat} {as:List (List Nat)} {d:Nat} {ty:TypeId} {ops:List Oper} {i:Nat} {sl:List (Nat×Nat×Value)} {ms:List MemD} {Γ:List Ent} {m:Option (Out S R)} (hw:WhD ms t b) (h:AD tq P cx K l tail base U hd (.ow b A (.call ⟨.builtin .len,#[.tmp t],#[st]⟩) d ty as ops i sl ms Γ m)):AD tq P cx K l tail base U hd (.o A (.call ⟨.builtin .len,#[.tmp t],#[st]⟩) d ty as ops i sl ms Γ m)
 | mln {hd:List Ent} {t n:Nat} {st:TypeId} {A:List Nat} {as:List (List Nat)} {d:Nat} {ty:TypeId} {ops:List Oper} {i:Nat} {sl:List (Nat×Nat×Value)} {ms:List MemD} {Γ:List Ent} {m:Option (Out S R)} [ht:SLc P st] (hi:InhX ms) (hsrc:srcB A ms=true) (hx:∀ x:Xof ms,LnD (visF A ms x) (visE A ms x) t n) (h:AD tq P cx K l tail base U hd (.a as ops (i+1) ((i,d,.int .i64 (n:Int)) :: sl) ms Γ m)):AD tq P cx K l tail base U hd (.ow true A (.call ⟨.builtin .len,#[.tmp t],#[st]⟩) d ty as ops i sl ms Γ m)
 | alc {hd:List Ent} {t:TypeId} {cs:List Value} {A:List Nat} {as:List (List Nat)} {d:Nat} {ty:TypeId} {ops:List Oper} {i:Nat} {sl:List (Nat×Nat×Value)} {ms:List MemD} {Γ:List Ent} {m:Option (Out S R)} [hz:ZVc P t cs] (h:AD tq P cx K l tail base U hd (.a as ops (i+1) sl (⟨i,d,[],Nat,fun _ b=>.pointer (some ⟨b,0,none⟩),fun _ b=>[.row b cs t]⟩ :: ms) Γ m)):AD tq P cx K l tail base U hd (.o A (.alloc t) d ty as ops i sl ms Γ m)
 | wl0 {hd:List Ent} {st:TypeId} {c:Value} {A:List Nat} {as:List (List Nat)} {d:Nat} {ty:TypeId} {ops:List Oper} {i:Nat} {sl:List (Nat×Nat×Value)} {ms:List MemD} {Γ:List Ent} {m:Option (Out S R)} (h:AD tq P cx K l tail base U hd (.ow false A (.buildSlice st 1 #[(0,.const c)]) d ty as ops i sl ms Γ m)):AD tq P cx K l tail base U hd (.o A (.buildSlice st 1 #[(0,.const c)]) d ty as ops i sl ms Γ m)
 | aps {hd:List Ent} {us:List Nat} {t1 t2:Nat} {t:TypeId} {A:List Nat} {as:List (List Nat)} {d:Nat} {ty:TypeId} {ops:List Oper} {i:Nat} {sl:List (Nat×Nat×Value)} {ms:List MemD} {Γ:List Ent} {m:Option (Out S R)} (hU:U.getD i []=us) (h:AD tq P cx K l tail base U hd (.ap us t1 t2 t A d ty as ops i sl ms Γ m)):AD tq P cx K l tail base U hd (.o A (.call ⟨.builtin .append,#[.tmp t1,.tmp t2],#[t,t]⟩) d ty as ops i sl ms Γ m)
 | apH {hd hd':List Ent} {α:Type} {t e e' et:TypeId} {E E':STy α} {z0:α} {bt t1 t2 j2:Nat} {v u yv:Value} {j:Int} {y:α} {z:List α} {xs:List (List α)} {o1 o2:Bool} {Γx:List Ent} {ms2:List MemD} {fr:Fr} {f:Unit→Option (Out S R)} {A:List Nat} {as:List (List Nat)} {d:Nat} {ty:TypeId} {ops:List Oper} {i:Nat} {sl:List (Nat×Nat×Value)} {ms:List MemD} {Γ:List Ent} [hT:STc P t α e E z0 bt]
   (hV:((U.set i []).all fun us=>!(us.contains l.length))=true) (hv:eY A none sl base fr) (hs:look fr t1=some u) (h2:GetD ms t2 ⟨j2,t2,[],Nat,fun _ b=>.slice (some ⟨b,0,none⟩) 1 1,fun _ b=>[.row b [yv] et]⟩ ms2) (h5:memB j2 A=true) (hl:Loc hd u (.row v j)) (hz:Fnd hd u o1 o2 E' z noE Γx) (h1:Sel hd (.own (aK e' (aK e E)) v xs) hd') (hr:RT (aK e E) (aE E')) (hy:TkE [] E yv y [])
   (h:AD tq P cx K l tail base U hd' (.a as ops (i+1) sl (⟨i,d,[],Value,fun _ v'=>v',fun _ v'=>[.own (aK e E) v' (z++[y]),.own (sHole e' (aK e E) j.toNat) v xs]⟩ :: ms) Γ (f ()))):AD tq P cx K l tail base U hd (.ap [l.length] t1 t2 t A d ty as ops i sl ms Γ (fits bt (z.length+1)>>=f))
 | apL {hd hd':List Ent} {t e e' e3 et:TypeId} {kk:IntKind} {E':STy (List Int)} {z0:List Int} {bt t1 t2 t3 j2 j3 n:Nat} {v u:Value} {us:List Value} {j:Int} {ys:List Int} {z:List (List Int)} {xs:List (List (List Int))} {o1 o2:Bool} {Γx:List Ent} {ms2 ms3:List MemD} {fr:Fr} {f:Unit→Option (Out S R)} {A:List Nat} {as:List (List Nat)} {d:Nat} {ty:TypeId} {ops:List Oper} {i:Nat} {sl:List (Nat×Nat×Value)} {ms:List MemD} {Γ:List Ent} [hT:STc P t (List Int) e (aK e3 (aC kk)) z0 bt]
   (hV:((U.set i []).all fun us=>!(us.contains l.length))=true) (hv:eY A none sl base fr) (hs:look fr t1=some u) (h2:GetD ms t2 ⟨j2,t2,[t3],Nat,fun _ b=>.slice (some ⟨b,0,none⟩) 1 1,fun u b=>[.row b [u] et]⟩ ms2) (h3:GetD ms2 t3 ⟨j3,t3,[],Nat,fun _ b=>.slice (some ⟨b,0,none⟩) n n,fun _ b=>[.row b us e3]⟩ ms3) (h5:memB j2 A=true) (h6:memB j3 A=true) (hl:Loc hd u (.row v j)) (hz:Fnd hd u o1 o2 E' z noE Γx) (h1:Sel hd (.own (aK e' (aK e (aK e3 (aC kk)))) v xs) hd') (hr:RT (aK e (aK e3 (aC kk))) (aE E')) (hi:LiI kk us ys) (hn:us.length=n) (hb:Nat.ble n 16777216=true)
   (h:AD tq P cx K l tail base U hd' (.a as ops (i+1) sl (⟨i,d,[],Value,fun _ v'=>v',fun _ v'=>[.own (aK e (aK e3 (aC kk))) v' (z++[ys]),.own (sHole e' (aK e (aK e3 (aC kk))) j.toNat) v xs]⟩ :: ms3) Γ (f ()))):AD tq P cx K l tail base U hd (.ap [l.length,j3] t1 t2 t A d ty as ops i sl ms Γ (fits bt (z.length+1)>>=f))
 | apM {hd:List Ent} {t e e3 et:TypeId} {kk:IntKind} {z0:List Int} {bt t1 t2 t3 j1 j2 j3 n:Nat} {us:List Value} {ys:List Int} {z:List (List Int)} {a1:MemD} {ms1 ms2 ms3:List MemD} {f:Unit→Option (Out S R)} {A:List Nat} {as:List (List Nat)} {d:Nat} {ty:TypeId} {ops:List Oper} {i:Nat} {sl:List (Nat×Nat×Value)} {ms:List MemD} {Γ:List Ent} [hT:STc P t (List Int) e (aK e3 (aC kk)) z0 bt]
   (h1:GetD ms t1 a1 ms1) (h2:GetD ms1 t2 ⟨j2,t2,[t3],Nat,fun _ b=>.slice (some ⟨b,0,none⟩) 1 1,fun u b=>[.row b [u] et]⟩ ms2) (h3:GetD ms2 t3 ⟨j3,t3,[],Nat,fun _ b=>.slice (some ⟨b,0,none⟩) n n,fun _ b=>[.row b us e3]⟩ ms3) (hp:∀ u v,a1.ps u v=[.own (aK e (aK e3 (aC kk))) (a1.rt u v) z]) (hj:a1.j=j1) (hne:Nat.beq j1 j3=false) (h4:memB j1 A=true) (h5:memB j2 A=true) (h6:memB j3 A=true) (hi:LiI kk us ys) (hn:us.length=n) (hb:Nat.ble n 16777216=true)
   (h:AD tq P cx K l tail base U hd (.a as ops (i+1) sl (⟨i,d,[],Value,fun _ v'=>v',fun _ v'=>[.own (aK e (aK e3 (aC kk))) v' (z++[ys])]⟩ :: ms3) Γ (f ()))):AD tq P cx K l tail base U hd (.ap [j1,j3] t1 t2 t A d ty as ops i sl ms Γ (fits bt (z.length+1)>>=f))
 | ap1 {hd:List Ent} {us:List Nat} {t e et:TypeId} {E:STy Int} {z0:Int} {bt t1 t2 j2 d2:Nat} {k:IntKind} {y:Int} {xs:List Int} {a1:MemD} {ms1 ms2:List MemD} {f:Unit→Option (Out S R)} {A:List Nat} {as:List (List Nat)} {d:Nat} {ty:TypeId} {ops:List Oper} {i:Nat} {sl:List (Nat×Nat×Value)} {ms:List MemD} {Γ:List Ent} [hz:STc P t Int e E z0 bt] (h1:GetD ms t1 a1 ms1) (h2:GetD ms1 t2 ⟨j2,d2,[],Nat,fun _ b=>.slice (some ⟨b,0,none⟩) 1 1,fun _ b=>[.row b [.int k y] et]⟩ ms2) (h3:∀ u v,a1.ps u v=[.own (aK e (aC k)) (a1.rt u v) xs]) (hu:us=[a1.j]) (h4:memB a1.j A=true) (h5:memB j2 A=true)
   (h:AD tq P cx K l tail base U hd (.a as ops (i+1) sl (⟨i,d,[],Value,fun _ v=>v,fun _ v=>[.own (aK e (aC k)) v (xs++[y])]⟩ :: ms1) Γ (f ()))):AD tq P cx K l tail base U hd (.ap us t1 t2 t A d ty as ops i sl ms Γ (fits bt (xs.length+1)>>=f))
 | wv {hd:List Ent} {op:Op} {u:Value} {fr:Fr} {A:List Nat} {as:List (List Nat)} {d:Nat} {ty:TypeId} {ops:List Oper} {i:Nat} {sl:List (Nat×Nat×Value)} {ms:List MemD} {Γ:List Ent} {m:Option (Out S R)} (hv:eY A none sl base fr) (hq:VQ P Γ fr op u) (h:AD tq P cx K l tail base U hd (.a as ops (i+1) ((i,d,u) :: sl) ms Γ m)):AD tq P cx K l tail base U hd (.ow false A op d ty as ops i sl ms Γ m)
 | mmv {hd:List Ent} {t:Nat} {A:List Nat} {as:List (List Nat)} {d:Nat} {ty:TypeId} {ops:List Oper} {i:Nat} {sl:List (Nat×Nat×Value)} {ms:List MemD} {Γ:List Ent} {m:Option (Out S R)} (hi:InhX ms) (hsrc:srcB A ms=true) (hj:∃ j,fstJ t ms=some j∧memB j A=true) (h:AD tq P cx K l tail base U hd (.a as ops (i+1) sl (⟨i,d,[t],Unit,fun u _=>u,fun _ _=>[]⟩ :: ms) Γ m)):AD tq P cx K l tail base U hd (.ow true A (.move (.tmp t)) d ty as ops i sl ms Γ m)
 | mbl {hd:List Ent} {t:TypeId} {ps:List (Nat×Operand)} {zc:List Value} {pl:List (Nat×Nat)} {fr:Fr} {A:List Nat} {as:List (List Nat)} {d:Nat} {ty:TypeId} {ops:List Oper} {i:Nat} {sl:List (Nat×Nat×Value)} {ms:List MemD} {Γ:List Ent} {m:Option (Out S R)} [hb:BuC P t zc pl] (hi:InhX ms) (hsrc:srcB A ms=true) (hne:(tsOf ms ps).isEmpty=false) (hj:tsB A ms (tsOf ms ps)=true) (hv:eY A none sl base fr)
   (hx:∀ x:Xof ms,FillD (visE A ms x++Γ) (visF A ms x++fr) pl ps zc (bldL pl fr (tsOf ms ps) ps zc (srcT (lookD (mF ms x)) (tsOf ms ps))))
   (h:AD tq P cx K l tail base U hd (.a as ops (i+1) sl (⟨i,d,tsOf ms ps,Unit,fun u _=>.agg (bldL pl fr (tsOf ms ps) ps zc u).toArray,fun _ _=>[]⟩ :: ms) Γ m)):AD tq P cx K l tail base U hd (.o A (.build t ps.toArray) d ty as ops i sl ms Γ m)
 | mex {hd:List Ent} {t k:Nat} {A:List Nat} {as:List (List Nat)} {d:Nat} {ty:TypeId} {ops:List Oper} {i:Nat} {sl:List (Nat×Nat×Value)} {ms:List MemD} {Γ:List Ent} {m:Option (Out S R)} (hi:InhX ms) (hsrc:srcB A ms=true) (hj:∃ j,fstJ t ms=some j∧memB j A=true) (hx:∀ x:Xof ms,TupD (visF A ms x) t k) (h:AD tq P cx K l tail base U hd (.a as ops (i+1) sl (⟨i,d,[t],Unit,fun u _=>tupOf u k,fun _ _=>[]⟩ :: ms) Γ m)):AD tq P cx K l tail base U hd (.ow true A (.extract (.tmp t) k) d ty as ops i sl ms Γ m)
 | mfd {hd:List Ent} {s t k off:Nat} {A:List Nat} {as:List (List Nat)} {d:Nat} {ty:TypeId} {ops:List Oper} {i:Nat} {sl:List (Nat×Nat×Value)} {ms:List MemD} {Γ:List Ent} {m:Option (Out S R)} [hf:FLc P s k off] (hi:InhX ms) (hsrc:srcB A ms=true) (hj:∃ j,fstJ t ms=some j∧memB j A=true) (hx:∀ x:Xof ms,FldD (visF A ms x) t off) (h:AD tq P cx K l tail base U hd (.a as ops (i+1) sl (⟨i,d,[t],Unit,fun u _=>fldOf u off,fun _ _=>[]⟩ :: ms) Γ m)):AD tq P cx K l tail base U hd (.ow true A (.field s (.tmp t) k) d ty as ops i sl ms Γ m)
 | mif {hd:List Ent} {t:Nat} {it:TypeId} {A:List Nat} {as:List (List Nat)} {d:Nat} {ty:TypeId} {ops:List Oper} {i:Nat} {sl:List (Nat×Nat×Value)} {ms:List MemD} {Γ:List Ent} {m:Option (Out S R)} [hf:IFc P it] (hi:InhX ms) (hsrc:srcB A ms=true) (hj:∃ j,fstJ t ms=some j∧memB j A=true) (h:AD tq P cx K l tail base U hd (.a as ops (i+1) sl (⟨i,d,[t],Unit,fun u _=>.iface it u,fun _ _=>[]⟩ :: ms) Γ m)):AD tq P cx K l tail base U hd (.ow true A (.makeInterface it (.tmp t)) d ty as ops i sl ms Γ m)
 | mlt {hd:List Ent} {t:Nat} {sl' e:TypeId} {α:Type} {E:STy α} {z0:α} {bt:Nat} {A:List Nat} {as:List (List Nat)} {d:Nat} {ty:TypeId} {ops:List Oper} {i:Nat} {sl:List (Nat×Nat×Value)} {ms:List MemD} {Γ:List Ent} {m:Option (Out S R)} [hz:STc P sl' α e E z0 bt] (hi:InhX ms) (hsrc:srcB A ms=true) (hj:∃ j,fstJ t ms=some j∧memB j A=true) (hx:∀ x:Xof ms,OneD (visF A ms x) (visE A ms x) t)
   (h:AD tq P cx K l tail base U hd (.a as ops (i+1) sl (⟨i,d,[t],Nat,fun _ b=>.slice (some ⟨b,0,none⟩) 1 1,fun u b=>[.row b [u] e]⟩ :: ms) Γ m)):AD tq P cx K l tail base U hd (.ow true A (.buildSlice sl' 1 #[(0,.tmp t)]) d ty as ops i sl ms Γ m)
 | mk {hd:List Ent} {t e:TypeId} {α:Type} {E:STy α} {z0:α} {bt:Nat} {x:Operand} {z:Int} {fr:Fr} {f:Nat→Option (Out S R)} {A:List Nat} {as:List (List Nat)} {d:Nat} {ty:TypeId} {ops:List Oper} {i:Nat} {sl:List (Nat×Nat×Value)} {ms:List MemD} {Γ:List Ent} [hz:STc P t α e E z0 bt] (hv:eY A none sl base fr) (hx:opv fr x=some (.int .i64 z))
   (h:∀ n,AD tq P cx K l tail base U hd (.a as ops (i+1) sl (⟨i,d,[],Value,fun _ v=>v,fun _ v=>[.own (aK e E) v (List.replicate n z0)]⟩ :: ms) Γ (f n))):AD tq P cx K l tail base U hd (.o A (.makeSlice t x x) d ty as ops i sl ms Γ (mk bt z>>=f))
 | ixs {hd:List Ent} {b:Bool} {v:Value} {x y:Operand} {t:TypeId} {fr:Fr} {A:List Nat} {as:List (List Nat)} {d:Nat} {ty:TypeId} {ops:List Oper} {i:Nat} {sl:List (Nat×Nat×Value)} {ms:List MemD} {Γ:List Ent} {m:Option (Out S R)} (hv:eY A none sl base fr) (hx:opv fr x=some v) (hw:WhE hd v b) (h:AD tq P cx K l tail base U hd (.ix b v fr x y t A d ty as ops i sl ms Γ m)):AD tq P cx K l tail base U hd (.o A (.indexAddr t x y) d ty as ops i sl ms Γ m)
 | idx {hd:List Ent} {α:Type} {A:List Nat} {as:List (List Nat)} {d:Nat} {x y:Operand} {v:Value} {k:IntKind} {j:Int} {t ty:TypeId} {o1 o2:Bool} {E:STy α} {xs:List α} {ops:List Oper} {i:Nat} {sl:List (Nat×Nat×Value)} {ms:List MemD} {fr:Fr} {Γ:List Ent} {Γ':α→List Ent} {f:α→Option (Out S R)} [ht:SLc P t]
   (hy:opv fr y=some (.int k j)) (hr:∀ z,Fnd Γ v o1 o2 E xs (.ad o1 o2 v j E z) (Γ' z)) (hE:E.size=1)
   (h:∀ z,AD tq P cx K l tail base U hd (.a as ops (i+1) ((i,d,.pointer (some (elA v 1 j))) :: sl) ms (Γ' z) (f z))):AD tq P cx K l tail base U hd (.ix false v fr x y t A d ty as ops i sl ms Γ (idx xs j>>=f))
 | idxH {hd:List Ent} {α:Type} {A:List Nat} {as:List (List Nat)} {d:Nat} {x y:Operand} {v:Value} {k:IntKind} {j:Int} {t ty:TypeId} {o1 o2:Bool} {E:STy α} {xs:List α} {ops:List Oper} {i:Nat} {sl:List (Nat×Nat×Value)} {ms:List MemD} {fr:Fr} {Γ:List Ent} {hd':α→List Ent} {f:α→Option (Out S R)} [ht:SLc P t]
   (hy:opv fr y=some (.int k j)) (hr:∀ z,Fnd hd v o1 o2 E xs (.ad o1 o2 v j E z) (hd' z)) (hE:E.size=1)
   (h:∀ z,AD tq P cx K l tail base U (hd' z) (.a as ops (i+1) ((i,d,.pointer (some (elA v 1 j))) :: sl) ms Γ (f z))):AD tq P cx K l tail base U hd (.ix true v fr x y t A d ty as ops i sl ms Γ (idx xs j>>=f))
 | load {hd:List Ent} {A:List Nat} {as:List (List Nat)} {d:Nat} {x:Operand} {a:Addr} {t ty:TypeId} {lk:Option Nat} {ops:List Oper} {i:Nat} {sl:List (Nat×Nat×Value)} {ms:List MemD} {fr:Fr} {Γ:List Ent} {m:Option (Out S R)} [ht:LK P t lk] (hv:eY A none sl base fr) (hx:opv fr x=some (.pointer (some a)))
   (h:AD tq P cx K l tail base U hd (.la fr a lk t x A d ty as ops i sl ms Γ m)):AD tq P cx K l tail base U hd (.o A (.load t x) d ty as ops i sl ms Γ m)
 | lsw {hd:List Ent} {b:Bool} {v:Value} {j:Int} {x:Operand} {t:TypeId} {fr:Fr} {A:List Nat} {as:List (List Nat)} {d:Nat} {ty:TypeId} {ops:List Oper} {i:Nat} {sl:List (Nat×Nat×Value)} {ms:List MemD} {Γ:List Ent} {m:Option (Out S R)} (hw:WhE hd v b) (h:AD tq P cx K l tail base U hd (.lb b v j fr t x A d ty as ops i sl ms Γ m)):AD tq P cx K l tail base U hd (.la fr (elA v 1 j) none t x A d ty as ops i sl ms Γ m)
 | lel {hd:List Ent} {α:Type} {A:List Nat} {as:List (List Nat)} {d:Nat} {x:Operand} {v:Value} {j:Int} {o:Bool} {E:STy α} {z:α} {t ty:TypeId} {ops:List Oper} {i:Nat} {sl:List (Nat×Nat×Value)} {ms:List MemD} {fr:Fr} {Γ Γx:List Ent} {m:Option (Out S R)} (h:FndA Γ (elA v 1 j) o E z noE Γx)
   (k:AD tq P cx K l tail base U hd (.ld E z fr (elA v 1 j) t x A d ty as ops i sl ms Γ m)):AD tq P cx K l tail base U hd (.lb false v j fr t x A d ty as ops i sl ms Γ m)
 | ldsH {hd:List Ent} {α:Type} {A:List Nat} {as:List (List Nat)} {d:Nat} {x:Operand} {v:Value} {j:Int} {E:STy α} {z:List α} {o:Bool} {t ty:TypeId} {ops:List Oper} {i:Nat} {sl:List (Nat×Nat×Value)} {ms:List MemD} {fr:Fr} {Γ:List Ent} {hd1 hd':Value→List Ent} {m:Option (Out S R)} (hV:((U.zipIdx.all fun p=>!(p.1.contains l.length) || ((ancs l).getD p.2 []).contains i))=true) (h:∀ u,FndA hd (elA v 1 j) o (aE E) z (.rd o (aE E) u z) (hd1 u)) (h2:∀ u,FndH (hd1 u) v j u (hd' u))
   (k:∀ u,AD tq P cx K l tail base U (hd' u) (.a as ops (i+1) ((i,d,u) :: sl) ms Γ m)):AD tq P cx K l tail base U hd (.lb true v j fr t x A d ty as ops i sl ms Γ m)
 | lce {hd:List Ent} {A:List Nat} {as:List (List Nat)} {d:Nat} {x:Operand} {a:Addr} {u:Value} {t ty:TypeId} {ops:List Oper} {i:Nat} {sl:List (Nat×Nat×Value)} {ms:List MemD} {fr:Fr} {Γ:List Ent} {m:Option (Out S R)} (h:FndC Γ a u)
   (k:AD tq P cx K l tail base U hd (.a as ops (i+1) ((i,d,u) :: sl) ms Γ m)):AD tq P cx K l tail base U hd (.la fr a none t x A d ty as ops i sl ms Γ m)
 | las {hd:List Ent} {A:List Nat} {as:List (List Nat)} {d n:Nat} {x:Operand} {a:Addr} {ds:List Value} {t ty:TypeId} {ops:List Oper} {i:Nat} {sl:List (Nat×Nat×Value)} {ms:List MemD} {fr:Fr} {Γ:List Ent} {m:Option (Out S R)} (h:FndW Γ a n ds)
   (k:AD tq P cx K l tail base U hd (.a as ops (i+1) ((i,d,.agg ds.toArray) :: sl) ms Γ m)):AD tq P cx K l tail base U hd (.la fr a (some n) t x A d ty as ops i sl ms Γ m)
 | ldi {hd:List Ent} {A:List Nat} {as:List (List Nat)} {d:Nat} {x:Operand} {a:Addr} {k:IntKind} {z:Int} {t ty:TypeId} {ops:List Oper} {i:Nat} {sl:List (Nat×Nat×Value)} {ms:List MemD} {fr:Fr} {Γ:List Ent} {m:Option (Out S R)}
   (h:AD tq P cx K l tail base U hd (.a as ops (i+1) ((i,d,.int k z) :: sl) ms Γ m)):AD tq P cx K l tail base U hd (.ld (aC k) z fr a t x A d ty as ops i sl ms Γ m)
 | ldb {hd:List Ent} {A:List Nat} {as:List (List Nat)} {d:Nat} {x:Operand} {a:Addr} {z:Bool} {t ty:TypeId} {ops:List Oper} {i:Nat} {sl:List (Nat×Nat×Value)} {ms:List MemD} {fr:Fr} {Γ:List Ent} {m:Option (Out S R)}
   (h:AD tq P cx K l tail base U hd (.a as ops (i+1) ((i,d,.bool z) :: sl) ms Γ m)):AD tq P cx K l tail base U hd (.ld sBool z fr a t x A d ty as ops i sl ms Γ m)
 | lds {hd:List Ent} {α:Type} {A:List Nat} {as:List (List Nat)} {d:Nat} {x:Operand} {v:Value} {j:Int} {E:STy α} {z:List α} {o:Bool} {t ty:TypeId} {ops:List Oper} {i:Nat} {sl:List (Nat×Nat×Value)} {ms:List MemD} {fr:Fr} {Γ:List Ent} {Γ1 Γ':Value→List Ent} {m:Option (Out S R)} (h:∀ u,FndA Γ (elA v 1 j) o (aE E) z (.rd o (aE E) u z) (Γ1 u)) (h2:∀ u,FndH (Γ1 u) v j u (Γ' u))
   (k:∀ u,AD tq P cx K l tail base U hd (.a as ops (i+1) ((i,d,u) :: sl) ms (Γ' u) m)):AD tq P cx K l tail base U hd (.ld (aE E) z fr (elA v 1 j) t x A d ty as ops i sl ms Γ m)
 | cal {hd:List Ent} {us:List Nat} {A:List Nat} {as:List (List Nat)} {d:Nat} {f:FuncId} {xs:List Operand} {ats:Array TypeId} {ty:TypeId} {ops:List Oper} {i:Nat} {sl:List (Nat×Nat×Value)} {ms:List MemD} {Γ:List Ent} {m:Option (Out S R)} (hU:U.getD i []=us) (h:AD tq P cx K l tail base U hd (.oc us f xs ats A d ty as ops i sl ms Γ m)):AD tq P cx K l tail base U hd (.o A (.call ⟨.value (.func f),xs.toArray,ats⟩) d ty as ops i sl ms Γ m)
 | call {hd:List Ent} {β V:Type} {A:List Nat} {as:List (List Nat)} {d:Nat} {f:FuncId} {xs:List Operand} {ats:Array TypeId} {ty:TypeId} {mo:Option β} {rt:β→V→List Value} {ps:β→V→List Ent} {ops:List Oper} {i:Nat} {sl:List (Nat×Nat×Value)} {ms:List MemD} {fr:Fr} {Γ:List Ent} {g:β→Option (Out S R)} [hf:FnC P f]
   (hv:eY A none sl base fr) (hc:∀ x:Xof ms,CallD P f xs (visF A ms x++fr) (visE A ms x++Γ) mo rt ps) (hi:InhX ms) (hsrc:srcB A ms=true) (ho:∀ y v,owB (ps y v)=true)
   (h:∀ y,AD tq P cx K l tail base U hd (.cr (fun v=>tupv (rt y v)) (ps y) d as ops i sl ms Γ (g y))):AD tq P cx K l tail base U hd (.oc [] f xs ats A d ty as ops i sl ms Γ (mo>>=g))
 | callH {hd:List Ent} {β V:Type} {A:List Nat} {as:List (List Nat)} {d:Nat} {f:FuncId} {xs:List Operand} {ats:Array TypeId} {ty:TypeId} {mo:Option β} {rt:β→V→List Value} {ps:β→V→List Ent} {ops:List Oper} {i:Nat} {sl:List (Nat×Nat×Value)} {ms:List MemD} {fr:Fr} {Γ:List Ent} {g:β→Option (Out S R)} [hf:FnC P f]
   (hV:((U.set i []).all fun us=>!(us.contains l.length))=true) (hv:eY A none sl base fr) (hc:∀ x:Xof ms,CallH P f xs (visF A ms x++fr) hd (visE A ms x++Γ) mo rt ps) (hi:InhX ms) (hsrc:srcB A ms=true) (ho:∀ y v,owB (ps y v)=true)
   (h:∀ y,AD tq P cx K l tail base U hd (.cr (fun v=>tupv (rt y v)) (ps y) d as ops i sl ms Γ (g y))):AD tq P cx K l tail base U hd (.oc [l.length] f xs ats A d ty as ops i sl ms Γ (mo>>=g))
 | callM {hd:List Ent} {β V:Type} {j1:Nat} {a1:MemD} {ms1:List MemD} {A:List Nat} {as:List (List Nat)} {d:Nat} {f:FuncId} {xs:List Operand} {ats:Array TypeId} {ty:TypeId} {mo:Option β} {rt:β→V→List Value} {ps:β→V→List Ent} {ops:List Oper} {i:Nat} {sl:List (Nat×Nat×Value)} {ms:List MemD} {fr:Fr} {Γ:List Ent} {g:β→Option (Out S R)} [hf:FnC P f]
   (h1:GetJ ms j1 a1 ms1) (hs1:a1.src=[]) (h4:memB j1 A=true) (hv:eY A none sl base fr) (hc:∀ (q:a1.V) (x:Xof ms1),CallH P f xs (visF A ms1 x++fr) (a1.ps undef q) (visE A ms1 x++Γ) mo rt ps) (hi:InhX ms1) (hsrc:srcB A ms1=true) (ho:∀ y v,owB (ps y v)=true)
   (h:∀ y,AD tq P cx K l tail base U hd (.cr (fun v=>tupv (rt y v)) (ps y) d as ops i (reSl j1 i sl) ms1 Γ (g y))):AD tq P cx K l tail base U hd (.oc [j1] f xs ats A d ty as ops i sl ms Γ (mo>>=g))
 | crv {hd:List Ent} {u:Unit→Value} {d:Nat} {as:List (List Nat)} {ops:List Oper} {i:Nat} {sl:List (Nat×Nat×Value)} {ms:List MemD} {Γ:List Ent} {m:Option (Out S R)} (h:AD tq P cx K l tail base U hd (.a as ops (i+1) ((i,d,u ()) :: sl) ms Γ m)):AD tq P cx K l tail base U hd (.cr u (fun _=>[]) d as ops i sl ms Γ m)
 | crb {hd:List Ent} {u:Unit→Value} {ps:Unit→List Ent} {d:Nat} {as:List (List Nat)} {ops:List Oper} {i:Nat} {sl:List (Nat×Nat×Value)} {ms:List MemD} {Γ:List Ent} {m:Option (Out S R)} (h:AD tq P cx K l tail base U hd (.a as ops (i+1) ((i,d,u ()) :: sl) (⟨i,d,[],Unit,fun _=>u,fun _=>ps⟩ :: ms) Γ m)):AD tq P cx K l tail base U hd (.cr u ps d as ops i sl ms Γ m)
 | crm {hd:List Ent} {V:Type} {u:V→Value} {ps:V→List Ent} {d:Nat} {as:List (List Nat)} {ops:List Oper} {i:Nat} {sl:List (Nat×Nat×Value)} {ms:List MemD} {Γ:List Ent} {m:Option (Out S R)} (h:AD tq P cx K l tail base U hd (.a as ops (i+1) sl (⟨i,d,[],V,fun _=>u,fun _=>ps⟩ :: ms) Γ m)):AD tq P cx K l tail base U hd (.cr u ps d as ops i sl ms Γ m)
 | val {hd:List Ent} {A:List Nat} {as:List (List Nat)} {op:Op} {d:Nat} {ty:TypeId} {u:Value} {ops:List Oper} {i:Nat} {sl:List (Nat×Nat×Value)} {ms:List MemD} {fr:Fr} {Γ:List Ent} {m:Option (Out S R)} (hv:eY A none sl base fr) (hq:VQ P Γ fr op u)
   (h:AD tq P cx K l tail base U hd (.a as ops (i+1) ((i,d,u) :: sl) ms Γ m)):AD tq P cx K l tail base U hd (.o A op d ty as ops i sl ms Γ m)
 | ari {hd:List Ent} {A:List Nat} {as:List (List Nat)} {op:BinOp} {x y:Operand} {k k':IntKind} {a b:Int} {t t':TypeId} {d:Nat} {ty:TypeId} {ops:List Oper} {i:Nat} {sl:List (Nat×Nat×Value)} {ms:List MemD} {fr:Fr} {Γ:List Ent} {f:Int→Option (Out S R)} (hv:eY A none sl base fr) (hx:opv fr x=some (.int k a)) (hy:opv fr y=some (.int k' b)) (hk:AoK op k k')
   (h:∀ z,AD tq P cx K l tail base U hd (.a as ops (i+1) ((i,d,.int k z) :: sl) ms Γ (f z))):AD tq P cx K l tail base U hd (.o A (.binOp op t x y t') d ty as ops i sl ms Γ (aop op k a b>>=f))
 | ixk {hd:List Ent} {α β:Type} {A:List Nat} {as:List (List Nat)} {d:Nat} {x y:Operand} {v:Value} {k:IntKind} {j:Int} {t ty:TypeId} {o1 o2 p1 p2:Bool} {E:STy α} {E2:STy β} {z:β} {xs:List α} {ops:List Oper} {i:Nat} {sl:List (Nat×Nat×Value)} {ms:List MemD} {fr:Fr} {Γ Γx:List Ent} {m:Option (Out S R)} [ht:SLc P t]
   (hy:opv fr y=some (.int k j)) (hr:Fnd Γ v o1 o2 E xs noE Γx) (hi:In (.ad p1 p2 v j E2 z) Γ) (hE:E.size=1)
   (h:AD tq P cx K l tail base U hd (.a as ops (i+1) ((i,d,.pointer (some (elA v 1 j))) :: sl) ms Γ m)):AD tq P cx K l tail base U hd (.ix false v fr x y t A d ty as ops i sl ms Γ m)
 | pz {hd:List Ent} {as:List (List Nat)} {ops:List Oper} {i:Nat} {sl:List (Nat×Nat×Value)} {ms:List MemD} {Γ:List Ent} {m:Option (Out S R)} (h:AD tq P cx K l tail base U hd (.a as ops i sl ms Γ m)):AD tq P cx K l tail base U hd (.p [] as ops i sl ms Γ m)
 | pe {hd:List Ent} {e:Ent} {Δ:List Ent} {as:List (List Nat)} {ops:List Oper} {i:Nat} {sl:List (Nat×Nat×Value)} {ms:List MemD} {Γ:List Ent} {m:Option (Out S R)} (h:AD tq P cx K l tail base U hd (.p Δ as ops i sl ms (e :: Γ) m)):AD tq P cx K l tail base U hd (.p (e :: Δ) as ops i sl ms Γ m)
 | idxS {hd:List Ent} {α V:Type} {Sc:STy α} {cl:α→V→List Value} {en:α→V→List Ent} {A:List Nat} {as:List (List Nat)} {d n:Nat} {x y:Operand} {v:Value} {xs:List α} {k:IntKind} {j:Int} {t ty:TypeId} {ops:List Oper} {i:Nat} {sl:List (Nat×Nat×Value)} {ms:List MemD} {fr:Fr} {Γ Γx:List Ent} {f:α→Option (Out S R)} [ht:SNc P t n]
   (hy:opv fr y=some (.int k j)) (hr:Fnd Γ v false false (sStr Sc) xs noE Γx) (hs:SOc Sc V cl en) (hn:Sc.size=n)
   (h:∀ z u,AD tq P cx K l tail base U hd (.p (.ats (elA v n j) (cl z u) :: en z u) as ops (i+1) ((i,d,.pointer (some (elA v n j))) :: sl) ms Γ (f z))):AD tq P cx K l tail base U hd (.ix false v fr x y t A d ty as ops i sl ms Γ (idx xs j>>=f))
 | idxG {hd:List Ent} {α V:Type} {Sc:STy α} {cl:α→V→List Value} {en:α→V→List Ent} {A:List Nat} {as:List (List Nat)} {d n e bt:Nat} {x y:Operand} {v:Value} {us:List (List Value)} {xs:List α} {k:IntKind} {j:Int} {t ty:TypeId} {ops:List Oper} {i:Nat} {sl:List (Nat×Nat×Value)} {ms:List MemD} {fr:Fr} {Γ Γ1:List Ent} {f:α→Option (Out S R)} [ht:SBc P t e n bt]
   (hy:opv fr y=some (.int k j)) (h1:Sel Γ (.own (aK e (sCel n)) v us) Γ1) (hg:In (.rd false (sGh Sc) (.bool true) (us,xs)) Γ) (hs:SOc Sc V cl en)
   (h:∀ z u,AD tq P cx K l tail base U hd (.p (.rd false (sPu us j) (.bool true) (cl z u) :: en z u) as ops (i+1) ((i,d,.pointer (some (elA v n j))) :: sl) ms Γ (f z))):AD tq P cx K l tail base U hd (.ix false v fr x y t A d ty as ops i sl ms Γ (idx xs j>>=f))
 | laG {hd:List Ent} {A:List Nat} {as:List (List Nat)} {d n e off:Nat} {x:Operand} {v u:Value} {us:List (List Value)} {j:Int} {cs:List Value} {t ty:TypeId} {ops:List Oper} {i:Nat} {sl:List (Nat×Nat×Value)} {ms:List MemD} {fr:Fr} {Γ Γ1:List Ent} {m:Option (Out S R)} (h1:Sel Γ (.own (aK e (sCel n)) v us) Γ1) (hp:In (.rd false (sPu us j) (.bool true) cs) Γ) (hc:cs[off]? = some u)
   (k:AD tq P cx K l tail base U hd (.a as ops (i+1) ((i,d,u) :: sl) ms Γ m)):AD tq P cx K l tail base U hd (.la fr ((elA v n j).add off) none t x A d ty as ops i sl ms Γ m)
 | laG0 {hd:List Ent} {A:List Nat} {as:List (List Nat)} {d n e:Nat} {x:Operand} {v u:Value} {us:List (List Value)} {j:Int} {cs:List Value} {t ty:TypeId} {ops:List Oper} {i:Nat} {sl:List (Nat×Nat×Value)} {ms:List MemD} {fr:Fr} {Γ Γ1:List Ent} {m:Option (Out S R)} (h1:Sel Γ (.own (aK e (sCel n)) v us) Γ1) (hp:In (.rd false (sPu us j) (.bool true) cs) Γ) (hc:cs[0]? = some u)
   (k:AD tq P cx K l tail base U hd (.a as ops (i+1) ((i,d,u) :: sl) ms Γ m)):AD tq P cx K l tail base U hd (.la fr (elA v n j) none t x A d ty as ops i sl ms Γ m)
 | callR {hd:List Ent} {β V:Type} {A:List Nat} {as:List (List Nat)} {d:Nat} {f:FuncId} {xs:List Operand} {ats:Array TypeId} {ty:TypeId} {mo:Option β} {rt:β→V→List Value} {ps:β→V→List Ent} {ops:List Oper} {i:Nat} {sl:List (Nat×Nat×Value)} {ms:List MemD} {fr:Fr} {Γ:List Ent} {g:β→Option (Out S R)} [hf:FnC P f]
   (hv:eY A none sl base fr) (hc:∀ x:Xof ms,CallR P f xs (visF A ms x++fr) Γ mo rt ps) (hi:InhX ms) (hsrc:srcB A ms=true)
   (h:∀ y,AD tq P cx K l tail base U hd (.cr (fun v=>tupv (rt y v)) (ps y) d as ops i sl ms Γ (g y))):AD tq P cx K l tail base U hd (.oc [] f xs ats A d ty as ops i sl ms Γ (mo>>=g))
 | callHR {hd:List Ent} {β V:Type} {A:List Nat} {as:List (List Nat)} {d:Nat} {f:FuncId} {xs:List Operand} {ats:Array TypeId} {ty:TypeId} {mo:Option β} {rt:β→V→List Value} {ps:β→V→List Ent} {ops:List Oper} {i:Nat} {sl:List (Nat×Nat×Value)} {ms:List MemD} {fr:Fr} {Γ:List Ent} {g:β→Option (Out S R)} [hf:FnC P f]
   (hV:((U.set i []).all fun us=>!(us.contains l.length))=true) (hv:eY A none sl base fr) (hc:∀ x:Xof ms,CallHR P f xs (visF A ms x++fr) hd Γ mo rt ps) (hi:InhX ms) (hsrc:srcB A ms=true)
   (h:∀ y,AD tq P cx K l tail base U hd (.cr (fun v=>tupv (rt y v)) (ps y) d as ops i sl ms Γ (g y))):AD tq P cx K l tail base U hd (.oc [l.length] f xs ats A d ty as ops i sl ms Γ (mo>>=g))
 | callMR {hd:List Ent} {β V:Type} {j1:Nat} {a1:MemD} {ms1:List MemD} {A:List Nat} {as:List (List Nat)} {d:Nat} {f:FuncId} {xs:List Operand} {ats:Array TypeId} {ty:TypeId} {mo:Option β} {rt:β→V→List Value} {ps:β→V→List Ent} {ops:List Oper} {i:Nat} {sl:List (Nat×Nat×Value)} {ms:List MemD} {fr:Fr} {Γ:List Ent} {g:β→Option (Out S R)} [hf:FnC P f]
   (h1:GetJ ms j1 a1 ms1) (hs1:a1.src=[]) (h4:memB j1 A=true) (hv:eY A none sl base fr) (hc:∀ (q:a1.V) (x:Xof ms1),CallHR P f xs ((a1.d,a1.rt undef q) :: (visF A ms1 x++fr)) (a1.ps undef q) Γ mo rt ps) (hi:InhX ms1) (hsrc:srcB A ms1=true)
   (h:∀ y,AD tq P cx K l tail base U hd (.cr (fun v=>tupv (rt y v)) (ps y) d as ops i (reSl j1 i sl) ms1 Γ (g y))):AD tq P cx K l tail base U hd (.oc [j1] f xs ats A d ty as ops i sl ms Γ (mo>>=g))
 | slH {hd:List Ent} {α:Type} {o:Bool} {A:List Nat} {as:List (List Nat)} {d:Nat} {x lo hi:Operand} {v:Value} {k1 k2:IntKind} {a b:Int} {E T:STy α} {xs:List α} {t e ty:TypeId} {ops:List Oper} {i:Nat} {sl:List (Nat×Nat×Value)} {ms:List MemD} {fr:Fr} {Γ Γ1:List Ent} {Γ':Value→List α→List Ent} {f:List α→Option (Out S R)} [ht:SLc P t]
   (hv:eY A none sl base fr) (hx:opv fr x=some v) (hlo:opv fr lo=some (.int k1 a)) (hhi:opv fr hi=some (.int k2 b)) (hc:Sel Γ (.own (aK e T) v xs) Γ1) (hr:∀ v' ys,Fnd Γ v o o E xs (.rd o (aE E) v' ys) (Γ' v' ys)) (hE:E.size=1)
   (h:∀ v' ys,AD tq P cx K l tail base U hd (.a as ops (i+1) ((i,d,v') :: sl) ms (Γ' v' ys) (f ys))):AD tq P cx K l tail base U hd (.o A (.slice t x (some lo) (some hi) none) d ty as ops i sl ms Γ (cutL xs a b>>=f))
 | apR {o1 o2:Bool} {yv:Value} {fr:Fr} {Γx:List Ent} {hd:List Ent} {us:List Nat} {t e:TypeId} {E:STy Int} {z0:Int} {bt t1 t2:Nat} {k:IntKind} {xs ys:List Int} {a1:MemD} {ms1:List MemD} {f:Unit→Option (Out S R)} {A:List Nat} {as:List (List Nat)} {d:Nat} {ty:TypeId} {ops:List Oper} {i:Nat} {sl:List (Nat×Nat×Value)} {ms:List MemD} {Γ:List Ent} [hz:STc P t Int e E z0 bt] (h1:GetD ms t1 a1 ms1) (h3:∀ u v,a1.ps u v=[.own (aK e (aC k)) (a1.rt u v) xs]) (hu:us=[a1.j]) (h4:memB a1.j A=true) (hv:eY A none sl base fr) (hx:look fr t2=some yv) (hr:Fnd Γ yv o1 o2 (aC k) ys noE Γx)
   (h:AD tq P cx K l tail base U hd (.a as ops (i+1) sl (⟨i,d,[],Value,fun _ v=>v,fun _ v=>[.own (aK e (aC k)) v (xs++ys)]⟩ :: ms1) Γ (f ()))):AD tq P cx K l tail base U hd (.ap us t1 t2 t A d ty as ops i sl ms Γ (fits bt (xs.length+ys.length)>>=f))
 | apO {e2:TypeId} {a2:MemD} {ms2:List MemD} {hd:List Ent} {us:List Nat} {t e:TypeId} {E:STy Int} {z0:Int} {bt t1 t2:Nat} {k:IntKind} {xs ys:List Int} {a1:MemD} {ms1:List MemD} {f:Unit→Option (Out S R)} {A:List Nat} {as:List (List Nat)} {d:Nat} {ty:TypeId} {ops:List Oper} {i:Nat} {sl:List (Nat×Nat×Value)} {ms:List MemD} {Γ:List Ent} [hz:STc P t Int e E z0 bt] (h1:GetD ms t1 a1 ms1) (h3:∀ u v,a1.ps u v=[.own (aK e (aC k)) (a1.rt u v) xs]) (hu:us=[a1.j]) (h4:memB a1.j A=true) (h2:GetD ms1 t2 a2 ms2) (h7:∀ u v,a2.ps u v=[.own (aK e2 (aC k)) (a2.rt u v) ys]) (h5:memB a2.j A=true)
   (h:AD tq P cx K l tail base U hd (.a as ops (i+1) sl (⟨i,d,[],Value,fun _ v=>v,fun _ v=>[.own (aK e (aC k)) v (xs++ys)]⟩ :: ms1) Γ (f ()))):AD tq P cx K l tail base U hd (.ap us t1 t2 t A d ty as ops i sl ms Γ (fits bt (xs.length+ys.length)>>=f))
end Go.Dk
namespace Go.Dk
open Go Go.Li
theorem memB_iff {t:Nat} {l:List Nat}:memB t l=true↔t∈l:=by
 induction l with
 | nil=>simp [memB]
 | cons a l ih=>
  unfold memB
  cases hb:Nat.beq t a with
  | true=>simp [Nat.eq_of_beq_eq_true hb]
  | false=>simp only [cond_false,ih,List.mem_cons]; exact ⟨.inr,fun h=>h.resolve_left fun e=>by rw [e,Nat.beq_refl] at hb; cases hb⟩
def visl (l:List Oper) (U:List (List Nat)) (mt:Nat):List (List Nat):=(List.range mt).map fun i=>((ancs l).getD i []).filter (needB l U mt i)
theorem vis_mem {l:List Oper} {U:List (List Nat)} {mt i j:Nat} (h:j∈(visl l U mt).getD i []):j∈(ancs l).getD i []∧needB l U mt i j=true:=by
 unfold visl at h
 rw [List.getD_eq_getElem?_getD,List.getElem?_map] at h
 by_cases hi:i < mt
 ·rw [List.getElem?_range hi] at h
  exact List.mem_filter.1 h
 ·rw [List.getElem?_eq_none (by simpa using hi)] at h
  exact absurd h List.not_mem_nil
variable {Z:Nat→Prop}
structure RelS (Z:Nat→Prop) (l:List Oper) (S:List Gives) (sl:List (Nat×Nat×Value)) (ms:List MemD):Prop where
 v:∀ p∈sl,∃ j,(j=p.1∨j∈(ancs l).getD p.1 [])∧dstAt l j=some p.2.1∧∃ s,S[j]? = some s∧s.b=true∧∀ f w r x,s.V f w r x→x=p.2.2
 m:∀ a∈ms,(S[a.j]? = some ⟨true,MV Z a⟩∧dstAt l a.j=some a.d)∨(S[a.j]? = some ⟨true,MVn Z a⟩∧dstAt l a.j=none∧∃ k∈(ancs l).getD a.j [],dstAt l k=some a.d)
 s:∀ i s,S[i]? = some s→StN Z ((ancs l).getD i []) l s
 d:(ms.map (·.j)).Nodup
 t:∀ i j k,j∈(ancs l).getD k []→k∈(ancs l).getD i []→j∈(ancs l).getD i []
theorem RelS.lt {l:List Oper} {S:List Gives} {sl:List (Nat×Nat×Value)} {ms:List MemD} (h:RelS Z l S sl ms) {a:MemD} (ha:a∈ms):a.j < S.length:=by
 rcases h.m a ha with h | h <;> exact (List.getElem?_eq_some_iff.1 h.1).1
theorem RelS.got {l:List Oper} {S S2:List Gives} {sl:List (Nat×Nat×Value)} {ms:List MemD} (h:RelS Z l S sl ms) {a:MemD} (ha:a∈ms) {g:Nat→List Nat} {r:Nat→Value} {w:World} (hd:Done l (S++S2) a.j g r w):MV Z a (g a.j) w r (r a.d):=by
 rcases h.m a ha with h1 | h1
 ·have h2:=hd.1 a.d h1.2
  rw [List.getElem?_append_left (List.getElem?_eq_some_iff.1 h1.1).1,h1.1] at h2
  exact h2
 ·obtain ⟨x,hx⟩:=hd.2 h1.2.1 _ (by rw [List.getElem?_append_left (List.getElem?_eq_some_iff.1 h1.1).1]; exact h1.1) rfl
  exact hx
theorem RelS.slot {l:List Oper} {S:List Gives} {sl:List (Nat×Nat×Value)} {ms:List MemD} (h:RelS Z l S sl ms) {a:MemD} (ha:a∈ms) {i:Nat} (hi:a.j∈(ancs l).getD i []):∃ k∈(ancs l).getD i [],dstAt l k=some a.d:=by
 rcases h.m a ha with h1 | ⟨_,_,k,hk,hd⟩
 ·exact ⟨a.j,hi,h1.2⟩
 ·exact ⟨k,h.t i k a.j hk hi,hd⟩
theorem RelS.old {l:List Oper} {S S2:List Gives} {sl:List (Nat×Nat×Value)} {ms:List MemD} (h:RelS Z l S sl ms) {a:MemD} (ha:a∈ms):((S++S2)[a.j]? = some ⟨true,MV Z a⟩∧dstAt l a.j=some a.d)∨((S++S2)[a.j]? = some ⟨true,MVn Z a⟩∧dstAt l a.j=none∧∃ k∈(ancs l).getD a.j [],dstAt l k=some a.d):=by
 rw [List.getElem?_append_left (h.lt ha)]
 exact h.m a ha
theorem RelS.oldv {l:List Oper} {S S2:List Gives} {sl:List (Nat×Nat×Value)} {ms:List MemD} (h:RelS Z l S sl ms) {p:Nat×Nat×Value} (hp:p∈sl):∃ j,(j=p.1∨j∈(ancs l).getD p.1 [])∧dstAt l j=some p.2.1∧∃ s,(S++S2)[j]? = some s∧s.b=true∧∀ f w r x,s.V f w r x→x=p.2.2:=by
 obtain ⟨j,hj,h1,s,h2,h3⟩:=h.v p hp
 exact ⟨j,hj,h1,s,by rw [List.getElem?_append_left (List.getElem?_eq_some_iff.1 h2).1]; exact h2,h3⟩
theorem RelS.see {l:List Oper} {S S2:List Gives} {sl:List (Nat×Nat×Value)} {ms:List MemD} (h:RelS Z l S sl ms) {p:Nat×Nat×Value} (hp:p∈sl) {r:Nat→Value} (ho:∀ j,(j=p.1∨j∈(ancs l).getD p.1 [])→j < S.length→Old l (S++S2) j r):r p.2.1=p.2.2:=by
 obtain ⟨j,hj,h1,s,h2,h3,h4⟩:=h.v p hp
 have hl:=(List.getElem?_eq_some_iff.1 h2).1
 have:=ho j hj hl _ h1 s (by rw [List.getElem?_append_left hl]; exact h2)
 rw [if_pos h3] at this
 obtain ⟨f,w,hV⟩:=this
 exact h4 f w r _ hV
theorem RelS.val {l:List Oper} {S:List Gives} {sl:List (Nat×Nat×Value)} {ms:List MemD} (h:RelS Z l S sl ms) {d:Nat} {u:Value} (hd:dstAt l S.length=some d):RelS Z l (S++[sV u]) ((S.length,d,u) :: sl) ms:=by
 refine ⟨?_,fun a ha=>h.old ha,?_,h.d,h.t⟩
 ·intro p hp
  rcases List.mem_cons.1 hp with rfl | hp
  ·exact ⟨S.length,.inl rfl,hd,sV u,by simp,rfl,fun _ _ _ _ h=>h⟩
  ·exact h.oldv hp
 ·intro i s hs
  by_cases hi:i < S.length
  ·rw [List.getElem?_append_left hi] at hs; exact h.s i s hs
  ·rw [List.getElem?_append_right (by omega)] at hs
   have hi0:i - S.length=0:=by
    have:=(List.getElem?_eq_some_iff.1 hs).1
    simp at this; omega
   rw [hi0] at hs
   cases hs
   exact Stab.n stable_val
theorem RelS.mem {l:List Oper} {S:List Gives} {sl:List (Nat×Nat×Value)} {ms:List MemD} (h:RelS Z l S sl ms) {b:MemD} (hj:b.j=S.length) (hd:dstAt l S.length=some b.d) (hsr:∀ t∈b.src,∃ j∈(ancs l).getD S.length [],dstAt l j=some t):RelS Z l (S++[⟨true,MV Z b⟩]) sl (b :: ms):=by
 have hlt:∀ a∈ms,a.j < S.length:=fun a ha=>h.lt ha
 refine ⟨fun p hp=>?_,?_,?_,?_,h.t⟩
 ·exact h.oldv hp
 ·intro a ha
  rcases List.mem_cons.1 ha with rfl | ha
  ·exact .inl ⟨by rw [hj]; simp,by rw [hj]; exact hd⟩
  ·exact h.old ha
 ·intro i s hs
  by_cases hi:i < S.length
  ·rw [List.getElem?_append_left hi] at hs; exact h.s i s hs
  ·rw [List.getElem?_append_right (by omega)] at hs
   have hi0:i - S.length=0:=by
    have:=(List.getElem?_eq_some_iff.1 hs).1
    simp at this; omega
   have hi1:i=S.length:=by omega
   rw [hi0] at hs
   cases hs
   rw [hi1]
   exact stable_mv hsr
 ·rw [List.map_cons,List.nodup_cons]
  refine ⟨fun hm=>?_,h.d⟩
  obtain ⟨a,ha,he⟩:=List.mem_map.1 hm
  have:=hlt a ha
  omega
theorem RelS.addv {l:List Oper} {S:List Gives} {sl:List (Nat×Nat×Value)} {ms:List MemD} (h:RelS Z l S sl ms) {j d:Nat} {u:Value} (hd:dstAt l j=some d) {s:Gives} (hs:S[j]? = some s) (hb:s.b=true) (hV:∀ f w r x,s.V f w r x→x=u):RelS Z l S ((j,d,u) :: sl) ms:=
 ⟨fun p hp=>by
  rcases List.mem_cons.1 hp with rfl | hp
  ·exact ⟨j,.inl rfl,hd,s,hs,hb,hV⟩
  ·exact h.v p hp,h.m,h.s,h.d,h.t⟩
theorem RelS.re {l:List Oper} {S:List Gives} {sl:List (Nat×Nat×Value)} {ms:List MemD} (h:RelS Z l S sl ms) {j i:Nat} (hj:j∈(ancs l).getD i []):RelS Z l S (reSl j i sl) ms:=by
 refine ⟨fun p hp=>?_,h.m,h.s,h.d,h.t⟩
 obtain ⟨q,hq,rfl⟩:=List.mem_map.1 hp
 obtain ⟨k,hk,h1⟩:=h.v q hq
 cases hb:Nat.beq q.1 j with
 | false=>exact ⟨k,hk,h1⟩
 | true=>
  refine ⟨k,.inr ?_,h1⟩
  have hq1:=Nat.eq_of_beq_eq_true hb
  show k∈(ancs l).getD i []
  rcases hk with rfl | hk
  ·rw [hq1]; exact hj
  ·rw [hq1] at hk; exact h.t i k j hk hj
theorem RelS.memN {l:List Oper} {S:List Gives} {sl:List (Nat×Nat×Value)} {ms:List MemD} (h:RelS Z l S sl ms) {b:MemD} (hj:b.j=S.length) (hd:dstAt l S.length=none) (hk:∃ k∈(ancs l).getD S.length [],dstAt l k=some b.d) (hsr:b.src=[]):RelS Z l (S++[⟨true,MVn Z b⟩]) sl (b :: ms):=by
 have hlt:∀ a∈ms,a.j < S.length:=fun a ha=>h.lt ha
 refine ⟨fun p hp=>?_,?_,?_,?_,h.t⟩
 ·exact h.oldv hp
 ·intro a ha
  rcases List.mem_cons.1 ha with rfl | ha
  ·exact .inr ⟨by rw [hj]; simp,by rw [hj]; exact hd,by rw [hj]; exact hk⟩
  ·exact h.old ha
 ·intro i s hs
  by_cases hi:i < S.length
  ·rw [List.getElem?_append_left hi] at hs; exact h.s i s hs
  ·rw [List.getElem?_append_right (by omega)] at hs
   have hi0:i - S.length=0:=by
    have:=(List.getElem?_eq_some_iff.1 hs).1
    simp at this; omega
   have hi1:i=S.length:=by omega
   rw [hi0] at hs
   cases hs
   rw [hi1]
   exact stable_mvn hk fun t ht=>by rw [hsr] at ht; cases ht
 ·rw [List.map_cons,List.nodup_cons]
  refine ⟨fun hm=>?_,h.d⟩
  obtain ⟨a,ha,he⟩:=List.mem_map.1 hm
  have:=hlt a ha
  omega
theorem agr_base {l:List Oper} {m:Nat} {base:Fr} {r r0:Nat→Value} (hh:hotB l m base=true) (ha:agr r0 base) (ho:∀ t,(∀ j,j < m→dstAt l j≠some t)→r t=r0 t):agr r base:=by
 intro t v hl
 have hm:∃ u,(t,u)∈base:=by
  clear hh ha
  induction base with
  | nil=>cases hl
  | cons p base ih=>
   obtain ⟨a,u⟩:=p
   unfold look at hl
   cases hb:Nat.beq t a with
   | true=>exact ⟨u,by rw [Nat.eq_of_beq_eq_true hb]; simp⟩
   | false=>rw [hb] at hl; obtain ⟨u',h⟩:=ih hl; exact ⟨u',by simp [h]⟩
 obtain ⟨u,hu⟩:=hm
 rw [ho t fun j hj=>hotB_spec hh (t,u) hu j hj]
 exact ha t v hl
section
variable {P:Program} {l:List Oper} {mt:Nat} {S:List Gives} {sl:List (Nat×Nat×Value)} {ms:List MemD} {base fr:Fr} {r r0:Nat→Value} {w w0:World} {g:Nat→List Nat} {i:Nat} {A:List Nat} {U:List (List Nat)}
theorem agr_vis (hR:RelS Z l S sl ms) (hA:A=(visl l U mt).getD i []) (hv:eY A none sl base fr) (hb:agr r base) {S':List Gives} (hO:∀ j∈(ancs l).getD i [],Old l (S++S') j r):agr r fr:=by
 refine hv.sound hb ?_ (fun _ _ _ h=>nomatch h)
 intro p hp hm
 have hi:=(vis_mem (by rw [← hA]; exact memB_iff.1 hm)).1
 exact hR.see hp fun j hj _=>hO j (hj.elim (fun e=>e ▸ hi) fun hj=>hR.t i j p.1 hj hi)
theorem owes_val {H:List Nat} {o:Oper} {u:Value} (hh:hotB l mt base=true) (ha:agr r0 base) (hR:RelS Z l S sl ms) (ho:l[S.length]? = some o) (hg:o.guard=none) (hA:A=(visl l U mt).getD S.length []) (hv:eY A none sl base fr)
  (h:∀ r,agr r fr→∀ w,Chg H w0 w→(execOp (ev r) o).run P w = .ok (.value u) w):Owes P l mt (S++[sV u]) U r0 w0 H S.length:=
 Owes.val ho (by simp) hg fun g r w hC hO hn hot=>h r (agr_vis hR hA hv (agr_base hh ha hot) hO) w hC
end
end Go.Dk
namespace Go.Dk
open Go Go.Li
section
variable {R S:Type} {P:Program} {cx:Cx R} {K:Kont R S} {l tail:List Oper} {base fr:Fr} {w:World} {Z:Nat→Prop} {U:List (List Nat)}
def Pre (P:Program) (Z:Nat→Prop) (l:List Oper) (mt:Nat) (U:List (List Nat)) (r0:Nat→Value) (w0:World) (H:List Nat) (i:Nat) (sl:List (Nat×Nat×Value)) (ms:List MemD):Prop:=
 ∃ S:List Gives,S.length=i∧RelS Z l S sl ms∧∀ j,j < i→Owes P l mt S U r0 w0 H j
def StX (B:Bs) (Z:Nat→Prop) (hd Γ:List Ent) (H:List Nat) (w:World):Prop:=∃ F Hd,(SA Z w hd [] Hd∧(∀ b∈Hd,b∈H∧b < w.heap.size)∧(∀ b∈H,b < w.heap.size)∧Hd.Nodup)∧SA Z w Γ [] F∧Gd B Z (H++F) w
theorem StX.stay {B:Bs} {Γ:List Ent} {F H:List Nat} {w w':World} (hS:SA Z w Γ [] F) (hG:Gd B Z (H++F) w) (hC:Chg H w w'):SA Z w' Γ [] F:=
 hS.keep hC (fun b hb=>hG.apart b (List.mem_append_left _ hb)) (fun _ _=>List.not_mem_nil) (fun b hb hf=>(List.nodup_append.1 hG.nd).2.2 b hb b hf rfl)
def Fin (P:Program) (cx:Cx R) (K:Kont R S) (l:List Oper) (mt:Nat) (U:List (List Nat)) (hd:List Ent) (_id:Nat) (base:Fr) (i:Nat) (sl:List (Nat×Nat×Value)) (ms:List MemD) (Γ:List Ent) (m:Option (Out S R)):Prop:=
 ∀ B o,m=some o→∀ r0 w0 H Z,agr r0 base→StX B Z hd Γ H w0→Pre P Z l mt U r0 w0 H i sl ms→AnyW P cx.n l (postK P cx B K o) r0 w0
theorem Pre.re {mt:Nat} {r0:Nat→Value} {w0:World} {H:List Nat} {i k j:Nat} {sl:List (Nat×Nat×Value)} {ms:List MemD} (h:Pre P Z l mt U r0 w0 H k sl ms) (hj:j∈(ancs l).getD i []):Pre P Z l mt U r0 w0 H k (reSl j i sl) ms:=by
 obtain ⟨S,h1,h2,h3⟩:=h
 exact ⟨S,h1,h2.re hj,h3⟩
structure Here (l:List Oper) (mt:Nat) (U:List (List Nat)) (as:List (List Nat)) (ops:List Oper) (i:Nat):Prop where
 a:as=(visl l U mt).drop i
 o:ops=(l.take mt).drop i
 le:i≤mt
structure At0 (l:List Oper) (mt:Nat) (U:List (List Nat)) (A:List Nat) (op:Op) (ty:TypeId) (as:List (List Nat)) (ops:List Oper) (i:Nat):Prop where
 A:A=(visl l U mt).getD i []
 o:∃ pos aft,l[i]? = some ⟨none,op,ty,pos,aft,none⟩
 n:Here l mt U as ops (i+1)
theorem Here.consN {mt:Nat} {A:List Nat} {as:List (List Nat)} {op:Op} {ty:TypeId} {pos:String} {aft:Array Edge} {ops:List Oper} {i:Nat} (h:Here l mt U (A :: as) (⟨none,op,ty,pos,aft,none⟩ :: ops) i):At0 l mt U A op ty as ops i:=by
 obtain ⟨h1,h2,h3⟩:=h
 have e1:(visl l U mt)[i]? = some A:=by
  have:=congrArg (fun x=>x[0]?) h1
  simpa using this.symm
 have e2:(l.take mt)[i]? = some ⟨none,op,ty,pos,aft,none⟩:=by
  have:=congrArg (fun x=>x[0]?) h2
  simpa using this.symm
 have t1:as=(visl l U mt).drop (i+1):=by
  have:=congrArg List.tail h1
  simpa [List.tail_drop] using this
 have t2:ops=(l.take mt).drop (i+1):=by
  have:=congrArg List.tail h2
  simpa [List.tail_drop] using this
 have hi:i < mt:=by
  have:=(List.getElem?_eq_some_iff.1 e1).1
  simpa [visl] using this
 rw [List.getElem?_take,if_pos hi] at e2
 exact ⟨by rw [List.getD_eq_getElem?_getD,e1]; rfl,⟨pos,aft,e2⟩,t1,t2,hi⟩
structure At1 (l:List Oper) (mt:Nat) (U:List (List Nat)) (A:List Nat) (op:Op) (d:Nat) (ty:TypeId) (as:List (List Nat)) (ops:List Oper) (i:Nat):Prop where
 A:A=(visl l U mt).getD i []
 o:∃ pos aft,l[i]? = some ⟨some d,op,ty,pos,aft,none⟩
 n:Here l mt U as ops (i+1)
theorem Here.cons {mt:Nat} {A:List Nat} {as:List (List Nat)} {op:Op} {d:Nat} {ty:TypeId} {pos:String} {aft:Array Edge} {ops:List Oper} {i:Nat} (h:Here l mt U (A :: as) (⟨some d,op,ty,pos,aft,none⟩ :: ops) i):At1 l mt U A op d ty as ops i:=by
 obtain ⟨h1,h2,h3⟩:=h
 have e1:(visl l U mt)[i]? = some A:=by
  have:=congrArg (fun x=>x[0]?) h1
  simpa using this.symm
 have e2:(l.take mt)[i]? = some ⟨some d,op,ty,pos,aft,none⟩:=by
  have:=congrArg (fun x=>x[0]?) h2
  simpa using this.symm
 have t1:as=(visl l U mt).drop (i+1):=by
  have:=congrArg List.tail h1
  simpa [List.tail_drop] using this
 have t2:ops=(l.take mt).drop (i+1):=by
  have:=congrArg List.tail h2
  simpa [List.tail_drop] using this
 have hi:i < mt:=by
  have:=(List.getElem?_eq_some_iff.1 e1).1
  simpa [visl] using this
 rw [List.getElem?_take,if_pos hi] at e2
 exact ⟨by rw [List.getD_eq_getElem?_getD,e1]; rfl,⟨pos,aft,e2⟩,t1,t2,hi⟩
theorem Pre.val {mt:Nat} {A:List Nat} {op:Op} {d:Nat} {ty:TypeId} {as:List (List Nat)} {ops:List Oper} {i:Nat} {sl:List (Nat×Nat×Value)} {ms:List MemD} {r0:Nat→Value} {w0:World} {H:List Nat} {u:Value} (h:Pre P Z l mt U r0 w0 H i sl ms) (hh:hotB l mt base=true) (ha:agr r0 base) (h1:At1 l mt U A op d ty as ops i)
  (hv:eY A none sl base fr) (hq:∀ r,agr r fr→∀ pos aft g w,Chg H w0 w→(execOp (ev r) ⟨some d,op,ty,pos,aft,g⟩).run P w = .ok (.value u) w):Pre P Z l mt U r0 w0 H (i+1) ((i,d,u) :: sl) ms:=by
 obtain ⟨S',hl,hR,hO⟩:=h
 subst hl
 obtain ⟨hA,⟨pos,aft,ho⟩,_⟩:=h1
 refine ⟨S'++[sV u],by simp,hR.val (by unfold dstAt; rw [ho]; rfl),fun j hj=>?_⟩
 by_cases h2:j < S'.length
 ·exact Owes.more (hO j h2) h2
 ·obtain rfl:j=S'.length:=by omega
  exact owes_val hh ha hR ho rfl hA hv fun r hr=>hq r hr _ _ _
def Pre1 (P:Program) (Z:Nat→Prop) (l:List Oper) (mt:Nat) (U:List (List Nat)) (r0:Nat→Value) (w0:World) (H:List Nat) (i:Nat) (sl:List (Nat×Nat×Value)) (ms:List MemD) (a:MemD):Prop:=
 ∃ S:List Gives,S.length=i∧RelS Z l S sl ms∧(∀ j,j < i→Owes P l mt S U r0 w0 H j)∧
  ∀ V:List Nat→World→(Nat→Value)→Value→Prop,(∀ f w r x,MV Z a f w r x→∃ f',(∀ b∈f',b∈f)∧V f' w r x)→Owes P l mt (S++[⟨true,V⟩]) U r0 w0 H i
theorem HL.front {Δ Γ:List Ent} {Fd F:List Nat} (h:HL Z w Δ Fd) (hs:SA Z w Γ [] F):SA Z w (Δ++Γ) [] (Fd++F):=by
 induction h with
 | nil=>exact hs
 | own h _ ih=>rw [List.append_assoc]; exact SA.cons ih h
 | fact h _ ih=>exact SA.fact ih h
def visB (A:List Nat) (g:Nat→List Nat):List MemD→List Nat
 | []=>[]
 | a :: l=>bif memB a.j A then g a.j++visB A g l else visB A g l
def HV (Z:Nat→Prop) (w:World) (Δ:List Ent) (B:List Nat):Prop:=∃ Vo Vr,(∀ b∈Vo++Vr,b∈B)∧(∀ b∈Vr,b < w.heap.size)∧HL (fun b=>Z b∨b∈Vr) w Δ Vo
theorem HV.front {Δ Γ:List Ent} {B F:List Nat} (h:HV Z w Δ B) (hs:SA Z w Γ [] F):∃ G:List Nat,(∀ b∈G,b∈B++F∧b < w.heap.size)∧∃ F':List Nat,(∀ b∈F',b∈G)∧SA (fun b=>Z b∨b∈G) w (Δ++Γ) [] F':=by
 obtain ⟨Vo,Vr,h1,h2,h3⟩:=h
 have hS:=h3.front (hs.mono (Z':=fun b=>Z b∨b∈Vr) (fun _ h=>.inl h) fun _ h=>h)
 refine ⟨Vr++(Vo++F),fun b hb=>?_,Vo++F,fun b hb=>List.mem_append_right _ hb,hS.mono (fun b h=>h.imp id fun h=>List.mem_append_left _ h) fun _ h=>h⟩
 rcases List.mem_append.1 hb with hb | hb
 ·exact ⟨List.mem_append_left _ (h1 b (List.mem_append_right _ hb)),h2 b hb⟩
 ·refine ⟨?_,hS.lt b hb⟩
  rcases List.mem_append.1 hb with hb | hb
  ·exact List.mem_append_left _ (h1 b (List.mem_append_left _ hb))
  ·exact List.mem_append_right _ hb
theorem HV.app {Δ Δ':List Ent} {f B:List Nat} (h:HN Z w Δ f) (k:HV Z w Δ' B):HV Z w (Δ++Δ') (f++B):=by
 obtain ⟨Fo,Fr,rfl,h1,h2⟩:=h.all
 obtain ⟨Vo,Vr,k1,k2,k3⟩:=k
 refine ⟨Fo++Vo,Fr++Vr,fun b hb=>?_,fun b hb=>(List.mem_append.1 hb).elim (h1 b) (k2 b),(h2.mono fun b h=>h.imp id fun h=>List.mem_append_left _ h).app (k3.mono fun b h=>h.imp id fun h=>List.mem_append_right _ h)⟩
 have:=fun h=>k1 b h
 simp only [List.mem_append] at hb this ⊢
 rcases hb with (h | h) | h | h
 ·exact .inl (.inl h)
 ·exact .inr (this (.inl h))
 ·exact .inl (.inr h)
 ·exact .inr (this (.inr h))
theorem pickV {A:List Nat} {g:Nat→List Nat} {r:Nat→Value}:∀ {ms:List MemD},InhX ms→srcB A ms=true→(∀ a∈ms,memB a.j A=true→MV Z a (g a.j) w r (r a.d))→
  ∃ x:Xof ms,(∀ p∈visF A ms x,r p.1=p.2)∧HV Z w (visE A ms x) (visB A g ms):=by
 intro ms
 induction ms with
 | nil=>intro _ _ _; exact ⟨(),fun p hp=>absurd hp List.not_mem_nil,[],[],fun b (h:b∈[])=>absurd h List.not_mem_nil,fun b (h:b∈[])=>absurd h List.not_mem_nil,.nil⟩
 | cons a ms ih=>
  intro hi hsr h
  unfold srcB at hsr
  rw [Bool.and_eq_true] at hsr
  cases hi with
  | cons h1 h2=>
   obtain ⟨x,hx,hl⟩:=ih h2 hsr.2 fun b hb=>h b (List.mem_cons_of_mem _ hb)
   cases hb:memB a.j A with
   | false=>
    obtain ⟨v⟩:=h1.ne
    refine ⟨(v,x),?_,?_⟩
    ·simp only [visF,hb,cond_false]; exact hx
    ·simp only [visE,visB,hb,cond_false]; exact hl
   | true=>
    obtain ⟨v,e1,e2,_⟩:=h a (by simp) hb
    have es:srcV a r=srcF a (mF ms x):=by
     have h3:=hsr.1
     rw [hb,cond_true,List.all_eq_true] at h3
     refine srcT_eq fun t ht=>?_
     have h4:=h3 t ht
     cases hj:fstJ t ms with
     | none=>rw [hj] at h4; cases h4
     | some j=>rw [hj] at h4; unfold lookD; rw [look_vis hj h4 hx]
    rw [es] at e1 e2
    refine ⟨(v,x),?_,?_⟩
    ·simp only [visF,hb,cond_true]
     intro p hp
     rcases List.mem_cons.1 hp with rfl | hp
     ·exact e1
     ·exact hx p hp
    ·simp only [visE,visB,hb,cond_true]; exact HV.app e2 hl
theorem fstJ_mem {t j:Nat}:∀ {ms:List MemD},fstJ t ms=some j→∃ a∈ms,a.j=j∧a.d=t:=by
 intro ms
 induction ms with
 | nil=>intro h; cases h
 | cons a l ih=>
  intro h
  unfold fstJ at h
  cases hb:Nat.beq t a.d with
  | true=>rw [hb] at h; cases h; exact ⟨a,by simp,rfl,(Nat.eq_of_beq_eq_true hb).symm⟩
  | false=>rw [hb] at h; obtain ⟨b,h1,h2⟩:=ih h; exact ⟨b,List.mem_cons_of_mem _ h1,h2⟩
theorem src_anc {mt i:Nat} {A:List Nat} (hA:A=(visl l U mt).getD i []) {S':List Gives} {sl:List (Nat×Nat×Value)} {ms:List MemD} {t:Nat} (hR:RelS Z l S' sl ms) (hj:∃ j,fstJ t ms=some j∧memB j A=true):∃ j∈(ancs l).getD i [],dstAt l j=some t:=by
 obtain ⟨j,h1,h2⟩:=hj
 obtain ⟨a,ha,rfl,rfl⟩:=fstJ_mem h1
 exact hR.slot ha (vis_mem (by rw [← hA]; exact memB_iff.1 h2)).1
theorem see {mt:Nat} {A:List Nat} {S' S2:List Gives} {sl:List (Nat×Nat×Value)} {ms:List MemD} {g:Nat→List Nat} {r:Nat→Value} (hR:RelS Z l S' sl ms) (hA:A=(visl l U mt).getD S'.length []) (hi:InhX ms) (hsr:srcB A ms=true) (hn:∀ j,needB l U mt S'.length j=true→Done l (S'++S2) j g r w) :
  ∃ x:Xof ms,(∀ p∈visF A ms x,r p.1=p.2)∧HV Z w (visE A ms x) (visB A g ms):=
 pickV hi hsr fun a hm hb=>by
  exact hR.got hm (hn a.j (vis_mem (by rw [← hA]; exact memB_iff.1 hb)).2)
theorem Pre.mem {mt:Nat} {A:List Nat} {op:Op} {d:Nat} {ty:TypeId} {as:List (List Nat)} {ops:List Oper} {i:Nat} {sl:List (Nat×Nat×Value)} {ms:List MemD} {r0:Nat→Value} {w0:World} {H:List Nat} {a:MemD} (h:Pre P Z l mt U r0 w0 H i sl ms) (h1:At1 l mt U A op d ty as ops i) (haj:a.j=i) (had:a.d=d)
  (hsr:∀ S',RelS Z l S' sl ms→∀ t∈a.src,∃ j∈(ancs l).getD i [],dstAt l j=some t)
  (hq:∀ S' S2,S'.length=i→RelS Z l S' sl ms→∀ (g:Nat→List Nat) (r:Nat→Value) (w:World),Chg H w0 w→(∀ j∈(ancs l).getD S'.length [],Old l (S'++S2) j r)→(∀ j,needB l U mt S'.length j=true→Done l (S'++S2) j g r w)→(∀ t,(∀ j,j < mt→dstAt l j≠some t)→r t=r0 t)→∀ pos aft,
   OpW P ⟨some d,op,ty,pos,aft,none⟩ r w fun v w'=>Chg [] w w'∧∃ f,(∀ b∈f,w.heap.size≤b∧b < w'.heap.size)∧MV Z a f w' r v):Pre P Z l mt U r0 w0 H (i+1) sl (a :: ms):=by
 obtain ⟨S',hl,hR,hO⟩:=h
 subst hl
 subst had
 obtain ⟨hA,⟨pos,aft,ho⟩,_⟩:=h1
 refine ⟨S'++[⟨true,MV Z a⟩],by simp,hR.mem haj (by unfold dstAt; rw [ho]; rfl) (hsr S' hR),fun j hj=>?_⟩
 by_cases h2:j < S'.length
 ·exact Owes.more (hO j h2) h2
 ·obtain rfl:j=S'.length:=by omega
  exact Owes.memX (V:=MV Z a) ho (by simp) rfl fun g r w hC hO hn hot=>hq S' _ rfl hR g r w hC hO hn hot pos aft
theorem GetD.sub {ms ms':List MemD} {a:MemD} {t:Nat} (h:GetD ms t a ms'):a∈ms∧a.d=t∧(∀ b∈ms',b∈ms)∧(ms'.map (·.j)).Sublist (ms.map (·.j)):=by
 induction h with
 | here=>exact ⟨by simp,rfl,fun b hb=>List.mem_cons_of_mem _ hb,by simp⟩
 | there _ ih=>
  obtain ⟨h1,h2,h3,h4⟩:=ih
  refine ⟨List.mem_cons_of_mem _ h1,h2,fun b hb=>?_,by simpa using h4⟩
  rcases List.mem_cons.1 hb with rfl | hb
  ·simp
  ·exact List.mem_cons_of_mem _ (h3 b hb)
theorem RelS.sub {S':List Gives} {sl:List (Nat×Nat×Value)} {ms ms':List MemD} (h:RelS Z l S' sl ms) (hm:∀ b∈ms',b∈ms) (hn:(ms'.map (·.j)).Sublist (ms.map (·.j))):RelS Z l S' sl ms':=⟨h.v,fun a ha=>h.m a (hm a ha),h.s,h.d.sublist hn,h.t⟩
theorem app_pre {mt:Nat} {t e et:TypeId} {E:STy Int} {z0:Int} {bt t1 t2 j2 d2 i d:Nat} {k:IntKind} {y:Int} {xs:List Int} {a1:MemD} {ms ms1 ms2:List MemD} {sl:List (Nat×Nat×Value)} {A:List Nat} {ty:TypeId} {as:List (List Nat)} {ops:List Oper} {r0:Nat→Value} {w0:World} {H:List Nat} (hz:STc P t Int e E z0 bt) (h1:GetD ms t1 a1 ms1) (h2:GetD ms1 t2 ⟨j2,d2,[],Nat,fun _ b=>.slice (some ⟨b,0,none⟩) 1 1,fun _ b=>[.row b [.int k y] et]⟩ ms2) (h3:∀ u v,a1.ps u v=[.own (aK e (aC k)) (a1.rt u v) xs]) (h4:memB a1.j A=true) (h5:memB j2 A=true) (h6:U.getD i []=[a1.j])
  (hf:fits bt (xs.length+1)=some ()) (hat:At1 l mt U A (.call ⟨.builtin .append,#[.tmp t1,.tmp t2],#[t,t]⟩) d ty as ops i) (h:Pre P Z l mt U r0 w0 H i sl ms) :
  Pre P Z l mt U r0 w0 H (i+1) sl (⟨i,d,[],Value,fun _ v=>v,fun _ v=>[.own (aK e (aC k)) v (xs++[y])]⟩ :: ms1):=by
 obtain ⟨S',hl,hR,hO⟩:=h
 subst hl
 obtain ⟨hA,⟨pos,aft,ho⟩,_⟩:=hat
 obtain ⟨b1,b2⟩:=fits_some hf
 obtain ⟨q1,hE,i',z,q3,q4,q5,q6,q7,q8⟩:=hz.h
 obtain ⟨m1,m2,m3,m4⟩:=h1.sub
 obtain ⟨n1,n2,_,_⟩:=h2.sub
 refine ⟨S'++[⟨true,MV Z ⟨S'.length,d,[],Value,fun _ v=>v,fun _ v=>[.own (aK e (aC k)) v (xs++[y])]⟩⟩],by simp,(hR.sub m3 m4).mem rfl (by unfold dstAt; rw [ho]; rfl) (by intro t h; cases h),fun j hj=>?_⟩
 by_cases hlt:j < S'.length
 ·exact Owes.more (hO j hlt) hlt
 ·obtain rfl:j=S'.length:=by omega
  intro o' s' ho' hs' g r w hC hV0 hOld hn hot hdis hfr
  rw [ho] at ho'
  cases ho'
  rw [List.getElem?_append_right (Nat.le_refl _),Nat.sub_self] at hs'
  cases hs'
  rw [if_pos rfl]
  refine ⟨rfl,?_⟩
  have get:∀ a∈ms,memB a.j A=true→MV Z a (g a.j) w r (r a.d):=fun a hm hb=>by
   exact hR.got hm (hn a.j (vis_mem (by rw [← hA]; exact memB_iff.1 hb)).2)
  obtain ⟨v1,c1,c2,c3⟩:=get a1 m1 h4
  obtain ⟨v2,f1,f2,f3⟩:=get _ (m3 _ n1) h5
  rw [h3,← c1,m2] at c2
  rw [m2] at c1
  simp only at f1 f2
  subst n2
  replace c2:=c2.own rfl
  replace f2:=f2.own rfl
  generalize hg1:g a1.j=G1 at c2 c3
  generalize hg2:g j2=G2 at f2 f3
  cases c2 with
  | fact h _=>exact h.elim
  | @own _ ff F0 _ hown hnil=>
   cases hnil
   rw [List.append_nil] at c3
   cases f2 with
   | fact h _=>exact h.elim
   | @own _ gg F0 _ hrow hnil=>
    cases hnil
    obtain ⟨rfl,hrow⟩:=hrow
    have hb:blks g (U.getD S'.length [])=ff:=by rw [h6]; simp [blks,hg1]
    refine OpW_mono (OpW.append1 (E:=aC k) (F:=ff) q1 q3 q4 q5 rfl q6 (s:=.tmp t1) (x:=.tmp d2) rfl ⟨hown,c3⟩ (fun b hb=>hb) f1 hrow ⟨rfl,rfl⟩ (by rw [q7]; exact b1) b2) ?_
    rintro v w' ⟨hC',f',hf',hV⟩
    rw [hb]
    refine ⟨hC',f',hf',v,rfl,?_,hV.2⟩
    have:=HL.own (Z:=fun _=>False) (e:=.own (aK e (aC k)) v (xs++[y])) (f:=f') hV.1 .nil
    exact .inl (by simpa using this)
theorem OpW.appendS {α:Type} {E:STy α} {F f k:List Nat} {t e:TypeId} {s x:Operand} {i:TypeInfo} {z:Value} {sv yv:Value} {xs ys:List α} {r:Nat→Value} {w:World} {d:Option Nat} {ty:TypeId} {pos:String} {aft:Array Edge} (hnf:∀ {h cs x f},E.rep h cs x f→f=[])
  (ht:P.underlying t=some (.slice e)) (hi:P.info? e=some i) (hz:i.zero=some z) (hs:i.size=1) (hE:E.size=1) (hzs:z.oneCell'=true)
  (hsv:ev r s=sv) (hO:OwnV (aK e E) xs f w sv) (hF:∀ b∈f,b∈F) (hx:ev r x=yv) (hy:(aE E).rep w.heap [yv] ys k)
  (hb:(xs.length+ys.length) * i.bytes≤140737488355328) (h63:xs.length+ys.length≤maxLen) :
  OpW P ⟨d,.call ⟨.builtin .append,#[s,x],#[t,t]⟩,ty,pos,aft,none⟩ r w fun v w'=>Chg F w w'∧∃ f',(∀ b∈f',(b∈F∨w.heap.size≤b)∧b < w'.heap.size)∧OwnV (aK e E) (xs++ys) f' w' v:=by
 have hcells:=imm_cells hy
 rcases Nat.eq_zero_or_pos ys.length with hy0 | hy0
 ·obtain rfl:ys=[]:=List.eq_nil_of_length_eq_zero hy0
  obtain ⟨b0,c0,hyv⟩:=imm_len hy
  obtain ⟨base,cap,hv,hr⟩:=hO.1
  obtain rfl:sv = .slice base xs.length cap:=by simpa using hv
  have hcap:xs.length≤cap:=by
   rcases hr with ⟨_,rfl,rfl,_⟩ | ⟨_,_,_,_,_,_,h,_⟩
   ·simp
   ·exact h
  have hrun:=append_nothing (P:=P) (w:=w) (ty:=ty) ht hi (b:=base) (a:=b0) (c:=c0) hcap
  subst hyv
  have hrun2:(execOp (ev r) ⟨d,.call ⟨.builtin .append,#[s,x],#[t,t]⟩,ty,pos,aft,none⟩).run P w = .ok (.value (.slice base xs.length cap)) w:=by
   simp only [execOp,resolve,invoke,builtin,Sem.run_bind,Sem.run_pure,Result.andThen_ok,List.map_toArray,List.map_cons,List.map_nil,hsv,hx,List.length_nil,hrun]
  unfold OpW
  rw [hrun2]
  exact ⟨Chg.refl _ _,f,fun b hb=>⟨.inl (hF b hb),STy.lt _ hO.1 b hb⟩,by rw [List.append_nil]; exact hO⟩
 ·rcases hcells with rfl | ⟨a,c,news,g1,hyv,hnews,hrep,_⟩
  ·simp at hy0
  ·obtain ⟨rfl,_⟩:=repL_nofp (h':=w.heap) hnf hrep
   obtain ⟨v,w',f',h,hC,hrep',hsub,hnd⟩:=own_append (d:=d) (ty:=ty) (pos:=pos) (aft:=aft) (g:=none) ht hi hz (by rw [hs,hE]) (by rw [cells_one hzs,hE]; rfl) hsv hO.1 hO.2 (hx.trans hyv) hnews hrep (fun _ h=>nomatch h) hy0 hb h63
   unfold OpW
   rw [h]
   refine ⟨hC.mono hF,f',fun b hb=>⟨?_,STy.lt _ hrep' b hb⟩,hrep',hnd List.nodup_nil⟩
   rcases hsub b hb with h | h | h
   ·exact .inl (hF b h)
   ·cases h
   ·exact .inr h
theorem appR_pre {mt:Nat} {t e:TypeId} {E:STy Int} {z0:Int} {bt t1 t2 i d:Nat} {k:IntKind} {xs ys:List Int} {a1:MemD} {ms ms1:List MemD} {sl:List (Nat×Nat×Value)} {A:List Nat} {ty:TypeId} {as:List (List Nat)} {ops:List Oper} {r0:Nat→Value} {w0:World} {H:List Nat} {o1 o2:Bool} {yv:Value} {Γ Γx:List Ent} {F:List Nat} (hz:STc P t Int e E z0 bt) (h1:GetD ms t1 a1 ms1) (h3:∀ u v,a1.ps u v=[.own (aK e (aC k)) (a1.rt u v) xs]) (h4:memB a1.j A=true) (h6:U.getD i []=[a1.j]) (hh:hotB l mt base=true) (ha:agr r0 base) (hv:eY A none sl base fr) (hx:look fr t2=some yv) (hr:Fnd Γ yv o1 o2 (aC k) ys noE Γx) (hS:∀ w,Chg H w0 w→SA Z w Γ [] F)
  (hf:fits bt (xs.length+ys.length)=some ()) (hat:At1 l mt U A (.call ⟨.builtin .append,#[.tmp t1,.tmp t2],#[t,t]⟩) d ty as ops i) (h:Pre P Z l mt U r0 w0 H i sl ms) :
  Pre P Z l mt U r0 w0 H (i+1) sl (⟨i,d,[],Value,fun _ v=>v,fun _ v=>[.own (aK e (aC k)) v (xs++ys)]⟩ :: ms1):=by
 obtain ⟨S',hl,hR,hO⟩:=h
 subst hl
 obtain ⟨hA,⟨pos,aft,ho⟩,_⟩:=hat
 obtain ⟨b1,b2⟩:=fits_some hf
 obtain ⟨q1,hE,i',z,q3,q4,q5,q6,q7,q8⟩:=hz.h
 obtain ⟨m1,m2,m3,m4⟩:=h1.sub
 refine ⟨S'++[⟨true,MV Z ⟨S'.length,d,[],Value,fun _ v=>v,fun _ v=>[.own (aK e (aC k)) v (xs++ys)]⟩⟩],by simp,(hR.sub m3 m4).mem rfl (by unfold dstAt; rw [ho]; rfl) (by intro t h; cases h),fun j hj=>?_⟩
 by_cases hlt:j < S'.length
 ·exact Owes.more (hO j hlt) hlt
 ·obtain rfl:j=S'.length:=by omega
  intro o' s' ho' hs' g r w hC hV0 hOld hn hot hdis hfr
  rw [ho] at ho'
  cases ho'
  rw [List.getElem?_append_right (Nat.le_refl _),Nat.sub_self] at hs'
  cases hs'
  rw [if_pos rfl]
  refine ⟨rfl,?_⟩
  have get:∀ a∈ms,memB a.j A=true→MV Z a (g a.j) w r (r a.d):=fun a hm hb=>by
   exact hR.got hm (hn a.j (vis_mem (by rw [← hA]; exact memB_iff.1 hb)).2)
  obtain ⟨v1,c1,c2,c3⟩:=get a1 m1 h4
  rw [h3,← c1,m2] at c2
  rw [m2] at c1
  replace c2:=c2.own rfl
  have hyv:ev r (.tmp t2)=yv:=agr_vis hR hA hv (agr_base hh ha hot) hOld t2 yv hx
  obtain ⟨_,_,⟨⟨kk,hread,_⟩,_⟩,_⟩:=hr.sound (hS w hC)
  generalize hg1:g a1.j=G1 at c2 c3
  cases c2 with
  | fact h _=>exact h.elim
  | @own _ ff F0 _ hown hnil=>
   cases hnil
   rw [List.append_nil] at c3
   have hb:blks g (U.getD S'.length [])=ff:=by rw [h6]; simp [blks,hg1]
   refine OpW_mono (OpW.appendS (E:=aC k) (F:=ff) sInt_nofp q1 q3 q4 q5 rfl q6 (s:=.tmp t1) (x:=.tmp t2) rfl ⟨hown,c3⟩ (fun b hb=>hb) hyv hread (by rw [q7]; exact b1) b2) ?_
   rintro v w' ⟨hC',f',hf',hV⟩
   rw [hb]
   refine ⟨hC',f',hf',v,rfl,?_,hV.2⟩
   have:=HL.own (Z:=fun _=>False) (e:=.own (aK e (aC k)) v (xs++ys)) (f:=f') hV.1 .nil
   exact .inl (by simpa using this)
theorem appO_pre {mt:Nat} {t e:TypeId} {E:STy Int} {z0:Int} {bt t1 t2 i d:Nat} {k:IntKind} {xs ys:List Int} {a1:MemD} {ms ms1:List MemD} {sl:List (Nat×Nat×Value)} {A:List Nat} {ty:TypeId} {as:List (List Nat)} {ops:List Oper} {r0:Nat→Value} {w0:World} {H:List Nat} {e2:TypeId} {a2:MemD} {ms2:List MemD} (hz:STc P t Int e E z0 bt) (h1:GetD ms t1 a1 ms1) (h3:∀ u v,a1.ps u v=[.own (aK e (aC k)) (a1.rt u v) xs]) (h4:memB a1.j A=true) (h6:U.getD i []=[a1.j]) (h2:GetD ms1 t2 a2 ms2) (h7:∀ u v,a2.ps u v=[.own (aK e2 (aC k)) (a2.rt u v) ys]) (h5:memB a2.j A=true)
  (hf:fits bt (xs.length+ys.length)=some ()) (hat:At1 l mt U A (.call ⟨.builtin .append,#[.tmp t1,.tmp t2],#[t,t]⟩) d ty as ops i) (h:Pre P Z l mt U r0 w0 H i sl ms) :
  Pre P Z l mt U r0 w0 H (i+1) sl (⟨i,d,[],Value,fun _ v=>v,fun _ v=>[.own (aK e (aC k)) v (xs++ys)]⟩ :: ms1):=by
 obtain ⟨S',hl,hR,hO⟩:=h
 subst hl
 obtain ⟨hA,⟨pos,aft,ho⟩,_⟩:=hat
 obtain ⟨b1,b2⟩:=fits_some hf
 obtain ⟨q1,hE,i',z,q3,q4,q5,q6,q7,q8⟩:=hz.h
 obtain ⟨m1,m2,m3,m4⟩:=h1.sub
 obtain ⟨n1,n2,_,_⟩:=h2.sub
 refine ⟨S'++[⟨true,MV Z ⟨S'.length,d,[],Value,fun _ v=>v,fun _ v=>[.own (aK e (aC k)) v (xs++ys)]⟩⟩],by simp,(hR.sub m3 m4).mem rfl (by unfold dstAt; rw [ho]; rfl) (by intro t h; cases h),fun j hj=>?_⟩
 by_cases hlt:j < S'.length
 ·exact Owes.more (hO j hlt) hlt
 ·obtain rfl:j=S'.length:=by omega
  intro o' s' ho' hs' g r w hC hV0 hOld hn hot hdis hfr
  rw [ho] at ho'
  cases ho'
  rw [List.getElem?_append_right (Nat.le_refl _),Nat.sub_self] at hs'
  cases hs'
  rw [if_pos rfl]
  refine ⟨rfl,?_⟩
  have get:∀ a∈ms,memB a.j A=true→MV Z a (g a.j) w r (r a.d):=fun a hm hb=>by
   exact hR.got hm (hn a.j (vis_mem (by rw [← hA]; exact memB_iff.1 hb)).2)
  obtain ⟨v1,c1,c2,c3⟩:=get a1 m1 h4
  rw [h3,← c1,m2] at c2
  rw [m2] at c1
  replace c2:=c2.own rfl
  obtain ⟨v2,f1,f2,f3⟩:=get a2 (m3 _ n1) h5
  rw [h7,← f1,n2] at f2
  replace f2:=f2.own rfl
  have hyv:ev r (.tmp t2)=r t2:=rfl
  obtain ⟨kk,hread⟩ : ∃ kk,(aE (aC k)).rep w.heap [r t2] ys kk:=by
   generalize g a2.j=G2 at f2
   cases f2 with
   | fact h _=>exact h.elim
   | @own _ gg F0 _ hown hnil=>exact ⟨_,(Le.own (Le.refl (aC k)) e2).le hown⟩
  generalize hg1:g a1.j=G1 at c2 c3
  cases c2 with
  | fact h _=>exact h.elim
  | @own _ ff F0 _ hown hnil=>
   cases hnil
   rw [List.append_nil] at c3
   have hb:blks g (U.getD S'.length [])=ff:=by rw [h6]; simp [blks,hg1]
   refine OpW_mono (OpW.appendS (E:=aC k) (F:=ff) sInt_nofp q1 q3 q4 q5 rfl q6 (s:=.tmp t1) (x:=.tmp t2) rfl ⟨hown,c3⟩ (fun b hb=>hb) hyv hread (by rw [q7]; exact b1) b2) ?_
   rintro v w' ⟨hC',f',hf',hV⟩
   rw [hb]
   refine ⟨hC',f',hf',v,rfl,?_,hV.2⟩
   have:=HL.own (Z:=fun _=>False) (e:=.own (aK e (aC k)) v (xs++ys)) (f:=f') hV.1 .nil
   exact .inl (by simpa using this)
theorem op_storeSeg {t:TypeId} {x y:Operand} {i:TypeInfo} {b off:Nat} {cs us:List Value} {e:TypeId} {r:Nat→Value} {d:Option Nat} {ty:TypeId} {pos:String} {aft:Array Edge} {gg:Option (Nat×Bool)}
  (hi:P.info? t=some i) (hs:us.length=i.size) (hrow:Row w b cs e) (hl:off+us.length≤cs.length) (hx:ev r x = .pointer (some ⟨b,off,none⟩)) (hy:(ev r y).cells.toList=us) (hu:∀ u∈us,u.oneCell'=true) :
  (execOp (ev r) ⟨d,.store t x y,ty,pos,aft,gg⟩).run P w = .ok .skip (w.setRow b (cs.take off++us++cs.drop (off+us.length)).toArray):=by
 have h:=run_storeCells_at P b off e us 0 cs.toArray w hrow (by simpa using hl) hu
 simp only [Nat.add_zero] at h
 have hy':(ev r y).cells=us.toArray:=by rw [← hy]
 simp only [execOp,Instr.storeAt,Instr.sureAddr,hx,storeVar]
 simp [hy',sizeOf,typeInfo,hi,hs,h]
theorem sto_pre {mt:Nat} {t e:TypeId} {t1 j1 n i:Nat} {y:Operand} {u:Value} {us cs ds:List Value} {ms ms1:List MemD} {sl:List (Nat×Nat×Value)} {A:List Nat} {ty:TypeId} {as:List (List Nat)} {ops:List Oper} {r0:Nat→Value} {w0:World} {H:List Nat} {Γ:List Ent} {F:List Nat} (hh:hotB l mt base=true) (ha:agr r0 base) (ht:STo P t n)
  (h1:GetD ms t1 ⟨j1,t1,[],Nat,fun _ b=>.pointer (some ⟨b,0,none⟩),fun _ b=>[.row b cs e]⟩ ms1) (hv:eY A none sl base fr) (hy:opv fr y=some u) (hc:CellsD Γ u us) (hn':us.length=n) (hs:SegD us 0 cs ds) (ho:Ones Γ us) (h4:memB j1 A=true) (h6:U.getD i []=[j1])
  (hS:∀ w,Chg H w0 w→SA Z w Γ [] F) (hat:At0 l mt U A (.store t (.tmp t1) y) ty as ops i) (h:Pre P Z l mt U r0 w0 H i sl ms) :
  Pre P Z l mt U r0 w0 H (i+1) sl (⟨i,t1,[],Nat,fun _ b=>.pointer (some ⟨b,0,none⟩),fun _ b=>[.row b ds e]⟩ :: ms1):=by
 obtain ⟨S',hl,hR,hO⟩:=h
 subst hl
 obtain ⟨hA,⟨pos,aft,hop⟩,_⟩:=hat
 obtain ⟨ti,q1,q2⟩:=ht.h
 obtain ⟨m1,_,m3,m4⟩:=h1.sub
 have hvis:=vis_mem (by rw [← hA]; exact memB_iff.1 h4)
 refine ⟨S'++[⟨true,MVn Z ⟨S'.length,t1,[],Nat,fun _ b=>.pointer (some ⟨b,0,none⟩),fun _ b=>[.row b ds e]⟩⟩],by simp,(hR.sub m3 m4).memN (b:=⟨S'.length,t1,[],Nat,fun _ b=>.pointer (some ⟨b,0,none⟩),fun _ b=>[.row b ds e]⟩) rfl (by unfold dstAt; rw [hop]; rfl) (hR.slot m1 hvis.1) rfl,fun j hj=>?_⟩
 by_cases hlt:j < S'.length
 ·exact Owes.more (hO j hlt) hlt
 ·obtain rfl:j=S'.length:=by omega
  intro o' s' ho' hs' g r w hC hV0 hOld hn hot hdis hfr
  rw [hop] at ho'
  cases ho'
  rw [List.getElem?_append_right (Nat.le_refl _),Nat.sub_self] at hs'
  cases hs'
  rw [if_pos rfl]
  refine ⟨rfl,?_⟩
  obtain ⟨b,c1,c2,c3⟩:=hR.got m1 (hn j1 hvis.2)
  simp only at c1 c2
  replace c2:=c2.own rfl
  generalize hg1:g j1=G1 at c2 c3
  cases c2 with
  | fact h _=>exact h.elim
  | @own _ ff F0 _ hown hnil=>
   cases hnil
   obtain ⟨rfl,hrow⟩:=hown
   have hb:blks g (U.getD S'.length [])=[b]:=by rw [h6]; simp [blks,hg1]
   have hr:=agr_vis hR hA hv (agr_base hh ha hot) hOld
   obtain ⟨e1,e2⟩:=hs.eq
   have hS':=hS w hC
   have hrun:=op_storeSeg (P:=P) (d:=none) (ty:=ty) (pos:=pos) (aft:=aft) (gg:=none) q1 (by rw [hn',q2]) hrow e1 (x:=.tmp t1) c1 (y:=y) (by rw [aU hr hy]; exact hc.eq hS') (ho.one hS')
   unfold OpW
   rw [hrun,hb]
   have hrow':=setRow_heap w b cs.toArray (cs.take 0++us++cs.drop (0+us.length)).toArray e _ hrow
   have hlt2:b < w.heap.size:=hrow.lt
   refine ⟨⟨rfl,rfl,rfl,Nat.le_refl _,by simp,fun j _ hj=>setRow_other w b j _ fun h=>hj (by simp [h])⟩,[b],fun b' hb'=>?_,b,c1,?_,by simp⟩
   ·rw [List.mem_singleton.1 hb']
    exact ⟨.inl (by simp),by simpa using hlt2⟩
   ·refine .inl (HL.own (f:=[b]) ⟨rfl,?_⟩ .nil)
    rw [e2]
    exact hrow'
theorem alc_pre {mt:Nat} {t i d:Nat} {cs:List Value} {sl:List (Nat×Nat×Value)} {ms:List MemD} {A:List Nat} {ty:TypeId} {as:List (List Nat)} {ops:List Oper} {r0:Nat→Value} {w0:World} {H:List Nat} (hz:ZVc P t cs) (h1:At1 l mt U A (.alloc t) d ty as ops i) (h:Pre P Z l mt U r0 w0 H i sl ms) :
   Pre P Z l mt U r0 w0 H (i+1) sl (⟨i,d,[],Nat,fun _ b=>.pointer (some ⟨b,0,none⟩),fun _ b=>[.row b cs t]⟩ :: ms):=by
 obtain ⟨i',z,t1,t2,t3⟩:=hz.h
 refine h.mem h1 rfl rfl (fun _ _ _ h=>nomatch h) fun S' S2 hl hR g r w hC hOld hn hot pos aft=>OpW_mono (OpW.alc (cs:=cs) t1 t2 (by rw [← t3])) ?_
 rintro v w' ⟨hC,f,hf,b,e1,e2,hrow⟩
 refine ⟨hC,f,hf,b,e2,?_,by rw [e1]; simp⟩
 have:=HL.own (Z:=fun _=>False) (e:=.row b cs t) (f:=[b]) ⟨rfl,hrow⟩ .nil
 rw [e1]
 exact .inl (by simpa using this)
theorem ln_pre {mt t n:Nat} {A:List Nat} {st:TypeId} {d:Nat} {ty:TypeId} {as:List (List Nat)} {ops:List Oper} {i:Nat} {sl:List (Nat×Nat×Value)} {ms:List MemD} {r0:Nat→Value} {w0:World} {H:List Nat} (h:Pre P Z l mt U r0 w0 H i sl ms) (h1:At1 l mt U A (.call ⟨.builtin .len,#[.tmp t],#[st]⟩) d ty as ops i) (ht:SLc P st) (hi:InhX ms) (hsr:srcB A ms=true) (hx:∀ x:Xof ms,LnD (visF A ms x) (visE A ms x) t n):Pre P Z l mt U r0 w0 H (i+1) ((i,d,.int .i64 (n:Int)) :: sl) ms:=by
 obtain ⟨S',hl,hR,hO⟩:=h
 subst hl
 obtain ⟨hA,⟨pos,aft,ho⟩,_⟩:=h1
 obtain ⟨e,i',q1,_,_⟩:=ht.h
 refine ⟨S'++[sV (.int .i64 (n:Int))],by simp,hR.val (by unfold dstAt; rw [ho]; rfl),fun j hj=>?_⟩
 by_cases h2:j < S'.length
 ·exact Owes.more (hO j h2) h2
 ·obtain rfl:j=S'.length:=by omega
  refine Owes.val (v:=.int .i64 (n:Int)) ho (by simp) rfl fun g r w hC hOld hn hot=>?_
  obtain ⟨x,hv,hE⟩:=see hR hA hi hsr hn
  obtain ⟨hlk,hln⟩:=hx x
  have hrt:=(agr_app hv agr_nil) t _ (by rw [List.append_nil]; exact hlk)
  obtain ⟨_,_,_,_,hS⟩:=hE.front (Γ:=[]) (F:=[]) rfl
  rw [List.append_nil] at hS
  obtain ⟨b,c,rfl⟩:=hln.sound hS
  exact op_len q1 (x:=.tmp t) hrt
theorem Pre.dep {mt t:Nat} {A:List Nat} {op:Op} {d:Nat} {ty:TypeId} {as:List (List Nat)} {ops:List Oper} {i:Nat} {sl:List (Nat×Nat×Value)} {ms:List MemD} {r0:Nat→Value} {w0:World} {H:List Nat} {X:Value→Value} (h:Pre P Z l mt U r0 w0 H i sl ms) (h1:At1 l mt U A op d ty as ops i) (hi:InhX ms) (hsr:srcB A ms=true) (hj:∃ j,fstJ t ms=some j∧memB j A=true)
  (hq:∀ (r:Nat→Value) (x:Xof ms),(∀ p∈visF A ms x,r p.1=p.2)→∀ w pos aft,(execOp (ev r) ⟨some d,op,ty,pos,aft,none⟩).run P w = .ok (.value (X (r t))) w):Pre P Z l mt U r0 w0 H (i+1) sl (⟨i,d,[t],Unit,fun u _=>X u,fun _ _=>[]⟩ :: ms):=by
 refine h.mem h1 rfl rfl (fun S' hR t' ht=>by rw [List.mem_singleton.1 ht]; exact src_anc h1.A hR hj) ?_
 intro S' S2 hl hR g r w hC hOld hn hot pos aft
 obtain ⟨x,hx,_⟩:=see hR (by rw [hl]; exact h1.A) hi hsr hn
 unfold OpW
 rw [hq r x hx]
 exact ⟨Chg.refl _ _,[],fun b hb=>absurd hb List.not_mem_nil,(),rfl,.inl .nil,List.nodup_nil⟩
theorem bld_pre {mt:Nat} {t:TypeId} {ps:List (Nat×Operand)} {zc:List Value} {pl:List (Nat×Nat)} {A:List Nat} {as:List (List Nat)} {d:Nat} {ty:TypeId} {ops:List Oper} {i:Nat} {sl:List (Nat×Nat×Value)} {ms:List MemD} {fr:Fr} {hd Γ:List Ent} {B:Bs} {r0:Nat→Value} {w0:World} {H:List Nat} {X:Value→List Value} {ts:List Nat} (hh:hotB l mt base=true) (hb:BuC P t zc pl) (hi:InhX ms) (hsr:srcB A ms=true) (hj:tsB A ms ts=true) (hv:eY A none sl base fr)
   (hx:∀ x:Xof ms,FillD (visE A ms x++Γ) (visF A ms x++fr) pl ps zc (X (srcT (lookD (mF ms x)) ts))) (h1:At1 l mt U A (.build t ps.toArray) d ty as ops i) (ha:agr r0 base) (hs:StX B Z hd Γ H w0) (h:Pre P Z l mt U r0 w0 H i sl ms) :
   Pre P Z l mt U r0 w0 H (i+1) sl (⟨i,d,ts,Unit,fun u _=>.agg (X u).toArray,fun _ _=>[]⟩ :: ms):=by
 have hts:∀ t∈ts,∃ j,fstJ t ms=some j∧memB j A=true:=fun t ht=>by
  have:=List.all_eq_true.1 hj t ht
  cases hf:fstJ t ms with
  | none=>rw [hf] at this; cases this
  | some j=>rw [hf] at this; exact ⟨j,rfl,this⟩
 refine h.mem h1 rfl rfl (fun S' hR t' ht=>src_anc h1.A hR (hts t' ht)) ?_
 intro S' S2 hl hR g r w hC hOld hn hot pos aft
 have hA:=h1.A
 rw [← hl] at hA
 have hbs:=agr_vis hR hA hv (agr_base hh ha hot) hOld
 obtain ⟨x,hxv,hxl⟩:=see hR hA hi hsr hn
 obtain ⟨F,Hd,⟨hHL,hHd,hHlt,hHn⟩,hS,hG⟩:=hs
 obtain ⟨G,_,_,_,hS2⟩:=hxl.front (StX.stay hS hG hC)
 have e:srcT (lookD (mF ms x)) ts=srcT r ts:=srcT_eq fun t ht=>by
  obtain ⟨j,h2,h3⟩:=hts t ht
  unfold lookD
  rw [look_vis h2 h3 hxv]
 have hF:=hx x
 rw [e] at hF
 have hrun:=(VQ.bld (P:=P) (hb:=hb) hF).sound hS2 (agr_app hxv hbs) (some d) ty pos aft none w (Chg.refl _ _)
 unfold OpW
 rw [hrun]
 exact ⟨Chg.refl _ _,[],fun b hb=>absurd hb List.not_mem_nil,(),rfl,.inl .nil,List.nodup_nil⟩
theorem lit_pre {mt:Nat} {α:Type} {t e:TypeId} {E:STy α} {z0:α} {bt i d:Nat} {sl:List (Nat×Nat×Value)} {ms:List MemD} {A:List Nat} {ty:TypeId} {as:List (List Nat)} {ops:List Oper} {r0:Nat→Value} {w0:World} {H:List Nat} (hz:STc P t α e E z0 bt) (h1:At1 l mt U A (.buildSlice t 0 #[]) d ty as ops i) (h:Pre P Z l mt U r0 w0 H i sl ms) :
   Pre P Z l mt U r0 w0 H (i+1) sl (⟨i,d,[],Value,fun _ v=>v,fun _ v=>[.own (aK e E) v []]⟩ :: ms):=by
 obtain ⟨t1,_,i',z,t2,_⟩:=hz.h
 refine h.mem h1 rfl rfl (fun _ _ _ h=>nomatch h) fun S' S2 hl hR g r w hC hOld hn hot pos aft=>OpW_mono (OpW.made (own_lit0 (E:=E) t1 t2)) ?_
 rintro v w' ⟨hC,f,hf,hV⟩
 refine ⟨hC,f,hf,v,rfl,?_,hV.2⟩
 have:=HL.own (Z:=fun _=>False) (e:=.own (aK e E) v []) (f:=f) hV.1 .nil
 exact .inl (by simpa using this)
theorem mk_pre {mt n:Nat} {α:Type} {t e:TypeId} {E:STy α} {z0:α} {bt i d:Nat} {sl:List (Nat×Nat×Value)} {ms:List MemD} {A:List Nat} {ty:TypeId} {as:List (List Nat)} {ops:List Oper} {r0:Nat→Value} {w0:World} {H:List Nat} {x:Operand} {z:Int} (hh:hotB l mt base=true) (ha:agr r0 base) (hz:STc P t α e E z0 bt) (hv:eY A none sl base fr) (hx:opv fr x=some (.int .i64 z)) (hn:mk bt z=some n) (h1:At1 l mt U A (.makeSlice t x x) d ty as ops i) (h:Pre P Z l mt U r0 w0 H i sl ms) :
   Pre P Z l mt U r0 w0 H (i+1) sl (⟨i,d,[],Value,fun _ v=>v,fun _ v=>[.own (aK e E) v (List.replicate n z0)]⟩ :: ms):=by
 obtain ⟨e1,e2,e3⟩:=mk_some hn
 obtain ⟨t1,hE,i',z',t2,t3,t4,t5,t6,t7⟩:=hz.h
 subst e1
 refine h.mem h1 rfl rfl (fun _ _ _ h=>nomatch h) fun S' S2 hl hR g r w hC hOld hn hot pos aft=>?_
 have hb:=agr_vis hR (by rw [hl]; exact h1.A) hv (agr_base hh ha hot) hOld
 refine OpW_mono (OpW.made (own_make (E:=E) (z0:=z0) t1 t2 t3 t4 hE t5 t7 (aU hb hx) (aU hb hx) (by rw [t6]; exact e2) e3)) ?_
 rintro v w' ⟨hC,f,hf,hV⟩
 refine ⟨hC,f,hf,v,rfl,?_,hV.2⟩
 have:=HL.own (Z:=fun _=>False) (e:=.own (aK e E) v (List.replicate n z0)) (f:=f) hV.1 .nil
 exact .inl (by simpa using this)
theorem lt_pre {mt:Nat} {α:Type} {t e:TypeId} {E:STy α} {z0:α} {bt i d:Nat} {sl:List (Nat×Nat×Value)} {ms:List MemD} {A:List Nat} {ty:TypeId} {as:List (List Nat)} {ops:List Oper} {r0:Nat→Value} {w0:World} {H:List Nat} {x:Operand} {u:Value} {Γ:List Ent} {F:List Nat} (hh:hotB l mt base=true) (ha:agr r0 base) (hz:STc P t α e E z0 bt) (hv:eY A none sl base fr) (hx:opv fr x=some u) (ho:One Γ u) (hS:∀ w,Chg H w0 w→SA Z w Γ [] F) (h1:At1 l mt U A (.buildSlice t 1 #[(0,x)]) d ty as ops i) (h:Pre P Z l mt U r0 w0 H i sl ms) :
   Pre P Z l mt U r0 w0 H (i+1) sl (⟨i,d,[],Nat,fun _ b=>.slice (some ⟨b,0,none⟩) 1 1,fun _ b=>[.row b [u] e]⟩ :: ms):=by
 obtain ⟨t1,hE,i',z',t2,t3,t4,t5,t6,t7⟩:=hz.h
 refine h.mem h1 rfl rfl (fun _ _ _ h=>nomatch h) fun S' S2 hl hR g r w hC hOld hn hot pos aft=>?_
 have hb:=agr_vis hR (by rw [hl]; exact h1.A) hv (agr_base hh ha hot) hOld
 refine OpW_mono (OpW.lit1 t1 t2 t3 t4 (aU hb hx) (ho.one (hS w hC))) ?_
 rintro v w' ⟨hC,f,hf,b,e1,e2,hrow⟩
 refine ⟨hC,f,hf,b,e2,?_,by rw [e1]; simp⟩
 have:=HL.own (Z:=fun _=>False) (e:=.row b [u] e) (f:=[b]) ⟨rfl,hrow⟩ .nil
 rw [e1]
 exact .inl (by simpa using this)
theorem ltn_pre {mt n:Nat} {t e:TypeId} {i d:Nat} {sl:List (Nat×Nat×Value)} {ms:List MemD} {A:List Nat} {ty:TypeId} {as:List (List Nat)} {ops:List Oper} {r0:Nat→Value} {w0:World} {H:List Nat} {ps:List (Nat×Operand)} {us:List Value} {Γ:List Ent} {F:List Nat} (hh:hotB l mt base=true) (ha:agr r0 base) (hz:LTc P t e) (hv:eY A none sl base fr) (hd:LitD Γ fr 0 ps us) (hn:us.length=n) (hb:(Nat.ble 1 n && Nat.ble n 16777216)=true) (hS:∀ w,Chg H w0 w→SA Z w Γ [] F) (h1:At1 l mt U A (.buildSlice t n ps.toArray) d ty as ops i) (h:Pre P Z l mt U r0 w0 H i sl ms) :
   Pre P Z l mt U r0 w0 H (i+1) sl (⟨i,d,[],Nat,fun _ b=>.slice (some ⟨b,0,none⟩) n n,fun _ b=>[.row b us e]⟩ :: ms):=by
 refine h.mem h1 rfl rfl (fun _ _ _ h=>nomatch h) fun S' S2 hl hR g r w hC hOld hnn hot pos aft=>?_
 have hb':=agr_vis hR (by rw [hl]; exact h1.A) hv (agr_base hh ha hot) hOld
 unfold OpW
 rw [hd.op hb' (hS w hC) hz hn hb]
 refine ⟨Chg.alloc _ _ _,[w.heap.size],fun b hb=>by rw [List.mem_singleton.1 hb]; simp,w.heap.size,rfl,?_,by simp⟩
 have:=HL.own (Z:=fun _=>False) (e:=.row w.heap.size us e) (f:=[w.heap.size]) ⟨rfl,heap_alloc_new w _⟩ .nil
 exact .inl (by simpa using this)
theorem mlt_pre {mt t:Nat} {α:Type} {s e:TypeId} {E:STy α} {z0:α} {bt i d:Nat} {sl:List (Nat×Nat×Value)} {ms:List MemD} {A:List Nat} {ty:TypeId} {as:List (List Nat)} {ops:List Oper} {r0:Nat→Value} {w0:World} {H:List Nat} (hz:STc P s α e E z0 bt) (hi:InhX ms) (hsr:srcB A ms=true) (hj:∃ j,fstJ t ms=some j∧memB j A=true) (hx:∀ x:Xof ms,OneD (visF A ms x) (visE A ms x) t) (h1:At1 l mt U A (.buildSlice s 1 #[(0,.tmp t)]) d ty as ops i) (h:Pre P Z l mt U r0 w0 H i sl ms) :
   Pre P Z l mt U r0 w0 H (i+1) sl (⟨i,d,[t],Nat,fun _ b=>.slice (some ⟨b,0,none⟩) 1 1,fun u b=>[.row b [u] e]⟩ :: ms):=by
 obtain ⟨t1,hE,i',z',t2,t3,t4,t5,t6,t7⟩:=hz.h
 refine h.mem h1 rfl rfl (fun S' hR t' ht=>by rw [List.mem_singleton.1 ht]; exact src_anc h1.A hR hj) ?_
 intro S' S2 hl hR g r w hC hOld hn hot pos aft
 obtain ⟨x,hv,hE⟩:=see hR (by rw [hl]; exact h1.A) hi hsr hn
 obtain ⟨hlk,hone⟩:=hx x
 have hrt:r t=_:=(agr_app hv agr_nil) t _ (by rw [List.append_nil]; exact hlk)
 obtain ⟨_,_,_,_,hS⟩:=hE.front (Γ:=[]) (F:=[]) rfl
 rw [List.append_nil] at hS
 refine OpW_mono (OpW.lit1 t1 t2 t3 t4 (x:=.tmp t) rfl (by show (r t).oneCell'=true; rw [hrt]; exact hone.one hS)) ?_
 rintro v w' ⟨hC,f,hf,b,e1,e2,hrow⟩
 refine ⟨hC,f,hf,b,e2,?_,by rw [e1]; simp⟩
 have:=HL.own (Z:=fun _=>False) (e:=.row b [r t] e) (f:=[b]) ⟨rfl,hrow⟩ .nil
 rw [e1]
 exact .inl (by simpa [srcV,srcT] using this)
theorem call_pre {mt:Nat} {β V:Type} {A:List Nat} {as:List (List Nat)} {d:Nat} {f:FuncId} {xs:List Operand} {ats:Array TypeId} {ty:TypeId} {mo:Option β} {rt:β→V→List Value} {ps:β→V→List Ent} {ops:List Oper} {i:Nat} {sl:List (Nat×Nat×Value)} {ms:List MemD} {fr:Fr} {hd Γ:List Ent} {B:Bs} {r0:Nat→Value} {w0:World} {H:List Nat} {y:β} (hh:hotB l mt base=true) (hf:FnC P f) (hv:eY A none sl base fr)
   (hc:∀ x:Xof ms,CallD P f xs (visF A ms x++fr) (visE A ms x++Γ) mo rt ps) (hi:InhX ms) (hsr:srcB A ms=true) (hw:∀ y v,owB (ps y v)=true) (h1:At1 l mt U A (.call ⟨.value (.func f),xs.toArray,ats⟩) d ty as ops i) (hy:mo=some y) (ha:agr r0 base) (hs:StX B Z hd Γ H w0) (h:Pre P Z l mt U r0 w0 H i sl ms) :
   Pre1 P Z l mt U r0 w0 H i sl ms ⟨i,d,[],V,fun _ v=>tupv (rt y v),fun _=>ps y⟩:=by
 obtain ⟨S',hl,hR,hO⟩:=h
 subst hl
 refine ⟨S',rfl,hR,hO,fun V' hV=>?_⟩
 obtain ⟨hA,⟨pos,aft,ho⟩,_⟩:=h1
 refine Owes.memX (V:=V') ho (by simp) rfl fun g r w hC hOld hn hot=>?_
 have hb:=agr_vis hR hA hv (agr_base hh ha hot) hOld
 obtain ⟨x,hx,hxl⟩:=see hR hA hi hsr hn
 obtain ⟨hx1,hct,hd,hr⟩:=hc x
 obtain ⟨fn,c,f1,f2,f3⟩:=hf.h
 refine Calls.of_ct f1 f2 f3 ?_
 rw [opvs_ev (agr_app hx hb) hx1]
 obtain ⟨F,Hd,⟨hHL,hHd,hHlt,hHn⟩,hS,hG⟩:=hs
 obtain ⟨G,hG',FV,hF',hS2⟩:=hxl.front (StX.stay hS hG hC)
 rw [ct_eq] at hct
 refine (hct.2 w (fun b=>Z b∨b∈G) [] (hr.sound (fun _ h=>h) (fun _ b hb=>.inr (hF' b hb)) hS2 hd.ho) List.nodup_nil (fun b hb=>absurd hb List.not_mem_nil)
  (fun b hb=>hb.elim (fun h=>Nat.lt_of_lt_of_le (hG.zlt b h) hC.size) fun h=>(hG' b h).2) y hy).mono ?_
 rintro e w' ⟨v,he,Z2,F2,hl2,hg2⟩
 have hl3:HL (fun _=>False) w' (ps y v) F2:=hl_own (hw y v) hl2
 have hlt:=(hl3.front (Γ:=[]) (F:=[]) rfl).lt
 obtain ⟨f',hsub,hV'⟩:=hV F2 w' r _ ⟨v,rfl,.inl hl3,hg2.nd⟩
 refine ⟨_,he,hg2.chg,f',fun b hb=>⟨(hg2.low b (hsub b hb)).resolve_left List.not_mem_nil,hlt b (by simpa using hsub b hb)⟩,hV'⟩
theorem visB_mem {A:List Nat} {g:Nat→List Nat} {b:Nat}:∀ {ms:List MemD},b∈visB A g ms→∃ a∈ms,memB a.j A=true∧b∈g a.j:=by
 intro ms
 induction ms with
 | nil=>intro h; exact absurd h List.not_mem_nil
 | cons a l ih=>
  intro h
  unfold visB at h
  cases hb:memB a.j A with
  | true=>
   rw [hb] at h
   rcases List.mem_append.1 h with h | h
   ·exact ⟨a,by simp,hb,h⟩
   ·obtain ⟨c,h1,h2⟩:=ih h; exact ⟨c,List.mem_cons_of_mem _ h1,h2⟩
  | false=>rw [hb] at h; obtain ⟨c,h1,h2⟩:=ih h; exact ⟨c,List.mem_cons_of_mem _ h1,h2⟩
theorem needV_of {mt i:Nat} (h:((U.set i []).all fun us=>!(us.contains l.length))=true):needV l U mt i=true:=by
 unfold needV
 simp only [List.all_eq_true,List.mem_range,Bool.or_eq_true,Bool.not_eq_true'] at h ⊢
 intro k _
 by_cases hk:k=i
 ·exact .inl (.inr (by rw [hk]; exact Nat.beq_refl i))
 ·refine .inl (.inl ?_)
  rw [List.getD_eq_getElem?_getD]
  cases hu:U[k]? with
  | none=>rfl
  | some us=>exact h us (List.mem_of_getElem? (i:=k) (by rw [List.getElem?_set_ne (fun e=>hk e.symm)]; exact hu))
theorem HO.mono {Z':Nat→Prop} (hz:∀ b,Z b→Z' b) {Δ:List Ent} {F:List Nat} (h:HO Z w Δ F):HO Z' w Δ F:=by
 induction h with
 | nil=>exact .nil
 | own h _ ih=>exact .own (h.mono hz) ih
 | rd _ ih=>exact .rd ih
 | ats _ ih=>exact .ats ih
theorem callH_pre {mt:Nat} {β V:Type} {A:List Nat} {as:List (List Nat)} {d:Nat} {f:FuncId} {xs:List Operand} {ats:Array TypeId} {ty:TypeId} {mo:Option β} {rt:β→V→List Value} {ps:β→V→List Ent} {ops:List Oper} {i:Nat} {sl:List (Nat×Nat×Value)} {ms:List MemD} {fr:Fr} {hd Γ:List Ent} {B:Bs} {r0:Nat→Value} {w0:World} {H:List Nat} {y:β} (hh:hotB l mt base=true) (hf:FnC P f) (hv:eY A none sl base fr)
   (hU:U.getD i []=[l.length]) (hVc:((U.set i []).all fun us=>!(us.contains l.length))=true)
   (hc:∀ x:Xof ms,CallH P f xs (visF A ms x++fr) hd (visE A ms x++Γ) mo rt ps) (hi:InhX ms) (hsr:srcB A ms=true) (hw:∀ y v,owB (ps y v)=true) (h1:At1 l mt U A (.call ⟨.value (.func f),xs.toArray,ats⟩) d ty as ops i) (hy:mo=some y) (ha:agr r0 base) (hs:StX B Z hd Γ H w0) (h:Pre P Z l mt U r0 w0 H i sl ms) :
   Pre1 P Z l mt U r0 w0 H i sl ms ⟨i,d,[],V,fun _ v=>tupv (rt y v),fun _=>ps y⟩:=by
 obtain ⟨S',hl,hR,hO⟩:=h
 subst hl
 refine ⟨S',rfl,hR,hO,fun V' hV=>?_⟩
 obtain ⟨hA,⟨pos,aft,ho⟩,_⟩:=h1
 intro o' s' ho' hs' g r w hC hV0 hOld hn hot hdis hfr
 rw [ho] at ho'
 cases ho'
 rw [List.getElem?_append_right (Nat.le_refl _),Nat.sub_self] at hs'
 cases hs'
 rw [if_pos rfl]
 refine ⟨rfl,?_⟩
 obtain ⟨hC0,hgH,hfr0⟩:=hV0 (needV_of hVc)
 have hb:=agr_vis hR hA hv (agr_base hh ha hot) hOld
 obtain ⟨x,hx,hxl⟩:=see hR hA hi hsr hn
 obtain ⟨hx1,hct,heo,hr⟩:=hc x
 obtain ⟨fn,c,f1,f2,f3⟩:=hf.h
 refine Calls.of_ct f1 f2 f3 ?_
 rw [opvs_ev (agr_app hx hb) hx1]
 obtain ⟨F,Hd,⟨hHL,hHd,hHlt,hHn⟩,hS,hG⟩:=hs
 obtain ⟨G,hG',FV,hF',hS2⟩:=hxl.front (StX.stay hS hG hC)
 obtain ⟨Fd,F',hHO,_,hpm⟩:=heo.sound (hHL.keep0 hC0)
 have hsub:∀ b∈Fd,b∈H:=fun b hb=>(hHd b (hpm.mem_iff.1 (List.mem_append_left _ hb))).1
 have hnd:=List.nodup_append.1 hG.nd
 have hblk:blks g (U.getD S'.length [])=H:=by rw [hU]; simp [blks,hgH]
 rw [hblk]
 rw [ct_eq] at hct
 refine (hct.2 w (fun b=>Z b∨b∈G) Fd (hr.sound (fun _ h=>h) (fun _ b hb=>.inr (hF' b hb)) hS2 (hHO.mono fun _ h=>.inl h)) ((hpm.nodup_iff.2 hHn).sublist (List.sublist_append_left _ _)) (fun b hb=>?_)
  (fun b hb=>hb.elim (fun h=>Nat.lt_of_lt_of_le (hG.zlt b h) hC.size) fun h=>(hG' b h).2) y hy).mono ?_
 ·rintro (hz | hz)
  ·exact hG.apart b (List.mem_append_left _ (hsub b hb)) hz
  ·rcases List.mem_append.1 (hG' b hz).1 with hz | hz
   ·obtain ⟨a,ham,hab,hag⟩:=visB_mem hz
    have h2:=hfr0 a.j (vis_mem (by rw [← hA]; exact memB_iff.1 hab)).1 b hag
    have h3:=hHlt b (hsub b hb)
    omega
   ·exact hnd.2.2 b (hsub b hb) b hz rfl
 ·rintro e w' ⟨v,he,Z2,F2,hl2,hg2⟩
  have hl3:HL (fun _=>False) w' (ps y v) F2:=hl_own (hw y v) hl2
  have hlt:=(hl3.front (Γ:=[]) (F:=[]) rfl).lt
  obtain ⟨f',hsb,hV'⟩:=hV F2 w' r _ ⟨v,rfl,.inl hl3,hg2.nd⟩
  exact ⟨_,he,hg2.chg.mono hsub,f',fun b hb=>⟨(hg2.low b (hsb b hb)).imp (hsub b) id,hlt b (by simpa using hsb b hb)⟩,hV'⟩
theorem GetJ.sub {ms ms':List MemD} {a:MemD} {t:Nat} (h:GetJ ms t a ms'):a∈ms∧a.j=t∧(∀ b∈ms',b∈ms)∧(ms'.map (·.j)).Sublist (ms.map (·.j))∧((ms.map (·.j)).Nodup→∀ b∈ms',b.j≠t):=by
 induction h with
 | here=>exact ⟨by simp,rfl,fun b hb=>List.mem_cons_of_mem _ hb,by simp,fun hn b hb he=>by rw [List.map_cons,List.nodup_cons] at hn; exact hn.1 (by rw [← he]; exact List.mem_map_of_mem hb)⟩
 | there _ ih=>
  obtain ⟨h1,h2,h3,h4,h5⟩:=ih
  refine ⟨List.mem_cons_of_mem _ h1,h2,fun b hb=>?_,by simpa using h4,fun hn b hb=>?_⟩
  ·rcases List.mem_cons.1 hb with rfl | hb
   ·simp
   ·exact List.mem_cons_of_mem _ (h3 b hb)
  ·rw [List.map_cons,List.nodup_cons] at hn
   rcases List.mem_cons.1 hb with rfl | hb
   ·intro he
    exact hn.1 (by rw [he,← h2]; exact List.mem_map_of_mem h1)
   ·exact h5 hn.2 b hb
theorem callM_pre {mt:Nat} {β V:Type} {j1:Nat} {a1:MemD} {A:List Nat} {as:List (List Nat)} {d:Nat} {f:FuncId} {xs:List Operand} {ats:Array TypeId} {ty:TypeId} {mo:Option β} {rt:β→V→List Value} {ps:β→V→List Ent} {ops:List Oper} {i:Nat} {sl:List (Nat×Nat×Value)} {ms ms1:List MemD} {fr:Fr} {hd Γ:List Ent} {B:Bs} {r0:Nat→Value} {w0:World} {H:List Nat} {y:β} (hh:hotB l mt base=true) (hf:FnC P f) (hv:eY A none sl base fr)
   (hU:U.getD i []=[j1]) (hg1:GetJ ms j1 a1 ms1) (hs1:a1.src=[]) (h4:memB j1 A=true)
   (hc:∀ (q:a1.V) (x:Xof ms1),CallH P f xs (visF A ms1 x++fr) (a1.ps undef q) (visE A ms1 x++Γ) mo rt ps) (hi:InhX ms1) (hsr:srcB A ms1=true) (hw:∀ y v,owB (ps y v)=true) (h1:At1 l mt U A (.call ⟨.value (.func f),xs.toArray,ats⟩) d ty as ops i) (hy:mo=some y) (ha:agr r0 base) (hs:StX B Z hd Γ H w0) (h:Pre P Z l mt U r0 w0 H i sl ms) :
   Pre1 P Z l mt U r0 w0 H i sl ms1 ⟨i,d,[],V,fun _ v=>tupv (rt y v),fun _=>ps y⟩:=by
 obtain ⟨S',hl,hR0,hO⟩:=h
 subst hl
 obtain ⟨m1,m2,m3,m4,m5⟩:=hg1.sub
 have hR:=hR0.sub m3 m4
 refine ⟨S',rfl,hR,hO,fun V' hV=>?_⟩
 obtain ⟨hA,⟨pos,aft,ho⟩,_⟩:=h1
 intro o' s' ho' hs' g r w hC hV0 hOld hn hot hdis hfr
 rw [ho] at ho'
 cases ho'
 rw [List.getElem?_append_right (Nat.le_refl _),Nat.sub_self] at hs'
 cases hs'
 rw [if_pos rfl]
 refine ⟨rfl,?_⟩
 have hvis:=vis_mem (by rw [← hA]; exact memB_iff.1 h4)
 have hb:=agr_vis hR hA hv (agr_base hh ha hot) hOld
 obtain ⟨x,hx,hxl⟩:=see hR hA hi hsr hn
 obtain ⟨q,_,hq2,hq3⟩:=hR0.got m1 (hn a1.j (by rw [m2]; exact hvis.2))
 have hsv:srcV a1 r=undef:=by unfold srcV; rw [hs1]; rfl
 rw [hsv,m2] at hq2
 rw [m2] at hq3
 obtain ⟨hx1,hct,heo,hr⟩:=hc q x
 obtain ⟨fn,c,f1,f2,f3⟩:=hf.h
 refine Calls.of_ct f1 f2 f3 ?_
 rw [opvs_ev (agr_app hx hb) hx1]
 obtain ⟨F,Hd,⟨hHL,hHd,hHlt,hHn⟩,hS,hG⟩:=hs
 have hSt:=StX.stay hS hG hC
 obtain ⟨G,hG',FV,hF',hS2⟩:=hxl.front hSt
 obtain ⟨Fo,Fr,hff,hFr,hq4⟩:=hq2.all
 have hSq:SA (fun b=>Z b∨b∈Fr) w (a1.ps undef q) [] Fo:=by
  have:=hq4.front (Γ:=[]) (F:=[]) rfl
  simpa using this
 have hnq:=List.nodup_append.1 (hff ▸ hq3)
 obtain ⟨Fd,F',hHO,_,hpm⟩:=heo.sound hSq
 have hsub0:∀ b∈Fd,b∈Fo:=fun b hb=>hpm.mem_iff.1 (List.mem_append_left _ hb)
 have hsub:∀ b∈Fd,b∈g j1:=fun b hb=>by rw [hff]; exact List.mem_append_left _ (hsub0 b hb)
 have hnd:=List.nodup_append.1 hG.nd
 have hblk:blks g (U.getD S'.length [])=g j1:=by rw [hU]; simp [blks]
 rw [hblk]
 rw [ct_eq] at hct
 have hfb:∀ b∈g j1,w0.heap.size≤b∨b∈H:=fun b hb=>(hfr j1 hvis.1 b hb).1
 refine (hct.2 w (fun b=>Z b∨b∈Fr++G) Fd (hr.sound (fun _ h=>h) (fun _ b hb=>.inr (List.mem_append_right _ (hF' b hb))) (hS2.mono (fun _ h=>h.imp id fun h=>List.mem_append_right _ h) fun _ h=>h) (hHO.mono fun _ h=>h.imp id fun h=>List.mem_append_left _ h)) ((hpm.nodup_iff.2 hnq.1).sublist (List.sublist_append_left _ _)) (fun b hb=>?_)
  (fun b hb=>hb.elim (fun h=>Nat.lt_of_lt_of_le (hG.zlt b h) hC.size) fun h=>(List.mem_append.1 h).elim (hFr b) fun h=>(hG' b h).2) y hy).mono ?_
 ·rintro (hz | hz)
  ·rcases hfb b (hsub b hb) with h | h
   ·have:=hG.zlt b hz; omega
   ·exact hG.apart b (List.mem_append_left _ h) hz
  ·rcases List.mem_append.1 hz with hz | hz
   ·exact hnq.2.2 b (hsub0 b hb) b hz rfl
   rcases List.mem_append.1 (hG' b hz).1 with hz | hz
   ·obtain ⟨a,ham,hab,hag⟩:=visB_mem hz
    exact hdis a.j (vis_mem (by rw [← hA]; exact memB_iff.1 hab)).1 j1 hvis.1 (m5 hR0.d a ham) b hag (hsub b hb)
   ·rcases hfb b (hsub b hb) with h | h
    ·have:=hS.lt b hz; omega
    ·exact hnd.2.2 b h b hz rfl
 ·rintro e w' ⟨v,he,Z2,F2,hl2,hg2⟩
  have hl3:HL (fun _=>False) w' (ps y v) F2:=hl_own (hw y v) hl2
  have hlt:=(hl3.front (Γ:=[]) (F:=[]) rfl).lt
  obtain ⟨f',hsb,hV'⟩:=hV F2 w' r _ ⟨v,rfl,.inl hl3,hg2.nd⟩
  exact ⟨_,he,hg2.chg.mono hsub,f',fun b hb=>⟨(hg2.low b (hsb b hb)).imp (hsub b) id,hlt b (by simpa using hsb b hb)⟩,hV'⟩
theorem SA.app {Γ Γ':List Ent} {F F':List Nat}:∀ {cur:List Nat},SA Z w Γ' cur F'→SA Z w Γ [] F→SA Z w (Γ'++Γ) cur (F'++F):=by
 induction Γ' generalizing F' with
 | nil=>intro cur h hs; cases h; exact hs.any
 | cons e Γ' ih=>
  intro cur h hs
  cases e with
  | own T v x=>obtain ⟨f,F1,rfl,h1,h2⟩:=h; exact ⟨f,F1++F,by rw [List.append_assoc],h1,ih h2 hs⟩
  | om e E v xs=>obtain ⟨f,F1,rfl,h1,h2⟩:=h; exact ⟨f,F1++F,by rw [List.append_assoc],h1,ih h2 hs⟩
  | row b cs e=>obtain ⟨f,F1,rfl,h1,h2⟩:=h; exact ⟨f,F1++F,by rw [List.append_assoc],h1,ih h2 hs⟩
  | hol e E v xs j u=>obtain ⟨f,F1,rfl,h1,h2⟩:=h; exact ⟨f,F1++F,by rw [List.append_assoc],h1,ih h2 hs⟩
  | rd o T v x=>exact ⟨h.1,ih h.2 hs⟩
  | ad o1 o2 v j T x=>exact ⟨h.1,ih h.2 hs⟩
  | ats p cs=>exact ⟨h.1,ih h.2 hs⟩
  | hd v j u=>exact ⟨h.1,ih h.2 hs⟩
open Classical in
theorem rdN {w':World} {Zc Z2:Nat→Prop} {Fd F2 K:List Nat} {Δ:List Ent} (hl:HL Z2 w' Δ F2) (hg:Gd ⟨w,Zc,Fd⟩ Z2 F2 w') (hz:∀ b,Zc b→Z b∨b∈K) (hK:∀ b∈Fd,b∈K) :
  ∃ f,(∀ b∈f,(b∈K∨w.heap.size≤b)∧b < w'.heap.size)∧HN Z w' Δ f∧f.Nodup:=by
 have hlt:=(hl.front (Γ:=[]) (F:=[]) rfl).lt
 by_cases ho:owB Δ=true
 ·exact ⟨F2,fun b hb=>⟨(hg.low b hb).imp (hK b) id,hlt b (by simpa using hb)⟩,.inl (hl_own ho hl),hg.nd⟩
 ·let Fr:=(List.range w'.heap.size).filter fun b=>decide (Z2 b∧(b∈K∨w.heap.size≤b))
  have hFr:∀ b,b∈Fr↔b < w'.heap.size∧Z2 b∧(b∈K∨w.heap.size≤b):=fun b=>by simp [Fr]
  refine ⟨F2++Fr,fun b hb=>?_,.inr ⟨F2,Fr,rfl,⟨by simpa using ho,fun b hb=>((hFr b).1 hb).1⟩,hl.mono fun b hb=>?_⟩,?_⟩
  ·rcases List.mem_append.1 hb with hb | hb
   ·exact ⟨(hg.low b hb).imp (hK b) id,hlt b (by simpa using hb)⟩
   ·exact ⟨((hFr b).1 hb).2.2,((hFr b).1 hb).1⟩
  ·rcases hg.zlow b hb with h | h | h
   ·rcases hz b h with h | h
    ·exact .inl h
    ·exact .inr ((hFr b).2 ⟨hg.zlt b hb,hb,.inl h⟩)
   ·exact .inr ((hFr b).2 ⟨hg.zlt b hb,hb,.inl (hK b h)⟩)
   ·exact .inr ((hFr b).2 ⟨hg.zlt b hb,hb,.inr h⟩)
  ·refine nodup_app hg.nd (List.nodup_range.filter _) fun b hb hf=>hg.apart b hb ((hFr b).1 hf).2.1
theorem callR_pre {mt:Nat} {β V:Type} {A:List Nat} {as:List (List Nat)} {d:Nat} {f:FuncId} {xs:List Operand} {ats:Array TypeId} {ty:TypeId} {mo:Option β} {rt:β→V→List Value} {ps:β→V→List Ent} {ops:List Oper} {i:Nat} {sl:List (Nat×Nat×Value)} {ms:List MemD} {fr:Fr} {hd Γ:List Ent} {B:Bs} {r0:Nat→Value} {w0:World} {H:List Nat} {y:β} (hh:hotB l mt base=true) (hf:FnC P f) (hv:eY A none sl base fr)
   (hc:∀ x:Xof ms,CallR P f xs (visF A ms x++fr) Γ mo rt ps) (hi:InhX ms) (hsr:srcB A ms=true) (h1:At1 l mt U A (.call ⟨.value (.func f),xs.toArray,ats⟩) d ty as ops i) (hy:mo=some y) (ha:agr r0 base) (hs:StX B Z hd Γ H w0) (h:Pre P Z l mt U r0 w0 H i sl ms) :
   Pre1 P Z l mt U r0 w0 H i sl ms ⟨i,d,[],V,fun _ v=>tupv (rt y v),fun _=>ps y⟩:=by
 obtain ⟨S',hl,hR,hO⟩:=h
 subst hl
 refine ⟨S',rfl,hR,hO,fun V' hV=>?_⟩
 obtain ⟨hA,⟨pos,aft,ho⟩,_⟩:=h1
 refine Owes.memX (V:=V') ho (by simp) rfl fun g r w hC hOld hn hot=>?_
 have hb:=agr_vis hR hA hv (agr_base hh ha hot) hOld
 obtain ⟨x,hx,hxl⟩:=see hR hA hi hsr hn
 obtain ⟨hx1,hct,hd,hr⟩:=hc x
 obtain ⟨fn,c,f1,f2,f3⟩:=hf.h
 refine Calls.of_ct f1 f2 f3 ?_
 rw [opvs_ev (agr_app hx hb) hx1]
 obtain ⟨F,Hd,⟨hHL,hHd,hHlt,hHn⟩,hS,hG⟩:=hs
 have hSt:=StX.stay hS hG hC
 rw [ct_eq] at hct
 refine (hct.2 w Z [] (hr.sound (fun _ h=>h) (fun h=>nomatch h) hSt hd.ho) List.nodup_nil (fun b hb=>absurd hb List.not_mem_nil)
  (fun b h=>Nat.lt_of_lt_of_le (hG.zlt b h) hC.size) y hy).mono ?_
 rintro e w' ⟨v,he,Z2,F2,hl2,hg2⟩
 obtain ⟨f2,k1,k2,k3⟩:=rdN (Z:=Z) (K:=[]) hl2 hg2 (fun _ h=>.inl h) fun _ h=>h
 obtain ⟨f',hsub,hV'⟩:=hV f2 w' r _ ⟨v,rfl,k2,k3⟩
 exact ⟨_,he,hg2.chg,f',fun b hb=>⟨(k1 b (hsub b hb)).1.resolve_left List.not_mem_nil,(k1 b (hsub b hb)).2⟩,hV'⟩
theorem callHR_pre {mt:Nat} {β V:Type} {A:List Nat} {as:List (List Nat)} {d:Nat} {f:FuncId} {xs:List Operand} {ats:Array TypeId} {ty:TypeId} {mo:Option β} {rt:β→V→List Value} {ps:β→V→List Ent} {ops:List Oper} {i:Nat} {sl:List (Nat×Nat×Value)} {ms:List MemD} {fr:Fr} {hd Γ:List Ent} {B:Bs} {r0:Nat→Value} {w0:World} {H:List Nat} {y:β} (hh:hotB l mt base=true) (hf:FnC P f) (hv:eY A none sl base fr)
   (hU:U.getD i []=[l.length]) (hVc:((U.set i []).all fun us=>!(us.contains l.length))=true)
   (hc:∀ x:Xof ms,CallHR P f xs (visF A ms x++fr) hd Γ mo rt ps) (hi:InhX ms) (hsr:srcB A ms=true) (h1:At1 l mt U A (.call ⟨.value (.func f),xs.toArray,ats⟩) d ty as ops i) (hy:mo=some y) (ha:agr r0 base) (hs:StX B Z hd Γ H w0) (h:Pre P Z l mt U r0 w0 H i sl ms) :
   Pre1 P Z l mt U r0 w0 H i sl ms ⟨i,d,[],V,fun _ v=>tupv (rt y v),fun _=>ps y⟩:=by
 obtain ⟨S',hl,hR,hO⟩:=h
 subst hl
 refine ⟨S',rfl,hR,hO,fun V' hV=>?_⟩
 obtain ⟨hA,⟨pos,aft,ho⟩,_⟩:=h1
 intro o' s' ho' hs' g r w hC hV0 hOld hn hot hdis hfr
 rw [ho] at ho'
 cases ho'
 rw [List.getElem?_append_right (Nat.le_refl _),Nat.sub_self] at hs'
 cases hs'
 rw [if_pos rfl]
 refine ⟨rfl,?_⟩
 obtain ⟨hC0,hgH,hfr0⟩:=hV0 (needV_of hVc)
 have hb:=agr_vis hR hA hv (agr_base hh ha hot) hOld
 obtain ⟨x,hx,hxl⟩:=see hR hA hi hsr hn
 obtain ⟨hx1,hct,heo,hr⟩:=hc x
 obtain ⟨fn,c,f1,f2,f3⟩:=hf.h
 refine Calls.of_ct f1 f2 f3 ?_
 rw [opvs_ev (agr_app hx hb) hx1]
 obtain ⟨F,Hd,⟨hHL,hHd,hHlt,hHn⟩,hS,hG⟩:=hs
 have hSt:=StX.stay hS hG hC
 obtain ⟨Fd,F',hHO,hSr,hpm⟩:=heo.sound (hHL.keep0 hC0)
 have hsub:∀ b∈Fd,b∈H:=fun b hb=>(hHd b (hpm.mem_iff.1 (List.mem_append_left _ hb))).1
 have hnd:=List.nodup_append.1 hG.nd
 have hblk:blks g (U.getD S'.length [])=H:=by rw [hU]; simp [blks,hgH]
 rw [hblk]
 rw [ct_eq] at hct
 refine (hct.2 w Z Fd (hr.sound (fun _ h=>h) (fun h=>nomatch h) (hSr.app hSt) hHO) ((hpm.nodup_iff.2 hHn).sublist (List.sublist_append_left _ _)) (fun b hb=>hG.apart b (List.mem_append_left _ (hsub b hb)))
  (fun b h=>Nat.lt_of_lt_of_le (hG.zlt b h) hC.size) y hy).mono ?_
 rintro e w' ⟨v,he,Z2,F2,hl2,hg2⟩
 obtain ⟨f2,k1,k2,k3⟩:=rdN (Z:=Z) (K:=H) hl2 hg2 (fun _ h=>.inl h) hsub
 obtain ⟨f',hsb,hV'⟩:=hV f2 w' r _ ⟨v,rfl,k2,k3⟩
 exact ⟨_,he,hg2.chg.mono hsub,f',fun b hb=>k1 b (hsb b hb),hV'⟩
theorem callMR_pre {mt:Nat} {β V:Type} {j1:Nat} {a1:MemD} {A:List Nat} {as:List (List Nat)} {d:Nat} {f:FuncId} {xs:List Operand} {ats:Array TypeId} {ty:TypeId} {mo:Option β} {rt:β→V→List Value} {ps:β→V→List Ent} {ops:List Oper} {i:Nat} {sl:List (Nat×Nat×Value)} {ms ms1:List MemD} {fr:Fr} {hd Γ:List Ent} {B:Bs} {r0:Nat→Value} {w0:World} {H:List Nat} {y:β} (hh:hotB l mt base=true) (hf:FnC P f) (hv:eY A none sl base fr)
   (hU:U.getD i []=[j1]) (hg1:GetJ ms j1 a1 ms1) (hs1:a1.src=[]) (h4:memB j1 A=true)
   (hc:∀ (q:a1.V) (x:Xof ms1),CallHR P f xs ((a1.d,a1.rt undef q) :: (visF A ms1 x++fr)) (a1.ps undef q) Γ mo rt ps) (hi:InhX ms1) (hsr:srcB A ms1=true) (h1:At1 l mt U A (.call ⟨.value (.func f),xs.toArray,ats⟩) d ty as ops i) (hy:mo=some y) (ha:agr r0 base) (hs:StX B Z hd Γ H w0) (h:Pre P Z l mt U r0 w0 H i sl ms) :
   Pre1 P Z l mt U r0 w0 H i sl ms1 ⟨i,d,[],V,fun _ v=>tupv (rt y v),fun _=>ps y⟩:=by
 obtain ⟨S',hl,hR0,hO⟩:=h
 subst hl
 obtain ⟨m1,m2,m3,m4,m5⟩:=hg1.sub
 have hR:=hR0.sub m3 m4
 refine ⟨S',rfl,hR,hO,fun V' hV=>?_⟩
 obtain ⟨hA,⟨pos,aft,ho⟩,_⟩:=h1
 intro o' s' ho' hs' g r w hC hV0 hOld hn hot hdis hfr
 rw [ho] at ho'
 cases ho'
 rw [List.getElem?_append_right (Nat.le_refl _),Nat.sub_self] at hs'
 cases hs'
 rw [if_pos rfl]
 refine ⟨rfl,?_⟩
 have hvis:=vis_mem (by rw [← hA]; exact memB_iff.1 h4)
 have hb:=agr_vis hR hA hv (agr_base hh ha hot) hOld
 obtain ⟨x,hx,hxl⟩:=see hR hA hi hsr hn
 obtain ⟨q,hq1,hq2,hq3⟩:=hR0.got m1 (hn a1.j (by rw [m2]; exact hvis.2))
 have hsv:srcV a1 r=undef:=by unfold srcV; rw [hs1]; rfl
 rw [hsv,m2] at hq2
 rw [hsv] at hq1
 rw [m2] at hq3
 obtain ⟨hx1,hct,heo,hr⟩:=hc q x
 obtain ⟨fn,c,f1,f2,f3⟩:=hf.h
 refine Calls.of_ct f1 f2 f3 ?_
 rw [opvs_ev (agr_app (g:=(a1.d,a1.rt undef q) :: visF A ms1 x) (fun p hp=>(List.mem_cons.1 hp).elim (fun e=>e ▸ hq1) (hx p)) hb) hx1]
 obtain ⟨F,Hd,⟨hHL,hHd,hHlt,hHn⟩,hS,hG⟩:=hs
 have hSt:=StX.stay hS hG hC
 obtain ⟨Fo,Fr,hff,hFr,hq4⟩:=hq2.all
 have hSq:SA (fun b=>Z b∨b∈Fr) w (a1.ps undef q) [] Fo:=by
  have:=hq4.front (Γ:=[]) (F:=[]) rfl
  simpa using this
 have hnq:=List.nodup_append.1 (hff ▸ hq3)
 obtain ⟨Fd,F',hHO,hSr,hpm⟩:=heo.sound hSq
 have hsub0:∀ b∈Fd,b∈Fo:=fun b hb=>hpm.mem_iff.1 (List.mem_append_left _ hb)
 have hsub:∀ b∈Fd,b∈g j1:=fun b hb=>by rw [hff]; exact List.mem_append_left _ (hsub0 b hb)
 have hnd:=List.nodup_append.1 hG.nd
 have hblk:blks g (U.getD S'.length [])=g j1:=by rw [hU]; simp [blks]
 rw [hblk]
 rw [ct_eq] at hct
 have hfb:∀ b∈g j1,w0.heap.size≤b∨b∈H:=fun b hb=>(hfr j1 hvis.1 b hb).1
 refine (hct.2 w (fun b=>Z b∨b∈Fr) Fd (hr.sound (fun _ h=>h) (fun h=>nomatch h) (hSr.app (hSt.mono (fun _ h=>.inl h) fun _ h=>h)) hHO) ((hpm.nodup_iff.2 hnq.1).sublist (List.sublist_append_left _ _)) (fun b hb=>?_)
  (fun b hb=>hb.elim (fun h=>Nat.lt_of_lt_of_le (hG.zlt b h) hC.size) (hFr b)) y hy).mono ?_
 ·rintro (hz | hz)
  ·rcases hfb b (hsub b hb) with h | h
   ·have:=hG.zlt b hz; omega
   ·exact hG.apart b (List.mem_append_left _ h) hz
  ·exact hnq.2.2 b (hsub0 b hb) b hz rfl
 ·rintro e w' ⟨v,he,Z2,F2,hl2,hg2⟩
  obtain ⟨f2,k1,k2,k3⟩:=rdN (Z:=Z) (K:=g j1) hl2 hg2 (fun b h=>h.imp id fun h=>by rw [hff]; exact List.mem_append_right _ h) hsub
  obtain ⟨f',hsb,hV'⟩:=hV f2 w' r _ ⟨v,rfl,k2,k3⟩
  exact ⟨_,he,hg2.chg.mono hsub,f',fun b hb=>k1 b (hsb b hb),hV'⟩
theorem Pre.valV {mt:Nat} {A:List Nat} {op:Op} {d:Nat} {ty:TypeId} {as:List (List Nat)} {ops:List Oper} {i:Nat} {sl:List (Nat×Nat×Value)} {ms:List MemD} {r0:Nat→Value} {w0:World} {H:List Nat} {u:Value} (h:Pre P Z l mt U r0 w0 H i sl ms) (hh:hotB l mt base=true) (ha:agr r0 base) (h1:At1 l mt U A op d ty as ops i)
  (hV:(U.zipIdx.all fun p=>!(p.1.contains l.length) || ((ancs l).getD p.2 []).contains i)=true) (hv:eY A none sl base fr) (hq:∀ r,agr r fr→∀ pos aft g w,Chg [] w0 w→(execOp (ev r) ⟨some d,op,ty,pos,aft,g⟩).run P w = .ok (.value u) w):Pre P Z l mt U r0 w0 H (i+1) ((i,d,u) :: sl) ms:=by
 obtain ⟨S',hl,hR,hO⟩:=h
 subst hl
 obtain ⟨hA,⟨pos,aft,ho⟩,_⟩:=h1
 refine ⟨S'++[sV u],by simp,hR.val (by unfold dstAt; rw [ho]; rfl),fun j hj=>?_⟩
 by_cases h2:j < S'.length
 ·exact Owes.more (hO j h2) h2
 ·obtain rfl:j=S'.length:=by omega
  have hN:needV l U mt S'.length=true:=by
   unfold needV
   simp only [List.all_eq_true,List.mem_range,Bool.or_eq_true,Bool.not_eq_true'] at hV ⊢
   intro k _
   rw [List.getD_eq_getElem?_getD]
   cases hu:U[k]? with
   | none=>exact .inl (.inl rfl)
   | some us=>
    have hm:(us,k)∈U.zipIdx:=by rw [List.mem_zipIdx_iff_getElem?]; exact hu
    exact (hV _ hm).imp .inl id
  intro o' s' ho' hs' g r w hC hV0 hOld hn hot hdis hfr
  rw [ho] at ho'
  cases ho'
  rw [List.getElem?_append_right (Nat.le_refl _),Nat.sub_self] at hs'
  cases hs'
  rw [if_pos rfl]
  refine ⟨rfl,?_⟩
  unfold OpW
  rw [hq r (agr_vis hR hA hv (agr_base hh ha hot) hOld) _ _ _ w (hV0 hN).1]
  exact ⟨Chg.refl _ _,[],fun b hb=>absurd hb List.not_mem_nil,rfl⟩
theorem apH_pre {mt:Nat} {hd hd':List Ent} {α:Type} {t e e' et:TypeId} {E E':STy α} {z0:α} {bt t1 t2 j2:Nat} {v u yv:Value} {j:Int} {y:α} {z:List α} {xs:List (List α)} {o1 o2:Bool} {Γx:List Ent} {ms2:List MemD} {A:List Nat} {as:List (List Nat)} {d:Nat} {ty:TypeId} {ops:List Oper} {i:Nat} {sl:List (Nat×Nat×Value)} {ms:List MemD} {Γ:List Ent} {B:Bs} {r0:Nat→Value} {w0:World} {H:List Nat} (hh:hotB l mt base=true) (ha:agr r0 base) (hT:STc P t α e E z0 bt) (hU:U.getD i []=[l.length])
   (hVc:((U.set i []).all fun us=>!(us.contains l.length))=true) (hv:eY A none sl base fr) (hs:look fr t1=some u) (h2:GetD ms t2 ⟨j2,t2,[],Nat,fun _ b=>.slice (some ⟨b,0,none⟩) 1 1,fun _ b=>[.row b [yv] et]⟩ ms2) (h5:memB j2 A=true) (hl:Loc hd u (.row v j)) (hz:Fnd hd u o1 o2 E' z noE Γx) (h1:Sel hd (.own (aK e' (aK e E)) v xs) hd') (hr:RT (aK e E) (aE E')) (hy:TkE [] E yv y [])
   (hf:fits bt (z.length+1)=some ()) (hat:At1 l mt U A (.call ⟨.builtin .append,#[.tmp t1,.tmp t2],#[t,t]⟩) d ty as ops i) (hst:StX B Z hd Γ H w0) (h:Pre P Z l mt U r0 w0 H i sl ms) :
  Pre P Z l mt U r0 w0 H (i+1) sl (⟨i,d,[],Value,fun _ v'=>v',fun _ v'=>[.own (aK e E) v' (z++[y]),.own (sHole e' (aK e E) j.toNat) v xs]⟩ :: ms)∧StX B Z hd' Γ H w0:=by
 obtain ⟨F,Hd,⟨hHL,hHd,hHlt,hHn⟩,hS,hG⟩:=hst
 obtain ⟨fm0,F10,hp10,_,hS10⟩:=h1.sound hHL
 refine ⟨?_,F,F10,⟨hS10,fun b hb=>hHd b (hp10.mem_iff.1 (List.mem_append_right _ hb)),hHlt,(hp10.nodup_iff.2 hHn).sublist (List.sublist_append_right _ _)⟩,hS,hG⟩
 obtain ⟨S',hl',hR,hO⟩:=h
 subst hl'
 obtain ⟨hA,⟨pos,aft,ho⟩,_⟩:=hat
 obtain ⟨b1,b2⟩:=fits_some hf
 obtain ⟨q1,q2,ii,zz,q3,q4,q5,q6,q7,_⟩:=hT.h
 obtain ⟨n1,_,_,_⟩:=h2.sub
 refine ⟨S'++[⟨true,MV Z ⟨S'.length,d,[],Value,fun _ v'=>v',fun _ v'=>[.own (aK e E) v' (z++[y]),.own (sHole e' (aK e E) j.toNat) v xs]⟩⟩],by simp,hR.mem rfl (by unfold dstAt; rw [ho]; rfl) (by intro t h; cases h),fun k hk=>?_⟩
 by_cases hlt:k < S'.length
 ·exact Owes.more (hO k hlt) hlt
 ·obtain rfl:k=S'.length:=by omega
  intro o' s' ho' hs' g r w hC hV0 hOld hn hot hdis hfr
  rw [ho] at ho'
  cases ho'
  rw [List.getElem?_append_right (Nat.le_refl _),Nat.sub_self] at hs'
  cases hs'
  rw [if_pos rfl]
  refine ⟨rfl,?_⟩
  obtain ⟨hC0,hgH,hfr0⟩:=hV0 (needV_of hVc)
  have hHw:=hHL.keep0 hC0
  obtain ⟨j0,j1,hcell⟩:=Loc.row hl rfl hHw
  obtain ⟨cur',_,⟨⟨gz,hgz,_⟩,_⟩,_⟩:=hz.sound hHw
  obtain ⟨fm,F1,hp1,hOw,_⟩:=h1.sound hHw
  obtain ⟨ky,F2,hp2,hky,_⟩:=hy.sound (Z:=Z) (w:=w) (F:=[]) rfl
  have hk0:ky=[]:=by
   cases ky with
   | nil=>rfl
   | cons a l=>exact absurd (hp2.mem_iff.1 (List.mem_append_left _ List.mem_cons_self)) List.not_mem_nil
  subst hk0
  rw [own_slen hOw] at j1
  obtain ⟨k,gm,a1,a2,a3⟩:=own_hole rfl hOw (List.getElem?_eq_getElem j1) hcell
  have hzz:xs[j.toNat]=z:=hr.det (hr.le.le a1) hgz
  rw [hzz] at a1
  have hfmn:(k++gm).Nodup:=a2.nodup_iff.2 ((hp1.nodup_iff.2 hHn).sublist (List.sublist_append_left _ _))
  have hkn:=List.nodup_append.1 hfmn
  have hsubk:∀ b∈k++gm,b∈H:=fun b hb=>(hHd b (hp1.mem_iff.1 (List.mem_append_left _ (a2.mem_iff.1 hb)))).1
  obtain ⟨b,c1,c2,c3⟩:=hR.got n1 (hn j2 (vis_mem (by rw [← hA]; exact memB_iff.1 h5)).2)
  simp only at c1 c2
  replace c2:=c2.own rfl
  generalize hg1:g j2=G1 at c2 c3
  cases c2 with
  | fact h _=>exact h.elim
  | @own _ ff F0 _ hrow0 hnil=>
   cases hnil
   obtain ⟨rfl,hrow⟩:=hrow0
   have hb:=agr_vis hR hA hv (agr_base hh ha hot) hOld
   obtain ⟨v',w',f',hrun,hC',hrep,hsub,hnd'⟩:=own_append (E:=E) (d:=some d) (ty:=ty) (pos:=pos) (aft:=aft) (g:=none) (r:=r) (s:=.tmp t1) (x:=.tmp t2) (k:=[]) (ys:=[y]) (news:=[yv]) q1 q3 q4 (by rw [q5,q2]) (by rw [cells_one q6,q2]; rfl) (hb _ _ hs) a1 hkn.1 c1 (fun i u hi=>hrow.at i u hi) (repL_single hky) (fun _ h=>absurd h List.not_mem_nil) (by simp) (by rw [q7]; exact b1) b2
   unfold OpW
   rw [hrun]
   have hblk:blks g (U.getD S'.length [])=H:=by rw [hU]; simp [blks,hgH]
   rw [hblk]
   have hgm:(sHole e' (aK e E) j.toNat).rep w'.heap [v] xs gm:=STy.keep _ a3 hC' fun b hb hk=>hkn.2.2 b hk b hb rfl
   refine ⟨hC'.mono fun b hb=>hsubk b (List.mem_append_left _ hb),f'++gm,fun b hb=>?_,v',rfl,?_,?_⟩
   ·rcases List.mem_append.1 hb with hb | hb
    ·refine ⟨?_,STy.lt _ hrep b hb⟩
     rcases hsub b hb with h | h | h
     ·exact .inl (hsubk b (List.mem_append_left _ h))
     ·exact absurd h List.not_mem_nil
     ·exact .inr h
    ·exact ⟨.inl (hsubk b (List.mem_append_right _ hb)),STy.lt _ hgm b hb⟩
   ·have:=HL.own (Z:=fun _=>False) (e:=.own (aK e E) v' (z++[y])) (f:=f') hrep (HL.own (e:=.own (sHole e' (aK e E) j.toNat) v xs) (f:=gm) hgm .nil)
    exact .inl (by simpa using this)
   ·refine nodup_app (hnd' List.nodup_nil) hkn.2.1 fun b hb hm=>?_
    rcases hsub b hb with h | h | h
    ·exact hkn.2.2 b h b hm rfl
    ·exact absurd h List.not_mem_nil
    ·have:=STy.lt _ a3 b hm; omega
theorem apL_pre {mt:Nat} {hd hd':List Ent} {t e e' e3 et:TypeId} {kk:IntKind} {E':STy (List Int)} {z0:List Int} {bt t1 t2 t3 j2 j3 n:Nat} {v u:Value} {us:List Value} {j:Int} {ys:List Int} {z:List (List Int)} {xs:List (List (List Int))} {o1 o2:Bool} {Γx:List Ent} {ms2 ms3:List MemD} {A:List Nat} {as:List (List Nat)} {d:Nat} {ty:TypeId} {ops:List Oper} {i:Nat} {sl:List (Nat×Nat×Value)} {ms:List MemD} {Γ:List Ent} {B:Bs} {r0:Nat→Value} {w0:World} {H:List Nat} (hh:hotB l mt base=true) (ha:agr r0 base) (hT:STc P t (List Int) e (aK e3 (aC kk)) z0 bt) (hU:U.getD i []=[l.length,j3])
   (hVc:((U.set i []).all fun us=>!(us.contains l.length))=true) (hv:eY A none sl base fr) (hs:look fr t1=some u) (h2:GetD ms t2 ⟨j2,t2,[t3],Nat,fun _ b=>.slice (some ⟨b,0,none⟩) 1 1,fun u b=>[.row b [u] et]⟩ ms2) (h3:GetD ms2 t3 ⟨j3,t3,[],Nat,fun _ b=>.slice (some ⟨b,0,none⟩) n n,fun _ b=>[.row b us e3]⟩ ms3) (h5:memB j2 A=true) (h6:memB j3 A=true) (hl:Loc hd u (.row v j)) (hz:Fnd hd u o1 o2 E' z noE Γx) (h1:Sel hd (.own (aK e' (aK e (aK e3 (aC kk)))) v xs) hd') (hr:RT (aK e (aK e3 (aC kk))) (aE E')) (hi:LiI kk us ys) (hn':us.length=n) (hb':Nat.ble n 16777216=true)
   (hf:fits bt (z.length+1)=some ()) (hat:At1 l mt U A (.call ⟨.builtin .append,#[.tmp t1,.tmp t2],#[t,t]⟩) d ty as ops i) (hst:StX B Z hd Γ H w0) (h:Pre P Z l mt U r0 w0 H i sl ms) :
  Pre P Z l mt U r0 w0 H (i+1) sl (⟨i,d,[],Value,fun _ v'=>v',fun _ v'=>[.own (aK e (aK e3 (aC kk))) v' (z++[ys]),.own (sHole e' (aK e (aK e3 (aC kk))) j.toNat) v xs]⟩ :: ms3)∧StX B Z hd' Γ H w0:=by
 obtain ⟨F,Hd,⟨hHL,hHd,hHlt,hHn⟩,hS,hG⟩:=hst
 obtain ⟨fm0,F10,hp10,_,hS10⟩:=h1.sound hHL
 refine ⟨?_,F,F10,⟨hS10,fun b hb=>hHd b (hp10.mem_iff.1 (List.mem_append_right _ hb)),hHlt,(hp10.nodup_iff.2 hHn).sublist (List.sublist_append_right _ _)⟩,hS,hG⟩
 obtain ⟨S',hl',hR,hO⟩:=h
 subst hl'
 obtain ⟨hA,⟨pos,aft,ho⟩,_⟩:=hat
 obtain ⟨b1,b2⟩:=fits_some hf
 obtain ⟨q1,q2,ii,zz,q3,q4,q5,q6,q7,_⟩:=hT.h
 obtain ⟨n1,_,m3,m4⟩:=h2.sub
 obtain ⟨n3,_,m5,m6⟩:=h3.sub
 refine ⟨S'++[⟨true,MV Z ⟨S'.length,d,[],Value,fun _ v'=>v',fun _ v'=>[.own (aK e (aK e3 (aC kk))) v' (z++[ys]),.own (sHole e' (aK e (aK e3 (aC kk))) j.toNat) v xs]⟩⟩],by simp,(hR.sub (fun b hb=>m3 b (m5 b hb)) (m6.trans m4)).mem rfl (by unfold dstAt; rw [ho]; rfl) (by intro t h; cases h),fun k hk=>?_⟩
 by_cases hlt:k < S'.length
 ·exact Owes.more (hO k hlt) hlt
 ·obtain rfl:k=S'.length:=by omega
  intro o' s' ho' hs' g r w hC hV0 hOld hn hot hdis hfr
  rw [ho] at ho'
  cases ho'
  rw [List.getElem?_append_right (Nat.le_refl _),Nat.sub_self] at hs'
  cases hs'
  rw [if_pos rfl]
  refine ⟨rfl,?_⟩
  obtain ⟨hC0,hgH,hfr0⟩:=hV0 (needV_of hVc)
  have hHw:=hHL.keep0 hC0
  obtain ⟨j0,j1,hcell⟩:=Loc.row hl rfl hHw
  obtain ⟨cur',_,⟨⟨gz,hgz,_⟩,_⟩,_⟩:=hz.sound hHw
  obtain ⟨fm,F1,hp1,hOw,_⟩:=h1.sound hHw
  rw [own_slen hOw] at j1
  obtain ⟨k,gm,a1,a2,a3⟩:=own_hole rfl hOw (List.getElem?_eq_getElem j1) hcell
  have hzz:xs[j.toNat]=z:=hr.det (hr.le.le a1) hgz
  rw [hzz] at a1
  have hfmn:(k++gm).Nodup:=a2.nodup_iff.2 ((hp1.nodup_iff.2 hHn).sublist (List.sublist_append_left _ _))
  have hkn:=List.nodup_append.1 hfmn
  have hsubk:∀ b∈k++gm,b∈H:=fun b hb=>(hHd b (hp1.mem_iff.1 (List.mem_append_left _ (a2.mem_iff.1 hb)))).1
  have hv3:=vis_mem (by rw [← hA]; exact memB_iff.1 h6)
  obtain ⟨b,c1,c2,c3⟩:=hR.got n1 (hn j2 (vis_mem (by rw [← hA]; exact memB_iff.1 h5)).2)
  obtain ⟨b3,d1,d2,d3⟩:=hR.got (m3 _ n3) (hn j3 hv3.2)
  replace c1:r t2 = .slice (some ⟨b,0,none⟩) 1 1:=c1
  replace c2:HL (fun _=>False) w [.row b [r t3] et] (g j2):=c2.own rfl
  replace d1:r t3 = .slice (some ⟨b3,0,none⟩) n n:=d1
  replace d2:HL (fun _=>False) w [.row b3 us e3] (g j3):=d2.own rfl
  have hf3:=hfr0 j3 hv3.1
  generalize hg1:g j2=G1 at c2 c3
  generalize hg3:g j3=G3 at d2 d3 hf3
  cases c2 with
  | fact h _=>exact h.elim
  | @own _ ff F0 _ hrow0 hnil=>
   cases hnil
   obtain ⟨rfl,hrow⟩:=hrow0
   cases d2 with
   | fact h _=>exact h.elim
   | @own _ ff3 F3 _ hrow3 hnil3=>
    cases hnil3
    obtain ⟨rfl,hrow3⟩:=hrow3
    obtain ⟨e1,e2⟩:=LiI.sound hi w.heap
    have hble:=Nat.le_of_ble_eq_true hb'
    have hE:(aK e3 (aC kk)).rep w.heap [r t3] ys [b3]:=by
     rw [d1]
     refine ⟨some ⟨b3,0,none⟩,n,by rw [← hn',e1],.inr ⟨b3,us.toArray,[],rfl,hrow3,rfl,by rw [← hn',e1]; exact Nat.le_refl _,Nat.le_trans hble (by decide),by rw [show (aC kk).size=1 from rfl,Nat.mul_one]; simp [hn'],?_⟩⟩
     rw [show (aC kk).size=1 from rfl,Nat.mul_one,List.toList_toArray,← e1,List.take_length]
     exact e2
    have hnew:w0.heap.size≤b3:=hf3 b3 (by simp)
    have hout:∀ b∈k++gm,b≠b3:=fun b hb he=>by
     have:=hHlt b (hsubk b hb)
     omega
    have hb:=agr_vis hR hA hv (agr_base hh ha hot) hOld
    obtain ⟨v',w',f',hrun,hC',hrep,hsub,hnd'⟩:=own_append (E:=aK e3 (aC kk)) (d:=some d) (ty:=ty) (pos:=pos) (aft:=aft) (g:=none) (r:=r) (s:=.tmp t1) (x:=.tmp t2) (k:=[b3]) (ys:=[ys]) (news:=[r t3]) q1 q3 q4 (by rw [q5,q2]) (by rw [cells_one q6,q2]; rfl) (hb _ _ hs) a1 hkn.1 c1 (fun i u hi=>hrow.at i u hi) (repL_single hE) (fun b hb hm=>hout b (List.mem_append_left _ hm) (List.mem_singleton.1 hb)) (by simp) (by rw [q7]; exact b1) b2
    unfold OpW
    rw [hrun]
    have hblk:blks g (U.getD S'.length [])=H++[b3]:=by rw [hU]; simp [blks,hgH,hg3]
    rw [hblk]
    have hgm:(sHole e' (aK e (aK e3 (aC kk))) j.toNat).rep w'.heap [v] xs gm:=STy.keep _ a3 hC' fun b hb hk=>hkn.2.2 b hk b hb rfl
    refine ⟨hC'.mono fun b hb=>List.mem_append_left _ (hsubk b (List.mem_append_left _ hb)),f'++gm,fun b hb=>?_,v',rfl,?_,?_⟩
    ·rcases List.mem_append.1 hb with hb | hb
     ·refine ⟨?_,STy.lt _ hrep b hb⟩
      rcases hsub b hb with h | h | h
      ·exact .inl (List.mem_append_left _ (hsubk b (List.mem_append_left _ h)))
      ·exact .inl (List.mem_append_right _ h)
      ·exact .inr h
     ·exact ⟨.inl (List.mem_append_left _ (hsubk b (List.mem_append_right _ hb))),STy.lt _ hgm b hb⟩
    ·have:=HL.own (Z:=fun _=>False) (e:=.own (aK e (aK e3 (aC kk))) v' (z++[ys])) (f:=f') hrep (HL.own (e:=.own (sHole e' (aK e (aK e3 (aC kk))) j.toNat) v xs) (f:=gm) hgm .nil)
     exact .inl (by simpa using this)
    ·refine nodup_app (hnd' (by simp)) hkn.2.1 fun b hb hm=>?_
     rcases hsub b hb with h | h | h
     ·exact hkn.2.2 b h b hm rfl
     ·exact hout b (List.mem_append_right _ hm) (List.mem_singleton.1 h)
     ·have:=STy.lt _ a3 b hm; omega
theorem apM_pre {mt:Nat} {t e e3 et:TypeId} {kk:IntKind} {z0:List Int} {bt t1 t2 t3 j1 j2 j3 n:Nat} {us:List Value} {ys:List Int} {z:List (List Int)} {a1:MemD} {ms1 ms2 ms3:List MemD} {A:List Nat} {as:List (List Nat)} {d:Nat} {ty:TypeId} {ops:List Oper} {i:Nat} {sl:List (Nat×Nat×Value)} {ms:List MemD} {r0:Nat→Value} {w0:World} {H:List Nat} (hT:STc P t (List Int) e (aK e3 (aC kk)) z0 bt) (hU:U.getD i []=[j1,j3])
   (h1:GetD ms t1 a1 ms1) (h2:GetD ms1 t2 ⟨j2,t2,[t3],Nat,fun _ b=>.slice (some ⟨b,0,none⟩) 1 1,fun u b=>[.row b [u] et]⟩ ms2) (h3:GetD ms2 t3 ⟨j3,t3,[],Nat,fun _ b=>.slice (some ⟨b,0,none⟩) n n,fun _ b=>[.row b us e3]⟩ ms3) (hp:∀ u v,a1.ps u v=[.own (aK e (aK e3 (aC kk))) (a1.rt u v) z]) (hj:a1.j=j1) (hne:Nat.beq j1 j3=false) (h4:memB j1 A=true) (h5:memB j2 A=true) (h6:memB j3 A=true) (hi:LiI kk us ys) (hn':us.length=n) (hb':Nat.ble n 16777216=true)
   (hf:fits bt (z.length+1)=some ()) (hat:At1 l mt U A (.call ⟨.builtin .append,#[.tmp t1,.tmp t2],#[t,t]⟩) d ty as ops i) (h:Pre P Z l mt U r0 w0 H i sl ms) :
  Pre P Z l mt U r0 w0 H (i+1) sl (⟨i,d,[],Value,fun _ v'=>v',fun _ v'=>[.own (aK e (aK e3 (aC kk))) v' (z++[ys])]⟩ :: ms3):=by
 obtain ⟨S',hl',hR,hO⟩:=h
 subst hl'
 subst hj
 obtain ⟨hA,⟨pos,aft,ho⟩,_⟩:=hat
 obtain ⟨b1,b2⟩:=fits_some hf
 obtain ⟨q1,q2,ii,zz,q3,q4,q5,q6,q7,_⟩:=hT.h
 obtain ⟨k1,k2,k3,k4⟩:=h1.sub
 obtain ⟨n1,_,m3,m4⟩:=h2.sub
 obtain ⟨n3,_,m5,m6⟩:=h3.sub
 refine ⟨S'++[⟨true,MV Z ⟨S'.length,d,[],Value,fun _ v'=>v',fun _ v'=>[.own (aK e (aK e3 (aC kk))) v' (z++[ys])]⟩⟩],by simp,(hR.sub (fun b hb=>k3 b (m3 b (m5 b hb))) ((m6.trans m4).trans k4)).mem rfl (by unfold dstAt; rw [ho]; rfl) (by intro t h; cases h),fun k hk=>?_⟩
 by_cases hlt:k < S'.length
 ·exact Owes.more (hO k hlt) hlt
 ·obtain rfl:k=S'.length:=by omega
  intro o' s' ho' hs' g r w hC hV0 hOld hn hot hdis hfr
  rw [ho] at ho'
  cases ho'
  rw [List.getElem?_append_right (Nat.le_refl _),Nat.sub_self] at hs'
  cases hs'
  rw [if_pos rfl]
  refine ⟨rfl,?_⟩
  have hv1:=vis_mem (by rw [← hA]; exact memB_iff.1 h4)
  have hv3:=vis_mem (by rw [← hA]; exact memB_iff.1 h6)
  obtain ⟨v1,p1,p2,p3⟩:=hR.got k1 (hn a1.j hv1.2)
  rw [hp,← p1,k2] at p2
  replace p2:=p2.own rfl
  obtain ⟨b,c1,c2,c3⟩:=hR.got (k3 _ n1) (hn j2 (vis_mem (by rw [← hA]; exact memB_iff.1 h5)).2)
  obtain ⟨b3,d1,d2,d3⟩:=hR.got (k3 _ (m3 _ n3)) (hn j3 hv3.2)
  replace c1:r t2 = .slice (some ⟨b,0,none⟩) 1 1:=c1
  replace c2:HL (fun _=>False) w [.row b [r t3] et] (g j2):=c2.own rfl
  replace d1:r t3 = .slice (some ⟨b3,0,none⟩) n n:=d1
  replace d2:HL (fun _=>False) w [.row b3 us e3] (g j3):=d2.own rfl
  have hd13:=hdis a1.j hv1.1 j3 hv3.1 (fun e=>by rw [e,Nat.beq_refl] at hne; cases hne)
  generalize hg1:g j2=G1 at c2 c3
  generalize hg3:g j3=G3 at d2 d3 hd13
  generalize hg2:g a1.j=G2 at p2 p3 hd13
  cases c2 with
  | fact h _=>exact h.elim
  | @own _ ff F0 _ hrow0 hnil=>
   cases hnil
   obtain ⟨rfl,hrow⟩:=hrow0
   cases d2 with
   | fact h _=>exact h.elim
   | @own _ ff3 F3 _ hrow3 hnil3=>
    cases hnil3
    obtain ⟨rfl,hrow3⟩:=hrow3
    cases p2 with
    | fact h _=>exact h.elim
    | @own _ k F4 _ hown hnil4=>
     cases hnil4
     rw [List.append_nil] at p3
     obtain ⟨e1,e2⟩:=LiI.sound hi w.heap
     have hble:=Nat.le_of_ble_eq_true hb'
     have hE:(aK e3 (aC kk)).rep w.heap [r t3] ys [b3]:=by
      rw [d1]
      refine ⟨some ⟨b3,0,none⟩,n,by rw [← hn',e1],.inr ⟨b3,us.toArray,[],rfl,hrow3,rfl,by rw [← hn',e1]; exact Nat.le_refl _,Nat.le_trans hble (by decide),by rw [show (aC kk).size=1 from rfl,Nat.mul_one]; simp [hn'],?_⟩⟩
      rw [show (aC kk).size=1 from rfl,Nat.mul_one,List.toList_toArray,← e1,List.take_length]
      exact e2
     have hout:∀ b∈k,b≠b3:=fun b hb he=>hd13 b (by simpa using hb) (by simp [he])
     obtain ⟨v',w',f',hrun,hC',hrep,hsub,hnd'⟩:=own_append (E:=aK e3 (aC kk)) (d:=some d) (ty:=ty) (pos:=pos) (aft:=aft) (g:=none) (r:=r) (s:=.tmp t1) (x:=.tmp t2) (k:=[b3]) (ys:=[ys]) (news:=[r t3]) q1 q3 q4 (by rw [q5,q2]) (by rw [cells_one q6,q2]; rfl) rfl hown p3 c1 (fun i u hi=>hrow.at i u hi) (repL_single hE) (fun b hb hm=>hout b hm (List.mem_singleton.1 hb)) (by simp) (by rw [q7]; exact b1) b2
     unfold OpW
     rw [hrun]
     have hblk:blks g (U.getD S'.length [])=k++[b3]:=by rw [hU]; simp [blks,hg2,hg3]
     rw [hblk]
     refine ⟨hC'.mono fun b hb=>List.mem_append_left _ hb,f',fun b hb=>?_,v',rfl,?_,hnd' (by simp)⟩
     ·refine ⟨?_,STy.lt _ hrep b hb⟩
      rcases hsub b hb with h | h | h
      ·exact .inl (List.mem_append_left _ h)
      ·exact .inl (List.mem_append_right _ h)
      ·exact .inr h
     ·have:=HL.own (Z:=fun _=>False) (e:=.own (aK e (aK e3 (aC kk))) v' (z++[ys])) (f:=f') hrep .nil
      exact .inl (by simpa using this)
end
end Go.Dk
namespace Go.Dk
open Go Go.Li
section
variable {R S:Type} {P:Program} {cx:Cx R} {K:Kont R S} {l tail:List Oper} {base fr:Fr} {U:List (List Nat)} {hd:List Ent}
def semA (P:Program) (cx:Cx R) (K:Kont R S) (l:List Oper) (mt:Nat) (U:List (List Nat)) (hd:List Ent) (id:Nat) (base:Fr):JA R S→Prop
 | .a as ops i sl ms Γ m=>Here l mt U as ops i→Fin P cx K l mt U hd id base i sl ms Γ m
 | .o A op d ty as ops i sl ms Γ m=>At1 l mt U A op d ty as ops i→Fin P cx K l mt U hd id base i sl ms Γ m
 | .oc us f xs ats A d ty as ops i sl ms Γ m=>U.getD i []=us→At1 l mt U A (.call ⟨.value (.func f),xs.toArray,ats⟩) d ty as ops i→Fin P cx K l mt U hd id base i sl ms Γ m
 | .os A op ty as ops i sl ms Γ m=>At0 l mt U A op ty as ops i→Fin P cx K l mt U hd id base i sl ms Γ m
 | .ow _ A op d ty as ops i sl ms Γ m=>At1 l mt U A op d ty as ops i→Fin P cx K l mt U hd id base i sl ms Γ m
 | .ix _ v fr x y t A d ty as ops i sl ms Γ m=>eY A none sl base fr→opv fr x=some v→At1 l mt U A (.indexAddr t x y) d ty as ops i→Fin P cx K l mt U hd id base i sl ms Γ m
 | .lb _ v j fr t x A d ty as ops i sl ms Γ m=>eY A none sl base fr→opv fr x=some (.pointer (some (elA v 1 j)))→NA P t→At1 l mt U A (.load t x) d ty as ops i→Fin P cx K l mt U hd id base i sl ms Γ m
 | .ap us t1 t2 t A d ty as ops i sl ms Γ m=>U.getD i []=us→At1 l mt U A (.call ⟨.builtin .append,#[.tmp t1,.tmp t2],#[t,t]⟩) d ty as ops i→Fin P cx K l mt U hd id base i sl ms Γ m
 | .la fr a lk t x A d ty as ops i sl ms Γ m=>eY A none sl base fr→opv fr x=some (.pointer (some a))→(match lk with | none=>NA P t | some n=>AG P t n)→At1 l mt U A (.load t x) d ty as ops i→Fin P cx K l mt U hd id base i sl ms Γ m
 | .ld E z fr a t x A d ty as ops i sl ms Γ m=>eY A none sl base fr→opv fr x=some (.pointer (some a))→NA P t→At1 l mt U A (.load t x) d ty as ops i→
   ∀ B o,m=some o→∀ r0 w0 H Z,agr r0 base→StX B Z hd Γ H w0→(∃ u,∀ w,Chg H w0 w→w.cell? a=some u∧∃ g,E.rep w.heap [u] z g)→Pre P Z l mt U r0 w0 H i sl ms→AnyW P cx.n l (postK P cx B K o) r0 w0
 | .p Δ as ops i sl ms Γ m=>Here l mt U as ops i→Fin P cx K l mt U hd id base i sl ms (Δ.reverse++Γ) m
 | .cr u ps d as ops i sl ms Γ m=>Here l mt U as ops (i+1)→dstAt l i=some d→
   ∀ B o,m=some o→∀ r0 w0 H Z,agr r0 base→StX B Z hd Γ H w0→Pre1 P Z l mt U r0 w0 H i sl ms ⟨i,d,[],_,fun _=>u,fun _=>ps⟩→AnyW P cx.n l (postK P cx B K o) r0 w0
theorem cel_cells {w:World} {e n:Nat} {v:Value} {us:List (List Value)} {f:List Nat} {j:Int} {c:List Value} (hO:(aK e (sCel n)).rep w.heap [v] us f) (hj:0≤j) (hu:us[j.toNat]? = some c):c.length=n∧(∀ u∈c,u.oneCell'=true)∧∀ i u,c[i]? = some u→w.cell? ((elA v n j).add i)=some u:=by
 obtain ⟨_,_,cs,f1,⟨rfl,h1,h2,_⟩,_,h3⟩:=imm_get (((Le.own (Le.refl (sCel n)) e).le) hO) j hj hu
 exact ⟨h1,h2,h3⟩
theorem repL_cut {α:Type} {E:STy α} {h:Array Obj}:∀ {xs:List α} {cs:List Value} {f:List Nat} (n m:Nat),repL E h cs xs f→∃ f3,repL E h ((cs.drop (n * E.size)).take (m * E.size)) ((xs.drop n).take m) f3∧∀ b∈f3,b∈f:=by
 intro xs
 induction xs with
 | nil=>rintro cs f n m ⟨rfl,rfl⟩; exact ⟨[],by simpa using ⟨rfl,rfl⟩,fun _ h=>h⟩
 | cons x xs ih=>
  rintro cs f n m ⟨c,ds,f1,f2,rfl,rfl,h1,h2⟩
  cases n with
  | zero=>
   cases m with
   | zero=>exact ⟨[],by simpa using ⟨rfl,rfl⟩,fun _ h=>absurd h List.not_mem_nil⟩
   | succ m=>
    obtain ⟨f3,h3,h4⟩:=ih 0 m h2
    simp only [Nat.zero_mul,List.drop_zero] at h3 ⊢
    refine ⟨f1++f3,?_,fun b hb=>(List.mem_append.1 hb).elim (List.mem_append_left _) fun hb=>List.mem_append_right _ (h4 b hb)⟩
    have e:(m+1) * E.size=c.length+m * E.size:=by rw [E.len h1,Nat.add_mul,Nat.one_mul,Nat.add_comm]
    rw [e,List.take_append,List.take_of_length_le (by omega),List.take_succ_cons]
    exact ⟨c,_,f1,f3,rfl,rfl,h1,by simpa using h3⟩
  | succ n=>
   obtain ⟨f3,h3,h4⟩:=ih n m h2
   refine ⟨f3,?_,fun b hb=>List.mem_append_right _ (h4 b hb)⟩
   have e:(n+1) * E.size=c.length+n * E.size:=by rw [E.len h1,Nat.add_mul,Nat.one_mul,Nat.add_comm]
   rw [e,List.drop_append,List.drop_of_length_le (by omega),List.nil_append,List.drop_succ_cons]
   simpa using h3
theorem cut_fact {Z:Nat→Prop} {w:World} {cur g:List Nat} {o:Bool} {α:Type} {E:STy α} {base:Option Addr} {cap a b:Nat} {xs:List α} (hE:E.size=1) (hr:(aE E).rep w.heap [.slice base xs.length cap] xs g) (hg:∀ i∈g,inZ o Z cur i) (hab:a≤b) (hb:b≤xs.length) (hc:xs.length≤cap) :
  fact Z w cur (.rd o (aE E) (sliced base a b cap 1) ((xs.drop a).take (b - a))):=by
 have hlen:((xs.drop a).take (b - a)).length=b - a:=by rw [List.length_take,List.length_drop]; omega
 obtain ⟨base',cap',hv,hr'⟩:=hr
 obtain ⟨rfl,rfl⟩ : base=base'∧cap=cap':=by simpa using hv
 by_cases hj:a=b
 ·subst hj
  exact ⟨[],⟨_,cap - a,by unfold sliced; rw [hlen],.inl ⟨by simp,rfl⟩⟩,fun _ h=>absurd h List.not_mem_nil⟩
 ·rcases hr' with ⟨rfl,_⟩ | ⟨b0,off,cr,e',fz,f',rfl,g1,rfl,g2⟩
  ·exfalso; simp at hb; omega
  ·have hne : ¬ (cap=a):=by omega
   obtain ⟨f3,hrep,hsub⟩:=repL_cut a (b - a) g2
   refine ⟨b0 :: f3,⟨some ⟨b0,off+a,none⟩,cap - a,?_,.inr ⟨b0,off+a,cr,e',fz,f3,rfl,g1,rfl,?_⟩⟩,fun i hi=>?_⟩
   ·unfold sliced
    rw [hlen,if_neg hne]
    simp [addr_add]
   ·rw [hE,Nat.mul_one,Nat.mul_one,Nat.mul_one,List.drop_take,List.take_take,List.drop_drop,Nat.min_eq_left (by omega)] at hrep
    rw [hE,Nat.mul_one,hlen]
    exact hrep
   ·rcases List.mem_cons.1 hi with rfl | hi
    ·exact hg _ (by simp)
    ·exact hg _ (List.mem_cons_of_mem _ (hsub i hi))
theorem AD.sound {tq:Bool} {mt id:Nat} (hh:hotB l mt base=true)
  (hnil:∀ hd i sl ms Γ m,srcA ms=true→endB U sl ms=true→(∀ x:Xof ms,D P cx (.p (allF sl (mF ms x)) (allE ms x) base Γ fun fr Γ=>.tg tq (hasG tail) l tail K Γ fr m))→semA P cx K l mt U hd id base (.a [] [] i sl ms Γ m))
  {J:JA R S} (h:AD tq P cx K l tail base U hd J):semA P cx K l mt U hd id base J:=by
 have stay:∀ {B:Bs} {Z:Nat→Prop} {hd Γ:List Ent} {H:List Nat} {w0:World},StX B Z hd Γ H w0→∃ F Hd,(SA Z w0 hd [] Hd∧(∀ b∈Hd,b∈H∧b < w0.heap.size)∧(∀ b∈H,b < w0.heap.size)∧Hd.Nodup)∧SA Z w0 Γ [] F∧Gd B Z (H++F) w0∧∀ w,Chg H w0 w→SA Z w Γ [] F:=by
  rintro B Z hd Γ H w0 ⟨F,Hd,h1,h2,h3⟩
  exact ⟨F,Hd,h1,h2,h3,fun w hC=>StX.stay h2 h3 hC⟩
 induction h with
 | nil hs he h=>exact hnil _ _ _ _ _ _ hs he h
 | cons _ ih=>exact fun h=>ih h.cons
 | consN _ ih=>exact fun h=>ih h.consN
 | sto h1 hv hy hc hn hs' ho h4 h6 _ ih=>
  rename_i ht _
  intro h B o ho' r0 w0 H Z ha hs hp
  obtain ⟨F,_,_,_,_,hK⟩:=stay hs
  exact ih h.n B o ho' r0 w0 H Z ha hs (sto_pre hh ha ht h1 hv hy hc hn hs' ho h4 h6 hK h hp)
 | ixs hv hx _ _ ih=>exact fun h1=>ih hv hx h1
 | @idxH hd α A as d x y v k j t ty o1 o2 E xs ops i sl ms fr Γ hd' f ht hy hr hE _ ih=>
  intro hv hx h1 B o ho r0 w0 H Z ha hs hp
  obtain ⟨z,hz,ho⟩:=bind_some ho
  replace hz:=idx_some hz
  obtain ⟨e,ii,q1,q2,q3⟩:=ht.h
  obtain ⟨F,Hd,⟨hL,hL2⟩,hS,hG,hK⟩:=stay hs
  obtain ⟨cur',_,⟨⟨n,hn,_⟩,hel⟩,hins⟩:=(hr z).sound hL
  obtain ⟨⟨a,c,hv'⟩,hlt,_⟩:=imm_get hn j hz.1 hz.2
  refine ih z h1.n B o ho r0 w0 H Z ha ⟨F,Hd,⟨hins (hel hE j z hz.1 hz.2),hL2⟩,hS,hG⟩ (hp.val hh ha h1 hv fun r hr' _ _ _ w hC=>?_)
  rw [op_indexAddr q1 q2 ((aU hr' hx).trans hv') (aU hr' hy) hz.1 (by omega),q3,hv']
  rfl
 | @idx hd α A as d x y v k j t ty o1 o2 E xs ops i sl ms fr Γ Γ' f ht hy hr hE _ ih=>
  intro hv hx h1 B o ho r0 w0 H Z ha hs hp
  obtain ⟨z,hz,ho⟩:=bind_some ho
  replace hz:=idx_some hz
  obtain ⟨F,Hd,hL,hS,hG,hK⟩:=stay hs
  obtain ⟨cur',_,⟨⟨n,hn,_⟩,hel⟩,hins⟩:=(hr z).sound hS
  refine ih z h1.n B o ho r0 w0 H Z ha ⟨F,Hd,hL,hins (hel hE j z hz.1 hz.2),hG⟩ (hp.val hh ha h1 hv fun r hr' _ _ _ w hC=>?_)
  obtain ⟨_,_,⟨⟨n',hn',_⟩,_⟩,_⟩:=(hr z).sound (hK w hC)
  exact Ix ht.h hn' hz (aU hr' hx) (aU hr' hy) hE w (Chg.refl _ _)
 | @ixk hd α β A as d x y v k j t ty o1 o2 p1 p2 E E2 z xs ops i sl ms fr Γ Γx m ht hy hr hi hE _ ih=>
  intro hv hx h1 B o ho r0 w0 H Z ha hs hp
  obtain ⟨F,Hd,hL,hS,hG,hK⟩:=stay hs
  refine ih h1.n B o ho r0 w0 H Z ha ⟨F,Hd,hL,hS,hG⟩ (hp.val hh ha h1 hv fun r hr' _ _ _ w hC=>?_)
  obtain ⟨_,_,⟨⟨n',hn',_⟩,_⟩,_⟩:=hr.sound (hK w hC)
  obtain ⟨j0,j1⟩:=hi.ad hS
  obtain ⟨a,c,hv'⟩:=imm_len hn'
  have hlt:j.toNat < xs.length:=by rw [hv'] at j1; exact j1
  exact Ix ht.h hn' ⟨j0,List.getElem?_eq_getElem hlt⟩ (aU hr' hx) (aU hr' hy) hE w (Chg.refl _ _)
 | pz _ ih=>exact ih
 | @pe hd e Δ as ops i sl ms Γ m _ ih=>
  intro h1
  have h2:=ih h1
  have h3:(e :: Δ).reverse++Γ=Δ.reverse++e :: Γ:=by rw [List.reverse_cons,List.append_assoc]; rfl
  rw [h3]
  exact h2
 | @idxS hd α V Sc cl en A as d n x y v xs k j t ty ops i sl ms fr Γ Γx f ht hy hr hso hn _ ih=>
  intro hv hx hA B o ho r0 w0 H Z ha hs hp
  replace hso:SO Sc V cl en:=by cases hso; assumption
  obtain ⟨z,hz,ho⟩:=bind_some ho
  replace hz:=idx_some hz
  obtain ⟨e,i',h1,h2,h3⟩:=ht.h
  obtain ⟨F,Hd,hL,hS,hG,hK⟩:=stay hs
  obtain ⟨cur',_,⟨⟨f0,hf0,hb0⟩,_⟩,_⟩:=hr.sound hS
  have hZ:∀ b∈f0,Z b:=fun b hb=>(hb0 b hb).elim (fun h=>h) (fun h=>h)
  obtain ⟨⟨a,c,hv'⟩,hlt,cs,f1,hrep,hf1,hcell⟩:=imm_get hf0 j hz.1 hz.2
  have hn':(sStr Sc).size=n:=hn
  rw [hn'] at hcell
  obtain ⟨u,rfl,hen⟩:=hso.op hrep.2
  have hblk:Z (elA v n j).block:=by
   obtain ⟨base,cap,hv',hr'⟩:=hf0
   rcases hr' with ⟨rfl,_⟩ | ⟨b,off,cr,e',fz,f',rfl,_,rfl,_⟩
   ·simp at hlt; omega
   ·obtain rfl:v = .slice (some ⟨b,off,none⟩) xs.length cap:=by simpa using hv'
    have:(elA (.slice (some ⟨b,off,none⟩) xs.length cap) n j).block=b:=by unfold elA; rw [add_block]
    rw [this]; exact hZ b (by simp)
  have hAt:fact Z w0 [] (.ats (elA v n j) (cl z u)):=⟨fun i u' hi=>hcell i u' hi,fun _=>hblk⟩
  have hall:HL Z w0 (.ats (elA v n j) (cl z u) :: en z u) []:=.fact hAt (hl_facts (hen Z fun b hb=>hZ b (hf1 b hb)))
  obtain ⟨F',hp',hS2⟩:=hall.build hS
  refine ih z u hA.n B o ho r0 w0 H Z ha ⟨F',Hd,hL,hS2,hG.perm (List.Perm.append_left H (by simpa using hp'))⟩ (hp.val hh ha hA hv fun r hr' _ _ _ w hC=>?_)
  rw [op_indexAddr h1 h2 ((aU hr' hx).trans hv') (aU hr' hy) hz.1 (by omega),h3,hv']
  rfl
 | @idxG hd α V Sc cl en A as d n e bt x y v us xs k j t ty ops i sl ms fr Γ Γ1 f ht hy h1 hg hso _ ih=>
  intro hv hx hA B o ho r0 w0 H Z ha hs hp
  replace hso:SO Sc V cl en:=by cases hso; assumption
  obtain ⟨z,hz,ho⟩:=bind_some ho
  replace hz:=idx_some hz
  obtain ⟨q1,i',_,q2,_,_,q3,_⟩:=ht.h
  obtain ⟨F,Hd,hL,hS,hG,hK⟩:=stay hs
  obtain ⟨f0,F1,_,hO,_⟩:=h1.sound hS
  obtain ⟨g0,hk,hgz⟩:=hg.rd hS []
  obtain ⟨c,g1,e1,e2,e3⟩:=gl_get j.toNat hk.2.1 hz.2
  obtain ⟨u,rfl,hen⟩:=hso.op e2
  have hlen:us.length=xs.length:=gl_len hk.2.1
  have hlt:j.toNat < xs.length:=(List.getElem?_eq_some_iff.1 hz.2).1
  have hv':∃ a c,v = .slice (some a) us.length c:=by
   obtain ⟨b0,cap,hv,hr⟩:=hO
   obtain rfl:v = .slice b0 us.length cap:=by simpa using hv
   rcases hr with ⟨_,_,rfl,_⟩ | ⟨b,cur,f',rfl,_⟩
   ·rw [← hlen] at hlt; simp at hlt
   ·exact ⟨_,_,rfl⟩
  obtain ⟨a,c',rfl⟩:=hv'
  have hall:HL Z w0 (.rd false (sPu us j) (.bool true) (cl z u) :: en z u) []:=.fact ⟨[],⟨rfl,⟨hz.1,e1⟩,rfl⟩,fun _ h=>absurd h List.not_mem_nil⟩ (hl_facts (hen Z fun b hb=>hgz b (e3 b hb)))
  obtain ⟨F',hp',hS2⟩:=hall.build hS
  refine ih z u hA.n B o ho r0 w0 H Z ha ⟨F',Hd,hL,hS2,hG.perm (List.Perm.append_left H (by simpa using hp'))⟩ (hp.val hh ha hA hv fun r hr' _ _ _ w hC=>?_)
  rw [op_indexAddr q1 q2 (aU hr' hx) (aU hr' hy) hz.1 (by omega),q3]
  rfl
 | @laG hd A as d n e off x v u us j cs t ty ops i sl ms fr Γ Γ1 m h1 hp0 hc _ ih=>
  intro hv hx ht hA B o ho r0 w0 H Z ha hs hp
  obtain ⟨F,_,_,hS,_,hK⟩:=stay hs
  refine ih hA.n B o ho r0 w0 H Z ha hs (hp.val hh ha hA hv fun r hr _ _ _ w hC=>?_)
  obtain ⟨f,F1,_,hO,_⟩:=h1.sound (hK w hC)
  obtain ⟨_,⟨_,⟨hj,hu⟩,_⟩,_⟩:=hp0.rd (hK w hC) []
  exact Ld ht ((cel_cells hO hj hu).2.2 off u hc) (aU hr hx) w (Chg.refl _ _)
 | @laG0 hd A as d n e x v u us j cs t ty ops i sl ms fr Γ Γ1 m h1 hp0 hc _ ih=>
  intro hv hx ht hA B o ho r0 w0 H Z ha hs hp
  obtain ⟨F,_,_,hS,_,hK⟩:=stay hs
  refine ih hA.n B o ho r0 w0 H Z ha hs (hp.val hh ha hA hv fun r hr _ _ _ w hC=>?_)
  obtain ⟨f,F1,_,hO,_⟩:=h1.sound (hK w hC)
  obtain ⟨_,⟨_,⟨hj,hu⟩,_⟩,_⟩:=hp0.rd (hK w hC) []
  exact Ld ht ((cel_cells hO hj hu).2.2 0 u hc) (aU hr hx) w (Chg.refl _ _)
 | load hv hx _ ih=>rename_i ht _; exact fun h1=>ih hv hx ht.h h1
 | lsw _ _ ih=>exact fun hv hx ht h1=>ih hv hx ht h1
 | @slH hd α o A as d x lo hi v k1 k2 a b E T xs t e ty ops i sl ms fr Γ Γ1 Γ' f ht hv hx hlo hhi hc hr hE _ ih=>
  intro h1 B oo ho r0 w0 H Z ha hs hp
  obtain ⟨ys,hys,ho⟩:=bind_some ho
  obtain ⟨j0,j1,j2,rfl⟩:=cutL_some hys
  obtain ⟨e',i',q1,q2,q3⟩:=ht.h
  obtain ⟨F,Hd,hL,hS,hG,hK⟩:=stay hs
  obtain ⟨f1,F1,_,hO,_⟩:=hc.sound hS
  obtain ⟨base,cap,rfl,hcap⟩ : ∃ base cap,v = .slice base xs.length cap∧xs.length≤cap:=by
   obtain ⟨base,cap,hv,hr⟩:=hO
   refine ⟨base,cap,by simpa using hv,?_⟩
   rcases hr with ⟨_,rfl,rfl,_⟩ | ⟨b0,cur,f0,_,_,_,hnc,_⟩
   ·simp
   ·exact hnc
  obtain ⟨cur',_,⟨⟨g0,hg0,hb0⟩,_⟩,hins⟩:=(hr (sliced base a.toNat b.toNat cap 1) ((xs.drop a.toNat).take (b.toNat - a.toNat))).sound hS
  have hf:=cut_fact (a:=a.toNat) (b:=b.toNat) hE hg0 (fun i hi=>(hb0 i hi).elim (fun h=>h) fun h=>h) (by omega) (by omega) hcap
  refine ih _ _ h1.n B oo ho r0 w0 H Z ha ⟨F,Hd,hL,hins hf,hG⟩ (hp.val hh ha h1 hv fun r hr' _ _ _ w hC=>?_)
  have q4:P.elem t=e':=by simp [Program.elem,q1]
  have hsz:(sizeOf (P.elem t)).run P w = .ok 1 w:=by rw [q4]; simp [sizeOf,typeInfo,q2,q3]
  simp [execOp,aU hr' hx,aU hr' hlo,aU hr' hhi,run_sliceAt_slice w t _ _ _ _ (by rw [q4]; exact q1),run_slice_lh (P:=P) w t base xs.length cap (by rw [q4]; exact q1) k1 k2 a b j0 j1 (by omega),hsz,Result.andThen]
 | @ldsH hd α A as d x v j E z o' t ty ops i sl ms fr Γ hd1 hd' m hV h h2' _ ih=>
  intro hv hx ht h1 B o ho r0 w0 H Z ha hs hp
  obtain ⟨F,Hd,⟨hL,hL2⟩,hS,hG,hK⟩:=stay hs
  obtain ⟨_,⟨u,k,h3,h4,h5⟩,_⟩:=(h (.bool true)).sound hL
  obtain ⟨cur',⟨u',k',h4',h5',h6⟩,hins⟩:=(h u).sound hL
  rw [h3] at h4'
  cases h4'
  exact ih u h1.n B o ho r0 w0 H Z ha ⟨F,Hd,⟨(h2' u).sound h3 (hins ⟨k',h5',h6⟩),hL2⟩,hS,hG⟩ (hp.valV hh ha h1 hV hv fun r hr _ _ _ w hC=>Ld ht h3 (aU hr hx) w hC)
 | @lel hd α A as d x v j o E z t ty ops i sl ms fr Γ Γx m h _ ih=>
  intro hv hx ht h1 B o' ho r0 w0 H Z ha hs hp
  obtain ⟨F,Hd,hL,hS,hG,hK⟩:=stay hs
  obtain ⟨_,⟨u,k,h2,h3,_⟩,_⟩:=h.sound hS
  refine ih hv hx ht h1 B o' ho r0 w0 H Z ha hs ⟨u,fun w hC=>?_⟩ hp
  have hb:(elA v 1 j).block ∉ H:=fun hm=>(h.blk hS).elim (fun h=>h.elim (fun h=>absurd h List.not_mem_nil) fun h=>(List.nodup_append.1 hG.nd).2.2 _ hm _ h rfl) fun h=>hG.apart _ (List.mem_append_left _ hm) h
  have hc:=hC.cell hb h2
  obtain ⟨_,⟨u',k',h4,h5,_⟩,_⟩:=h.sound (hK w hC)
  rw [hc] at h4
  cases h4
  exact ⟨hc,k',h5⟩
 | lce h _ ih=>
  intro hv hx ht h1 B o ho r0 w0 H Z ha hs hp
  obtain ⟨F,_,_,hS,_,hK⟩:=stay hs
  exact ih h1.n B o ho r0 w0 H Z ha hs (hp.val hh ha h1 hv fun r hr _ _ _ w hC=>Ld ht (h.sound (hK w hC)) (aU hr hx) w (Chg.refl _ _))
 | las h _ ih=>
  intro hv hx ht h1 B o ho r0 w0 H Z ha hs hp
  obtain ⟨F,_,_,hS,_,hK⟩:=stay hs
  refine ih h1.n B o ho r0 w0 H Z ha hs (hp.val hh ha h1 hv fun r hr _ _ _ w hC=>?_)
  obtain ⟨h2,h3⟩:=h.sound (hK w hC)
  exact Lg ht h2 (aU hr hx) h3 w (Chg.refl _ _)
 | ldi _ ih=>
  intro hv hx ht h1 B o ho r0 w0 H Z ha hs hu hp
  obtain ⟨u,hu⟩:=hu
  obtain ⟨_,_,h3,_⟩:=hu w0 (Chg.refl _ _)
  obtain rfl:u=_:=by simpa using h3
  exact ih h1.n B o ho r0 w0 H Z ha hs (hp.val hh ha h1 hv fun r hr _ _ _ w hC=>Ld ht (hu w hC).1 (aU hr hx) w (Chg.refl _ _))
 | ldb _ ih=>
  intro hv hx ht h1 B o ho r0 w0 H Z ha hs hu hp
  obtain ⟨u,hu⟩:=hu
  obtain ⟨_,_,h3,_⟩:=hu w0 (Chg.refl _ _)
  obtain rfl:u=_:=by simpa using h3
  exact ih h1.n B o ho r0 w0 H Z ha hs (hp.val hh ha h1 hv fun r hr _ _ _ w hC=>Ld ht (hu w hC).1 (aU hr hx) w (Chg.refl _ _))
 | @lds hd α A as d x v j E z o' t ty ops i sl ms fr Γ Γ1 Γ' m h h2' _ ih=>
  intro hv hx ht h1 B o ho r0 w0 H Z ha hs hu hp
  obtain ⟨u,hu⟩:=hu
  obtain ⟨h2,_⟩:=hu w0 (Chg.refl _ _)
  obtain ⟨F,Hd,hL,hS,hG,hK⟩:=stay hs
  obtain ⟨cur',⟨u',k',h4,h5,h6⟩,hins⟩:=(h u).sound hS
  rw [h2] at h4
  cases h4
  exact ih u h1.n B o ho r0 w0 H Z ha ⟨F,Hd,hL,(h2' u).sound h2 (hins ⟨k',h5,h6⟩),hG⟩ (hp.val hh ha h1 hv fun r hr _ _ _ w hC=>Ld ht (hu w hC).1 (aU hr hx) w (Chg.refl _ _))
 | @lit0 hd α A as d t e ty E z0 bt ops i sl ms Γ m hz _ ih=>
  intro h1 B o ho r0 w0 H Z ha hs hp
  exact ih h1.n B o ho r0 w0 H Z ha hs (lit_pre hz h1 hp)
 | cal hU _ ih=>exact fun h1=>ih hU h1
 | @call hd β V A as d f xs ats ty mo rt ps ops i sl ms fr Γ g hf hv hc hi hsr hw _ ih=>
  intro _ h1 B o ho r0 w0 H Z ha hs hp
  obtain ⟨y,hy,ho⟩:=bind_some ho
  obtain ⟨pos,aft,h2⟩:=h1.o
  exact ih y h1.n (by unfold dstAt; rw [h2]; rfl) B o ho r0 w0 H Z ha hs (call_pre hh hf hv hc hi hsr hw h1 hy ha hs hp)
 | @callH hd β V A as d f xs ats ty mo rt ps ops i sl ms fr Γ g hf hV hv hc hi hsr hw _ ih=>
  intro hU h1 B o ho r0 w0 H Z ha hs hp
  obtain ⟨y,hy,ho⟩:=bind_some ho
  obtain ⟨pos,aft,h2⟩:=h1.o
  exact ih y h1.n (by unfold dstAt; rw [h2]; rfl) B o ho r0 w0 H Z ha hs (callH_pre hh hf hv hU hV hc hi hsr hw h1 hy ha hs hp)
 | @callR hd β V A as d f xs ats ty mo rt ps ops i sl ms fr Γ g hf hv hc hi hsr _ ih=>
  intro hU h1 B o ho r0 w0 H Z ha hs hp
  obtain ⟨y,hy,ho⟩:=bind_some ho
  obtain ⟨pos,aft,h2⟩:=h1.o
  exact ih y h1.n (by unfold dstAt; rw [h2]; rfl) B o ho r0 w0 H Z ha hs (callR_pre hh hf hv hc hi hsr h1 hy ha hs hp)
 | @callHR hd β V A as d f xs ats ty mo rt ps ops i sl ms fr Γ g hf hV hv hc hi hsr _ ih=>
  intro hU h1 B o ho r0 w0 H Z ha hs hp
  obtain ⟨y,hy,ho⟩:=bind_some ho
  obtain ⟨pos,aft,h2⟩:=h1.o
  exact ih y h1.n (by unfold dstAt; rw [h2]; rfl) B o ho r0 w0 H Z ha hs (callHR_pre hh hf hv hU hV hc hi hsr h1 hy ha hs hp)
 | @callMR hd β V j1 a1 ms1 A as d f xs ats ty mo rt ps ops i sl ms fr Γ g hf hg hs1 h4 hv hc hi hsr _ ih=>
  intro hU h1 B o ho r0 w0 H Z ha hs hp
  obtain ⟨y,hy,ho⟩:=bind_some ho
  obtain ⟨pos,aft,h2⟩:=h1.o
  exact ih y h1.n (by unfold dstAt; rw [h2]; rfl) B o ho r0 w0 H Z ha hs (let ⟨S',e1,e2,e3⟩:=callMR_pre hh hf hv hU hg hs1 h4 hc hi hsr h1 hy ha hs hp; ⟨S',e1,e2.re (vis_mem (by rw [← h1.A]; exact memB_iff.1 h4)).1,e3⟩)
 | @callM hd β V j1 a1 ms1 A as d f xs ats ty mo rt ps ops i sl ms fr Γ g hf hg hs1 h4 hv hc hi hsr hw _ ih=>
  intro hU h1 B o ho r0 w0 H Z ha hs hp
  obtain ⟨y,hy,ho⟩:=bind_some ho
  obtain ⟨pos,aft,h2⟩:=h1.o
  exact ih y h1.n (by unfold dstAt; rw [h2]; rfl) B o ho r0 w0 H Z ha hs (let ⟨S',e1,e2,e3⟩:=callM_pre hh hf hv hU hg hs1 h4 hc hi hsr hw h1 hy ha hs hp; ⟨S',e1,e2.re (vis_mem (by rw [← h1.A]; exact memB_iff.1 h4)).1,e3⟩)
 | @crb hd u ps d as ops i sl ms Γ m _ ih=>
  intro h1 hd' B o ho r0 w0 H Z ha hs ⟨S',hl,hR,hO,hL⟩
  subst hl
  refine ih h1 B o ho r0 w0 H Z ha hs ⟨S'++[⟨true,MV Z ⟨S'.length,d,[],Unit,fun _=>u,fun _=>ps⟩⟩],by simp,(hR.mem (b:=⟨S'.length,d,[],Unit,fun _=>u,fun _=>ps⟩) rfl hd' (fun _ h=>nomatch h)).addv (s:=⟨true,MV Z ⟨S'.length,d,[],Unit,fun _=>u,fun _=>ps⟩⟩) hd' (by simp) rfl (fun f w r x ⟨v,h,_⟩=>h),fun j hj=>?_⟩
  by_cases h2:j < S'.length
  ·exact Owes.more (hO j h2) h2
  ·obtain rfl:j=S'.length:=by omega
   exact hL _ fun f w r x h=>⟨f,fun _ h=>h,h⟩
 | @crv hd u d as ops i sl ms Γ m _ ih=>
  intro h1 hd' B o ho r0 w0 H Z ha hs ⟨S',hl,hR,hO,hL⟩
  subst hl
  refine ih h1 B o ho r0 w0 H Z ha hs ⟨_,by simp,hR.val hd',fun j hj=>?_⟩
  by_cases h2:j < S'.length
  ·exact Owes.more (hO j h2) h2
  ·obtain rfl:j=S'.length:=by omega
   exact hL (pl fun _ _ x=>x=_) fun f w r x ⟨v,h,_⟩=>⟨[],fun _ h=>absurd h List.not_mem_nil,h⟩
 | @crm hd V u ps d as ops i sl ms Γ m _ ih=>
  intro h1 hd' B o ho r0 w0 H Z ha hs ⟨S',hl,hR,hO,hL⟩
  subst hl
  refine ih h1 B o ho r0 w0 H Z ha hs ⟨_,by simp,hR.mem rfl hd' (fun _ h=>nomatch h),fun j hj=>?_⟩
  by_cases h2:j < S'.length
  ·exact Owes.more (hO j h2) h2
  ·obtain rfl:j=S'.length:=by omega
   exact hL _ fun f w r x h=>⟨f,fun _ h=>h,h⟩
 | aps hU _ ih=>exact fun h1=>ih hU h1
 | apL hVc hv hs' h2 h3 h5 h6 hl hz h1 hr hi hn hb _ ih=>
  rename_i hT _
  intro hU h B o ho r0 w0 H Z ha hs hp
  obtain ⟨u,hu,ho⟩:=bind_some ho
  obtain ⟨p1,p2⟩:=apL_pre hh ha hT hU hVc hv hs' h2 h3 h5 h6 hl hz h1 hr hi hn hb hu h hs hp
  exact ih h.n B o ho r0 w0 H Z ha p2 p1
 | apH hVc hv hs' h2 h5 hl hz h1 hr hy _ ih=>
  rename_i hT _
  intro hU h B o ho r0 w0 H Z ha hs hp
  obtain ⟨u,hu,ho⟩:=bind_some ho
  obtain ⟨p1,p2⟩:=apH_pre hh ha hT hU hVc hv hs' h2 h5 hl hz h1 hr hy hu h hs hp
  exact ih h.n B o ho r0 w0 H Z ha p2 p1
 | apM h1 h2 h3 hp' hj hne h4 h5 h6 hi hn hb _ ih=>
  rename_i hT _
  intro hU h B o ho r0 w0 H Z ha hs hp
  obtain ⟨u,hu,ho⟩:=bind_some ho
  exact ih h.n B o ho r0 w0 H Z ha hs (apM_pre hT hU h1 h2 h3 hp' hj hne h4 h5 h6 hi hn hb hu h hp)
 | ap1 h1 h2 h3 hw h4 h5 _ ih=>
  rename_i hz _
  intro h6 h B o ho r0 w0 H Z ha hs hp
  obtain ⟨u,hu,ho⟩:=bind_some ho
  exact ih h.n B o ho r0 w0 H Z ha hs (app_pre hz h1 h2 h3 h4 h5 (h6.trans hw) hu h hp)
 | apR h1 h3 hw h4 hv hx hr _ ih=>
  rename_i hz _
  intro h6 h B o ho r0 w0 H Z ha hs hp
  obtain ⟨u,hu,ho⟩:=bind_some ho
  obtain ⟨F,_,_,_,_,hK⟩:=stay hs
  exact ih h.n B o ho r0 w0 H Z ha hs (appR_pre hz h1 h3 h4 (h6.trans hw) hh ha hv hx hr hK hu h hp)
 | apO h1 h3 hw h4 h2 h7 h5 _ ih=>
  rename_i hz _
  intro h6 h B o ho r0 w0 H Z ha hs hp
  obtain ⟨u,hu,ho⟩:=bind_some ho
  exact ih h.n B o ho r0 w0 H Z ha hs (appO_pre hz h1 h3 h4 (h6.trans hw) h2 h7 h5 hu h hp)
 | sw1 _ _ ih=>exact fun h1=>ih h1
 | sw2 _ _ ih=>exact fun h1=>ih h1
 | sw3 _ _ ih=>exact fun h1=>ih h1
 | sw4 _ _ ih=>exact fun h1=>ih h1
 | sw6 _ _ ih=>exact fun h1=>ih h1
 | wl0 _ ih=>exact fun h1=>ih h1
 | alc _ ih=>
  rename_i hz _
  intro h1 B o ho r0 w0 H Z ha hs hp
  exact ih h1.n B o ho r0 w0 H Z ha hs (alc_pre hz h1 hp)
 | sw5 _ _ ih=>exact fun h1=>ih h1
 | mln hi hsr hx _ ih=>
  rename_i ht _
  intro h1 B o ho r0 w0 H Z ha hs hp
  exact ih h1.n B o ho r0 w0 H Z ha hs (ln_pre hp h1 ht hi hsr hx)
 | wv hv hq _ ih=>
  intro h1 B o ho r0 w0 H Z ha hs hp
  obtain ⟨F,_,_,_,_,hK⟩:=stay hs
  exact ih h1.n B o ho r0 w0 H Z ha hs (hp.val hh ha h1 hv fun r hr _ _ _ w hC=>hq.sound (hK w hC) hr _ _ _ _ _ w (Chg.refl _ _))
 | wlt hv hx ho _ ih=>
  rename_i hz _
  intro h1 B o ho' r0 w0 H Z ha hs hp
  obtain ⟨F,_,_,_,_,hK⟩:=stay hs
  exact ih h1.n B o ho' r0 w0 H Z ha hs (lt_pre hh ha hz hv hx ho hK h1 hp)
 | ltn hv hd' hn hb _ ih=>
  rename_i hz _
  intro h1 B o ho' r0 w0 H Z ha hs hp
  obtain ⟨F,_,_,_,_,hK⟩:=stay hs
  exact ih h1.n B o ho' r0 w0 H Z ha hs (ltn_pre hh ha hz hv hd' hn hb hK h1 hp)
 | ltu hv hd' hn hb _ ih=>
  rename_i hz _
  intro h1 B o ho' r0 w0 H Z ha hs hp
  obtain ⟨F,_,_,_,_,hK⟩:=stay hs
  exact ih h1.n B o ho' r0 w0 H Z ha hs (ltn_pre hh ha ⟨hz.h⟩ hv hd' hn hb hK h1 hp)
 | @ari hd A as op x y k k' a b t t' d ty ops i sl ms fr Γ f hv hx hy hk _ ih=>
  intro h1 B o ho r0 w0 H Z ha hs hp
  obtain ⟨z,hz,ho⟩:=bind_some ho
  have hk':shB op=true∨k=k':=by
   cases hk with
   | same=>exact .inr rfl
   | sh h=>exact .inl h
  exact ih z h1.n B o ho r0 w0 H Z ha hs (hp.val hh ha h1 hv fun r hr _ _ _ w hC=>op_aop (aU hr hx) (aU hr hy) hk' hz)
 | mk hv hx _ ih=>
  rename_i hz _
  intro h1 B o ho r0 w0 H Z ha hs hp
  obtain ⟨n,hn,ho⟩:=bind_some ho
  exact ih n h1.n B o ho r0 w0 H Z ha hs (mk_pre hh ha hz hv hx hn h1 hp)
 | mmv hi hsr hj _ ih=>
  intro h1 B o ho r0 w0 H Z ha hs hp
  exact ih h1.n B o ho r0 w0 H Z ha hs (hp.dep (X:=fun u=>u) h1 hi hsr hj fun r x hx w pos aft=>(Mv (W:=w) _ rfl) w (Chg.refl _ _))
 | @mex hd t k A as d ty ops i sl ms Γ m hi hsr hj hxx _ ih=>
  intro h1 B o ho r0 w0 H Z ha hs hp
  refine ih h1.n B o ho r0 w0 H Z ha hs (hp.dep (X:=fun u=>tupOf u _) h1 hi hsr hj fun r x hx w pos aft=>?_)
  obtain ⟨hlk,hc⟩:=hxx x
  have hrt:=(agr_app hx agr_nil) _ _ (by rw [List.append_nil]; exact hlk)
  have:=(Ex (W:=w) (P:=P) (r:=r) (d:=some d) (ty:=ty) (pos:=pos) (aft:=aft) (g:=none) _ (x:=.tmp t) hrt (by simpa using hc)) w (Chg.refl _ _)
  rw [this,hrt]
  simp [tupOf,hc]
 | mfd hi hsr hj hxx _ ih=>
  rename_i hf _
  intro h1 B o ho r0 w0 H Z ha hs hp
  refine ih h1.n B o ho r0 w0 H Z ha hs (hp.dep (X:=fun u=>fldOf u _) h1 hi hsr hj fun r x hx w pos aft=>?_)
  obtain ⟨hlk,hc⟩:=hxx x
  obtain ⟨fs,f,ds,q1,q2,q3,q4,q5⟩:=hf.h
  have hrt:=(agr_app hx agr_nil) _ _ (by rw [List.append_nil]; exact hlk)
  rw [op_field q1 q2 q3 q4 q5 (x:=.tmp _) hrt (by simpa using hc),hrt]
  simp [fldOf,hc]
 | mif hi hsr hj _ ih=>
  rename_i hf _
  intro h1 B o ho r0 w0 H Z ha hs hp
  obtain ⟨ds,q1,q2⟩:=hf.h
  exact ih h1.n B o ho r0 w0 H Z ha hs (hp.dep (X:=fun u=>.iface _ u) h1 hi hsr hj fun r x hx w pos aft=>(If (W:=w) q1 q2 _ rfl) w (Chg.refl _ _))
 | mbl hi hsr _ hj hv hxx _ ih=>
  rename_i hb _ _
  intro h1 B o ho r0 w0 H Z ha hs hp
  exact ih h1.n B o ho r0 w0 H Z ha hs (bld_pre hh hb hi hsr hj hv hxx h1 ha hs hp)
 | mlt hi hsr hj hxx _ ih=>
  rename_i hz _
  intro h1 B o ho r0 w0 H Z ha hs hp
  exact ih h1.n B o ho r0 w0 H Z ha hs (mlt_pre hz hi hsr hj hxx h1 hp)
 | val hv hq _ ih=>
  intro h1 B o ho r0 w0 H Z ha hs hp
  obtain ⟨F,_,_,_,_,hK⟩:=stay hs
  exact ih h1.n B o ho r0 w0 H Z ha hs (hp.val hh ha h1 hv fun r hr _ _ _ w hC=>hq.sound (hK w hC) hr _ _ _ _ _ w (Chg.refl _ _))
end
end Go.Dk
namespace Go.Dk
open Go Go.Li
section
variable {R S:Type} {P:Program} {cx:Cx R} {K:Kont R S} {l tail:List Oper} {base fr:Fr} {w:World} {Z:Nat→Prop}
theorem postI_panic {n:Nat} {Q:Exit→(Nat→Value)→World→Prop} {r:Nat→Value} (hQ:∀ c,¬ Q (.panic c) r w):∀ its,∀ c,¬ postI P n Q its (.panic c) r w:=by
 intro its
 induction its with
 | nil=>exact hQ
 | cons a its ih=>cases a <;> exact ih
theorem baseQ_panic {B:Bs} {b:Kb R S} {o:Out S R} {r:Nat→Value}:∀ c,¬ baseQ P cx B b o (.panic c) r w:=by
 intro c
 cases b <;> cases o <;> exact fun h=>h
theorem postK_panic {B:Bs} {K:Kont R S} {o:Out S R} {r:Nat→Value}:∀ c,¬ postK P cx B K o (.panic c) r w:=postI_panic baseQ_panic _
def allB (g:Nat→List Nat):List MemD→List Nat
 | []=>[]
 | a :: l=>g a.j++allB g l
theorem allB_mem {g:Nat→List Nat}:∀ {ms:List MemD} {b:Nat},b∈allB g ms→∃ a∈ms,b∈g a.j:=by
 intro ms
 induction ms with
 | nil=>intro b h; exact absurd h List.not_mem_nil
 | cons a ms ih=>
  intro b h
  rcases List.mem_append.1 h with h | h
  ·exact ⟨a,by simp,h⟩
  ·obtain ⟨c,h1,h2⟩:=ih h
   exact ⟨c,List.mem_cons_of_mem _ h1,h2⟩
theorem perm_vr {Vo Vr A F:List Nat} (h:(Vo++Vr).Perm A):((Vo++F)++Vr).Perm (A++F):=by
 refine List.Perm.trans ?_ (h.append_right F)
 rw [List.append_assoc,List.append_assoc]
 exact List.Perm.append_left Vo List.perm_append_comm
theorem pickA {g:Nat→List Nat} {r:Nat→Value}:∀ {ms:List MemD},srcA ms=true→(ms.map (·.j)).Nodup→(∀ a∈ms,∀ b∈ms,a.j≠b.j→Dis (g a.j) (g b.j))→(∀ a∈ms,MV Z a (g a.j) w r (r a.d))→
  ∃ x:Xof ms,(∀ p∈mF ms x,r p.1=p.2)∧(∃ Vo Vr,(Vo++Vr).Perm (allB g ms)∧(∀ b∈Vr,b < w.heap.size)∧HL (orZ Z Vr) w (allE ms x) Vo)∧(allB g ms).Nodup:=by
 intro ms
 induction ms with
 | nil=>intro _ _ _ _; exact ⟨(),fun p hp=>absurd hp List.not_mem_nil,⟨[],[],.refl _,fun b (h:b∈[])=>absurd h List.not_mem_nil,.nil⟩,List.nodup_nil⟩
 | cons a ms ih=>
  intro hsr hd hi h
  unfold srcA at hsr
  rw [Bool.and_eq_true] at hsr
  rw [List.map_cons,List.nodup_cons] at hd
  obtain ⟨x,hx,hl,hn⟩:=ih hsr.2 hd.2 (fun b hb c hc=>hi b (List.mem_cons_of_mem _ hb) c (List.mem_cons_of_mem _ hc)) fun b hb=>h b (List.mem_cons_of_mem _ hb)
  obtain ⟨v,e1,e2,e3⟩:=h a (by simp)
  have es:srcV a r=srcF a (mF ms x):=by
   have h3:=hsr.1
   rw [List.all_eq_true] at h3
   refine srcT_eq fun t ht=>?_
   unfold lookD
   rw [look_all (h3 t ht) hx]
  rw [es] at e1 e2
  refine ⟨(v,x),?_,?_,nodup_app e3 hn ?_⟩
  rotate_left
  ·obtain ⟨Fo,Fr,hf,h1,h2⟩:=e2.all
   obtain ⟨Vo,Vr,k1,k2,k3⟩:=hl
   refine ⟨Fo++Vo,Fr++Vr,?_,fun b hb=>(List.mem_append.1 hb).elim (h1 b) (k2 b),(h2.mono fun b h=>h.imp id fun h=>List.mem_append_left _ h).app (k3.mono fun b h=>h.imp id fun h=>List.mem_append_right _ h)⟩
   show List.Perm _ (g a.j++allB g ms)
   rw [hf]
   refine List.Perm.trans ?_ (k1.append_left (Fo++Fr))
   rw [List.append_assoc,List.append_assoc]
   refine List.Perm.append_left Fo ?_
   rw [← List.append_assoc,← List.append_assoc]
   exact List.Perm.append_right Vr List.perm_append_comm
  rotate_right
  ·intro p hp
   rcases List.mem_cons.1 hp with rfl | hp
   ·exact e1
   ·exact hx p hp
  ·intro b hb hm
   obtain ⟨c,h1,h2⟩:=allB_mem hm
   exact hi a (by simp) c (List.mem_cons_of_mem _ h1) (fun e=>hd.1 (by rw [e]; exact List.mem_map_of_mem h1)) b hb h2
theorem allF_all {r:Nat→Value} {f:Fr}:∀ {sl:List (Nat×Nat×Value)},(∀ p∈sl,r p.2.1=p.2.2)→(∀ p∈f,r p.1=p.2)→∀ p∈allF sl f,r p.1=p.2:=by
 intro sl
 induction sl with
 | nil=>intro _ h; exact h
 | cons a sl ih=>
  intro h1 h2 p hp
  rcases List.mem_cons.1 hp with rfl | hp
  ·exact h1 a (by simp)
  ·exact ih (fun p hp=>h1 p (List.mem_cons_of_mem _ hp)) h2 p hp
theorem nil_fin {mt id:Nat} {U:List (List Nat)} {Zl:List Nat} {hdl:List Ent} (hU:((List.range mt).all fun i=>(U.getD i []).all fun u=>Nat.beq u l.length || ((ancs l).getD i []).contains u)=true) (hh:hotB l mt base=true) (hd:dstOk cx.n l=true) (hA:anyB l mt Zl=true) (hZ:zOk l mt Zl=true) (hml:mt≤l.length) (ht:tail=l.drop mt) {i:Nat} {sl:List (Nat×Nat×Value)} {ms:List MemD} {Γ:List Ent} {m:Option (Out S R)} (hsa:srcA ms=true) (hen:endB U sl ms=true)
  (h:∀ x:Xof ms,D P cx (.p (allF sl (mF ms x)) (allE ms x) base Γ fun fr Γ=>.tg false (hasG tail) l tail K Γ fr m)):semA P cx K l mt U hdl id base (.a [] [] i sl ms Γ m):=by
 rintro ⟨_,h2,h3⟩ B o ho r0 w0 H Z ha hs ⟨S',hl,hR,hO⟩
 have hi:i=mt:=by
  have:=congrArg List.length h2
  simp at this
  omega
 subst hl
 obtain ⟨F,Hd,⟨hHL,hHd,hHlt,hHn⟩,hS,hG⟩:=hs
 refine W_anyC (N:=Z) (S:=S') (U:=U) (H:=H) hd hA hZ (fun c r w h=>postK_panic c h) hml hi hHlt hU (fun b hb=>⟨hG.zlt b hb,fun h=>hG.apart b (List.mem_append_left _ h) hb⟩) (fun i s hs=>hR.s i s hs) (fun j hj=>hO j (by omega)) ?_
 intro g r w hI
 have hused:∀ k j,j∈U.getD k []→∀ a∈ms,a.j≠j:=by
  intro k j hj
  unfold endB at hen
  rw [List.getD_eq_getElem?_getD] at hj
  cases hk:U[k]? with
  | none=>rw [hk] at hj; exact absurd hj List.not_mem_nil
  | some us=>
   rw [hk] at hj
   have h1:=List.all_eq_true.1 (List.all_eq_true.1 hen us (List.mem_of_getElem? hk)) j hj
   intro a ha he
   have:=List.all_eq_true.1 h1 a ha
   rw [he,Nat.beq_refl] at this
   cases this
 have hD:∀ j,j < mt→(∀ k,j ∉ U.getD k [])→Done l S' j g r w:=fun j hj hn=>hI.done j hj fun k _=>hn k
 have hlt:∀ a∈ms,a.j < mt:=fun a ha=>hi ▸ hR.lt ha
 obtain ⟨x,hx,hxl,hxn⟩:=pickA (g:=g) (r:=r) (w:=w) hsa hR.d (fun a ha b hb hab=>hI.dis _ _ (hlt a ha) (hlt b hb) hab) fun a ha=>by
  have:=hR.got (S2:=[]) ha (by rw [List.append_nil]; exact hD a.j (hlt a ha) (fun k hk=>hused k _ hk a ha rfl))
  exact this
 have hndHF:=List.nodup_append.1 hG.nd
 have hfr:∀ b∈allB g ms,w0.heap.size≤b∨b∈H:=fun b hb=>by
  obtain ⟨a,h1,h2⟩:=allB_mem hb
  exact (hI.fresh a.j (hlt a h1) b h2).1.imp (fun h=>h) (·.1)
 have hS1:=StX.stay hS hG hI.chg
 obtain ⟨Vo,Vr,hvp,hvl,hxl⟩:=hxl
 obtain ⟨F',hp,hS2⟩:=hxl.build (hS1.mono (fun _ h=>.inl h) fun _ h=>h)
 have hG3:Gd B Z (allB g ms++F) w:=by
  refine ⟨nodup_app hxn hndHF.2.1 fun b hb hF=>(hfr b hb).elim (fun h=>Nat.lt_irrefl _ (Nat.lt_of_lt_of_le (hS.lt b hF) h)) (fun h=>hndHF.2.2 b h b hF rfl),?_,fun b hb=>Nat.lt_of_lt_of_le (hG.zlt b hb) hI.chg.size,?_,hG.zup,hG.zlow,hG.chg.then hI.chg fun b hb=>hG.low b (List.mem_append_left _ hb)⟩
  ·intro b hb hz
   rcases List.mem_append.1 hb with hb | hb
   ·exact (hfr b hb).elim (fun h=>Nat.lt_irrefl _ (Nat.lt_of_lt_of_le (hG.zlt b hz) h)) (fun h=>hG.apart b (List.mem_append_left _ h) hz)
   ·exact hG.apart b (List.mem_append_right _ hb) hz
  ·intro b hb
   rcases List.mem_append.1 hb with hb | hb
   ·exact (hfr b hb).elim (fun h=>.inr (Nat.le_trans hG.chg.size h)) (fun h=>hG.low b (List.mem_append_left _ h))
   ·exact hG.low b (List.mem_append_right _ hb)
 have hagr:agr r ((allF sl (mF ms x)).reverse++base):=by
  refine agr_rev (allF_all (fun p hp=>?_) hx) (agr_base hh ha hI.other)
  exact hR.see (S2:=[]) hp fun j _ hj=>(by rw [List.append_nil]; exact hI.old j (hi ▸ hj))
 have:=(h x).sound B o ho r w hagr ⟨_,F',hS2,((hG3.perm (perm_vr hvp)).freeze hvl).perm hp⟩
 rw [ht] at this
 exact this
def Kq (q:Option (Bool×Nat×Value)) (f:Fr):Fr:=
 match q with
 | none=>f
 | some (_,d,u)=>(d,u) :: f
theorem Kp.lk {ws:List Nat} {q:Option (Bool×Nat×Value)} {f g:Fr} (h:Kp ws q f g):(∀ b d u,q=some (b,d,u)→b=memB d ws)→∀ t v,look g t=some v→memB t ws=false∧look (Kq q f) t=some v:=by
 induction h with
 | nil=>intro _ t v h; cases h
 | cons _ ih=>intro _ t v h; exact ih (by rintro b d u h; cases h; rfl) t v h
 | @drop ws d u f g _ ih=>
  intro hq t v h
  obtain ⟨h1,h2⟩:=ih (by rintro b d u h; cases h) t v h
  refine ⟨h1,?_⟩
  show look ((d,u) :: f) t=some v
  unfold look
  cases hb:Nat.beq t d with
  | true=>have:=hq true d u rfl; rw [Nat.eq_of_beq_eq_true hb,← this] at h1; cases h1
  | false=>exact h2
 | @keep ws d u f g _ ih=>
  intro hq t v h
  unfold look at h
  show memB t ws=false∧look ((d,u) :: f) t=some v
  unfold look
  cases hb:Nat.beq t d with
  | true=>rw [hb] at h; exact ⟨by rw [Nat.eq_of_beq_eq_true hb]; exact (hq false d u rfl).symm,h⟩
  | false=>
   rw [hb] at h
   obtain ⟨h1,h2⟩:=ih (by rintro b d u h; cases h) t v h
   unfold memB at h1
   rw [hb] at h1
   exact ⟨h1,h2⟩
theorem Kp.sound {ws:List Nat} {f g:Fr} {r:Nat→Value} (h:Kp ws none f g) (ha:agr r f):agr r g:=
 fun t v hl=>ha t v (h.lk (by rintro b d u h; cases h) t v hl).2
theorem anyW {id:Nat} (hd:List Ent) (mt:Nat) (Zl:List Nat) (U as:List (List Nat)) {ops:List Oper} {Γ Γ1:List Ent} {fr:Fr} {m:Option (Out S R)}
  (hB:(P.follows .mixedOrders && dstOk cx.n l && anyB l mt Zl && zOk l mt Zl && Nat.ble mt l.length && (visl l U mt == as) && ((List.range mt).all fun i=>(U.getD i []).all fun u=>Nat.beq u l.length || ((ancs l).getD i []).contains u))=true)
  (ho:ops=l.take mt) (ht:tail=l.drop mt) (hf:Kp (dsts ops) none fr base) (hh:hotB l mt base=true) (he:EO Γ hd Γ1) (how:OW Γ hd)
  (h:AD false P cx K l tail base U hd (.a as ops 0 [] [] Γ1 m)):∀ B o,m=some o→∀ r w,agr r fr→St B Γ w→AnyW P cx.n l (postK P cx B K o) r w:=by
 simp only [Bool.and_eq_true] at hB
 obtain ⟨⟨⟨⟨⟨⟨_,b2⟩,b3⟩,b4⟩,b5⟩,b6⟩,b7⟩:=hB
 intro B o hm r w ha hs
 obtain ⟨Z,F,hS,hG⟩:=hs
 obtain ⟨Fd,F',h1,h2,h3⟩:=he.sound hS
 have hSd:SA Z w hd [] Fd:=by
  have:=(HO.hl how hS h1).front (Γ:=[]) (F:=[]) rfl
  simpa using this
 have hX:StX B Z hd Γ1 Fd w:=⟨F',Fd,⟨hSd,fun b hb=>⟨hb,hSd.lt b hb⟩,hSd.lt,(List.nodup_append.1 (hG.perm h3).nd).1⟩,h2,hG.perm h3⟩
 refine AD.sound (id:=id) hh (fun _ _ _ _ _ _ hs he h=>nil_fin b7 hh b2 b3 b4 (Nat.le_of_ble_eq_true b5) ht hs he h) h
  ⟨by rw [List.drop_zero]; exact (eq_of_beq b6).symm,by rw [List.drop_zero]; exact ho,Nat.zero_le _⟩ B o hm r w Fd Z (hf.sound ha) hX ⟨[],rfl,⟨fun _ h=>absurd h List.not_mem_nil,fun _ h=>absurd h List.not_mem_nil,fun i s h=>by simp at h,List.nodup_nil,fun _ _ _ h1 h2=>ancs_trans l (anyB_back b3) h1 h2⟩,fun j hj=>absurd hj (Nat.not_lt_zero j)⟩
theorem anyH {id:Nat} (hd:List Ent) (mt:Nat) (Zl:List Nat) (U as:List (List Nat)) {ops:List Oper} {Γ Γ1:List Ent} {fr:Fr} {m:Option (Out S R)}
  (hB:(P.follows .mixedOrders && dstOk cx.n l && anyB l mt Zl && zOk l mt Zl && Nat.ble mt l.length && (visl l U mt == as) && ((List.range mt).all fun i=>(U.getD i []).all fun u=>Nat.beq u l.length || ((ancs l).getD i []).contains u))=true)
  (ho:ops=l.take mt) (ht:tail=l.drop mt) (hf:Kp (dsts ops) none fr base) (hh:hotB l mt base=true) (he:EO Γ hd Γ1) (how:OW Γ hd)
  (h:AD false P cx K l tail base U hd (.a as ops 0 [] [] Γ1 m)):Bx (sem P cx (.dr id l K Γ fr m)):=by
 have hm:P.follows .mixedOrders=true:=by
  simp only [Bool.and_eq_true] at hB
  exact hB.1.1.1.1.1.1
 rw [bx_eq]
 intro B o hm' r w ha hs
 exact (anyW (id:=id) hd mt Zl U as hB ho ht hf hh he how h B o hm' r w ha hs).W hm
theorem anyP {id:Nat} {l0:List Oper} (σ π:List Nat) (hd:List Ent) (mt:Nat) (Zl:List Nat) (U as:List (List Nat)) {ops:List Oper} {Γ Γ1:List Ent} {fr:Fr} {m:Option (Out S R)}
  (hB:(P.follows .mixedOrders && prmB l0 σ π && dstOk cx.n (prmL l0 σ π) && anyB (prmL l0 σ π) mt Zl && zOk (prmL l0 σ π) mt Zl && Nat.ble mt (prmL l0 σ π).length && (visl (prmL l0 σ π) U mt == as) && ((List.range mt).all fun i=>(U.getD i []).all fun u=>Nat.beq u (prmL l0 σ π).length || ((ancs (prmL l0 σ π)).getD i []).contains u))=true)
  (hl:l=prmL l0 σ π) (ho:ops=l.take mt) (ht:tail=l.drop mt) (hf:Kp (dsts ops) none fr base) (hh:hotB l mt base=true) (he:EO Γ hd Γ1) (how:OW Γ hd)
  (h:AD false P cx K l tail base U hd (.a as ops 0 [] [] Γ1 m)):Bx (sem P cx (.dr id l0 K Γ fr m)):=by
 subst hl
 simp only [Bool.and_eq_true] at hB
 obtain ⟨⟨⟨⟨⟨⟨⟨b0,b1⟩,b2⟩,b3⟩,b4⟩,b5⟩,b6⟩,b7⟩:=hB
 rw [bx_eq]
 intro B o hm' r w ha hs
 refine ((anyW (id:=id) hd mt Zl U as ?_ ho ht hf hh he how h B o hm' r w ha hs).prm b1).W b0
 simp only [Bool.and_eq_true]
 exact ⟨⟨⟨⟨⟨⟨b0,b2⟩,b3⟩,b4⟩,b5⟩,b6⟩,b7⟩
theorem any {id:Nat} (mt:Nat) (Zl:List Nat) (U as:List (List Nat)) {ops:List Oper} {Γ:List Ent} {fr:Fr} {m:Option (Out S R)}
  (hB:(P.follows .mixedOrders && dstOk cx.n l && anyB l mt Zl && zOk l mt Zl && Nat.ble mt l.length && (visl l U mt == as) && ((List.range mt).all fun i=>(U.getD i []).all fun u=>Nat.beq u l.length || ((ancs l).getD i []).contains u))=true)
  (ho:ops=l.take mt) (ht:tail=l.drop mt) (hf:Kp (dsts ops) none fr base) (hh:hotB l mt base=true)
  (h:AD false P cx K l tail base U [] (.a as ops 0 [] [] Γ m)):Bx (sem P cx (.dr id l K Γ fr m)):=anyH [] mt Zl U as hB ho ht hf hh .nil .nil h
end
end Go.Dk
