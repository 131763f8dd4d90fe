/- A calculus of walks: regions that draw their order and make memory. No condition. -/
import Derived.Test.YtjdkifckhidlbaaGreatDe
import Derived.Laws.Slices
namespace Go.Dk
open Go Go.Li
section
variable {w:World}
def tv {α:Type} (e:TI) (E:ai α) (j:Nat):ai (List α) where
 size:=1
 rep h cs xs f:=∃ b cap cur f1 f2 p c0 q,cs=[.slice (some ⟨b,0,none⟩) xs.length cap]∧h[b]? = some (.cells cur e (0,0))∧f=b :: (f1++f2)∧(xs.length≤cap∧cap≤maxLen∧cur.size=cap∧E.size=1)∧cur.toList.take xs.length=p++[c0]++q∧(p.length=j∧j < xs.length)∧
  (∀ i∈f1++f2,i < h.size)∧∀ h':Array Obj,(∀ i∈f1++f2,h'[i]? = h[i]?)→∀ u z k,E.rep h' [u] z k→dg E h' (p++[u]++q) (xs.set j z) (f1++k++f2)
 len:=by rintro h cs x f ⟨b,cap,cur,f1,f2,p,c0,q,rfl,_⟩; rfl
 one:=by rintro h cs x f ⟨b,cap,cur,f1,f2,p,c0,q,rfl,_⟩ v hv; simp at hv; subst hv; rfl
 congr:=by
  rintro h h' cs x f ⟨b,cap,cur,f1,f2,p,c0,q,rfl,h1,rfl,h2,h3,h4,h5,h6⟩ hb
  refine ⟨b,cap,cur,f1,f2,p,c0,q,rfl,(hb b (by simp)).trans h1,rfl,h2,h3,h4,fun i hi=>?_,fun h'' cf=>h6 h'' fun i hi=>(cf i hi).trans (hb i (List.mem_cons_of_mem _ hi))⟩
  have:=hb i (List.mem_cons_of_mem _ hi)
  rw [Array.getElem?_eq_getElem (h5 i hi)] at this
  exact (Array.getElem?_eq_some_iff.1 this).1
 lt:=by
  rintro h cs x f ⟨b,cap,cur,f1,f2,p,c0,q,rfl,h1,rfl,h2,h3,h4,h5,h6⟩ i hi
  rcases List.mem_cons.1 hi with rfl | hi
  ·exact (Array.getElem?_eq_some_iff.1 h1).1
  ·exact h5 i hi
theorem EG {α:Type} {e:TI} {E:ai α} {v u:Value} {xs:List α} {f:LN} {j:Int} {z:α} (h1:E.size=1) (hO:(aL e E).rep w.heap [v] xs f) (hz:xs[j.toNat]? = some z) (hu:w.cell? (cq v 1 j)=some u) :
  ∃ k g,E.rep w.heap [u] z k∧(k++g).Perm f∧(tv e E j.toNat).rep w.heap [v] xs g:=by
 obtain ⟨base,cap,hv,hr⟩:=hO
 obtain rfl:v = .slice base xs.length cap:=by simpa using hv
 have bh:j.toNat < xs.length:=(List.getElem?_eq_some_iff.1 hz).1
 rcases hr with ⟨_,_,rfl,_⟩ | ⟨b,cur,f0,rfl,hg,rfl,AE,BI,zg,du⟩
 ·simp at bh
 ·rw [h1,Nat.mul_one] at zg du
  have yd:cq (.slice (some ⟨b,0,none⟩) xs.length cap) 1 j = ⟨b,j.toNat,none⟩:=by
   simp only [cq,jd,Nat.zero_add,Nat.mul_one]
  rw [yd,cell_of_row w b _ cur e _ hg] at hu
  have Lu:∀ i∈f0,i < w.heap.size:=ma du
  obtain ⟨c,g0,g1,g2,p,q,Ed,hc,hp,AF,ye⟩:=yf j.toNat z du hz
  subst Ed
  rw [h1,Nat.mul_one] at hp
  have Ee:c.length=1:=by rw [E.len AF,h1]
  obtain ⟨c0,rfl⟩ : ∃ c0,c=[c0]:=by match c,Ee with | [c0],_=>exact ⟨c0,rfl⟩
  have Qh:c0=u:=by
   have h2:(cur.toList.take xs.length)[j.toNat]? = some c0:=by
    rw [hc,List.append_assoc,List.getElem?_append_right (by omega),hp,Nat.sub_self]; rfl
   rw [List.getElem?_take,if_pos bh,Array.getElem?_toList,hu] at h2
   exact (Option.some.inj h2).symm
  subst Qh
  refine ⟨g1,b :: (g0++g2),AF,?_,b,cap,cur,g0,g2,p,c0,q,rfl,hg,rfl,⟨AE,BI,zg,h1⟩,hc,⟨hp,bh⟩,fun i hi=>Lu i (by rcases List.mem_append.1 hi with hi | hi <;> simp [hi]),fun h' cf u z' k' hr=>ye h' [u] z' k' (fun i hi=>cf i (by simp [hi])) (fun i hi=>cf i (by simp [hi])) hr⟩
  refine (List.perm_append_comm (l₁:=g1) (l₂:=b :: (g0++g2))).trans ?_
  rw [List.cons_append]
  refine List.Perm.cons b ?_
  rw [List.append_assoc,List.append_assoc]
  exact List.Perm.append_left g0 List.perm_append_comm
end
structure gu where
 j:Nat
 d:Nat
 src:List Nat
 V:Type
 rt:Value→V→Value
 ps:Value→V→List aw
abbrev MM:=List gu
def qi:List gu→Type
 | []=>Unit
 | a :: l=>a.V×qi l
def zo (f:NV):List Nat→Value
 | []=>undef
 | [t]=>f t
 | ts=>.tuple (ts.map f).toArray
def wT (f:Fr) (t:Nat):Value:=match look f t with
 | some v=>v
 | none=>undef
def xi (a:gu) (r:NV):Value:=zo r a.src
def zp (a:gu) (f:Fr):Value:=zo (wT f) a.src
theorem Ah {f g:NV}:∀ {ts:LN},(∀ t∈ts,f t=g t)→zo f ts=zo g ts:=by
 intro ts h
 match ts,h with
 | [],_=>rfl
 | [t],h=>exact h t (by simp)
 | t :: s :: ts,h=>
  show Value.tuple (List.map f (t :: s :: ts)).toArray=Value.tuple (List.map g (t :: s :: ts)).toArray
  rw [List.map_congr_left h]
def mF:(ms:MM)→qi ms→Fr
 | [],_=>[]
 | a :: l,x=>(a.d,a.rt (zp a (mF l x.2)) x.1) :: mF l x.2
def zq:(ms:MM)→qi ms→List aw
 | [],_=>[]
 | a :: l,x=>a.ps (zp a (mF l x.2)) x.1++zq l x.2
def rb (A:LN):(ms:MM)→qi ms→Fr
 | [],_=>[]
 | a :: l,x=>bif ie a.j A then (a.d,a.rt (zp a (mF l x.2)) x.1) :: rb A l x.2 else rb A l x.2
def tw (A:LN):(ms:MM)→qi ms→List aw
 | [],_=>[]
 | a :: l,x=>bif ie a.j A then a.ps (zp a (mF l x.2)) x.1++tw A l x.2 else tw A l x.2
def rH (t:Nat):List gu→Option Nat
 | []=>none
 | a :: l=>bif Nat.beq t a.d then some a.j else rH t l
def ym (ms:MM):List (Nat×Operand)→List Nat
 | []=>[]
 | (_,.tmp s) :: l=>match rH s ms with
  | some _=>s :: ym ms l
  | none=>ym ms l
 | _ :: l=>ym ms l
def V1 (s:Nat):List Nat→Option Nat
 | []=>none
 | t :: l=>bif Nat.beq s t then some 0 else (V1 s l).map (·+1)
def Xr (v:Value) (k:Nat):Value:=match v with
 | .tuple vs=>vs.toList.getD k undef
 | _=>undef
def Xs (f:Fr) (ts:LN) (u:Value):Operand→Value
 | .tmp s=>match V1 s ts with
  | some k=>(match ts with
   | [_]=>u
   | _=>Xr u k)
  | none=>wT f s
 | x=>match bp f x with
  | some v=>v
  | none=>undef
def UH (k:Nat) (v:Value):List Value:=bif Nat.beq k 1 then [v] else match v with
 | .agg cs=>cs.toList
 | _=>[]
def Oe (pl:List (Nat×Nat)):List (Nat×Value)→List Value→List Value
 | [],cs=>cs
 | (i,v) :: l,cs=>match Ek pl i with
  | some (off,k)=>Oe pl l (cs.take off++UH k v++cs.drop (off+k))
  | none=>cs
def QH (pl:List (Nat×Nat)) (f:Fr) (ts:LN) (ps:List (Nat×Operand)) (zc:LV) (u:Value):List Value:=Oe pl (ps.map fun p=>(p.1,Xs f ts u p.2)) zc
def V2 (A:LN) (ms:MM) (ts:LN):Bool:=ts.all fun t=>match rH t ms with
 | some j=>ie j A
 | none=>false
def sH (A:LN):List gu→Bool
 | []=>true
 | a :: l=>(bif ie a.j A then a.src.all (fun t=>match rH t l with
   | some j=>ie j A
   | none=>false) else true) && sH A l
def yn:List gu→Bool
 | []=>true
 | a :: l=>a.src.all (fun t=>(rH t l).isSome) && yn l
theorem EH {A:LN} {r:NV} {t:Nat}:∀ {ms:MM} {x:qi ms} {j:Nat},rH t ms=some j→ie j A=true→(∀ p∈rb A ms x,r p.1=p.2)→look (mF ms x) t=some (r t):=by
 intro ms
 induction ms with
 | nil=>intro x j h; cases h
 | cons a l ih=>
  intro x j h hj hp
  unfold rH at h
  unfold mF look
  cases hb:Nat.beq t a.d with
  | true=>
   rw [hb] at h
   cases h
   have:=hp (a.d,a.rt (zp a (mF l x.2)) x.1) (by unfold rb; rw [hj]; simp)
   simp only [cond_true]
   rw [Nat.eq_of_beq_eq_true hb,this]
  | false=>
   rw [hb] at h
   refine ih h hj fun p hm=>hp p ?_
   unfold rb
   cases ie a.j A with
   | true=>exact List.mem_cons_of_mem _ hm
   | false=>exact hm
theorem LP {r:NV} {t:Nat}:∀ {ms:MM} {x:qi ms},(rH t ms).isSome=true→(∀ p∈mF ms x,r p.1=p.2)→look (mF ms x) t=some (r t):=by
 intro ms
 induction ms with
 | nil=>intro x h; cases h
 | cons a l ih=>
  intro x h hp
  unfold rH at h
  unfold mF at hp ⊢
  unfold look
  cases hb:Nat.beq t a.d with
  | true=>
   simp only [cond_true]
   rw [Nat.eq_of_beq_eq_true hb,hp (a.d,a.rt (zp a (mF l x.2)) x.1) (by simp)]
  | false=>
   rw [hb] at h
   exact ih h fun p hm=>hp p (List.mem_cons_of_mem _ hm)
def HN (N:Nat→Prop) (w:World) (Δ:QE) (f:LN):Prop:=HL (fun _=>False) w Δ f∨∃ Fo Fr,f=Fo++Fr∧(sS Δ=false∧∀ b∈Fr,b < w.heap.size)∧HL (fun b=>N b∨b∈Fr) w Δ Fo
def JJ (N:Nat→Prop) (a:gu):List Nat→World→(Nat→Value)→Value→Prop:=fun f w r _=>∃ v:a.V,r a.d=a.rt (xi a r) v∧HN N w (a.ps (xi a r) v) f∧f.Nodup
def MV (N:Nat→Prop) (a:gu):List Nat→World→(Nat→Value)→Value→Prop:=fun f w r x=>∃ v:a.V,x=a.rt (xi a r) v∧HN N w (a.ps (xi a r) v) f∧f.Nodup
def JK (N:Nat→Prop) (a:LN) (l:LO) (s:fc):Prop:=∀ f F (w w':World) (r r':NV) v,av F w w'→(∀ b∈f,b ∉ F)→(∀ b∈F,¬ N b)→(∀ j∈a,∀ t,bm l j=some t→r' t=r t)→s.V f w r v→s.V f w' r' v
theorem EI.n {N:Nat→Prop} {a:LN} {l:LO} {s:fc} (h:EI a l s):JK N a l s:=fun f F w w' r r' v hC hn _=>h f F w w' r r' v hC hn
section
variable {P:Program} {w w':World} {Z:Nat→Prop}
theorem HL.UI {F H:LN} {Δ:QE} (h:HL (fun _=>False) w Δ F) (hC:av H w w') (hd:∀ b∈F,b ∉ H):HL (fun _=>False) w' Δ F:=by
 induction h with
 | nil=>exact .nil
 | @own e f F Δ h _ ih=>exact .own (h.ee hC (fun _ _ h=>h) fun b hb hm=>hd b (List.mem_append_left _ hm) hb) (ih fun b hb=>hd b (List.mem_append_right _ hb))
 | @fact e F Δ h _ ih=>
  refine .fact ?_ (ih hd)
  cases e with
  | rd o T v x=>
   obtain ⟨g,h1,h2⟩:=h
   have hg:g=[]:=by
    cases g with
    | nil=>rfl
    | cons b g=>exact absurd (h2 b (by simp)) (by cases o <;> simp [tR])
   subst hg
   exact ⟨[],T.ee h1 hC (fun _ h=>absurd h List.not_mem_nil),fun _ h=>absurd h List.not_mem_nil⟩
  | ad o1 o2 v j T x=>obtain ⟨_,_,u,g,_,_,h3,_⟩:=h; exact absurd h3 (by cases o1 <;> simp [tR])
  | bd p cs=>
   have hc:cs=[]:=by
    cases cs with
    | nil=>rfl
    | cons c cs=>exact (h.2 (by simp)).elim
   subst hc
   exact ⟨fun j u hj=>by simp at hj,fun hn=>absurd rfl hn⟩
  | hd v j u=>exact absurd h.2.2.2 List.not_mem_nil
  | _=>exact h.elim
theorem HL.UJ {F H:LN} {Δ:QE} (h:HL Z w Δ F) (hC:av H w w') (hz:∀ b∈H,¬ Z b) (hd:∀ b∈F,b ∉ H):HL Z w' Δ F:=by
 induction h with
 | nil=>exact .nil
 | @own e f F Δ h _ ih=>exact .own (h.ee hC hz fun b hb hm=>hd b (List.mem_append_left _ hm) hb) (ih fun b hb=>hd b (List.mem_append_right _ hb))
 | @fact e F Δ h _ ih=>exact .fact (h.ee hC hz fun _ _ h=>nomatch h) (ih hd)
theorem HN.ee {N:Nat→Prop} {f H:LN} {Δ:QE} (h:HN N w Δ f) (hC:av H w w') (hd:∀ b∈f,b ∉ H) (hz:∀ b∈H,¬ N b):HN N w' Δ f:=by
 rcases h with h | ⟨Fo,Fr,rfl,h1,h2⟩
 ·exact .inl (h.UI hC hd)
 ·exact .inr ⟨Fo,Fr,rfl,⟨h1.1,fun b hb=>Nat.lt_of_lt_of_le (h1.2 b hb) hC.size⟩,h2.UJ hC (fun b hb h=>h.elim (hz b hb) fun h=>hd b (List.mem_append_right _ h) hb) fun b hb=>hd b (List.mem_append_left _ hb)⟩
theorem HN.own {N:Nat→Prop} {f:LN} {Δ:QE} (h:HN N w Δ f) (ho:sS Δ=true):HL (fun _=>False) w Δ f:=by
 rcases h with h | ⟨_,_,_,h1,_⟩
 ·exact h
 ·rw [ho] at h1; cases h1.1
theorem HN.all {N:Nat→Prop} {f:LN} {Δ:QE} (h:HN N w Δ f):∃ Fo Fr,f=Fo++Fr∧(∀ b∈Fr,b < w.heap.size)∧HL (fun b=>N b∨b∈Fr) w Δ Fo:=by
 rcases h with h | ⟨Fo,Fr,rfl,h1,h2⟩
 ·exact ⟨f,[],by simp,fun b (h:b∈[])=>absurd h List.not_mem_nil,h.mono fun _ h=>h.elim⟩
 ·exact ⟨Fo,Fr,rfl,h1.2,h2⟩
theorem HL.up {F:LN} {Δ:QE} (h:HL (fun _=>False) w Δ F):HL Z w Δ F:=by
 induction h with
 | nil=>exact .nil
 | own h _ ih=>exact .own (h.mono fun _ h=>h.elim) ih
 | fact h _ ih=>exact .fact (h.mono (fun _ h=>h.elim) fun _ h=>h) ih
theorem HL.app {Δ Δ':QE} {F F':LN} (h:HL Z w Δ F) (k:HL Z w Δ' F'):HL Z w (Δ++Δ') (F++F'):=by
 induction h with
 | nil=>exact k
 | own h _ ih=>rw [List.append_assoc]; exact .own h ih
 | fact h _ ih=>exact .fact h ih
theorem Hq {a:gu} {r r':NV} (h:∀ t∈a.src,r' t=r t):xi a r'=xi a r:=Ah h
theorem JL {l:LO} {a:LN} {b:Bool} {m:gu} (hs:∀ t∈m.src,∃ j∈a,bm l j=some t):JK Z a l ⟨b,MV Z m⟩:=by
 intro f F w w' r r' x hC hn hz hr ⟨v,h1,h2,h3⟩
 have e:=Hq (a:=m) (r:=r) (r':=r') fun t ht=>by
  obtain ⟨j,hj,hd⟩:=hs t ht
  exact hr j hj t hd
 refine ⟨v,by rw [e]; exact h1,by rw [e]; exact h2.ee hC hn hz,h3⟩
theorem Ih {l:LO} {a:LN} {b:Bool} {m:gu} (hd:∃ j∈a,bm l j=some m.d) (hs:∀ t∈m.src,∃ j∈a,bm l j=some t):JK Z a l ⟨b,JJ Z m⟩:=by
 intro f F w w' r r' x hC hn hz hr ⟨v,h1,h2,h3⟩
 have e:=Hq (a:=m) (r:=r) (r':=r') fun t ht=>by
  obtain ⟨j,hj,hd⟩:=hs t ht
  exact hr j hj t hd
 obtain ⟨j,hj,hjd⟩:=hd
 refine ⟨v,by rw [e,hr j hj _ hjd]; exact h1,by rw [e]; exact h2.ee hC hn hz,h3⟩
theorem jb.more {l:LO} {m i:Nat} {U:LL} {S S':List fc} {r0:NV} {w0:World} {H:LN} (h:jb P l m S U r0 w0 H i) (hi:i < S.length):jb P l m (S++S') U r0 w0 H i:=by
 intro o s ho hs g r w hC hV hO hn ll hd hf
 rw [List.getElem?_append_left hi] at hs
 refine h o s ho hs g r w hC hV (fun j hj d iz s' dx=>hO j hj d iz s' (by rw [List.getElem?_append_left (List.getElem?_eq_some_iff.1 dx).1]; exact dx)) (fun j hj=>?_) ll hd hf
 have:=hn j hj
 refine ⟨fun d iz=>?_,fun iz s' dx cf=>?_⟩
 ·have h2:=this.1 d iz
  by_cases hl:j < S.length
  ·rw [List.getElem?_append_left hl] at h2; exact h2
  ·rw [List.getElem?_eq_none (by omega)]; trivial
 ·exact this.2 iz s' (by rw [List.getElem?_append_left (List.getElem?_eq_some_iff.1 dx).1]; exact dx) cf
end
inductive eL (A:LN):Option (Bool×Nat×Value)→List (Nat×Nat×Value)→Fr→Fr→Prop
 | nil {base:Fr}:eL A none [] base base
 | cons {j d:Nat} {u:Value} {l:LQ} {base fr:Fr} (h:eL A (some (ie j A,d,u)) l base fr):eL A none ((j,d,u) :: l) base fr
 | ee {d:Nat} {u:Value} {l:LQ} {base fr:Fr} (h:eL A none l base fr):eL A (some (true,d,u)) l base ((d,u) :: fr)
 | drop {d:Nat} {u:Value} {l:LQ} {base fr:Fr} (h:eL A none l base fr):eL A (some (false,d,u)) l base fr
theorem te.zi {Γ Γ':QE} {v:Addr} {o:Bool} {α:Type} {E:ai α} {x:α} {e:aw} (h:te Γ v o E x e Γ') {Z:Nat→Prop} {w:World}:∀ {cur F:LN},SA Z w Γ cur F→(v.block∈cur∨v.block∈F)∨Z v.block:=by
 induction h with
 | @ad o1 o2 α E v j x e Γ=>
  intro cur F hS
  obtain ⟨⟨j0,j1,u,g,h1,h2,h3,h4⟩,h5⟩:=hS
  cases o1 with
  | false=>exact .inr h3
  | true=>exact .inl (.inl h3)
 | @there o2 α E v x e a Γ Γ' h ih=>
  intro cur F hS
  cases a with
  | own T v x=>obtain ⟨f,F',rfl,h2,h3⟩:=hS; exact (ih h3).imp (fun h=>.inr (List.mem_append.2 h)) id
  | om e E v xs=>obtain ⟨f,F',rfl,h2,h3⟩:=hS; exact (ih h3).imp (fun h=>.inr (List.mem_append.2 h)) id
  | row b cs e=>obtain ⟨f,F',rfl,h2,h3⟩:=hS; exact (ih h3).imp (fun h=>h.imp id (List.mem_append_right _)) id
  | fy e E v xs j u=>obtain ⟨f,F',rfl,h2,h3⟩:=hS; exact (ih h3).imp (fun h=>.inr (List.mem_append.2 h)) id
  | _=>exact ih hS.2
inductive VQ (P:Program) (Γ:QE) (fr:Fr):Op→Value→Prop
 | mv {x:OO} {v:Value} (hx:bp fr x=some v):VQ P Γ fr (.move x) v
 | pick {c x y:OO} {b:Bool} {v:Value} (hc:bp fr c=some (.bool b)) (hx:(bif b then bp fr x else bp fr y)=some v):VQ P Γ fr (.pick c x y) v
 | add {x y:OO} {t t':TI} {a b:Int} (hx:bp fr x=some (.int .i64 a)) (hy:bp fr y=some (.int .i64 b)):VQ P Γ fr (.binOp .add t x y t') (.int .i64 (an (a+b)))
 | sub {x y:OO} {t t':TI} {a b:Int} (hx:bp fr x=some (.int .i64 a)) (hy:bp fr y=some (.int .i64 b)):VQ P Γ fr (.binOp .sub t x y t') (.int .i64 (an (a - b)))
 | not {x:OO} {t:TI} {b:Bool} (hx:bp fr x=some (.bool b)):VQ P Γ fr (.unOp .not t x) (.bool (!b))
 | LA {x:OO} {a:Addr} (hx:bp fr x=some (.pointer (some a))):VQ P Γ fr (.nilCheck x) (.pointer (some a))
 | Qq {s k off:Nat} {x:OO} {a a':Addr} [hf:rO P s k off] (hx:bp fr x=some (.pointer (some a))) (ha:Bc a off a'):VQ P Γ fr (.fieldAddr s x k) (.pointer (some a'))
 | len {x:OO} {v:Value} {t:TI} {n:Nat} [ht:xy P t] (hx:bp fr x=some v) (hr:vf Γ v n):VQ P Γ fr (.call ⟨.builtin .len,#[x],#[t]⟩) (.int .i64 (n:Int))
 | Oc {t:TI} {ps:List (Nat×Operand)} {zc cs:LV} {pl:List (Nat×Nat)} [hb:zj P t zc pl] (hf:vt Γ fr pl ps zc cs):VQ P Γ fr (.build t ps.toArray) (.agg cs.toArray)
 | Qx {x:OO} {k k2:IntKind} {n:Int} {s t:TI} [ht:Hm P s t k2] (hx:bp fr x=some (.int k n)):VQ P Γ fr (.convert s t x) (.int k2 (k2.wrap n))
 | mul {x y:OO} {t t':TI} {a b:Int} (hx:bp fr x=some (.int .i64 a)) (hy:bp fr y=some (.int .i64 b)):VQ P Γ fr (.binOp .mul t x y t') (.int .i64 (an (a * b)))
theorem VQ.sound {P:Program} {Γ:QE} {fr:Fr} {op:Op} {u:Value} (h:VQ P Γ fr op u) {Z:Nat→Prop} {w:World} {cur F:LN} (hS:SA Z w Γ cur F) {r:NV} (ha:c9 r fr) (d:Option Nat) (ty:TI) (pos:String) (ag:Array Edge) (g:Option (Nat×Bool)) :
  Rd P w r ⟨d,op,ty,pos,ag,g⟩ u:=by
 cases h with
 | mv hx=>exact Mv _ (bI ha hx)
 | @pick c x y b v hc hx=>
  intro w' _
  rw [Ho (bI ha hc)]
  cases b
  ·rw [← bI ha hx]; rfl
  ·rw [← bI ha hx]; rfl
 | add hx hy=>exact Ba (bI ha hx) (bI ha hy)
 | sub hx hy=>exact Go.Li.Bs (bI ha hx) (bI ha hy)
 | not hx=>exact Nt (bI ha hx)
 | LA hx=>exact Nk (bI ha hx)
 | @Qq s k off x a a' hf hx hq=>rw [hq.eq]; exact Fp hf.h (bI ha hx)
 | @Qx x k k2 n s t ht hx=>exact fun _ _=>Hp ht.h.1 ht.h.2 (bI ha hx)
 | mul hx hy=>exact Bm (bI ha hx) (bI ha hy)
 | @len x v t n ht hx hr=>
  obtain ⟨b,c,rfl⟩:=hr.sound hS
  obtain ⟨e,i,h1,_,_⟩:=ht.h
  exact fun _ _=>xz h1 (bI ha hx)
 | @Oc t ps zc cs pl hb hf=>
  obtain ⟨fs,i,z,h1,h2,h3,h4,h5⟩:=hb.h
  refine Bu ?_
  have:=hf.fill ha hS
  unfold Program.built
  rw [h3,h1]
  simp only [h4,h2]
  rw [show z.cells=zc.toArray by rw [← h5]]
  exact this
theorem eL.sound {A:LN} {q:Option (Bool×Nat×Value)} {sl:LQ} {base fr:Fr} {r:NV} (h:eL A q sl base fr) (hb:c9 r base) :
  (∀ p∈sl,ie p.1 A=true→r p.2.1=p.2.2)→(∀ b d u,q=some (b,d,u)→b=true→r d=u)→c9 r fr:=by
 induction h with
 | nil=>intro _ _; exact hb
 | @cons j d u l base fr _ ih=>
  intro h1 _
  refine ih hb (fun p hp=>h1 p (by simp [hp])) ?_
  rintro b d' u' he hbt
  cases he
  exact h1 (j,d,u) (by simp) hbt
 | @ee d u l base fr _ ih=>
  intro h1 h2
  intro s v hl
  unfold look at hl
  cases EJ:Nat.beq s d with
  | true=>rw [EJ] at hl; cases hl; rw [Nat.eq_of_beq_eq_true EJ]; exact h2 true d _ rfl rfl
  | false=>rw [EJ] at hl; exact ih hb h1 (fun _ _ _ h=>nomatch h) s v hl
 | drop _ ih=>intro h1 _; exact ih hb h1 (fun _ _ _ h=>nomatch h)
def xj:List (Nat×Nat×Value)→Fr→Fr
 | [],f=>f
 | (_,d,u) :: l,f=>(d,u) :: xj l f
inductive Ii (P:Program) (f:FuncId) (xs:List Operand) (fr:Fr) (Γ:QE) {β V:Type} (mo:Option β) (rt:β→V→List Value) (ps:β→V→List aw):Prop
 | mk {vs:LV} {Δ:QE} (hx:xe fr xs=some vs) (hc:Ct P f true mo vs Δ rt ps) (hd:FO Δ) (hr:ER true Γ Δ):Ii P f xs fr Γ mo rt ps
inductive BQ (P:Program) (f:FuncId) (xs:List Operand) (fr:Fr) (hd:QE) (Γ:QE) {β V:Type} (mo:Option β) (rt:β→V→List Value) (ps:β→V→List aw):Prop
 | mk {vs:LV} {Δ Γ':QE} (hx:xe fr xs=some vs) (hc:Ct P f true mo vs Δ rt ps) (ho:EO hd Δ Γ') (hr:ER true Γ Δ):BQ P f xs fr hd Γ mo rt ps
inductive rK:List gu→Prop
 | nil:rK []
 | cons {a:gu} {l:MM} (h:BL a.V) (k:rK l):rK (a :: l)
theorem rK.ne {ms:MM} (h:rK ms):Nonempty (qi ms):=by
 induction h with
 | nil=>exact ⟨()⟩
 | cons h _ ih=>obtain ⟨a⟩:=h.ne; obtain ⟨b⟩:=ih; exact ⟨(a,b)⟩
inductive Dj:List gu→Nat→Bool→Prop
 | here {a:gu} {l:MM}:Dj (a :: l) a.d true
 | there {a:gu} {l:MM} {t:Nat} {b:Bool} (h:Dj l t b):Dj (a :: l) t b
 | nil {t:Nat}:Dj [] t false
inductive QI (fr:Fr) (t k:Nat):Prop
 | mk {cs:LV} {v:Value} (h:look fr t=some (.tuple cs.toArray)) (hc:cs[k]? = some v):QI fr t k
inductive JA (R S:Type):Type 1
 | a (as:LL) (ops:LO) (i:Nat) (sl:LQ) (ms:MM) (Γ:QE) (m:Option (Out S R))
 | o (A:LN) (op:Op) (d:Nat) (ty:TI) (as:LL) (ops:LO) (i:Nat) (sl:LQ) (ms:MM) (Γ:QE) (m:Option (Out S R))
 | ow (b:Bool) (A:LN) (op:Op) (d:Nat) (ty:TI) (as:LL) (ops:LO) (i:Nat) (sl:LQ) (ms:MM) (Γ:QE) (m:Option (Out S R))
 | ix (b:Bool) (v:Value) (fr:Fr) (x y:OO) (t:TI) (A:LN) (d:Nat) (ty:TI) (as:LL) (ops:LO) (i:Nat) (sl:LQ) (ms:MM) (Γ:QE) (m:Option (Out S R))
 | lb (b:Bool) (v:Value) (j:Int) (fr:Fr) (t:TI) (x:OO) (A:LN) (d:Nat) (ty:TI) (as:LL) (ops:LO) (i:Nat) (sl:LQ) (ms:MM) (Γ:QE) (m:Option (Out S R))
 | ap (us:LN) (t1 t2:Nat) (t:TI) (A:LN) (d:Nat) (ty:TI) (as:LL) (ops:LO) (i:Nat) (sl:LQ) (ms:MM) (Γ:QE) (m:Option (Out S R))
 | la (fr:Fr) (ad:Addr) (lk:Option Nat) (t:TI) (x:OO) (A:LN) (d:Nat) (ty:TI) (as:LL) (ops:LO) (i:Nat) (sl:LQ) (ms:MM) (Γ:QE) (m:Option (Out S R))
 | ld {α:Type} (E:ai α) (z:α) (fr:Fr) (ad:Addr) (t:TI) (x:OO) (A:LN) (d:Nat) (ty:TI) (as:LL) (ops:LO) (i:Nat) (sl:LQ) (ms:MM) (Γ:QE) (m:Option (Out S R))
 | oc (us:LN) (f:FuncId) (xs:List Operand) (bd:Array TypeId) (A:LN) (d:Nat) (ty:TI) (as:LL) (ops:LO) (i:Nat) (sl:LQ) (ms:MM) (Γ:QE) (m:Option (Out S R))
 | os (A:LN) (op:Op) (ty:TI) (as:LL) (ops:LO) (i:Nat) (sl:LQ) (ms:MM) (Γ:QE) (m:Option (Out S R))
 | cr {V:Type} (u:V→Value) (ps:V→List aw) (d:Nat) (as:LL) (ops:LO) (i:Nat) (sl:LQ) (ms:MM) (Γ:QE) (m:Option (Out S R))
 | p (Δ:QE) (as:LL) (ops:LO) (i:Nat) (sl:LQ) (ms:MM) (Γ:QE) (m:Option (Out S R))
inductive Hr:List aw→Value→Bool→Prop
 | here {α:Type} {T:ai α} {v:Value} {x:α} {Γ:QE}:Hr (.own T v x :: Γ) v true
 | there {e:aw} {v:Value} {b:Bool} {Γ:QE} (h:Hr Γ v b):Hr (e :: Γ) v b
 | nil {v:Value}:Hr [] v false
inductive ui:List gu→Nat→gu→List gu→Prop
 | here {a:gu} {l:MM}:ui (a :: l) a.d a l
 | there {a b:gu} {l l':MM} {t:Nat} (h:ui l t a l'):ui (b :: l) t a (b :: l')
inductive Bd:List gu→Nat→gu→List gu→Prop
 | here {a:gu} {l:MM}:Bd (a :: l) a.j a l
 | there {a b:gu} {l l':MM} {t:Nat} (h:Bd l t a l'):Bd (b :: l) t a (b :: l')
def LR (j i:Nat) (sl:LQ):List (Nat×Nat×Value):=sl.map fun p=>bif Nat.beq p.1 j then (i,p.2) else p
def EK (sl:LQ) (j d:Nat) (b:Bool):Bool:=sl.any fun q=>Nat.beq q.1 j && (Nat.beq q.2.1 d && (match q.2.2 with | .bool c=>(bif b then c else !c) | _=>false))
theorem Dl {sl:LQ} {j d:Nat} {b:Bool} (h:EK sl j d b=true):(j,d,.bool b)∈sl:=by
 unfold EK at h
 rw [List.any_eq_true] at h
 obtain ⟨⟨j',d',v⟩,hq,h⟩:=h
 rw [Bool.and_eq_true,Bool.and_eq_true] at h
 obtain ⟨h1,h2,h3⟩:=h
 obtain rfl:j'=j:=Nat.eq_of_beq_eq_true h1
 obtain rfl:d'=d:=Nat.eq_of_beq_eq_true h2
 cases v with
 | bool c=>cases b <;> cases c <;> first | exact hq | (cases h3; done)
 | _=>cases h3
def Of (sl:LQ):List Nat→Bool
 | [j,d,b]=>EK sl (j - 1000000) (d - 1000000) (Nat.beq b 1000001)
 | _=>true
def V3 (U:LL) (sl:LQ):Bool:=bif Nat.ble 1000000 ((U.getLastD []).headD 0) then Of sl (U.getLastD []) else true
def xk (U:LL) (sl:LQ) (ms:MM):Bool:=(U.all fun us=>us.all fun j=>ms.all fun a=>!Nat.beq a.j j) && V3 U sl
inductive AD {R S:Type} (tq:Bool) (P:Program) (cx:Cx R) (K:df R S) (l tail:LO) (base:Fr) (U:LL):List aw→JA R S→Prop
 | nil {hd:QE} {i:Nat} {sl:LQ} {ms:MM} {Γ:QE} {m:Option (Out S R)} (CD:yn ms=true) (he:xk U sl ms=true) (h:∀ x:qi ms,D P cx (.p (xj sl (mF ms x)) (zq ms x) base Γ fun fr Γ=>.tg tq (yj tail) l tail K Γ fr m)):AD tq P cx K l tail base U hd (.a [] [] i sl ms Γ m)
 | gbt {hd:QE} {j d:Nat} {b:Bool} {q:Nat×Nat×Value} {as:LL} {ops:LO} {i:Nat} {sl:LQ} {ms:MM} {Γ:QE} {m:Option (Out S R)} (h:AD tq P cx K l tail base U hd (.a as ops i (q :: (j,d,.bool true) :: sl) ms Γ m)):AD tq P cx K l tail base U hd (.a as ops i ((j,d,.bool b) :: q :: sl) ms Γ (bif b then m else none))
 | gbf {hd:QE} {j d:Nat} {b:Bool} {q:Nat×Nat×Value} {as:LL} {ops:LO} {i:Nat} {sl:LQ} {ms:MM} {Γ:QE} {m:Option (Out S R)} (h:AD tq P cx K l tail base U hd (.a as ops i (q :: (j,d,.bool false) :: sl) ms Γ m)):AD tq P cx K l tail base U hd (.a as ops i ((j,d,.bool b) :: q :: sl) ms Γ (bif b then none else m))
 | skp {hd:QE} {A:LN} {dst:Option Nat} {op:Op} {ty:TI} {pos:String} {ag:Array Edge} {j d:Nat} {p:Bool} {as:LL} {ops:LO} {i:Nat} {sl:LQ} {ms:MM} {Γ:QE} {m:Option (Out S R)} (iz:bm l j=some d) (hb:EK sl j d (!p)=true) (hA:ie j A=true) (h:AD tq P cx K l tail base U hd (.a as ops (i+1) sl ms Γ m)):AD tq P cx K l tail base U hd (.a (A :: as) (⟨dst,op,ty,pos,ag,some (j,p)⟩ :: ops) i sl ms Γ m)
 | cons {hd:QE} {A:LN} {as:LL} {op:Op} {d:Nat} {ty:TI} {pos:String} {ag:Array Edge} {ops:LO} {i:Nat} {sl:LQ} {ms:MM} {Γ:QE} {m:Option (Out S R)} (h:AD tq P cx K l tail base U hd (.o A op d ty as ops i sl ms Γ m)) :
   AD tq P cx K l tail base U hd (.a (A :: as) (⟨some d,op,ty,pos,ag,none⟩ :: ops) i sl ms Γ m)
 | Ij {hd:QE} {A:LN} {as:LL} {op:Op} {ty:TI} {pos:String} {ag:Array Edge} {ops:LO} {i:Nat} {sl:LQ} {ms:MM} {Γ:QE} {m:Option (Out S R)} (h:AD tq P cx K l tail base U hd (.os A op ty as ops i sl ms Γ m)) :
   AD tq P cx K l tail base U hd (.a (A :: as) (⟨none,op,ty,pos,ag,none⟩ :: ops) i sl ms Γ m)
 | Qw {hd:QE} {t e:TI} {t1 j1 n:Nat} {y:OO} {u:Value} {us cs ds:LV} {o9:MM} {fr:Fr} {A:LN} {as:LL} {ty:TI} {ops:LO} {i:Nat} {sl:LQ} {ms:MM} {Γ:QE} {m:Option (Out S R)} [ht:vm P t n]
   (h1:ui ms t1 ⟨j1,t1,[],Nat,fun _ b=>.pointer (some ⟨b,0,none⟩),fun _ b=>[.row b cs e]⟩ o9) (hv:eL A none sl base fr) (hy:bp fr y=some u) (hc:rX Γ u us) (hn:us.length=n) (hs:sG us 0 cs ds) (ho:tZ Γ us) (h4:ie j1 A=true) (h6:U.getD i []=[j1])
   (h:AD tq P cx K l tail base U hd (.a as ops (i+1) sl (⟨i,t1,[],Nat,fun _ b=>.pointer (some ⟨b,0,none⟩),fun _ b=>[.row b ds e]⟩ :: o9) Γ m)):AD tq P cx K l tail base U hd (.os A (.store t (.tmp t1) y) ty as ops i sl ms Γ m)
 | Ep {hd:QE} {α:Type} {A:LN} {as:LL} {d:Nat} {t e ty:TI} {E:ai α} {z0:α} {bt:Nat} {ops:LO} {i:Nat} {sl:LQ} {ms:MM} {Γ:QE} {m:Option (Out S R)} [hz:tk P t α e E z0 bt]
   (h:AD tq P cx K l tail base U hd (.a as ops (i+1) sl (⟨i,d,[],Value,fun _ v=>v,fun _ v=>[.own (aL e E) v []]⟩ :: ms) Γ m)):AD tq P cx K l tail base U hd (.o A (.buildSlice t 0 #[]) d ty as ops i sl ms Γ m)
 | sw4 {hd:QE} {t st e:Nat} {α:Type} {E:ai α} {z0:α} {bt:Nat} {b:Bool} {A:LN} {as:LL} {d:Nat} {ty:TI} {ops:LO} {i:Nat} {sl:LQ} {ms:MM} {Γ:QE} {m:Option (Out S R)} [hz:tk P st α e E z0 bt] (hw:Dj ms t b) (h:AD tq P cx K l tail base U hd (.ow b A (.buildSlice st 1 #[(0,.tmp t)]) d ty as ops i sl ms Γ m)):AD tq P cx K l tail base U hd (.o A (.buildSlice st 1 #[(0,.tmp t)]) d ty as ops i sl ms Γ m)
 | ltn {hd:QE} {t e:TI} {n:Nat} {ps:List (Nat×Operand)} {us:LV} {fr:Fr} {A:LN} {as:LL} {d:Nat} {ty:TI} {ops:LO} {i:Nat} {sl:LQ} {ms:MM} {Γ:QE} {m:Option (Out S R)} [hz:El P t e] (hv:eL A none sl base fr) (hl:uc Γ fr 0 ps us) (hn:us.length=n) (hb:(Nat.ble 1 n && Nat.ble n 16777216)=true)
   (h:AD tq P cx K l tail base U hd (.a as ops (i+1) sl (⟨i,d,[],Nat,fun _ b=>.slice (some ⟨b,0,none⟩) n n,fun _ b=>[.row b us e]⟩ :: ms) Γ m)):AD tq P cx K l tail base U hd (.o A (.buildSlice t n ps.toArray) d ty as ops i sl ms Γ m)
 | ltu {hd:QE} {t e:TI} {n:Nat} {ps:List (Nat×Operand)} {us:LV} {fr:Fr} {A:LN} {as:LL} {d:Nat} {ty:TI} {ops:LO} {i:Nat} {sl:LQ} {ms:MM} {Γ:QE} {m:Option (Out S R)} [hz:Jw P t e] (hv:eL A none sl base fr) (hl:uc Γ fr 0 ps us) (hn:us.length=n) (hb:(Nat.ble 1 n && Nat.ble n 16777216)=true)
   (h:AD tq P cx K l tail base U hd (.a as ops (i+1) sl (⟨i,d,[],Nat,fun _ b=>.slice (some ⟨b,0,none⟩) n n,fun _ b=>[.row b us e]⟩ :: ms) Γ m)):AD tq P cx K l tail base U hd (.o A (.buildSlice t n ps.toArray) d ty as ops i sl ms Γ m)
 | sw1 {hd:QE} {t:Nat} {b:Bool} {A:LN} {as:LL} {d:Nat} {ty:TI} {ops:LO} {i:Nat} {sl:LQ} {ms:MM} {Γ:QE} {m:Option (Out S R)} (hw:Dj ms t b) (h:AD tq P cx K l tail base U hd (.ow b A (.move (.tmp t)) d ty as ops i sl ms Γ m)):AD tq P cx K l tail base U hd (.o A (.move (.tmp t)) d ty as ops i sl ms Γ m)
 | sw2 {hd:QE} {t k:Nat} {b:Bool} {A:LN} {as:LL} {d:Nat} {ty:TI} {ops:LO} {i:Nat} {sl:LQ} {ms:MM} {Γ:QE} {m:Option (Out S R)} (hw:Dj ms t b) (h:AD tq P cx K l tail base U hd (.ow b A (.extract (.tmp t) k) d ty as ops i sl ms Γ m)):AD tq P cx K l tail base U hd (.o A (.extract (.tmp t) k) d ty as ops i sl ms Γ m)
 | wlt {hd:QE} {t e:TI} {α:Type} {E:ai α} {z0:α} {bt:Nat} {u:Value} {x:OO} {fr:Fr} {A:LN} {as:LL} {d:Nat} {ty:TI} {ops:LO} {i:Nat} {sl:LQ} {ms:MM} {Γ:QE} {m:Option (Out S R)} [hz:tk P t α e E z0 bt] (hv:eL A none sl base fr) (hx:bp fr x=some u) (h1:One Γ u)
   (h:AD tq P cx K l tail base U hd (.a as ops (i+1) sl (⟨i,d,[],Nat,fun _ b=>.slice (some ⟨b,0,none⟩) 1 1,fun _ b=>[.row b [u] e]⟩ :: ms) Γ m)):AD tq P cx K l tail base U hd (.ow false A (.buildSlice t 1 #[(0,x)]) d ty as ops i sl ms Γ m)
 | sw5 {hd:QE} {t st:Nat} {b:Bool} {A:LN} {as:LL} {d:Nat} {ty:TI} {ops:LO} {i:Nat} {sl:LQ} {ms:MM} {Γ:QE} {m:Option (Out S R)} (hw:Dj ms t b) (h:AD tq P cx K l tail base U hd (.ow b A (.call ⟨.builtin .len,#[.tmp t],#[st]⟩) d ty as ops i sl ms Γ m)):AD tq P cx K l tail base U hd (.o A (.call ⟨.builtin .len,#[.tmp t],#[st]⟩) d ty as ops i sl ms Γ m)
 | JM {hd:QE} {t:TI} {cs:LV} {A:LN} {as:LL} {d:Nat} {ty:TI} {ops:LO} {i:Nat} {sl:LQ} {ms:MM} {Γ:QE} {m:Option (Out S R)} [hz:AH P t cs] (h:AD tq P cx K l tail base U hd (.a as ops (i+1) sl (⟨i,d,[],Nat,fun _ b=>.pointer (some ⟨b,0,none⟩),fun _ b=>[.row b cs t]⟩ :: ms) Γ m)):AD tq P cx K l tail base U hd (.o A (.alloc t) d ty as ops i sl ms Γ m)
 | Qv {hd:QE} {us:LN} {t1 t2:Nat} {t:TI} {A:LN} {as:LL} {d:Nat} {ty:TI} {ops:LO} {i:Nat} {sl:LQ} {ms:MM} {Γ:QE} {m:Option (Out S R)} (hU:U.getD i []=us) (h:AD tq P cx K l tail base U hd (.ap us t1 t2 t A d ty as ops i sl ms Γ m)):AD tq P cx K l tail base U hd (.o A (.call ⟨.builtin .append,#[.tmp t1,.tmp t2],#[t,t]⟩) d ty as ops i sl ms Γ m)
 | apH {hd iz:QE} {α:Type} {t e e' et:TI} {E E':ai α} {z0:α} {bt t1 t2 j2:Nat} {v u yv:Value} {j:Int} {y:α} {z:List α} {xs:List (List α)} {o1 o2:Bool} {Γx:QE} {EL:MM} {fr:Fr} {f:Unit→Option (Out S R)} {A:LN} {as:LL} {d:Nat} {ty:TI} {ops:LO} {i:Nat} {sl:LQ} {ms:MM} {Γ:QE} [hT:tk P t α e E z0 bt]
   (hV:((U.set i []).all fun us=>!(us.contains l.length))=true) (hv:eL A none sl base fr) (hs:look fr t1=some u) (h2:ui ms t2 ⟨j2,t2,[],Nat,fun _ b=>.slice (some ⟨b,0,none⟩) 1 1,fun _ b=>[.row b [yv] et]⟩ EL) (h5:ie j2 A=true) (hl:Loc hd u (.row v j)) (hz:qf hd u o1 o2 E' z tf Γx) (h1:ed hd (.own (aL e' (aL e E)) v xs) iz) (hr:RT (aL e E) (bT E')) (hy:AI [] E yv y [])
   (h:AD tq P cx K l tail base U iz (.a as ops (i+1) sl (⟨i,d,[],Value,fun _ v'=>v',fun _ v'=>[.own (aL e E) v' (z++[y]),.own (tv e' (aL e E) j.toNat) v xs]⟩ :: ms) Γ (f ()))):AD tq P cx K l tail base U hd (.ap [l.length] t1 t2 t A d ty as ops i sl ms Γ (fits bt (z.length+1)>>=f))
 | ap1 {hd:QE} {us:LN} {t e et:TI} {E:ai Int} {z0:Int} {bt t1 t2 j2 d2:Nat} {k:IntKind} {y:Int} {xs:List Int} {a1:gu} {o9 EL:MM} {f:Unit→Option (Out S R)} {A:LN} {as:LL} {d:Nat} {ty:TI} {ops:LO} {i:Nat} {sl:LQ} {ms:MM} {Γ:QE} [hz:tk P t Int e E z0 bt] (h1:ui ms t1 a1 o9) (h2:ui o9 t2 ⟨j2,d2,[],Nat,fun _ b=>.slice (some ⟨b,0,none⟩) 1 1,fun _ b=>[.row b [.int k y] et]⟩ EL) (h3:∀ u v,a1.ps u v=[.own (aL e (aN k)) (a1.rt u v) xs]) (hu:us=[a1.j]) (h4:ie a1.j A=true) (h5:ie j2 A=true)
   (h:AD tq P cx K l tail base U hd (.a as ops (i+1) sl (⟨i,d,[],Value,fun _ v=>v,fun _ v=>[.own (aL e (aN k)) v (xs++[y])]⟩ :: o9) Γ (f ()))):AD tq P cx K l tail base U hd (.ap us t1 t2 t A d ty as ops i sl ms Γ (fits bt (xs.length+1)>>=f))
 | wv {hd:QE} {op:Op} {u:Value} {fr:Fr} {A:LN} {as:LL} {d:Nat} {ty:TI} {ops:LO} {i:Nat} {sl:LQ} {ms:MM} {Γ:QE} {m:Option (Out S R)} (hv:eL A none sl base fr) (hq:VQ P Γ fr op u) (h:AD tq P cx K l tail base U hd (.a as ops (i+1) ((i,d,u) :: sl) ms Γ m)):AD tq P cx K l tail base U hd (.ow false A op d ty as ops i sl ms Γ m)
 | mmv {hd:QE} {t:Nat} {A:LN} {as:LL} {d:Nat} {ty:TI} {ops:LO} {i:Nat} {sl:LQ} {ms:MM} {Γ:QE} {m:Option (Out S R)} (hi:rK ms) (CD:sH A ms=true) (hj:∃ j,rH t ms=some j∧ie j A=true) (h:AD tq P cx K l tail base U hd (.a as ops (i+1) sl (⟨i,d,[t],Unit,fun u _=>u,fun _ _=>[]⟩ :: ms) Γ m)):AD tq P cx K l tail base U hd (.ow true A (.move (.tmp t)) d ty as ops i sl ms Γ m)
 | mbl {hd:QE} {t:TI} {ps:List (Nat×Operand)} {zc:LV} {pl:List (Nat×Nat)} {fr:Fr} {A:LN} {as:LL} {d:Nat} {ty:TI} {ops:LO} {i:Nat} {sl:LQ} {ms:MM} {Γ:QE} {m:Option (Out S R)} [hb:zj P t zc pl] (hi:rK ms) (CD:sH A ms=true) (rN:(ym ms ps).isEmpty=false) (hj:V2 A ms (ym ms ps)=true) (hv:eL A none sl base fr)
   (hx:∀ x:qi ms,vt (tw A ms x++Γ) (rb A ms x++fr) pl ps zc (QH pl fr (ym ms ps) ps zc (zo (wT (mF ms x)) (ym ms ps))))
   (h:AD tq P cx K l tail base U hd (.a as ops (i+1) sl (⟨i,d,ym ms ps,Unit,fun u _=>.agg (QH pl fr (ym ms ps) ps zc u).toArray,fun _ _=>[]⟩ :: ms) Γ m)):AD tq P cx K l tail base U hd (.o A (.build t ps.toArray) d ty as ops i sl ms Γ m)
 | mex {hd:QE} {t k:Nat} {A:LN} {as:LL} {d:Nat} {ty:TI} {ops:LO} {i:Nat} {sl:LQ} {ms:MM} {Γ:QE} {m:Option (Out S R)} (hi:rK ms) (CD:sH A ms=true) (hj:∃ j,rH t ms=some j∧ie j A=true) (hx:∀ x:qi ms,QI (rb A ms x) t k) (h:AD tq P cx K l tail base U hd (.a as ops (i+1) sl (⟨i,d,[t],Unit,fun u _=>Ik u k,fun _ _=>[]⟩ :: ms) Γ m)):AD tq P cx K l tail base U hd (.ow true A (.extract (.tmp t) k) d ty as ops i sl ms Γ m)
 | mk {hd:QE} {t e:TI} {α:Type} {E:ai α} {z0:α} {bt:Nat} {x:OO} {z:Int} {fr:Fr} {f:Nat→Option (Out S R)} {A:LN} {as:LL} {d:Nat} {ty:TI} {ops:LO} {i:Nat} {sl:LQ} {ms:MM} {Γ:QE} [hz:tk P t α e E z0 bt] (hv:eL A none sl base fr) (hx:bp fr x=some (.int .i64 z))
   (h:∀ n,AD tq P cx K l tail base U hd (.a as ops (i+1) sl (⟨i,d,[],Value,fun _ v=>v,fun _ v=>[.own (aL e E) v (List.replicate n z0)]⟩ :: ms) Γ (f n))):AD tq P cx K l tail base U hd (.o A (.makeSlice t x x) d ty as ops i sl ms Γ (mk bt z>>=f))
 | ixs {hd:QE} {b:Bool} {v:Value} {x y:OO} {t:TI} {fr:Fr} {A:LN} {as:LL} {d:Nat} {ty:TI} {ops:LO} {i:Nat} {sl:LQ} {ms:MM} {Γ:QE} {m:Option (Out S R)} (hv:eL A none sl base fr) (hx:bp fr x=some v) (hw:Hr hd v b) (h:AD tq P cx K l tail base U hd (.ix b v fr x y t A d ty as ops i sl ms Γ m)):AD tq P cx K l tail base U hd (.o A (.indexAddr t x y) d ty as ops i sl ms Γ m)
 | idx {hd:QE} {α:Type} {A:LN} {as:LL} {d:Nat} {x y:OO} {v:Value} {k:IntKind} {j:Int} {t ty:TI} {o1 o2:Bool} {E:ai α} {xs:List α} {ops:LO} {i:Nat} {sl:LQ} {ms:MM} {fr:Fr} {Γ:QE} {Γ':α→List aw} {f:α→Option (Out S R)} [ht:xy P t]
   (hy:bp fr y=some (.int k j)) (hr:∀ z,qf Γ v o1 o2 E xs (.ad o1 o2 v j E z) (Γ' z)) (hE:E.size=1)
   (h:∀ z,AD tq P cx K l tail base U hd (.a as ops (i+1) ((i,d,.pointer (some (cq v 1 j))) :: sl) ms (Γ' z) (f z))):AD tq P cx K l tail base U hd (.ix false v fr x y t A d ty as ops i sl ms Γ (idx xs j>>=f))
 | Xt {hd:QE} {α:Type} {A:LN} {as:LL} {d:Nat} {x y:OO} {v:Value} {k:IntKind} {j:Int} {t ty:TI} {o1 o2:Bool} {E:ai α} {xs:List α} {ops:LO} {i:Nat} {sl:LQ} {ms:MM} {fr:Fr} {Γ:QE} {iz:α→List aw} {f:α→Option (Out S R)} [ht:xy P t]
   (hy:bp fr y=some (.int k j)) (hr:∀ z,qf hd v o1 o2 E xs (.ad o1 o2 v j E z) (iz z)) (hE:E.size=1)
   (h:∀ z,AD tq P cx K l tail base U (iz z) (.a as ops (i+1) ((i,d,.pointer (some (cq v 1 j))) :: sl) ms Γ (f z))):AD tq P cx K l tail base U hd (.ix true v fr x y t A d ty as ops i sl ms Γ (idx xs j>>=f))
 | load {hd:QE} {A:LN} {as:LL} {d:Nat} {x:OO} {a:Addr} {t ty:TI} {lk:Option Nat} {ops:LO} {i:Nat} {sl:LQ} {ms:MM} {fr:Fr} {Γ:QE} {m:Option (Out S R)} [ht:LK P t lk] (hv:eL A none sl base fr) (hx:bp fr x=some (.pointer (some a)))
   (h:AD tq P cx K l tail base U hd (.la fr a lk t x A d ty as ops i sl ms Γ m)):AD tq P cx K l tail base U hd (.o A (.load t x) d ty as ops i sl ms Γ m)
 | lsw {hd:QE} {b:Bool} {v:Value} {j:Int} {x:OO} {t:TI} {fr:Fr} {A:LN} {as:LL} {d:Nat} {ty:TI} {ops:LO} {i:Nat} {sl:LQ} {ms:MM} {Γ:QE} {m:Option (Out S R)} (hw:Hr hd v b) (h:AD tq P cx K l tail base U hd (.lb b v j fr t x A d ty as ops i sl ms Γ m)):AD tq P cx K l tail base U hd (.la fr (cq v 1 j) none t x A d ty as ops i sl ms Γ m)
 | Qr {hd:QE} {α:Type} {A:LN} {as:LL} {d:Nat} {x:OO} {v:Value} {j:Int} {o:Bool} {E:ai α} {z:α} {t ty:TI} {ops:LO} {i:Nat} {sl:LQ} {ms:MM} {fr:Fr} {Γ Γx:QE} {m:Option (Out S R)} (h:te Γ (cq v 1 j) o E z tf Γx)
   (k:AD tq P cx K l tail base U hd (.ld E z fr (cq v 1 j) t x A d ty as ops i sl ms Γ m)):AD tq P cx K l tail base U hd (.lb false v j fr t x A d ty as ops i sl ms Γ m)
 | Xu {hd:QE} {α:Type} {A:LN} {as:LL} {d:Nat} {x:OO} {v:Value} {j:Int} {E:ai α} {z:List α} {o:Bool} {t ty:TI} {ops:LO} {i:Nat} {sl:LQ} {ms:MM} {fr:Fr} {Γ:QE} {QJ iz:Value→List aw} {m:Option (Out S R)} (hV:((U.zipIdx.all fun p=>!(p.1.contains l.length) || ((bo l).getD p.2 []).contains i))=true) (h:∀ u,te hd (cq v 1 j) o (bT E) z (.rd o (bT E) u z) (QJ u)) (h2:∀ u,xg (QJ u) v j u (iz u))
   (k:∀ u,AD tq P cx K l tail base U (iz u) (.a as ops (i+1) ((i,d,u) :: sl) ms Γ m)):AD tq P cx K l tail base U hd (.lb true v j fr t x A d ty as ops i sl ms Γ m)
 | Qs {hd:QE} {A:LN} {as:LL} {d:Nat} {x:OO} {a:Addr} {u:Value} {t ty:TI} {ops:LO} {i:Nat} {sl:LQ} {ms:MM} {fr:Fr} {Γ:QE} {m:Option (Out S R)} (h:tX Γ a u)
   (k:AD tq P cx K l tail base U hd (.a as ops (i+1) ((i,d,u) :: sl) ms Γ m)):AD tq P cx K l tail base U hd (.la fr a none t x A d ty as ops i sl ms Γ m)
 | JB {hd:QE} {A:LN} {as:LL} {d n:Nat} {x:OO} {a:Addr} {ds:LV} {t ty:TI} {ops:LO} {i:Nat} {sl:LQ} {ms:MM} {fr:Fr} {Γ:QE} {m:Option (Out S R)} (h:ua Γ a n ds)
   (k:AD tq P cx K l tail base U hd (.a as ops (i+1) ((i,d,.agg ds.toArray) :: sl) ms Γ m)):AD tq P cx K l tail base U hd (.la fr a (some n) t x A d ty as ops i sl ms Γ m)
 | Qt {hd:QE} {A:LN} {as:LL} {d:Nat} {x:OO} {a:Addr} {k:IntKind} {z:Int} {t ty:TI} {ops:LO} {i:Nat} {sl:LQ} {ms:MM} {fr:Fr} {Γ:QE} {m:Option (Out S R)}
   (h:AD tq P cx K l tail base U hd (.a as ops (i+1) ((i,d,.int k z) :: sl) ms Γ m)):AD tq P cx K l tail base U hd (.ld (aN k) z fr a t x A d ty as ops i sl ms Γ m)
 | Qu {hd:QE} {α:Type} {A:LN} {as:LL} {d:Nat} {x:OO} {v:Value} {j:Int} {E:ai α} {z:List α} {o:Bool} {t ty:TI} {ops:LO} {i:Nat} {sl:LQ} {ms:MM} {fr:Fr} {Γ:QE} {Γ1 Γ':Value→List aw} {m:Option (Out S R)} (h:∀ u,te Γ (cq v 1 j) o (bT E) z (.rd o (bT E) u z) (Γ1 u)) (h2:∀ u,xg (Γ1 u) v j u (Γ' u))
   (k:∀ u,AD tq P cx K l tail base U hd (.a as ops (i+1) ((i,d,u) :: sl) ms (Γ' u) m)):AD tq P cx K l tail base U hd (.ld (bT E) z fr (cq v 1 j) t x A d ty as ops i sl ms Γ m)
 | Jz {hd:QE} {us:LN} {A:LN} {as:LL} {d:Nat} {f:FuncId} {xs:List Operand} {bd:Array TypeId} {ty:TI} {ops:LO} {i:Nat} {sl:LQ} {ms:MM} {Γ:QE} {m:Option (Out S R)} (hU:U.getD i []=us) (h:AD tq P cx K l tail base U hd (.oc us f xs bd A d ty as ops i sl ms Γ m)):AD tq P cx K l tail base U hd (.o A (.call ⟨.value (.func f),xs.toArray,bd⟩) d ty as ops i sl ms Γ m)
 | call {hd:QE} {β V:Type} {A:LN} {as:LL} {d:Nat} {f:FuncId} {xs:List Operand} {bd:Array TypeId} {ty:TI} {mo:Option β} {rt:β→V→List Value} {ps:β→V→List aw} {ops:LO} {i:Nat} {sl:LQ} {ms:MM} {fr:Fr} {Γ:QE} {g:β→Option (Out S R)} [hf:bu P f]
   (hv:eL A none sl base fr) (hc:∀ x:qi ms,Ii P f xs (rb A ms x++fr) (tw A ms x++Γ) mo rt ps) (hi:rK ms) (CD:sH A ms=true) (ho:∀ y v,sS (ps y v)=true)
   (h:∀ y,AD tq P cx K l tail base U hd (.cr (fun v=>sF (rt y v)) (ps y) d as ops i sl ms Γ (g y))):AD tq P cx K l tail base U hd (.oc [] f xs bd A d ty as ops i sl ms Γ (mo>>=g))
 | UK {hd:QE} {β V:Type} {A:LN} {as:LL} {d:Nat} {f:FuncId} {xs:List Operand} {bd:Array TypeId} {ty:TI} {mo:Option β} {rt:β→V→List Value} {ps:β→V→List aw} {ops:LO} {i:Nat} {sl:LQ} {ms:MM} {fr:Fr} {Γ:QE} {g:β→Option (Out S R)} [hf:bu P f]
   (hV:((U.set i []).all fun us=>!(us.contains l.length))=true) (hv:eL A none sl base fr) (hc:∀ x:qi ms,BQ P f xs (rb A ms x++fr) hd (tw A ms x++Γ) mo rt ps) (hi:rK ms) (CD:sH A ms=true) (ho:∀ y v,sS (ps y v)=true)
   (h:∀ y,AD tq P cx K l tail base U hd (.cr (fun v=>sF (rt y v)) (ps y) d as ops i sl ms Γ (g y))):AD tq P cx K l tail base U hd (.oc [l.length] f xs bd A d ty as ops i sl ms Γ (mo>>=g))
 | UL {hd:QE} {β V:Type} {j1:Nat} {a1:gu} {o9:MM} {A:LN} {as:LL} {d:Nat} {f:FuncId} {xs:List Operand} {bd:Array TypeId} {ty:TI} {mo:Option β} {rt:β→V→List Value} {ps:β→V→List aw} {ops:LO} {i:Nat} {sl:LQ} {ms:MM} {fr:Fr} {Γ:QE} {g:β→Option (Out S R)} [hf:bu P f]
   (h1:Bd ms j1 a1 o9) (Og:a1.src=[]) (h4:ie j1 A=true) (hv:eL A none sl base fr) (hc:∀ (q:a1.V) (x:qi o9),BQ P f xs (rb A o9 x++fr) (a1.ps undef q) (tw A o9 x++Γ) mo rt ps) (hi:rK o9) (CD:sH A o9=true) (ho:∀ y v,sS (ps y v)=true)
   (h:∀ y,AD tq P cx K l tail base U hd (.cr (fun v=>sF (rt y v)) (ps y) d as ops i (LR j1 i sl) o9 Γ (g y))):AD tq P cx K l tail base U hd (.oc [j1] f xs bd A d ty as ops i sl ms Γ (mo>>=g))
 | crv {hd:QE} {u:Unit→Value} {d:Nat} {as:LL} {ops:LO} {i:Nat} {sl:LQ} {ms:MM} {Γ:QE} {m:Option (Out S R)} (h:AD tq P cx K l tail base U hd (.a as ops (i+1) ((i,d,u ()) :: sl) ms Γ m)):AD tq P cx K l tail base U hd (.cr u (fun _=>[]) d as ops i sl ms Γ m)
 | crb {hd:QE} {u:Unit→Value} {ps:Unit→List aw} {d:Nat} {as:LL} {ops:LO} {i:Nat} {sl:LQ} {ms:MM} {Γ:QE} {m:Option (Out S R)} (h:AD tq P cx K l tail base U hd (.a as ops (i+1) ((i,d,u ()) :: sl) (⟨i,d,[],Unit,fun _=>u,fun _=>ps⟩ :: ms) Γ m)):AD tq P cx K l tail base U hd (.cr u ps d as ops i sl ms Γ m)
 | crm {hd:QE} {V:Type} {u:V→Value} {ps:V→List aw} {d:Nat} {as:LL} {ops:LO} {i:Nat} {sl:LQ} {ms:MM} {Γ:QE} {m:Option (Out S R)} (h:AD tq P cx K l tail base U hd (.a as ops (i+1) sl (⟨i,d,[],V,fun _=>u,fun _=>ps⟩ :: ms) Γ m)):AD tq P cx K l tail base U hd (.cr u ps d as ops i sl ms Γ m)
 | val {hd:QE} {A:LN} {as:LL} {op:Op} {d:Nat} {ty:TI} {u:Value} {ops:LO} {i:Nat} {sl:LQ} {ms:MM} {fr:Fr} {Γ:QE} {m:Option (Out S R)} (hv:eL A none sl base fr) (hq:VQ P Γ fr op u)
   (h:AD tq P cx K l tail base U hd (.a as ops (i+1) ((i,d,u) :: sl) ms Γ m)):AD tq P cx K l tail base U hd (.o A op d ty as ops i sl ms Γ m)
 | rY {hd:QE} {A:LN} {as:LL} {op:BinOp} {x y:OO} {k k':IntKind} {a b:Int} {t t':TI} {d:Nat} {ty:TI} {ops:LO} {i:Nat} {sl:LQ} {ms:MM} {fr:Fr} {Γ:QE} {f:Int→Option (Out S R)} (hv:eL A none sl base fr) (hx:bp fr x=some (.int k a)) (hy:bp fr y=some (.int k' b)) (hk:Ob op k k')
   (h:∀ z,AD tq P cx K l tail base U hd (.a as ops (i+1) ((i,d,.int k z) :: sl) ms Γ (f z))):AD tq P cx K l tail base U hd (.o A (.binOp op t x y t') d ty as ops i sl ms Γ (su op k a b>>=f))
 | pz {hd:QE} {as:LL} {ops:LO} {i:Nat} {sl:LQ} {ms:MM} {Γ:QE} {m:Option (Out S R)} (h:AD tq P cx K l tail base U hd (.a as ops i sl ms Γ m)):AD tq P cx K l tail base U hd (.p [] as ops i sl ms Γ m)
 | pe {hd:QE} {e:aw} {Δ:QE} {as:LL} {ops:LO} {i:Nat} {sl:LQ} {ms:MM} {Γ:QE} {m:Option (Out S R)} (h:AD tq P cx K l tail base U hd (.p Δ as ops i sl ms (e :: Γ) m)):AD tq P cx K l tail base U hd (.p (e :: Δ) as ops i sl ms Γ m)
 | Eo {hd:QE} {α V:Type} {Sc:ai α} {cl:α→V→List Value} {en:α→V→List aw} {A:LN} {as:LL} {d n:Nat} {x y:OO} {v:Value} {xs:List α} {k:IntKind} {j:Int} {t ty:TI} {ops:LO} {i:Nat} {sl:LQ} {ms:MM} {fr:Fr} {Γ Γx:QE} {f:α→Option (Out S R)} [ht:Hj P t n]
   (hy:bp fr y=some (.int k j)) (hr:qf Γ v false false (rG Sc) xs tf Γx) (hs:De Sc V cl en) (hn:Sc.size=n)
   (h:∀ z u,AD tq P cx K l tail base U hd (.p (.bd (cq v n j) (cl z u) :: en z u) as ops (i+1) ((i,d,.pointer (some (cq v n j))) :: sl) ms Γ (f z))):AD tq P cx K l tail base U hd (.ix false v fr x y t A d ty as ops i sl ms Γ (idx xs j>>=f))
 | QK {hd:QE} {α V:Type} {Sc:ai α} {cl:α→V→List Value} {en:α→V→List aw} {A:LN} {as:LL} {d n e bt:Nat} {x y:OO} {v:Value} {us:List (List Value)} {xs:List α} {k:IntKind} {j:Int} {t ty:TI} {ops:LO} {i:Nat} {sl:LQ} {ms:MM} {fr:Fr} {Γ Γ1:QE} {f:α→Option (Out S R)} [ht:zk P t e n bt]
   (hy:bp fr y=some (.int k j)) (h1:ed Γ (.own (aL e (ja n)) v us) Γ1) (hg:In (.rd false (uM Sc) (.bool true) (us,xs)) Γ) (hs:De Sc V cl en)
   (h:∀ z u,AD tq P cx K l tail base U hd (.p (.rd false (yX us j) (.bool true) (cl z u) :: en z u) as ops (i+1) ((i,d,.pointer (some (cq v n j))) :: sl) ms Γ (f z))):AD tq P cx K l tail base U hd (.ix false v fr x y t A d ty as ops i sl ms Γ (idx xs j>>=f))
 | V4 {hd:QE} {A:LN} {as:LL} {d n e off:Nat} {x:OO} {v u:Value} {us:List (List Value)} {j:Int} {cs:LV} {t ty:TI} {ops:LO} {i:Nat} {sl:LQ} {ms:MM} {fr:Fr} {Γ Γ1:QE} {m:Option (Out S R)} (h1:ed Γ (.own (aL e (ja n)) v us) Γ1) (hp:In (.rd false (yX us j) (.bool true) cs) Γ) (hc:cs[off]? = some u)
   (k:AD tq P cx K l tail base U hd (.a as ops (i+1) ((i,d,u) :: sl) ms Γ m)):AD tq P cx K l tail base U hd (.la fr ((cq v n j).add off) none t x A d ty as ops i sl ms Γ m)
 | QM {hd:QE} {A:LN} {as:LL} {d n e:Nat} {x:OO} {v u:Value} {us:List (List Value)} {j:Int} {cs:LV} {t ty:TI} {ops:LO} {i:Nat} {sl:LQ} {ms:MM} {fr:Fr} {Γ Γ1:QE} {m:Option (Out S R)} (h1:ed Γ (.own (aL e (ja n)) v us) Γ1) (hp:In (.rd false (yX us j) (.bool true) cs) Γ) (hc:cs[0]? = some u)
   (k:AD tq P cx K l tail base U hd (.a as ops (i+1) ((i,d,u) :: sl) ms Γ m)):AD tq P cx K l tail base U hd (.la fr (cq v n j) none t x A d ty as ops i sl ms Γ m)
end Go.Dk
namespace Go.Dk
open Go Go.Li
theorem n9 {t:Nat} {l:LN}:ie t l=true↔t∈l:=by
 induction l with
 | nil=>simp [ie]
 | cons a l ih=>
  unfold ie
  cases hb:Nat.beq t a with
  | true=>simp [Nat.eq_of_beq_eq_true hb]
  | false=>simp only [cond_false,ih,List.mem_cons]; exact ⟨.inr,fun h=>h.resolve_left fun e=>by rw [e,Nat.beq_refl] at hb; cases hb⟩
def j7 (l:LO) (U:LL) (mt:Nat):List (List Nat):=(List.range mt).map fun i=>(List.range l.length).filter (rf l U mt i)
theorem qj {l:LO} {U:LL} {mt i j:Nat} (h:j∈(j7 l U mt).getD i []):j∈(bo l).getD i []∧rf l U mt i j=true:=by
 unfold j7 at h
 rw [List.getD_eq_getElem?_getD,List.getElem?_map] at h
 by_cases hi:i < mt
 ·rw [List.getElem?_range hi] at h
  have h1:=(List.mem_filter.1 h).2
  refine ⟨?_,h1⟩
  unfold rf at h1
  rw [Bool.and_eq_true] at h1
  simpa using h1.1
 ·rw [List.getElem?_eq_none (by simpa using hi)] at h
  exact absurd h List.not_mem_nil
variable {Z:Nat→Prop}
structure ir (Z:Nat→Prop) (l:LO) (S:List fc) (sl:LQ) (ms:MM):Prop where
 v:∀ p∈sl,∃ j,(j=p.1∨j∈(bo l).getD p.1 [])∧bm l j=some p.2.1∧∃ s,S[j]? = some s∧s.b=true∧∀ f w r x,s.V f w r x→x=p.2.2
 m:∀ a∈ms,(S[a.j]? = some ⟨true,MV Z a⟩∧bm l a.j=some a.d)∨(S[a.j]? = some ⟨true,JJ Z a⟩∧bm l a.j=none∧∃ k∈(bo l).getD a.j [],bm l k=some a.d)
 s:∀ i s,S[i]? = some s→JK Z ((bo l).getD i []) l s
 d:(ms.map (·.j)).Nodup
 t:∀ i j k,j∈(bo l).getD k []→k∈(bo l).getD i []→j∈(bo l).getD i []
theorem ir.lt {l:LO} {S:List fc} {sl:LQ} {ms:MM} (h:ir Z l S sl ms) {a:gu} (ha:a∈ms):a.j < S.length:=by
 rcases h.m a ha with h | h <;> exact (List.getElem?_eq_some_iff.1 h.1).1
theorem ir.EM {l:LO} {S S2:List fc} {sl:LQ} {ms:MM} (h:ir Z l S sl ms) {a:gu} (ha:a∈ms) {g:Nat→List Nat} {r:NV} {w:World} (hd:tx l (S++S2) a.j g r w):MV Z a (g a.j) w r (r a.d):=by
 rcases h.m a ha with h1 | h1
 ·have h2:=hd.1 a.d h1.2
  rw [List.getElem?_append_left (List.getElem?_eq_some_iff.1 h1.1).1,h1.1] at h2
  exact h2
 ·obtain ⟨x,hx⟩:=hd.2 h1.2.1 _ (by rw [List.getElem?_append_left (List.getElem?_eq_some_iff.1 h1.1).1]; exact h1.1) rfl
  exact hx
theorem ir.slot {l:LO} {S:List fc} {sl:LQ} {ms:MM} (h:ir Z l S sl ms) {a:gu} (ha:a∈ms) {i:Nat} (hi:a.j∈(bo l).getD i []):∃ k∈(bo l).getD i [],bm l k=some a.d:=by
 rcases h.m a ha with h1 | ⟨_,_,k,hk,hd⟩
 ·exact ⟨a.j,hi,h1.2⟩
 ·exact ⟨k,h.t i k a.j hk hi,hd⟩
theorem ir.sd {l:LO} {S S2:List fc} {sl:LQ} {ms:MM} (h:ir Z l S sl ms) {a:gu} (ha:a∈ms):((S++S2)[a.j]? = some ⟨true,MV Z a⟩∧bm l a.j=some a.d)∨((S++S2)[a.j]? = some ⟨true,JJ Z a⟩∧bm l a.j=none∧∃ k∈(bo l).getD a.j [],bm l k=some a.d):=by
 rw [List.getElem?_append_left (h.lt ha)]
 exact h.m a ha
theorem ir.Il {l:LO} {S S2:List fc} {sl:LQ} {ms:MM} (h:ir Z l S sl ms) {p:Nat×Nat×Value} (hp:p∈sl):∃ j,(j=p.1∨j∈(bo l).getD p.1 [])∧bm l j=some p.2.1∧∃ s,(S++S2)[j]? = some s∧s.b=true∧∀ f w r x,s.V f w r x→x=p.2.2:=by
 obtain ⟨j,hj,h1,s,h2,h3⟩:=h.v p hp
 exact ⟨j,hj,h1,s,by rw [List.getElem?_append_left (List.getElem?_eq_some_iff.1 h2).1]; exact h2,h3⟩
theorem ir.zr {l:LO} {S S2:List fc} {sl:LQ} {ms:MM} (h:ir Z l S sl ms) {p:Nat×Nat×Value} (hp:p∈sl) {r:NV} (ho:∀ j,(j=p.1∨j∈(bo l).getD p.1 [])→j < S.length→Old l (S++S2) j r):r p.2.1=p.2.2:=by
 obtain ⟨j,hj,h1,s,h2,h3,h4⟩:=h.v p hp
 have hl:=(List.getElem?_eq_some_iff.1 h2).1
 have:=ho j hj hl _ h1 s (by rw [List.getElem?_append_left hl]; exact h2)
 rw [if_pos h3] at this
 obtain ⟨f,w,hV⟩:=this
 exact h4 f w r _ hV
theorem ir.val {l:LO} {S:List fc} {sl:LQ} {ms:MM} (h:ir Z l S sl ms) {d:Nat} {u:Value} (hd:bm l S.length=some d):ir Z l (S++[sV u]) ((S.length,d,u) :: sl) ms:=by
 refine ⟨?_,fun a ha=>h.sd ha,?_,h.d,h.t⟩
 ·intro p hp
  rcases List.mem_cons.1 hp with rfl | hp
  ·exact ⟨S.length,.inl rfl,hd,sV u,by simp,rfl,fun _ _ _ _ h=>h⟩
  ·exact h.Il hp
 ·intro i s hs
  by_cases hi:i < S.length
  ·rw [List.getElem?_append_left hi] at hs; exact h.s i s hs
  ·rw [List.getElem?_append_right (by omega)] at hs
   have uS:i - S.length=0:=by
    have:=(List.getElem?_eq_some_iff.1 hs).1
    simp at this; omega
   rw [uS] at hs
   cases hs
   exact EI.n Im
theorem ir.mem {l:LO} {S:List fc} {sl:LQ} {ms:MM} (h:ir Z l S sl ms) {b:gu} (hj:b.j=S.length) (hd:bm l S.length=some b.d) (lr:∀ t∈b.src,∃ j∈(bo l).getD S.length [],bm l j=some t):ir Z l (S++[⟨true,MV Z b⟩]) sl (b :: ms):=by
 have bh:∀ a∈ms,a.j < S.length:=fun a ha=>h.lt ha
 refine ⟨fun p hp=>?_,?_,?_,?_,h.t⟩
 ·exact h.Il hp
 ·intro a ha
  rcases List.mem_cons.1 ha with rfl | ha
  ·exact .inl ⟨by rw [hj]; simp,by rw [hj]; exact hd⟩
  ·exact h.sd ha
 ·intro i s hs
  by_cases hi:i < S.length
  ·rw [List.getElem?_append_left hi] at hs; exact h.s i s hs
  ·rw [List.getElem?_append_right (by omega)] at hs
   have uS:i - S.length=0:=by
    have:=(List.getElem?_eq_some_iff.1 hs).1
    simp at this; omega
   have QN:i=S.length:=by omega
   rw [uS] at hs
   cases hs
   rw [QN]
   exact JL lr
 ·rw [List.map_cons,List.nodup_cons]
  refine ⟨fun hm=>?_,h.d⟩
  obtain ⟨a,ha,he⟩:=List.mem_map.1 hm
  have:=bh a ha
  omega
theorem ir.Xv {l:LO} {S:List fc} {sl:LQ} {ms:MM} (h:ir Z l S sl ms) {j d:Nat} {u:Value} (hd:bm l j=some d) {s:fc} (hs:S[j]? = some s) (hb:s.b=true) (hV:∀ f w r x,s.V f w r x→x=u):ir Z l S ((j,d,u) :: sl) ms:=
 ⟨fun p hp=>by
  rcases List.mem_cons.1 hp with rfl | hp
  ·exact ⟨j,.inl rfl,hd,s,hs,hb,hV⟩
  ·exact h.v p hp,h.m,h.s,h.d,h.t⟩
theorem ir.re {l:LO} {S:List fc} {sl:LQ} {ms:MM} (h:ir Z l S sl ms) {j i:Nat} (hj:j∈(bo l).getD i []):ir Z l S (LR j i sl) ms:=by
 refine ⟨fun p hp=>?_,h.m,h.s,h.d,h.t⟩
 obtain ⟨q,hq,rfl⟩:=List.mem_map.1 hp
 obtain ⟨k,hk,h1⟩:=h.v q hq
 cases hb:Nat.beq q.1 j with
 | false=>exact ⟨k,hk,h1⟩
 | true=>
  refine ⟨k,.inr ?_,h1⟩
  have V5:=Nat.eq_of_beq_eq_true hb
  show k∈(bo l).getD i []
  rcases hk with rfl | hk
  ·rw [V5]; exact hj
  ·rw [V5] at hk; exact h.t i k j hk hj
theorem ir.Xw {l:LO} {S:List fc} {sl:LQ} {ms:MM} (h:ir Z l S sl ms) {b:gu} (hj:b.j=S.length) (hd:bm l S.length=none) (hk:∃ k∈(bo l).getD S.length [],bm l k=some b.d) (lr:b.src=[]):ir Z l (S++[⟨true,JJ Z b⟩]) sl (b :: ms):=by
 have bh:∀ a∈ms,a.j < S.length:=fun a ha=>h.lt ha
 refine ⟨fun p hp=>?_,?_,?_,?_,h.t⟩
 ·exact h.Il hp
 ·intro a ha
  rcases List.mem_cons.1 ha with rfl | ha
  ·exact .inr ⟨by rw [hj]; simp,by rw [hj]; exact hd,by rw [hj]; exact hk⟩
  ·exact h.sd ha
 ·intro i s hs
  by_cases hi:i < S.length
  ·rw [List.getElem?_append_left hi] at hs; exact h.s i s hs
  ·rw [List.getElem?_append_right (by omega)] at hs
   have uS:i - S.length=0:=by
    have:=(List.getElem?_eq_some_iff.1 hs).1
    simp at this; omega
   have QN:i=S.length:=by omega
   rw [uS] at hs
   cases hs
   rw [QN]
   exact Ih hk fun t ht=>by rw [lr] at ht; cases ht
 ·rw [List.map_cons,List.nodup_cons]
  refine ⟨fun hm=>?_,h.d⟩
  obtain ⟨a,ha,he⟩:=List.mem_map.1 hm
  have:=bh a ha
  omega
theorem mb {l:LO} {m:Nat} {base:Fr} {r r0:NV} (hh:lu l m base=true) (ha:c9 r0 base) (ho:∀ t,(∀ j,j < m→bm l j≠some t)→r t=r0 t):c9 r base:=by
 intro t v hl
 have hm:∃ u,(t,u)∈base:=by
  clear hh ha
  induction base with
  | nil=>cases hl
  | cons p base ih=>
   obtain ⟨a,u⟩:=p
   unfold look at hl
   cases hb:Nat.beq t a with
   | true=>exact ⟨u,by rw [Nat.eq_of_beq_eq_true hb]; simp⟩
   | false=>rw [hb] at hl; obtain ⟨u',h⟩:=ih hl; exact ⟨u',by simp [h]⟩
 obtain ⟨u,hu⟩:=hm
 rw [ho t fun j hj=>JN hh (t,u) hu j hj]
 exact ha t v hl
section
variable {P:Program} {l:LO} {mt:Nat} {S:List fc} {sl:LQ} {ms:MM} {base fr:Fr} {r r0:NV} {w w0:World} {g:Nat→List Nat} {i:Nat} {A:LN} {U:LL}
theorem qk (hR:ir Z l S sl ms) (hA:A=(j7 l U mt).getD i []) (hv:eL A none sl base fr) (hb:c9 r base) {S':List fc} (hO:∀ j∈(bo l).getD i [],Old l (S++S') j r):c9 r fr:=by
 refine hv.sound hb ?_ (fun _ _ _ h=>nomatch h)
 intro p hp hm
 have hi:=(qj (by rw [← hA]; exact n9.1 hm)).1
 exact hR.zr hp fun j hj _=>hO j (hj.elim (fun e=>e ▸ hi) fun hj=>hR.t i j p.1 hj hi)
theorem LS {H:LN} {o:Oper} {u:Value} (hh:lu l mt base=true) (ha:c9 r0 base) (hR:ir Z l S sl ms) (ho:l[S.length]? = some o) (hg:o.guard=none) (hA:A=(j7 l U mt).getD S.length []) (hv:eL A none sl base fr)
  (h:∀ r,c9 r fr→∀ w,av H w0 w→(execOp (ev r) o).run P w = .ok (.value u) w):jb P l mt (S++[sV u]) U r0 w0 H S.length:=
 jb.val ho (by simp) hg fun g r w hC hO hn ll=>h r (qk hR hA hv (mb hh ha ll) hO) w hC
end
end Go.Dk
namespace Go.Dk
open Go Go.Li
section
variable {R S:Type} {P:Program} {cx:Cx R} {K:df R S} {l tail:LO} {base fr:Fr} {w:World} {Z:Nat→Prop} {U:LL}
def j6 (P:Program) (Z:Nat→Prop) (l:LO) (mt:Nat) (U:LL) (r0:NV) (w0:World) (H:LN) (i:Nat) (sl:LQ) (ms:MM):Prop:=
 ∃ S:List fc,S.length=i∧ir Z l S sl ms∧∀ j,j < i→jb P l mt S U r0 w0 H j
def se (B:Bs) (Z:Nat→Prop) (hd Γ:QE) (H:LN) (w:World):Prop:=∃ F Hd,(SA Z w hd [] Hd∧(∀ b∈Hd,b∈H∧b < w.heap.size)∧(∀ b∈H,b < w.heap.size)∧Hd.Nodup)∧SA Z w Γ [] F∧Gd B Z (H++F) w
theorem se.stay {B:Bs} {Γ:QE} {F H:LN} {w w':World} (hS:SA Z w Γ [] F) (hG:Gd B Z (H++F) w) (hC:av H w w'):SA Z w' Γ [] F:=
 hS.ee hC (fun b hb=>hG.apart b (List.mem_append_left _ hb)) (fun _ _=>List.not_mem_nil) (fun b hb hf=>(List.nodup_append.1 hG.nd).2.2 b hb b hf rfl)
def Fin (P:Program) (cx:Cx R) (K:df R S) (l l0:LO) (mt:Nat) (U:LL) (hd:QE) (_id:Nat) (base:Fr) (i:Nat) (sl:LQ) (ms:MM) (Γ:QE) (m:Option (Out S R)):Prop:=
 ∀ B o,m=some o→∀ r0 w0 H Z,c9 r0 base→se B Z hd Γ H w0→j6 P Z l mt U r0 w0 H i sl ms→mh P cx.n l0 (kz P cx B K o) r0 w0
theorem j6.re {mt:Nat} {r0:NV} {w0:World} {H:LN} {i k j:Nat} {sl:LQ} {ms:MM} (h:j6 P Z l mt U r0 w0 H k sl ms) (hj:j∈(bo l).getD i []):j6 P Z l mt U r0 w0 H k (LR j i sl) ms:=by
 obtain ⟨S,h1,h2,h3⟩:=h
 exact ⟨S,h1,h2.re hj,h3⟩
structure vh (l:LO) (mt:Nat) (U:LL) (as:LL) (ops:LO) (i:Nat):Prop where
 a:as=(j7 l U mt).drop i
 o:ops=(l.take mt).drop i
 le:i≤mt
structure QO (l:LO) (mt:Nat) (U:LL) (A:LN) (op:Op) (ty:TI) (as:LL) (ops:LO) (i:Nat):Prop where
 A:A=(j7 l U mt).getD i []
 o:∃ pos ag,l[i]? = some ⟨none,op,ty,pos,ag,none⟩
 n:vh l mt U as ops (i+1)
theorem vh.Ij {mt:Nat} {A:LN} {as:LL} {op:Op} {ty:TI} {pos:String} {ag:Array Edge} {ops:LO} {i:Nat} (h:vh l mt U (A :: as) (⟨none,op,ty,pos,ag,none⟩ :: ops) i):QO l mt U A op ty as ops i:=by
 obtain ⟨h1,h2,h3⟩:=h
 have e1:(j7 l U mt)[i]? = some A:=by
  have:=congrArg (fun x=>x[0]?) h1
  simpa using this.symm
 have e2:(l.take mt)[i]? = some ⟨none,op,ty,pos,ag,none⟩:=by
  have:=congrArg (fun x=>x[0]?) h2
  simpa using this.symm
 have t1:as=(j7 l U mt).drop (i+1):=by
  have:=congrArg List.tail h1
  simpa [List.tail_drop] using this
 have t2:ops=(l.take mt).drop (i+1):=by
  have:=congrArg List.tail h2
  simpa [List.tail_drop] using this
 have hi:i < mt:=by
  have:=(List.getElem?_eq_some_iff.1 e1).1
  simpa [j7] using this
 rw [List.getElem?_take,if_pos hi] at e2
 exact ⟨by rw [List.getD_eq_getElem?_getD,e1]; rfl,⟨pos,ag,e2⟩,t1,t2,hi⟩
structure rQ (l:LO) (mt:Nat) (U:LL) (A:LN) (op:Op) (d:Nat) (ty:TI) (as:LL) (ops:LO) (i:Nat):Prop where
 A:A=(j7 l U mt).getD i []
 o:∃ pos ag,l[i]? = some ⟨some d,op,ty,pos,ag,none⟩
 n:vh l mt U as ops (i+1)
theorem vh.cons {mt:Nat} {A:LN} {as:LL} {op:Op} {d:Nat} {ty:TI} {pos:String} {ag:Array Edge} {ops:LO} {i:Nat} (h:vh l mt U (A :: as) (⟨some d,op,ty,pos,ag,none⟩ :: ops) i):rQ l mt U A op d ty as ops i:=by
 obtain ⟨h1,h2,h3⟩:=h
 have e1:(j7 l U mt)[i]? = some A:=by
  have:=congrArg (fun x=>x[0]?) h1
  simpa using this.symm
 have e2:(l.take mt)[i]? = some ⟨some d,op,ty,pos,ag,none⟩:=by
  have:=congrArg (fun x=>x[0]?) h2
  simpa using this.symm
 have t1:as=(j7 l U mt).drop (i+1):=by
  have:=congrArg List.tail h1
  simpa [List.tail_drop] using this
 have t2:ops=(l.take mt).drop (i+1):=by
  have:=congrArg List.tail h2
  simpa [List.tail_drop] using this
 have hi:i < mt:=by
  have:=(List.getElem?_eq_some_iff.1 e1).1
  simpa [j7] using this
 rw [List.getElem?_take,if_pos hi] at e2
 exact ⟨by rw [List.getD_eq_getElem?_getD,e1]; rfl,⟨pos,ag,e2⟩,t1,t2,hi⟩
theorem vh.next {mt:Nat} {A:LN} {as:LL} {o:Oper} {ops:LO} {i:Nat} (h:vh l mt U (A :: as) (o :: ops) i):A=(j7 l U mt).getD i []∧l[i]? = some o∧vh l mt U as ops (i+1):=by
 obtain ⟨h1,h2,h3⟩:=h
 have e1:(j7 l U mt)[i]? = some A:=by
  have:=congrArg (fun x=>x[0]?) h1
  simpa using this.symm
 have e2:(l.take mt)[i]? = some o:=by
  have:=congrArg (fun x=>x[0]?) h2
  simpa using this.symm
 have t1:as=(j7 l U mt).drop (i+1):=by
  have:=congrArg List.tail h1
  simpa [List.tail_drop] using this
 have t2:ops=(l.take mt).drop (i+1):=by
  have:=congrArg List.tail h2
  simpa [List.tail_drop] using this
 have hi:i < mt:=by
  have:=(List.getElem?_eq_some_iff.1 e1).1
  simpa [j7] using this
 rw [List.getElem?_take,if_pos hi] at e2
 exact ⟨by rw [List.getD_eq_getElem?_getD,e1]; rfl,e2,t1,t2,hi⟩
theorem j6.swap {mt:Nat} {i:Nat} {p q:Nat×Nat×Value} {sl:LQ} {ms:MM} {r0:NV} {w0:World} {H:LN} (h:j6 P Z l mt U r0 w0 H i (p :: q :: sl) ms):j6 P Z l mt U r0 w0 H i (q :: p :: sl) ms:=by
 obtain ⟨S,h1,h2,h3⟩:=h
 refine ⟨S,h1,⟨fun a ha=>h2.v a ?_,h2.m,h2.s,h2.d,h2.t⟩,h3⟩
 rcases List.mem_cons.1 ha with rfl | ha
 ·simp
 ·rcases List.mem_cons.1 ha with rfl | ha
  ·simp
  ·exact List.mem_cons_of_mem _ (List.mem_cons_of_mem _ ha)
theorem j6.skip {mt:Nat} {A:LN} {j d:Nat} {p:Bool} {dst:Option Nat} {op:Op} {ty:TI} {pos:String} {ag:Array Edge} {i:Nat} {sl:LQ} {ms:MM} {r0:NV} {w0:World} {H:LN} (h:j6 P Z l mt U r0 w0 H i sl ms) (hA:A=(j7 l U mt).getD i []) (ho:l[i]? = some ⟨dst,op,ty,pos,ag,some (j,p)⟩)
  (hd:bm l j=some d) (hb:EK sl j d (!p)=true) (hj:ie j A=true):j6 P Z l mt U r0 w0 H (i+1) sl ms:=by
 obtain ⟨S',hl,hR,hO⟩:=h
 subst hl
 have wU:j∈(bo l).getD S'.length []:=(qj (by rw [← hA]; exact n9.1 hj)).1
 have hm:=Dl hb
 have hR2:ir Z l (S'++[⟨false,fun _ _ _ _=>True⟩]) sl ms:=by
  refine ⟨fun q hq=>hR.Il hq,fun a ha=>hR.sd ha,fun i s hs=>?_,hR.d,hR.t⟩
  by_cases hi:i < S'.length
  ·rw [List.getElem?_append_left hi] at hs; exact hR.s i s hs
  ·rw [List.getElem?_append_right (by omega)] at hs
   have uS:i - S'.length=0:=by
    have:=(List.getElem?_eq_some_iff.1 hs).1
    simp at this; omega
   rw [uS] at hs
   cases hs
   exact fun _ _ _ _ _ _ _ _ _ _ _ _=>trivial
 refine ⟨S'++[⟨false,fun _ _ _ _=>True⟩],by simp,hR2,fun k hk=>?_⟩
 by_cases h2:k < S'.length
 ·exact jb.more (hO k h2) h2
 ·obtain rfl:k=S'.length:=by omega
  intro o s b9 hs g r w hC hV l6 hn ll pq hf
  rw [ho] at b9
  obtain rfl:=Option.some.inj b9
  rw [List.getElem?_append_right (Nat.le_refl _),Nat.sub_self] at hs
  obtain rfl:_=s:=Option.some.inj hs
  rw [if_neg (by simp)]
  have hr:r d = .bool (!p):=hR.zr (S2:=[⟨false,fun _ _ _ _=>True⟩]) hm fun q hq _=>l6 q (hq.elim (fun e=>e ▸ wU) fun e=>hR.t _ _ _ e wU)
  unfold Region.wanted
  dsimp only
  rw [Ia hd,hr]
  cases p <;> rfl
theorem j6.val {mt:Nat} {A:LN} {op:Op} {d:Nat} {ty:TI} {as:LL} {ops:LO} {i:Nat} {sl:LQ} {ms:MM} {r0:NV} {w0:World} {H:LN} {u:Value} (h:j6 P Z l mt U r0 w0 H i sl ms) (hh:lu l mt base=true) (ha:c9 r0 base) (h1:rQ l mt U A op d ty as ops i)
  (hv:eL A none sl base fr) (hq:∀ r,c9 r fr→∀ pos ag g w,av H w0 w→(execOp (ev r) ⟨some d,op,ty,pos,ag,g⟩).run P w = .ok (.value u) w):j6 P Z l mt U r0 w0 H (i+1) ((i,d,u) :: sl) ms:=by
 obtain ⟨S',hl,hR,hO⟩:=h
 subst hl
 obtain ⟨hA,⟨pos,ag,ho⟩,_⟩:=h1
 refine ⟨S'++[sV u],by simp,hR.val (by unfold bm; rw [ho]; rfl),fun j hj=>?_⟩
 by_cases h2:j < S'.length
 ·exact jb.more (hO j h2) h2
 ·obtain rfl:j=S'.length:=by omega
  exact LS hh ha hR ho rfl hA hv fun r hr=>hq r hr _ _ _
def Io (P:Program) (Z:Nat→Prop) (l:LO) (mt:Nat) (U:LL) (r0:NV) (w0:World) (H:LN) (i:Nat) (sl:LQ) (ms:MM) (a:gu):Prop:=
 ∃ S:List fc,S.length=i∧ir Z l S sl ms∧(∀ j,j < i→jb P l mt S U r0 w0 H j)∧
  ∀ V:List Nat→World→(Nat→Value)→Value→Prop,(∀ f w r x,MV Z a f w r x→∃ f',(∀ b∈f',b∈f)∧V f' w r x)→jb P l mt (S++[⟨true,V⟩]) U r0 w0 H i
theorem HL.front {Δ Γ:QE} {Fd F:LN} (h:HL Z w Δ Fd) (hs:SA Z w Γ [] F):SA Z w (Δ++Γ) [] (Fd++F):=by
 induction h with
 | nil=>exact hs
 | own h _ ih=>rw [List.append_assoc]; exact SA.cons ih h
 | fact h _ ih=>exact SA.fact ih h
def zt (A:LN) (g:Nat→List Nat):List gu→List Nat
 | []=>[]
 | a :: l=>bif ie a.j A then g a.j++zt A g l else zt A g l
def HV (Z:Nat→Prop) (w:World) (Δ:QE) (B:LN):Prop:=∃ Vo Vr,(∀ b∈Vo++Vr,b∈B)∧(∀ b∈Vr,b < w.heap.size)∧HL (fun b=>Z b∨b∈Vr) w Δ Vo
theorem HV.front {Δ Γ:QE} {B F:LN} (h:HV Z w Δ B) (hs:SA Z w Γ [] F):∃ G:List Nat,(∀ b∈G,b∈B++F∧b < w.heap.size)∧∃ F':List Nat,(∀ b∈F',b∈G)∧SA (fun b=>Z b∨b∈G) w (Δ++Γ) [] F':=by
 obtain ⟨Vo,Vr,h1,h2,h3⟩:=h
 have hS:=h3.front (hs.mono (Z':=fun b=>Z b∨b∈Vr) (fun _ h=>.inl h) fun _ h=>h)
 refine ⟨Vr++(Vo++F),fun b hb=>?_,Vo++F,fun b hb=>List.mem_append_right _ hb,hS.mono (fun b h=>h.imp id fun h=>List.mem_append_left _ h) fun _ h=>h⟩
 rcases List.mem_append.1 hb with hb | hb
 ·exact ⟨List.mem_append_left _ (h1 b (List.mem_append_right _ hb)),h2 b hb⟩
 ·refine ⟨?_,hS.lt b hb⟩
  rcases List.mem_append.1 hb with hb | hb
  ·exact List.mem_append_left _ (h1 b (List.mem_append_left _ hb))
  ·exact List.mem_append_right _ hb
theorem HV.app {Δ Δ':QE} {f B:LN} (h:HN Z w Δ f) (k:HV Z w Δ' B):HV Z w (Δ++Δ') (f++B):=by
 obtain ⟨Fo,Fr,rfl,h1,h2⟩:=h.all
 obtain ⟨Vo,Vr,k1,k2,k3⟩:=k
 refine ⟨Fo++Vo,Fr++Vr,fun b hb=>?_,fun b hb=>(List.mem_append.1 hb).elim (h1 b) (k2 b),(h2.mono fun b h=>h.imp id fun h=>List.mem_append_left _ h).app (k3.mono fun b h=>h.imp id fun h=>List.mem_append_right _ h)⟩
 have:=fun h=>k1 b h
 simp only [List.mem_append] at hb this ⊢
 rcases hb with (h | h) | h | h
 ·exact .inl (.inl h)
 ·exact .inr (this (.inl h))
 ·exact .inl (.inr h)
 ·exact .inr (this (.inr h))
theorem UM {A:LN} {g:Nat→List Nat} {r:NV}:∀ {ms:MM},rK ms→sH A ms=true→(∀ a∈ms,ie a.j A=true→MV Z a (g a.j) w r (r a.d))→
  ∃ x:qi ms,(∀ p∈rb A ms x,r p.1=p.2)∧HV Z w (tw A ms x) (zt A g ms):=by
 intro ms
 induction ms with
 | nil=>intro _ _ _; exact ⟨(),fun p hp=>absurd hp List.not_mem_nil,[],[],fun b (h:b∈[])=>absurd h List.not_mem_nil,fun b (h:b∈[])=>absurd h List.not_mem_nil,.nil⟩
 | cons a ms ih=>
  intro hi lr h
  unfold sH at lr
  rw [Bool.and_eq_true] at lr
  cases hi with
  | cons h1 h2=>
   obtain ⟨x,hx,hl⟩:=ih h2 lr.2 fun b hb=>h b (List.mem_cons_of_mem _ hb)
   cases hb:ie a.j A with
   | false=>
    obtain ⟨v⟩:=h1.ne
    refine ⟨(v,x),?_,?_⟩
    ·simp only [rb,hb,cond_false]; exact hx
    ·simp only [tw,zt,hb,cond_false]; exact hl
   | true=>
    obtain ⟨v,e1,e2,_⟩:=h a (by simp) hb
    have es:xi a r=zp a (mF ms x):=by
     have h3:=lr.1
     rw [hb,cond_true,List.all_eq_true] at h3
     refine Ah fun t ht=>?_
     have h4:=h3 t ht
     cases hj:rH t ms with
     | none=>rw [hj] at h4; cases h4
     | some j=>rw [hj] at h4; unfold wT; rw [EH hj h4 hx]
    rw [es] at e1 e2
    refine ⟨(v,x),?_,?_⟩
    ·simp only [rb,hb,cond_true]
     intro p hp
     rcases List.mem_cons.1 hp with rfl | hp
     ·exact e1
     ·exact hx p hp
    ·simp only [tw,zt,hb,cond_true]; exact HV.app e2 hl
theorem LU {t j:Nat}:∀ {ms:MM},rH t ms=some j→∃ a∈ms,a.j=j∧a.d=t:=by
 intro ms
 induction ms with
 | nil=>intro h; cases h
 | cons a l ih=>
  intro h
  unfold rH at h
  cases hb:Nat.beq t a.d with
  | true=>rw [hb] at h; cases h; exact ⟨a,by simp,rfl,(Nat.eq_of_beq_eq_true hb).symm⟩
  | false=>rw [hb] at h; obtain ⟨b,h1,h2⟩:=ih h; exact ⟨b,List.mem_cons_of_mem _ h1,h2⟩
theorem Hs {mt i:Nat} {A:LN} (hA:A=(j7 l U mt).getD i []) {S':List fc} {sl:LQ} {ms:MM} {t:Nat} (hR:ir Z l S' sl ms) (hj:∃ j,rH t ms=some j∧ie j A=true):∃ j∈(bo l).getD i [],bm l j=some t:=by
 obtain ⟨j,h1,h2⟩:=hj
 obtain ⟨a,ha,rfl,rfl⟩:=LU h1
 exact hR.slot ha (qj (by rw [← hA]; exact n9.1 h2)).1
theorem zr {mt:Nat} {A:LN} {S' S2:List fc} {sl:LQ} {ms:MM} {g:Nat→List Nat} {r:NV} (hR:ir Z l S' sl ms) (hA:A=(j7 l U mt).getD S'.length []) (hi:rK ms) (lr:sH A ms=true) (hn:∀ j,rf l U mt S'.length j=true→tx l (S'++S2) j g r w) :
  ∃ x:qi ms,(∀ p∈rb A ms x,r p.1=p.2)∧HV Z w (tw A ms x) (zt A g ms):=
 UM hi lr fun a hm hb=>by
  exact hR.EM hm (hn a.j (qj (by rw [← hA]; exact n9.1 hb)).2)
theorem j6.mem {mt:Nat} {A:LN} {op:Op} {d:Nat} {ty:TI} {as:LL} {ops:LO} {i:Nat} {sl:LQ} {ms:MM} {r0:NV} {w0:World} {H:LN} {a:gu} (h:j6 P Z l mt U r0 w0 H i sl ms) (h1:rQ l mt U A op d ty as ops i) (haj:a.j=i) (had:a.d=d)
  (lr:∀ S',ir Z l S' sl ms→∀ t∈a.src,∃ j∈(bo l).getD i [],bm l j=some t)
  (hq:∀ S' S2,S'.length=i→ir Z l S' sl ms→∀ (g:Nat→List Nat) (r:NV) (w:World),av H w0 w→(∀ j∈(bo l).getD S'.length [],Old l (S'++S2) j r)→(∀ j,rf l U mt S'.length j=true→tx l (S'++S2) j g r w)→(∀ t,(∀ j,j < mt→bm l j≠some t)→r t=r0 t)→∀ pos ag,
   fk P ⟨some d,op,ty,pos,ag,none⟩ r w fun v w'=>av [] w w'∧∃ f,(∀ b∈f,w.heap.size≤b∧b < w'.heap.size)∧MV Z a f w' r v):j6 P Z l mt U r0 w0 H (i+1) sl (a :: ms):=by
 obtain ⟨S',hl,hR,hO⟩:=h
 subst hl
 subst had
 obtain ⟨hA,⟨pos,ag,ho⟩,_⟩:=h1
 refine ⟨S'++[⟨true,MV Z a⟩],by simp,hR.mem haj (by unfold bm; rw [ho]; rfl) (lr S' hR),fun j hj=>?_⟩
 by_cases h2:j < S'.length
 ·exact jb.more (hO j h2) h2
 ·obtain rfl:j=S'.length:=by omega
  exact jb.QP (V:=MV Z a) ho (by simp) rfl fun g r w hC hO hn ll=>hq S' _ rfl hR g r w hC hO hn ll pos ag
theorem ui.sub {ms za:MM} {a:gu} {t:Nat} (h:ui ms t a za):a∈ms∧a.d=t∧(∀ b∈za,b∈ms)∧(za.map (·.j)).Sublist (ms.map (·.j)):=by
 induction h with
 | here=>exact ⟨by simp,rfl,fun b hb=>List.mem_cons_of_mem _ hb,by simp⟩
 | there _ ih=>
  obtain ⟨h1,h2,h3,h4⟩:=ih
  refine ⟨List.mem_cons_of_mem _ h1,h2,fun b hb=>?_,by simpa using h4⟩
  rcases List.mem_cons.1 hb with rfl | hb
  ·simp
  ·exact List.mem_cons_of_mem _ (h3 b hb)
theorem ir.sub {S':List fc} {sl:LQ} {ms za:MM} (h:ir Z l S' sl ms) (hm:∀ b∈za,b∈ms) (hn:(za.map (·.j)).Sublist (ms.map (·.j))):ir Z l S' sl za:=⟨h.v,fun a ha=>h.m a (hm a ha),h.s,h.d.sublist hn,h.t⟩
theorem Pl {mt:Nat} {t e et:TI} {E:ai Int} {z0:Int} {bt t1 t2 j2 d2 i d:Nat} {k:IntKind} {y:Int} {xs:List Int} {a1:gu} {ms o9 EL:MM} {sl:LQ} {A:LN} {ty:TI} {as:LL} {ops:LO} {r0:NV} {w0:World} {H:LN} (hz:tk P t Int e E z0 bt) (h1:ui ms t1 a1 o9) (h2:ui o9 t2 ⟨j2,d2,[],Nat,fun _ b=>.slice (some ⟨b,0,none⟩) 1 1,fun _ b=>[.row b [.int k y] et]⟩ EL) (h3:∀ u v,a1.ps u v=[.own (aL e (aN k)) (a1.rt u v) xs]) (h4:ie a1.j A=true) (h5:ie j2 A=true) (h6:U.getD i []=[a1.j])
  (hf:fits bt (xs.length+1)=some ()) (EA:rQ l mt U A (.call ⟨.builtin .append,#[.tmp t1,.tmp t2],#[t,t]⟩) d ty as ops i) (h:j6 P Z l mt U r0 w0 H i sl ms) :
  j6 P Z l mt U r0 w0 H (i+1) sl (⟨i,d,[],Value,fun _ v=>v,fun _ v=>[.own (aL e (aN k)) v (xs++[y])]⟩ :: o9):=by
 obtain ⟨S',hl,hR,hO⟩:=h
 subst hl
 obtain ⟨hA,⟨pos,ag,ho⟩,_⟩:=EA
 obtain ⟨b1,b2⟩:=qt hf
 obtain ⟨q1,hE,i',z,q3,q4,q5,q6,q7,q8⟩:=hz.h
 obtain ⟨m1,m2,m3,m4⟩:=h1.sub
 obtain ⟨n1,n2,_,_⟩:=h2.sub
 refine ⟨S'++[⟨true,MV Z ⟨S'.length,d,[],Value,fun _ v=>v,fun _ v=>[.own (aL e (aN k)) v (xs++[y])]⟩⟩],by simp,(hR.sub m3 m4).mem rfl (by unfold bm; rw [ho]; rfl) (by intro t h; cases h),fun j hj=>?_⟩
 by_cases bh:j < S'.length
 ·exact jb.more (hO j bh) bh
 ·obtain rfl:j=S'.length:=by omega
  intro o' s' b9 dx g r w hC Dm l6 hn ll xl qc
  rw [ho] at b9
  cases b9
  rw [List.getElem?_append_right (Nat.le_refl _),Nat.sub_self] at dx
  cases dx
  rw [if_pos rfl]
  refine ⟨rfl,?_⟩
  have get:∀ a∈ms,ie a.j A=true→MV Z a (g a.j) w r (r a.d):=fun a hm hb=>by
   exact hR.EM hm (hn a.j (qj (by rw [← hA]; exact n9.1 hb)).2)
  obtain ⟨v1,c1,c2,c3⟩:=get a1 m1 h4
  obtain ⟨v2,f1,f2,f3⟩:=get _ (m3 _ n1) h5
  rw [h3,← c1,m2] at c2
  rw [m2] at c1
  simp only at f1 f2
  subst n2
  replace c2:=c2.own rfl
  replace f2:=f2.own rfl
  generalize Dd:g a1.j=G1 at c2 c3
  generalize po:g j2=G2 at f2 f3
  cases c2 with
  | fact h _=>exact h.elim
  | @own _ ff F0 _ LW yo=>
   cases yo
   rw [List.append_nil] at c3
   cases f2 with
   | fact h _=>exact h.elim
   | @own _ gg F0 _ bg yo=>
    cases yo
    obtain ⟨rfl,bg⟩:=bg
    have hb:ql g (U.getD S'.length [])=ff:=by rw [h6]; simp [ql,Dd]
    refine rh (fk.vG (E:=aN k) (F:=ff) q1 q3 q4 q5 rfl q6 (s:=.tmp t1) (x:=.tmp d2) rfl ⟨LW,c3⟩ (fun b hb=>hb) f1 bg ⟨rfl,rfl⟩ (by rw [q7]; exact b1) b2) ?_
    rintro v w' ⟨EN,f',vQ,hV⟩
    rw [hb]
    refine ⟨EN,f',vQ,v,rfl,?_,hV.2⟩
    have:=HL.own (Z:=fun _=>False) (e:=.own (aL e (aN k)) v (xs++[y])) (f:=f') hV.1 .nil
    exact .inl (by simpa using this)
theorem fk.Ag {α:Type} {E:ai α} {F f k:LN} {t e:TI} {s x:OO} {i:TypeInfo} {z:Value} {sv yv:Value} {xs ys:List α} {r:NV} {w:World} {d:Option Nat} {ty:TI} {pos:String} {ag:Array Edge} (QQ:∀ {h cs x f},E.rep h cs x f→f=[])
  (ht:P.underlying t=some (.slice e)) (hi:P.info? e=some i) (hz:i.zero=some z) (hs:i.size=1) (hE:E.size=1) (tT:z.oneCell'=true)
  (uT:ev r s=sv) (hO:CE (aL e E) xs f w sv) (hF:∀ b∈f,b∈F) (hx:ev r x=yv) (hy:(bT E).rep w.heap [yv] ys k)
  (hb:(xs.length+ys.length) * i.bytes≤140737488355328) (wV:xs.length+ys.length≤maxLen) :
  fk P ⟨d,.call ⟨.builtin .append,#[s,x],#[t,t]⟩,ty,pos,ag,none⟩ r w fun v w'=>av F w w'∧∃ f',(∀ b∈f',(b∈F∨w.heap.size≤b)∧b < w'.heap.size)∧CE (aL e E) (xs++ys) f' w' v:=by
 have rv:=Dn hy
 rcases Nat.eq_zero_or_pos ys.length with AK | AK
 ·obtain rfl:ys=[]:=List.eq_nil_of_length_eq_zero AK
  obtain ⟨b0,c0,ES⟩:=vE hy
  obtain ⟨base,cap,hv,hr⟩:=hO.1
  obtain rfl:sv = .slice base xs.length cap:=by simpa using hv
  have LX:xs.length≤cap:=by
   rcases hr with ⟨_,rfl,rfl,_⟩ | ⟨_,_,_,_,_,_,h,_⟩
   ·simp
   ·exact h
  have na:=xB (P:=P) (w:=w) (ty:=ty) ht hi (b:=base) (a:=b0) (c:=c0) LX
  subst ES
  have UN:(execOp (ev r) ⟨d,.call ⟨.builtin .append,#[s,x],#[t,t]⟩,ty,pos,ag,none⟩).run P w = .ok (.value (.slice base xs.length cap)) w:=by
   simp only [execOp,resolve,invoke,builtin,Sem.run_bind,Sem.run_pure,Result.andThen_ok,List.map_toArray,List.map_cons,List.map_nil,uT,hx,List.length_nil,na]
  unfold fk
  rw [UN]
  exact ⟨av.refl _ _,f,fun b hb=>⟨.inl (hF b hb),ai.lt _ hO.1 b hb⟩,by rw [List.append_nil]; exact hO⟩
 ·rcases rv with rfl | ⟨a,c,news,g1,ES,yp,du,_⟩
  ·simp at AK
  ·obtain ⟨rfl,_⟩:=zu (h':=w.heap) QQ du
   obtain ⟨v,w',f',h,hC,D4,dt,dp⟩:=pr (d:=d) (ty:=ty) (pos:=pos) (ag:=ag) (g:=none) ht hi hz (by rw [hs,hE]) (by rw [cells_one tT,hE]; rfl) uT hO.1 hO.2 (hx.trans ES) yp du (fun _ h=>nomatch h) AK hb wV
   unfold fk
   rw [h]
   refine ⟨hC.mono hF,f',fun b hb=>⟨?_,ai.lt _ D4 b hb⟩,D4,dp List.nodup_nil⟩
   rcases dt b hb with h | h | h
   ·exact .inl (hF b h)
   ·cases h
   ·exact .inr h
theorem uA {t:TI} {x y:OO} {i:TypeInfo} {b off:Nat} {cs us:LV} {e:TI} {r:NV} {d:Option Nat} {ty:TI} {pos:String} {ag:Array Edge} {gg:Option (Nat×Bool)}
  (hi:P.info? t=some i) (hs:us.length=i.size) (bg:Row w b cs e) (hl:off+us.length≤cs.length) (hx:ev r x = .pointer (some ⟨b,off,none⟩)) (hy:(ev r y).cells.toList=us) (hu:∀ u∈us,u.oneCell'=true) :
  (execOp (ev r) ⟨d,.store t x y,ty,pos,ag,gg⟩).run P w = .ok .skip (w.setRow b (cs.take off++us++cs.drop (off+us.length)).toArray):=by
 have h:=run_storeCells_at P b off e us 0 cs.toArray w bg (by simpa using hl) hu
 simp only [Nat.add_zero] at h
 have sy:(ev r y).cells=us.toArray:=by rw [← hy]
 simp only [execOp,Instr.storeAt,Instr.sureAddr,hx,storeVar]
 simp [sy,sizeOf,typeInfo,hi,hs,h]
theorem Pm {mt:Nat} {t e:TI} {t1 j1 n i:Nat} {y:OO} {u:Value} {us cs ds:LV} {ms o9:MM} {sl:LQ} {A:LN} {ty:TI} {as:LL} {ops:LO} {r0:NV} {w0:World} {H:LN} {Γ:QE} {F:LN} (hh:lu l mt base=true) (ha:c9 r0 base) (ht:vm P t n)
  (h1:ui ms t1 ⟨j1,t1,[],Nat,fun _ b=>.pointer (some ⟨b,0,none⟩),fun _ b=>[.row b cs e]⟩ o9) (hv:eL A none sl base fr) (hy:bp fr y=some u) (hc:rX Γ u us) (uN:us.length=n) (hs:sG us 0 cs ds) (ho:tZ Γ us) (h4:ie j1 A=true) (h6:U.getD i []=[j1])
  (hS:∀ w,av H w0 w→SA Z w Γ [] F) (EA:QO l mt U A (.store t (.tmp t1) y) ty as ops i) (h:j6 P Z l mt U r0 w0 H i sl ms) :
  j6 P Z l mt U r0 w0 H (i+1) sl (⟨i,t1,[],Nat,fun _ b=>.pointer (some ⟨b,0,none⟩),fun _ b=>[.row b ds e]⟩ :: o9):=by
 obtain ⟨S',hl,hR,hO⟩:=h
 subst hl
 obtain ⟨hA,⟨pos,ag,V6⟩,_⟩:=EA
 obtain ⟨ti,q1,q2⟩:=ht.h
 obtain ⟨m1,_,m3,m4⟩:=h1.sub
 have CF:=qj (by rw [← hA]; exact n9.1 h4)
 refine ⟨S'++[⟨true,JJ Z ⟨S'.length,t1,[],Nat,fun _ b=>.pointer (some ⟨b,0,none⟩),fun _ b=>[.row b ds e]⟩⟩],by simp,(hR.sub m3 m4).Xw (b:=⟨S'.length,t1,[],Nat,fun _ b=>.pointer (some ⟨b,0,none⟩),fun _ b=>[.row b ds e]⟩) rfl (by unfold bm; rw [V6]; rfl) (hR.slot m1 CF.1) rfl,fun j hj=>?_⟩
 by_cases bh:j < S'.length
 ·exact jb.more (hO j bh) bh
 ·obtain rfl:j=S'.length:=by omega
  intro o' s' b9 dx g r w hC Dm l6 hn ll xl qc
  rw [V6] at b9
  cases b9
  rw [List.getElem?_append_right (Nat.le_refl _),Nat.sub_self] at dx
  cases dx
  rw [if_pos rfl]
  refine ⟨rfl,?_⟩
  obtain ⟨b,c1,c2,c3⟩:=hR.EM m1 (hn j1 CF.2)
  simp only at c1 c2
  replace c2:=c2.own rfl
  generalize Dd:g j1=G1 at c2 c3
  cases c2 with
  | fact h _=>exact h.elim
  | @own _ ff F0 _ LW yo=>
   cases yo
   obtain ⟨rfl,bg⟩:=LW
   have hb:ql g (U.getD S'.length [])=[b]:=by rw [h6]; simp [ql,Dd]
   have hr:=qk hR hA hv (mb hh ha ll) l6
   obtain ⟨e1,e2⟩:=hs.eq
   have EC:=hS w hC
   have na:=uA (P:=P) (d:=none) (ty:=ty) (pos:=pos) (ag:=ag) (gg:=none) q1 (by rw [uN,q2]) bg e1 (x:=.tmp t1) c1 (y:=y) (by rw [bI hr hy]; exact hc.eq EC) (ho.one EC)
   unfold fk
   rw [na,hb]
   have tu:=setRow_heap w b cs.toArray (cs.take 0++us++cs.drop (0+us.length)).toArray e _ bg
   have Xx:b < w.heap.size:=bg.lt
   refine ⟨⟨rfl,rfl,rfl,Nat.le_refl _,by simp,fun j _ hj=>setRow_other w b j _ fun h=>hj (by simp [h])⟩,[b],fun b' cf=>?_,b,c1,?_,by simp⟩
   ·rw [List.mem_singleton.1 cf]
    exact ⟨.inl (by simp),by simpa using Xx⟩
   ·refine .inl (HL.own (f:=[b]) ⟨rfl,?_⟩ .nil)
    rw [e2]
    exact tu
theorem Pn {mt:Nat} {t i d:Nat} {cs:LV} {sl:LQ} {ms:MM} {A:LN} {ty:TI} {as:LL} {ops:LO} {r0:NV} {w0:World} {H:LN} (hz:AH P t cs) (h1:rQ l mt U A (.alloc t) d ty as ops i) (h:j6 P Z l mt U r0 w0 H i sl ms) :
   j6 P Z l mt U r0 w0 H (i+1) sl (⟨i,d,[],Nat,fun _ b=>.pointer (some ⟨b,0,none⟩),fun _ b=>[.row b cs t]⟩ :: ms):=by
 obtain ⟨i',z,t1,t2,t3⟩:=hz.h
 refine h.mem h1 rfl rfl (fun _ _ _ h=>nomatch h) fun S' S2 hl hR g r w hC l6 hn ll pos ag=>rh (fk.JM (cs:=cs) t1 t2 (by rw [← t3])) ?_
 rintro v w' ⟨hC,f,hf,b,e1,e2,bg⟩
 refine ⟨hC,f,hf,b,e2,?_,by rw [e1]; simp⟩
 have:=HL.own (Z:=fun _=>False) (e:=.row b cs t) (f:=[b]) ⟨rfl,bg⟩ .nil
 rw [e1]
 exact .inl (by simpa using this)
theorem j6.dep {mt t:Nat} {A:LN} {op:Op} {d:Nat} {ty:TI} {as:LL} {ops:LO} {i:Nat} {sl:LQ} {ms:MM} {r0:NV} {w0:World} {H:LN} {X:Value→Value} (h:j6 P Z l mt U r0 w0 H i sl ms) (h1:rQ l mt U A op d ty as ops i) (hi:rK ms) (lr:sH A ms=true) (hj:∃ j,rH t ms=some j∧ie j A=true)
  (hq:∀ (r:NV) (x:qi ms),(∀ p∈rb A ms x,r p.1=p.2)→∀ w pos ag,(execOp (ev r) ⟨some d,op,ty,pos,ag,none⟩).run P w = .ok (.value (X (r t))) w):j6 P Z l mt U r0 w0 H (i+1) sl (⟨i,d,[t],Unit,fun u _=>X u,fun _ _=>[]⟩ :: ms):=by
 refine h.mem h1 rfl rfl (fun S' hR t' ht=>by rw [List.mem_singleton.1 ht]; exact Hs h1.A hR hj) ?_
 intro S' S2 hl hR g r w hC l6 hn ll pos ag
 obtain ⟨x,hx,_⟩:=zr hR (by rw [hl]; exact h1.A) hi lr hn
 unfold fk
 rw [hq r x hx]
 exact ⟨av.refl _ _,[],fun b hb=>absurd hb List.not_mem_nil,(),rfl,.inl .nil,List.nodup_nil⟩
theorem Po {mt:Nat} {t:TI} {ps:List (Nat×Operand)} {zc:LV} {pl:List (Nat×Nat)} {A:LN} {as:LL} {d:Nat} {ty:TI} {ops:LO} {i:Nat} {sl:LQ} {ms:MM} {fr:Fr} {hd Γ:QE} {B:Bs} {r0:NV} {w0:World} {H:LN} {X:Value→List Value} {ts:LN} (hh:lu l mt base=true) (hb:zj P t zc pl) (hi:rK ms) (lr:sH A ms=true) (hj:V2 A ms ts=true) (hv:eL A none sl base fr)
   (hx:∀ x:qi ms,vt (tw A ms x++Γ) (rb A ms x++fr) pl ps zc (X (zo (wT (mF ms x)) ts))) (h1:rQ l mt U A (.build t ps.toArray) d ty as ops i) (ha:c9 r0 base) (hs:se B Z hd Γ H w0) (h:j6 P Z l mt U r0 w0 H i sl ms) :
   j6 P Z l mt U r0 w0 H (i+1) sl (⟨i,d,ts,Unit,fun u _=>.agg (X u).toArray,fun _ _=>[]⟩ :: ms):=by
 have V7:∀ t∈ts,∃ j,rH t ms=some j∧ie j A=true:=fun t ht=>by
  have:=List.all_eq_true.1 hj t ht
  cases hf:rH t ms with
  | none=>rw [hf] at this; cases this
  | some j=>rw [hf] at this; exact ⟨j,rfl,this⟩
 refine h.mem h1 rfl rfl (fun S' hR t' ht=>Hs h1.A hR (V7 t' ht)) ?_
 intro S' S2 hl hR g r w hC l6 hn ll pos ag
 have hA:=h1.A
 rw [← hl] at hA
 have hbs:=qk hR hA hv (mb hh ha ll) l6
 obtain ⟨x,V8,qm⟩:=zr hR hA hi lr hn
 obtain ⟨F,Hd,⟨zv,zw,uj,zx⟩,hS,hG⟩:=hs
 obtain ⟨G,_,_,_,jq⟩:=qm.front (se.stay hS hG hC)
 have e:zo (wT (mF ms x)) ts=zo r ts:=Ah fun t ht=>by
  obtain ⟨j,h2,h3⟩:=V7 t ht
  unfold wT
  rw [EH h2 h3 V8]
 have hF:=hx x
 rw [e] at hF
 have na:=(VQ.Oc (P:=P) (hb:=hb) hF).sound jq (vD V8 hbs) (some d) ty pos ag none w (av.refl _ _)
 unfold fk
 rw [na]
 exact ⟨av.refl _ _,[],fun b hb=>absurd hb List.not_mem_nil,(),rfl,.inl .nil,List.nodup_nil⟩
theorem Pp {mt:Nat} {α:Type} {t e:TI} {E:ai α} {z0:α} {bt i d:Nat} {sl:LQ} {ms:MM} {A:LN} {ty:TI} {as:LL} {ops:LO} {r0:NV} {w0:World} {H:LN} (hz:tk P t α e E z0 bt) (h1:rQ l mt U A (.buildSlice t 0 #[]) d ty as ops i) (h:j6 P Z l mt U r0 w0 H i sl ms) :
   j6 P Z l mt U r0 w0 H (i+1) sl (⟨i,d,[],Value,fun _ v=>v,fun _ v=>[.own (aL e E) v []]⟩ :: ms):=by
 obtain ⟨t1,_,i',z,t2,_⟩:=hz.h
 refine h.mem h1 rfl rfl (fun _ _ _ h=>nomatch h) fun S' S2 hl hR g r w hC l6 hn ll pos ag=>rh (fk.made (yq (E:=E) t1 t2)) ?_
 rintro v w' ⟨hC,f,hf,hV⟩
 refine ⟨hC,f,hf,v,rfl,?_,hV.2⟩
 have:=HL.own (Z:=fun _=>False) (e:=.own (aL e E) v []) (f:=f) hV.1 .nil
 exact .inl (by simpa using this)
theorem QR {mt n:Nat} {α:Type} {t e:TI} {E:ai α} {z0:α} {bt i d:Nat} {sl:LQ} {ms:MM} {A:LN} {ty:TI} {as:LL} {ops:LO} {r0:NV} {w0:World} {H:LN} {x:OO} {z:Int} (hh:lu l mt base=true) (ha:c9 r0 base) (hz:tk P t α e E z0 bt) (hv:eL A none sl base fr) (hx:bp fr x=some (.int .i64 z)) (hn:mk bt z=some n) (h1:rQ l mt U A (.makeSlice t x x) d ty as ops i) (h:j6 P Z l mt U r0 w0 H i sl ms) :
   j6 P Z l mt U r0 w0 H (i+1) sl (⟨i,d,[],Value,fun _ v=>v,fun _ v=>[.own (aL e E) v (List.replicate n z0)]⟩ :: ms):=by
 obtain ⟨e1,e2,e3⟩:=CC hn
 obtain ⟨t1,hE,i',z',t2,t3,t4,t5,t6,t7⟩:=hz.h
 subst e1
 refine h.mem h1 rfl rfl (fun _ _ _ h=>nomatch h) fun S' S2 hl hR g r w hC l6 hn ll pos ag=>?_
 have hb:=qk hR (by rw [hl]; exact h1.A) hv (mb hh ha ll) l6
 refine rh (fk.made (ET (E:=E) (z0:=z0) t1 t2 t3 t4 hE t5 t7 (bI hb hx) (bI hb hx) (by rw [t6]; exact e2) e3)) ?_
 rintro v w' ⟨hC,f,hf,hV⟩
 refine ⟨hC,f,hf,v,rfl,?_,hV.2⟩
 have:=HL.own (Z:=fun _=>False) (e:=.own (aL e E) v (List.replicate n z0)) (f:=f) hV.1 .nil
 exact .inl (by simpa using this)
theorem QS {mt:Nat} {α:Type} {t e:TI} {E:ai α} {z0:α} {bt i d:Nat} {sl:LQ} {ms:MM} {A:LN} {ty:TI} {as:LL} {ops:LO} {r0:NV} {w0:World} {H:LN} {x:OO} {u:Value} {Γ:QE} {F:LN} (hh:lu l mt base=true) (ha:c9 r0 base) (hz:tk P t α e E z0 bt) (hv:eL A none sl base fr) (hx:bp fr x=some u) (ho:One Γ u) (hS:∀ w,av H w0 w→SA Z w Γ [] F) (h1:rQ l mt U A (.buildSlice t 1 #[(0,x)]) d ty as ops i) (h:j6 P Z l mt U r0 w0 H i sl ms) :
   j6 P Z l mt U r0 w0 H (i+1) sl (⟨i,d,[],Nat,fun _ b=>.slice (some ⟨b,0,none⟩) 1 1,fun _ b=>[.row b [u] e]⟩ :: ms):=by
 obtain ⟨t1,hE,i',z',t2,t3,t4,t5,t6,t7⟩:=hz.h
 refine h.mem h1 rfl rfl (fun _ _ _ h=>nomatch h) fun S' S2 hl hR g r w hC l6 hn ll pos ag=>?_
 have hb:=qk hR (by rw [hl]; exact h1.A) hv (mb hh ha ll) l6
 refine rh (fk.Er t1 t2 t3 t4 (bI hb hx) (ho.one (hS w hC))) ?_
 rintro v w' ⟨hC,f,hf,b,e1,e2,bg⟩
 refine ⟨hC,f,hf,b,e2,?_,by rw [e1]; simp⟩
 have:=HL.own (Z:=fun _=>False) (e:=.row b [u] e) (f:=[b]) ⟨rfl,bg⟩ .nil
 rw [e1]
 exact .inl (by simpa using this)
theorem Ht {mt n:Nat} {t e:TI} {i d:Nat} {sl:LQ} {ms:MM} {A:LN} {ty:TI} {as:LL} {ops:LO} {r0:NV} {w0:World} {H:LN} {ps:List (Nat×Operand)} {us:LV} {Γ:QE} {F:LN} (hh:lu l mt base=true) (ha:c9 r0 base) (hz:El P t e) (hv:eL A none sl base fr) (hd:uc Γ fr 0 ps us) (hn:us.length=n) (hb:(Nat.ble 1 n && Nat.ble n 16777216)=true) (hS:∀ w,av H w0 w→SA Z w Γ [] F) (h1:rQ l mt U A (.buildSlice t n ps.toArray) d ty as ops i) (h:j6 P Z l mt U r0 w0 H i sl ms) :
   j6 P Z l mt U r0 w0 H (i+1) sl (⟨i,d,[],Nat,fun _ b=>.slice (some ⟨b,0,none⟩) n n,fun _ b=>[.row b us e]⟩ :: ms):=by
 refine h.mem h1 rfl rfl (fun _ _ _ h=>nomatch h) fun S' S2 hl hR g r w hC l6 hnn ll pos ag=>?_
 have cf:=qk hR (by rw [hl]; exact h1.A) hv (mb hh ha ll) l6
 unfold fk
 rw [hd.op cf (hS w hC) hz hn hb]
 refine ⟨av.alloc _ _ _,[w.heap.size],fun b hb=>by rw [List.mem_singleton.1 hb]; simp,w.heap.size,rfl,?_,by simp⟩
 have:=HL.own (Z:=fun _=>False) (e:=.row w.heap.size us e) (f:=[w.heap.size]) ⟨rfl,heap_alloc_new w _⟩ .nil
 exact .inl (by simpa using this)
theorem LY {mt:Nat} {β V:Type} {A:LN} {as:LL} {d:Nat} {f:FuncId} {xs:List Operand} {bd:Array TypeId} {ty:TI} {mo:Option β} {rt:β→V→List Value} {ps:β→V→List aw} {ops:LO} {i:Nat} {sl:LQ} {ms:MM} {fr:Fr} {hd Γ:QE} {B:Bs} {r0:NV} {w0:World} {H:LN} {y:β} (hh:lu l mt base=true) (hf:bu P f) (hv:eL A none sl base fr)
   (hc:∀ x:qi ms,Ii P f xs (rb A ms x++fr) (tw A ms x++Γ) mo rt ps) (hi:rK ms) (lr:sH A ms=true) (hw:∀ y v,sS (ps y v)=true) (h1:rQ l mt U A (.call ⟨.value (.func f),xs.toArray,bd⟩) d ty as ops i) (hy:mo=some y) (ha:c9 r0 base) (hs:se B Z hd Γ H w0) (h:j6 P Z l mt U r0 w0 H i sl ms) :
   Io P Z l mt U r0 w0 H i sl ms ⟨i,d,[],V,fun _ v=>sF (rt y v),fun _=>ps y⟩:=by
 obtain ⟨S',hl,hR,hO⟩:=h
 subst hl
 refine ⟨S',rfl,hR,hO,fun V' hV=>?_⟩
 obtain ⟨hA,⟨pos,ag,ho⟩,_⟩:=h1
 refine jb.QP (V:=V') ho (by simp) rfl fun g r w hC l6 hn ll=>?_
 have hb:=qk hR hA hv (mb hh ha ll) l6
 obtain ⟨x,hx,qm⟩:=zr hR hA hi lr hn
 obtain ⟨JO,Dp,hd,hr⟩:=hc x
 obtain ⟨fn,c,f1,f2,f3⟩:=hf.h
 refine Calls.Ic f1 f2 f3 ?_
 rw [tW (vD hx hb) JO]
 obtain ⟨F,Hd,⟨zv,zw,uj,zx⟩,hS,hG⟩:=hs
 obtain ⟨G,nj,FV,EU,jq⟩:=qm.front (se.stay hS hG hC)
 rw [uz] at Dp
 refine (Dp.2 w (fun b=>Z b∨b∈G) [] (hr.sound (fun _ h=>h) (fun _ b hb=>.inr (EU b hb)) jq hd.ho) List.nodup_nil (fun b hb=>absurd hb List.not_mem_nil)
  (fun b hb=>hb.elim (fun h=>Nat.lt_of_lt_of_le (hG.rV b h) hC.size) fun h=>(nj b h).2) y hy).mono ?_
 rintro e w' ⟨v,he,Z2,F2,uP,po⟩
 have Dq:HL (fun _=>False) w' (ps y v) F2:=BN (hw y v) uP
 have bh:=(Dq.front (Γ:=[]) (F:=[]) rfl).lt
 obtain ⟨f',dt,JP⟩:=hV F2 w' r _ ⟨v,rfl,.inl Dq,po.nd⟩
 refine ⟨_,he,po.lj,f',fun b hb=>⟨(po.low b (dt b hb)).resolve_left List.not_mem_nil,bh b (by simpa using dt b hb)⟩,JP⟩
theorem EV {A:LN} {g:Nat→List Nat} {b:Nat}:∀ {ms:MM},b∈zt A g ms→∃ a∈ms,ie a.j A=true∧b∈g a.j:=by
 intro ms
 induction ms with
 | nil=>intro h; exact absurd h List.not_mem_nil
 | cons a l ih=>
  intro h
  unfold zt at h
  cases hb:ie a.j A with
  | true=>
   rw [hb] at h
   rcases List.mem_append.1 h with h | h
   ·exact ⟨a,by simp,hb,h⟩
   ·obtain ⟨c,h1,h2⟩:=ih h; exact ⟨c,List.mem_cons_of_mem _ h1,h2⟩
  | false=>rw [hb] at h; obtain ⟨c,h1,h2⟩:=ih h; exact ⟨c,List.mem_cons_of_mem _ h1,h2⟩
theorem EW {mt i:Nat} (h:((U.set i []).all fun us=>!(us.contains l.length))=true):uB l U mt i=true:=by
 unfold uB
 simp only [List.all_eq_true,List.mem_range,Bool.or_eq_true,Bool.not_eq_true'] at h ⊢
 intro k _
 by_cases hk:k=i
 ·exact .inl (.inr (by rw [hk]; exact Nat.beq_refl i))
 ·refine .inl (.inl ?_)
  rw [List.getD_eq_getElem?_getD]
  cases hu:U[k]? with
  | none=>rfl
  | some us=>exact h us (List.mem_of_getElem? (i:=k) (by rw [List.getElem?_set_ne (fun e=>hk e.symm)]; exact hu))
theorem HO.mono {Z':Nat→Prop} (hz:∀ b,Z b→Z' b) {Δ:QE} {F:LN} (h:HO Z w Δ F):HO Z' w Δ F:=by
 induction h with
 | nil=>exact .nil
 | own h _ ih=>exact .own (h.mono hz) ih
 | rd _ ih=>exact .rd ih
 | bd _ ih=>exact .bd ih
theorem JR {mt:Nat} {β V:Type} {A:LN} {as:LL} {d:Nat} {f:FuncId} {xs:List Operand} {bd:Array TypeId} {ty:TI} {mo:Option β} {rt:β→V→List Value} {ps:β→V→List aw} {ops:LO} {i:Nat} {sl:LQ} {ms:MM} {fr:Fr} {hd Γ:QE} {B:Bs} {r0:NV} {w0:World} {H:LN} {y:β} (hh:lu l mt base=true) (hf:bu P f) (hv:eL A none sl base fr)
   (hU:U.getD i []=[l.length]) (JS:((U.set i []).all fun us=>!(us.contains l.length))=true)
   (hc:∀ x:qi ms,BQ P f xs (rb A ms x++fr) hd (tw A ms x++Γ) mo rt ps) (hi:rK ms) (lr:sH A ms=true) (hw:∀ y v,sS (ps y v)=true) (h1:rQ l mt U A (.call ⟨.value (.func f),xs.toArray,bd⟩) d ty as ops i) (hy:mo=some y) (ha:c9 r0 base) (hs:se B Z hd Γ H w0) (h:j6 P Z l mt U r0 w0 H i sl ms) :
   Io P Z l mt U r0 w0 H i sl ms ⟨i,d,[],V,fun _ v=>sF (rt y v),fun _=>ps y⟩:=by
 obtain ⟨S',hl,hR,hO⟩:=h
 subst hl
 refine ⟨S',rfl,hR,hO,fun V' hV=>?_⟩
 obtain ⟨hA,⟨pos,ag,ho⟩,_⟩:=h1
 intro o' s' b9 dx g r w hC Dm l6 hn ll xl qc
 rw [ho] at b9
 cases b9
 rw [List.getElem?_append_right (Nat.le_refl _),Nat.sub_self] at dx
 cases dx
 rw [if_pos rfl]
 refine ⟨rfl,?_⟩
 obtain ⟨QT,QU,QV⟩:=Dm (EW JS)
 have hb:=qk hR hA hv (mb hh ha ll) l6
 obtain ⟨x,hx,qm⟩:=zr hR hA hi lr hn
 obtain ⟨JO,Dp,QW,hr⟩:=hc x
 obtain ⟨fn,c,f1,f2,f3⟩:=hf.h
 refine Calls.Ic f1 f2 f3 ?_
 rw [tW (vD hx hb) JO]
 obtain ⟨F,Hd,⟨zv,zw,uj,zx⟩,hS,hG⟩:=hs
 obtain ⟨G,nj,FV,EU,jq⟩:=qm.front (se.stay hS hG hC)
 obtain ⟨Fd,F',QY,_,EX⟩:=QW.sound (zv.lp QT)
 have dt:∀ b∈Fd,b∈H:=fun b hb=>(zw b (EX.mem_iff.1 (List.mem_append_left _ hb))).1
 have dp:=List.nodup_append.1 hG.nd
 have hblk:ql g (U.getD S'.length [])=H:=by rw [hU]; simp [ql,QU]
 rw [hblk]
 rw [uz] at Dp
 refine (Dp.2 w (fun b=>Z b∨b∈G) Fd (hr.sound (fun _ h=>h) (fun _ b hb=>.inr (EU b hb)) jq (QY.mono fun _ h=>.inl h)) ((EX.nodup_iff.2 zx).sublist (List.sublist_append_left _ _)) (fun b hb=>?_)
  (fun b hb=>hb.elim (fun h=>Nat.lt_of_lt_of_le (hG.rV b h) hC.size) fun h=>(nj b h).2) y hy).mono ?_
 ·rintro (hz | hz)
  ·exact hG.apart b (List.mem_append_left _ (dt b hb)) hz
  ·rcases List.mem_append.1 (nj b hz).1 with hz | hz
   ·obtain ⟨a,V9,uU,uQ⟩:=EV hz
    have h2:=QV a.j (qj (by rw [← hA]; exact n9.1 uU)).1 b uQ
    have h3:=uj b (dt b hb)
    omega
   ·exact dp.2.2 b (dt b hb) b hz rfl
 ·rintro e w' ⟨v,he,Z2,F2,uP,po⟩
  have Dq:HL (fun _=>False) w' (ps y v) F2:=BN (hw y v) uP
  have bh:=(Dq.front (Γ:=[]) (F:=[]) rfl).lt
  obtain ⟨f',JT,JP⟩:=hV F2 w' r _ ⟨v,rfl,.inl Dq,po.nd⟩
  exact ⟨_,he,po.lj.mono dt,f',fun b hb=>⟨(po.low b (JT b hb)).imp (dt b) id,bh b (by simpa using JT b hb)⟩,JP⟩
theorem Bd.sub {ms za:MM} {a:gu} {t:Nat} (h:Bd ms t a za):a∈ms∧a.j=t∧(∀ b∈za,b∈ms)∧(za.map (·.j)).Sublist (ms.map (·.j))∧((ms.map (·.j)).Nodup→∀ b∈za,b.j≠t):=by
 induction h with
 | here=>exact ⟨by simp,rfl,fun b hb=>List.mem_cons_of_mem _ hb,by simp,fun hn b hb he=>by rw [List.map_cons,List.nodup_cons] at hn; exact hn.1 (by rw [← he]; exact List.mem_map_of_mem hb)⟩
 | there _ ih=>
  obtain ⟨h1,h2,h3,h4,h5⟩:=ih
  refine ⟨List.mem_cons_of_mem _ h1,h2,fun b hb=>?_,by simpa using h4,fun hn b hb=>?_⟩
  ·rcases List.mem_cons.1 hb with rfl | hb
   ·simp
   ·exact List.mem_cons_of_mem _ (h3 b hb)
  ·rw [List.map_cons,List.nodup_cons] at hn
   rcases List.mem_cons.1 hb with rfl | hb
   ·intro he
    exact hn.1 (by rw [he,← h2]; exact List.mem_map_of_mem h1)
   ·exact h5 hn.2 b hb
theorem JU {mt:Nat} {β V:Type} {j1:Nat} {a1:gu} {A:LN} {as:LL} {d:Nat} {f:FuncId} {xs:List Operand} {bd:Array TypeId} {ty:TI} {mo:Option β} {rt:β→V→List Value} {ps:β→V→List aw} {ops:LO} {i:Nat} {sl:LQ} {ms o9:MM} {fr:Fr} {hd Γ:QE} {B:Bs} {r0:NV} {w0:World} {H:LN} {y:β} (hh:lu l mt base=true) (hf:bu P f) (hv:eL A none sl base fr)
   (hU:U.getD i []=[j1]) (Dd:Bd ms j1 a1 o9) (Og:a1.src=[]) (h4:ie j1 A=true)
   (hc:∀ (q:a1.V) (x:qi o9),BQ P f xs (rb A o9 x++fr) (a1.ps undef q) (tw A o9 x++Γ) mo rt ps) (hi:rK o9) (lr:sH A o9=true) (hw:∀ y v,sS (ps y v)=true) (h1:rQ l mt U A (.call ⟨.value (.func f),xs.toArray,bd⟩) d ty as ops i) (hy:mo=some y) (ha:c9 r0 base) (hs:se B Z hd Γ H w0) (h:j6 P Z l mt U r0 w0 H i sl ms) :
   Io P Z l mt U r0 w0 H i sl o9 ⟨i,d,[],V,fun _ v=>sF (rt y v),fun _=>ps y⟩:=by
 obtain ⟨S',hl,QZ,hO⟩:=h
 subst hl
 obtain ⟨m1,m2,m3,m4,m5⟩:=Dd.sub
 have hR:=QZ.sub m3 m4
 refine ⟨S',rfl,hR,hO,fun V' hV=>?_⟩
 obtain ⟨hA,⟨pos,ag,ho⟩,_⟩:=h1
 intro o' s' b9 dx g r w hC Dm l6 hn ll xl qc
 rw [ho] at b9
 cases b9
 rw [List.getElem?_append_right (Nat.le_refl _),Nat.sub_self] at dx
 cases dx
 rw [if_pos rfl]
 refine ⟨rfl,?_⟩
 have CF:=qj (by rw [← hA]; exact n9.1 h4)
 have hb:=qk hR hA hv (mb hh ha ll) l6
 obtain ⟨x,hx,qm⟩:=zr hR hA hi lr hn
 obtain ⟨q,_,Hu,Wd⟩:=QZ.EM m1 (hn a1.j (by rw [m2]; exact CF.2))
 have uT:xi a1 r=undef:=by unfold xi; rw [Og]; rfl
 rw [uT,m2] at Hu
 rw [m2] at Wd
 obtain ⟨JO,Dp,QW,hr⟩:=hc q x
 obtain ⟨fn,c,f1,f2,f3⟩:=hf.h
 refine Calls.Ic f1 f2 f3 ?_
 rw [tW (vD hx hb) JO]
 obtain ⟨F,Hd,⟨zv,zw,uj,zx⟩,hS,hG⟩:=hs
 have hSt:=se.stay hS hG hC
 obtain ⟨G,nj,FV,EU,jq⟩:=qm.front hSt
 obtain ⟨Fo,Fr,We,hFr,hq4⟩:=Hu.all
 have hSq:SA (fun b=>Z b∨b∈Fr) w (a1.ps undef q) [] Fo:=by
  have:=hq4.front (Γ:=[]) (F:=[]) rfl
  simpa using this
 have Wh:=List.nodup_append.1 (We ▸ Wd)
 obtain ⟨Fd,F',QY,_,EX⟩:=QW.sound hSq
 have Oh:∀ b∈Fd,b∈Fo:=fun b hb=>EX.mem_iff.1 (List.mem_append_left _ hb)
 have dt:∀ b∈Fd,b∈g j1:=fun b hb=>by rw [We]; exact List.mem_append_left _ (Oh b hb)
 have dp:=List.nodup_append.1 hG.nd
 have hblk:ql g (U.getD S'.length [])=g j1:=by rw [hU]; simp [ql]
 rw [hblk]
 rw [uz] at Dp
 have Hv:∀ b∈g j1,w0.heap.size≤b∨b∈H:=fun b hb=>(qc j1 CF.1 b hb).1
 refine (Dp.2 w (fun b=>Z b∨b∈Fr++G) Fd (hr.sound (fun _ h=>h) (fun _ b hb=>.inr (List.mem_append_right _ (EU b hb))) (jq.mono (fun _ h=>h.imp id fun h=>List.mem_append_right _ h) fun _ h=>h) (QY.mono fun _ h=>h.imp id fun h=>List.mem_append_left _ h)) ((EX.nodup_iff.2 Wh.1).sublist (List.sublist_append_left _ _)) (fun b hb=>?_)
  (fun b hb=>hb.elim (fun h=>Nat.lt_of_lt_of_le (hG.rV b h) hC.size) fun h=>(List.mem_append.1 h).elim (hFr b) fun h=>(nj b h).2) y hy).mono ?_
 ·rintro (hz | hz)
  ·rcases Hv b (dt b hb) with h | h
   ·have:=hG.rV b hz; omega
   ·exact hG.apart b (List.mem_append_left _ h) hz
  ·rcases List.mem_append.1 hz with hz | hz
   ·exact Wh.2.2 b (Oh b hb) b hz rfl
   rcases List.mem_append.1 (nj b hz).1 with hz | hz
   ·obtain ⟨a,V9,uU,uQ⟩:=EV hz
    exact xl a.j (qj (by rw [← hA]; exact n9.1 uU)).1 j1 CF.1 (m5 QZ.d a V9) b uQ (dt b hb)
   ·rcases Hv b (dt b hb) with h | h
    ·have:=hS.lt b hz; omega
    ·exact dp.2.2 b h b hz rfl
 ·rintro e w' ⟨v,he,Z2,F2,uP,po⟩
  have Dq:HL (fun _=>False) w' (ps y v) F2:=BN (hw y v) uP
  have bh:=(Dq.front (Γ:=[]) (F:=[]) rfl).lt
  obtain ⟨f',JT,JP⟩:=hV F2 w' r _ ⟨v,rfl,.inl Dq,po.nd⟩
  exact ⟨_,he,po.lj.mono dt,f',fun b hb=>⟨(po.low b (JT b hb)).imp (dt b) id,bh b (by simpa using JT b hb)⟩,JP⟩
theorem SA.app {Γ Γ':QE} {F F':LN}:∀ {cur:LN},SA Z w Γ' cur F'→SA Z w Γ [] F→SA Z w (Γ'++Γ) cur (F'++F):=by
 induction Γ' generalizing F' with
 | nil=>intro cur h hs; cases h; exact hs.any
 | cons e Γ' ih=>
  intro cur h hs
  cases e with
  | own T v x=>obtain ⟨f,F1,rfl,h1,h2⟩:=h; exact ⟨f,F1++F,by rw [List.append_assoc],h1,ih h2 hs⟩
  | om e E v xs=>obtain ⟨f,F1,rfl,h1,h2⟩:=h; exact ⟨f,F1++F,by rw [List.append_assoc],h1,ih h2 hs⟩
  | row b cs e=>obtain ⟨f,F1,rfl,h1,h2⟩:=h; exact ⟨f,F1++F,by rw [List.append_assoc],h1,ih h2 hs⟩
  | fy e E v xs j u=>obtain ⟨f,F1,rfl,h1,h2⟩:=h; exact ⟨f,F1++F,by rw [List.append_assoc],h1,ih h2 hs⟩
  | rd o T v x=>exact ⟨h.1,ih h.2 hs⟩
  | ad o1 o2 v j T x=>exact ⟨h.1,ih h.2 hs⟩
  | bd p cs=>exact ⟨h.1,ih h.2 hs⟩
  | hd v j u=>exact ⟨h.1,ih h.2 hs⟩
theorem j6.Xy {mt:Nat} {A:LN} {op:Op} {d:Nat} {ty:TI} {as:LL} {ops:LO} {i:Nat} {sl:LQ} {ms:MM} {r0:NV} {w0:World} {H:LN} {u:Value} (h:j6 P Z l mt U r0 w0 H i sl ms) (hh:lu l mt base=true) (ha:c9 r0 base) (h1:rQ l mt U A op d ty as ops i)
  (hV:(U.zipIdx.all fun p=>!(p.1.contains l.length) || ((bo l).getD p.2 []).contains i)=true) (hv:eL A none sl base fr) (hq:∀ r,c9 r fr→∀ pos ag g w,av [] w0 w→(execOp (ev r) ⟨some d,op,ty,pos,ag,g⟩).run P w = .ok (.value u) w):j6 P Z l mt U r0 w0 H (i+1) ((i,d,u) :: sl) ms:=by
 obtain ⟨S',hl,hR,hO⟩:=h
 subst hl
 obtain ⟨hA,⟨pos,ag,ho⟩,_⟩:=h1
 refine ⟨S'++[sV u],by simp,hR.val (by unfold bm; rw [ho]; rfl),fun j hj=>?_⟩
 by_cases h2:j < S'.length
 ·exact jb.more (hO j h2) h2
 ·obtain rfl:j=S'.length:=by omega
  have hN:uB l U mt S'.length=true:=by
   unfold uB
   simp only [List.all_eq_true,List.mem_range,Bool.or_eq_true,Bool.not_eq_true'] at hV ⊢
   intro k _
   rw [List.getD_eq_getElem?_getD]
   cases hu:U[k]? with
   | none=>exact .inl (.inl rfl)
   | some us=>
    have hm:(us,k)∈U.zipIdx:=by rw [List.mem_zipIdx_iff_getElem?]; exact hu
    exact (hV _ hm).imp .inl id
  intro o' s' b9 dx g r w hC Dm l6 hn ll xl qc
  rw [ho] at b9
  cases b9
  rw [List.getElem?_append_right (Nat.le_refl _),Nat.sub_self] at dx
  cases dx
  rw [if_pos rfl]
  refine ⟨rfl,?_⟩
  unfold fk
  rw [hq r (qk hR hA hv (mb hh ha ll) l6) _ _ _ w (Dm hN).1]
  exact ⟨av.refl _ _,[],fun b hb=>absurd hb List.not_mem_nil,rfl⟩
theorem Pq {mt:Nat} {hd iz:QE} {α:Type} {t e e' et:TI} {E E':ai α} {z0:α} {bt t1 t2 j2:Nat} {v u yv:Value} {j:Int} {y:α} {z:List α} {xs:List (List α)} {o1 o2:Bool} {Γx:QE} {EL:MM} {A:LN} {as:LL} {d:Nat} {ty:TI} {ops:LO} {i:Nat} {sl:LQ} {ms:MM} {Γ:QE} {B:Bs} {r0:NV} {w0:World} {H:LN} (hh:lu l mt base=true) (ha:c9 r0 base) (hT:tk P t α e E z0 bt) (hU:U.getD i []=[l.length])
   (JS:((U.set i []).all fun us=>!(us.contains l.length))=true) (hv:eL A none sl base fr) (hs:look fr t1=some u) (h2:ui ms t2 ⟨j2,t2,[],Nat,fun _ b=>.slice (some ⟨b,0,none⟩) 1 1,fun _ b=>[.row b [yv] et]⟩ EL) (h5:ie j2 A=true) (hl:Loc hd u (.row v j)) (hz:qf hd u o1 o2 E' z tf Γx) (h1:ed hd (.own (aL e' (aL e E)) v xs) iz) (hr:RT (aL e E) (bT E')) (hy:AI [] E yv y [])
   (hf:fits bt (z.length+1)=some ()) (EA:rQ l mt U A (.call ⟨.builtin .append,#[.tmp t1,.tmp t2],#[t,t]⟩) d ty as ops i) (sx:se B Z hd Γ H w0) (h:j6 P Z l mt U r0 w0 H i sl ms) :
  j6 P Z l mt U r0 w0 H (i+1) sl (⟨i,d,[],Value,fun _ v'=>v',fun _ v'=>[.own (aL e E) v' (z++[y]),.own (tv e' (aL e E) j.toNat) v xs]⟩ :: ms)∧se B Z iz Γ H w0:=by
 obtain ⟨F,Hd,⟨zv,zw,uj,zx⟩,hS,hG⟩:=sx
 obtain ⟨fm0,F10,Q0,_,Xz⟩:=h1.sound zv
 refine ⟨?_,F,F10,⟨Xz,fun b hb=>zw b (Q0.mem_iff.1 (List.mem_append_right _ hb)),uj,(Q0.nodup_iff.2 zx).sublist (List.sublist_append_right _ _)⟩,hS,hG⟩
 obtain ⟨S',BO,hR,hO⟩:=h
 subst BO
 obtain ⟨hA,⟨pos,ag,ho⟩,_⟩:=EA
 obtain ⟨b1,b2⟩:=qt hf
 obtain ⟨q1,q2,ii,zz,q3,q4,q5,q6,q7,_⟩:=hT.h
 obtain ⟨n1,_,_,_⟩:=h2.sub
 refine ⟨S'++[⟨true,MV Z ⟨S'.length,d,[],Value,fun _ v'=>v',fun _ v'=>[.own (aL e E) v' (z++[y]),.own (tv e' (aL e E) j.toNat) v xs]⟩⟩],by simp,hR.mem rfl (by unfold bm; rw [ho]; rfl) (by intro t h; cases h),fun k hk=>?_⟩
 by_cases bh:k < S'.length
 ·exact jb.more (hO k bh) bh
 ·obtain rfl:k=S'.length:=by omega
  intro o' s' b9 dx g r w hC Dm l6 hn ll xl qc
  rw [ho] at b9
  cases b9
  rw [List.getElem?_append_right (Nat.le_refl _),Nat.sub_self] at dx
  cases dx
  rw [if_pos rfl]
  refine ⟨rfl,?_⟩
  obtain ⟨QT,QU,QV⟩:=Dm (EW JS)
  have Q1:=zv.lp QT
  obtain ⟨j0,j1,kj⟩:=Loc.row hl rfl Q1
  obtain ⟨dh,_,⟨⟨gz,tj,_⟩,_⟩,_⟩:=hz.sound Q1
  obtain ⟨fm,F1,sX,Wi,_⟩:=h1.sound Q1
  obtain ⟨ky,F2,qg,Q2,_⟩:=hy.sound (Z:=Z) (w:=w) (F:=[]) rfl
  have Dr:ky=[]:=by
   cases ky with
   | nil=>rfl
   | cons a l=>exact absurd (qg.mem_iff.1 (List.mem_append_left _ List.mem_cons_self)) List.not_mem_nil
  subst Dr
  rw [ue Wi] at j1
  obtain ⟨k,gm,a1,a2,a3⟩:=EG rfl Wi (List.getElem?_eq_getElem j1) kj
  have Q3:xs[j.toNat]=z:=hr.uL (hr.le.le a1) tj
  rw [Q3] at a1
  have XA:(k++gm).Nodup:=a2.nodup_iff.2 ((sX.nodup_iff.2 zx).sublist (List.sublist_append_left _ _))
  have Ew:=List.nodup_append.1 XA
  have Ip:∀ b∈k++gm,b∈H:=fun b hb=>(zw b (sX.mem_iff.1 (List.mem_append_left _ (a2.mem_iff.1 hb)))).1
  obtain ⟨b,c1,c2,c3⟩:=hR.EM n1 (hn j2 (qj (by rw [← hA]; exact n9.1 h5)).2)
  simp only at c1 c2
  replace c2:=c2.own rfl
  generalize Dd:g j2=G1 at c2 c3
  cases c2 with
  | fact h _=>exact h.elim
  | @own _ ff F0 _ UO yo=>
   cases yo
   obtain ⟨rfl,bg⟩:=UO
   have hb:=qk hR hA hv (mb hh ha ll) l6
   obtain ⟨v',w',f',na,EN,du,dt,EY⟩:=pr (E:=E) (d:=some d) (ty:=ty) (pos:=pos) (ag:=ag) (g:=none) (r:=r) (s:=.tmp t1) (x:=.tmp t2) (k:=[]) (ys:=[y]) (news:=[yv]) q1 q3 q4 (by rw [q5,q2]) (by rw [cells_one q6,q2]; rfl) (hb _ _ hs) a1 Ew.1 c1 (fun i u hi=>bg.at i u hi) (rD Q2) (fun _ h=>absurd h List.not_mem_nil) (by simp) (by rw [q7]; exact b1) b2
   unfold fk
   rw [na]
   have hblk:ql g (U.getD S'.length [])=H:=by rw [hU]; simp [ql,QU]
   rw [hblk]
   have Wj:(tv e' (aL e E) j.toNat).rep w'.heap [v] xs gm:=ai.ee _ a3 EN fun b hb hk=>Ew.2.2 b hk b hb rfl
   refine ⟨EN.mono fun b hb=>Ip b (List.mem_append_left _ hb),f'++gm,fun b hb=>?_,v',rfl,?_,?_⟩
   ·rcases List.mem_append.1 hb with hb | hb
    ·refine ⟨?_,ai.lt _ du b hb⟩
     rcases dt b hb with h | h | h
     ·exact .inl (Ip b (List.mem_append_left _ h))
     ·exact absurd h List.not_mem_nil
     ·exact .inr h
    ·exact ⟨.inl (Ip b (List.mem_append_right _ hb)),ai.lt _ Wj b hb⟩
   ·have:=HL.own (Z:=fun _=>False) (e:=.own (aL e E) v' (z++[y])) (f:=f') du (HL.own (e:=.own (tv e' (aL e E) j.toNat) v xs) (f:=gm) Wj .nil)
    exact .inl (by simpa using this)
   ·refine wW (EY List.nodup_nil) Ew.2.1 fun b hb hm=>?_
    rcases dt b hb with h | h | h
    ·exact Ew.2.2 b h b hm rfl
    ·exact absurd h List.not_mem_nil
    ·have:=ai.lt _ a3 b hm; omega
end
end Go.Dk
namespace Go.Dk
open Go Go.Li
section
variable {R S:Type} {P:Program} {cx:Cx R} {K:df R S} {l tail:LO} {base fr:Fr} {U:LL} {hd:QE}
def EZ (P:Program) (cx:Cx R) (K:df R S) (l l0:LO) (mt:Nat) (U:LL) (hd:QE) (id:Nat) (base:Fr):JA R S→Prop
 | .a as ops i sl ms Γ m=>vh l mt U as ops i→Fin P cx K l l0 mt U hd id base i sl ms Γ m
 | .o A op d ty as ops i sl ms Γ m=>rQ l mt U A op d ty as ops i→Fin P cx K l l0 mt U hd id base i sl ms Γ m
 | .oc us f xs bd A d ty as ops i sl ms Γ m=>U.getD i []=us→rQ l mt U A (.call ⟨.value (.func f),xs.toArray,bd⟩) d ty as ops i→Fin P cx K l l0 mt U hd id base i sl ms Γ m
 | .os A op ty as ops i sl ms Γ m=>QO l mt U A op ty as ops i→Fin P cx K l l0 mt U hd id base i sl ms Γ m
 | .ow _ A op d ty as ops i sl ms Γ m=>rQ l mt U A op d ty as ops i→Fin P cx K l l0 mt U hd id base i sl ms Γ m
 | .ix _ v fr x y t A d ty as ops i sl ms Γ m=>eL A none sl base fr→bp fr x=some v→rQ l mt U A (.indexAddr t x y) d ty as ops i→Fin P cx K l l0 mt U hd id base i sl ms Γ m
 | .lb _ v j fr t x A d ty as ops i sl ms Γ m=>eL A none sl base fr→bp fr x=some (.pointer (some (cq v 1 j)))→NA P t→rQ l mt U A (.load t x) d ty as ops i→Fin P cx K l l0 mt U hd id base i sl ms Γ m
 | .ap us t1 t2 t A d ty as ops i sl ms Γ m=>U.getD i []=us→rQ l mt U A (.call ⟨.builtin .append,#[.tmp t1,.tmp t2],#[t,t]⟩) d ty as ops i→Fin P cx K l l0 mt U hd id base i sl ms Γ m
 | .la fr a lk t x A d ty as ops i sl ms Γ m=>eL A none sl base fr→bp fr x=some (.pointer (some a))→(match lk with | none=>NA P t | some n=>AG P t n)→rQ l mt U A (.load t x) d ty as ops i→Fin P cx K l l0 mt U hd id base i sl ms Γ m
 | .ld E z fr a t x A d ty as ops i sl ms Γ m=>eL A none sl base fr→bp fr x=some (.pointer (some a))→NA P t→rQ l mt U A (.load t x) d ty as ops i→
   ∀ B o,m=some o→∀ r0 w0 H Z,c9 r0 base→se B Z hd Γ H w0→(∃ u,∀ w,av H w0 w→w.cell? a=some u∧∃ g,E.rep w.heap [u] z g)→j6 P Z l mt U r0 w0 H i sl ms→mh P cx.n l0 (kz P cx B K o) r0 w0
 | .p Δ as ops i sl ms Γ m=>vh l mt U as ops i→Fin P cx K l l0 mt U hd id base i sl ms (Δ.reverse++Γ) m
 | .cr u ps d as ops i sl ms Γ m=>vh l mt U as ops (i+1)→bm l i=some d→
   ∀ B o,m=some o→∀ r0 w0 H Z,c9 r0 base→se B Z hd Γ H w0→Io P Z l mt U r0 w0 H i sl ms ⟨i,d,[],_,fun _=>u,fun _=>ps⟩→mh P cx.n l0 (kz P cx B K o) r0 w0
theorem wX {w:World} {e n:Nat} {v:Value} {us:List (List Value)} {f:LN} {j:Int} {c:LV} (hO:(aL e (ja n)).rep w.heap [v] us f) (hj:0≤j) (hu:us[j.toNat]? = some c):c.length=n∧(∀ u∈c,u.oneCell'=true)∧∀ i u,c[i]? = some u→w.cell? ((cq v n j).add i)=some u:=by
 obtain ⟨_,_,cs,f1,⟨rfl,h1,h2,_⟩,_,h3⟩:=uh (((Le.own (Le.refl (ja n)) e).le) hO) j hj hu
 exact ⟨h1,h2,h3⟩
theorem AD.sound {l0:LO} {tq:Bool} {mt id:Nat} (hh:lu l mt base=true)
  (yo:∀ hd i sl ms Γ m,yn ms=true→xk U sl ms=true→(∀ x:qi ms,D P cx (.p (xj sl (mF ms x)) (zq ms x) base Γ fun fr Γ=>.tg tq (yj tail) l tail K Γ fr m))→EZ P cx K l l0 mt U hd id base (.a [] [] i sl ms Γ m))
  {J:JA R S} (h:AD tq P cx K l tail base U hd J):EZ P cx K l l0 mt U hd id base J:=by
 have stay:∀ {B:Bs} {Z:Nat→Prop} {hd Γ:QE} {H:LN} {w0:World},se B Z hd Γ H w0→∃ F Hd,(SA Z w0 hd [] Hd∧(∀ b∈Hd,b∈H∧b < w0.heap.size)∧(∀ b∈H,b < w0.heap.size)∧Hd.Nodup)∧SA Z w0 Γ [] F∧Gd B Z (H++F) w0∧∀ w,av H w0 w→SA Z w Γ [] F:=by
  rintro B Z hd Γ H w0 ⟨F,Hd,h1,h2,h3⟩
  exact ⟨F,Hd,h1,h2,h3,fun w hC=>se.stay h2 h3 hC⟩
 induction h with
 | nil hs he h=>exact yo _ _ _ _ _ _ hs he h
 | @gbt hd j d b q as ops i sl ms Γ m _ ih=>
  intro h B o ho r0 w0 H Z ha hs hp
  cases b with
  | false=>cases ho
  | true=>exact ih h B o ho r0 w0 H Z ha hs (hp.swap)
 | @gbf hd j d b q as ops i sl ms Γ m _ ih=>
  intro h B o ho r0 w0 H Z ha hs hp
  cases b with
  | true=>cases ho
  | false=>exact ih h B o ho r0 w0 H Z ha hs (hp.swap)
 | skp iz hb hA _ ih=>
  intro h B o ho r0 w0 H Z ha hs hp
  obtain ⟨h1,h2,h3⟩:=h.next
  exact ih h3 B o ho r0 w0 H Z ha hs (hp.skip h1 h2 iz hb hA)
 | cons _ ih=>exact fun h=>ih h.cons
 | Ij _ ih=>exact fun h=>ih h.Ij
 | Qw h1 hv hy hc hn dx ho h4 h6 _ ih=>
  rename_i ht _
  intro h B o b9 r0 w0 H Z ha hs hp
  obtain ⟨F,_,_,_,_,hK⟩:=stay hs
  exact ih h.n B o b9 r0 w0 H Z ha hs (Pm hh ha ht h1 hv hy hc hn dx ho h4 h6 hK h hp)
 | ixs hv hx _ _ ih=>exact fun h1=>ih hv hx h1
 | @Xt hd α A as d x y v k j t ty o1 o2 E xs ops i sl ms fr Γ iz f ht hy hr hE _ ih=>
  intro hv hx h1 B o ho r0 w0 H Z ha hs hp
  obtain ⟨z,hz,ho⟩:=bind_some ho
  replace hz:=p4 hz
  obtain ⟨e,ii,q1,q2,q3⟩:=ht.h
  obtain ⟨F,Hd,⟨hL,Q4⟩,hS,hG,hK⟩:=stay hs
  obtain ⟨dh,_,⟨⟨n,hn,_⟩,Ey⟩,ug⟩:=(hr z).sound hL
  obtain ⟨⟨a,c,nr⟩,bh,_⟩:=uh hn j hz.1 hz.2
  refine ih z h1.n B o ho r0 w0 H Z ha ⟨F,Hd,⟨ug (Ey hE j z hz.1 hz.2),Q4⟩,hS,hG⟩ (hp.val hh ha h1 hv fun r gw _ _ _ w hC=>?_)
  rw [lq q1 q2 ((bI gw hx).trans nr) (bI gw hy) hz.1 (by omega),q3,nr]
  rfl
 | @idx hd α A as d x y v k j t ty o1 o2 E xs ops i sl ms fr Γ Γ' f ht hy hr hE _ ih=>
  intro hv hx h1 B o ho r0 w0 H Z ha hs hp
  obtain ⟨z,hz,ho⟩:=bind_some ho
  replace hz:=p4 hz
  obtain ⟨F,Hd,hL,hS,hG,hK⟩:=stay hs
  obtain ⟨dh,_,⟨⟨n,hn,_⟩,Ey⟩,ug⟩:=(hr z).sound hS
  refine ih z h1.n B o ho r0 w0 H Z ha ⟨F,Hd,hL,ug (Ey hE j z hz.1 hz.2),hG⟩ (hp.val hh ha h1 hv fun r gw _ _ _ w hC=>?_)
  obtain ⟨_,_,⟨⟨n',uN,_⟩,_⟩,_⟩:=(hr z).sound (hK w hC)
  exact Ix ht.h uN hz (bI gw hx) (bI gw hy) hE w (av.refl _ _)
 | pz _ ih=>exact ih
 | @pe hd e Δ as ops i sl ms Γ m _ ih=>
  intro h1
  have h2:=ih h1
  have h3:(e :: Δ).reverse++Γ=Δ.reverse++e :: Γ:=by rw [List.reverse_cons,List.append_assoc]; rfl
  rw [h3]
  exact h2
 | @Eo hd α V Sc cl en A as d n x y v xs k j t ty ops i sl ms fr Γ Γx f ht hy hr qa hn _ ih=>
  intro hv hx hA B o ho r0 w0 H Z ha hs hp
  replace qa:SO Sc V cl en:=by cases qa; assumption
  obtain ⟨z,hz,ho⟩:=bind_some ho
  replace hz:=p4 hz
  obtain ⟨e,i',h1,h2,h3⟩:=ht.h
  obtain ⟨F,Hd,hL,hS,hG,hK⟩:=stay hs
  obtain ⟨dh,_,⟨⟨f0,Dh,wR⟩,_⟩,_⟩:=hr.sound hS
  have hZ:∀ b∈f0,Z b:=fun b hb=>(wR b hb).elim (fun h=>h) (fun h=>h)
  obtain ⟨⟨a,c,nr⟩,bh,cs,f1,du,JH,kj⟩:=uh Dh j hz.1 hz.2
  have uN:(rG Sc).size=n:=hn
  rw [uN] at kj
  obtain ⟨u,rfl,o7⟩:=qa.op du.2
  have hblk:Z (cq v n j).block:=by
   obtain ⟨base,cap,nr,gw⟩:=Dh
   rcases gw with ⟨rfl,_⟩ | ⟨b,off,cr,e',fz,f',rfl,_,rfl,_⟩
   ·simp at bh; omega
   ·obtain rfl:v = .slice (some ⟨b,off,none⟩) xs.length cap:=by simpa using nr
    have:(cq (.slice (some ⟨b,off,none⟩) xs.length cap) n j).block=b:=by unfold cq; rw [uK]
    rw [this]; exact hZ b (by simp)
  have Ez:fact Z w0 [] (.bd (cq v n j) (cl z u)):=⟨fun i u' hi=>kj i u' hi,fun _=>hblk⟩
  have dv:HL Z w0 (.bd (cq v n j) (cl z u) :: en z u) []:=.fact Ez (uf (o7 Z fun b hb=>hZ b (JH b hb)))
  obtain ⟨F',wQ,jq⟩:=dv.build hS
  refine ih z u hA.n B o ho r0 w0 H Z ha ⟨F',Hd,hL,jq,hG.perm (List.Perm.append_left H (by simpa using wQ))⟩ (hp.val hh ha hA hv fun r gw _ _ _ w hC=>?_)
  rw [lq h1 h2 ((bI gw hx).trans nr) (bI gw hy) hz.1 (by omega),h3,nr]
  rfl
 | @QK hd α V Sc cl en A as d n e bt x y v us xs k j t ty ops i sl ms fr Γ Γ1 f ht hy h1 hg qa _ ih=>
  intro hv hx hA B o ho r0 w0 H Z ha hs hp
  replace qa:SO Sc V cl en:=by cases qa; assumption
  obtain ⟨z,hz,ho⟩:=bind_some ho
  replace hz:=p4 hz
  obtain ⟨q1,i',_,q2,_,_,q3,_⟩:=ht.h
  obtain ⟨F,Hd,hL,hS,hG,hK⟩:=stay hs
  obtain ⟨f0,F1,_,hO,_⟩:=h1.sound hS
  obtain ⟨g0,hk,tj⟩:=hg.rd hS []
  obtain ⟨c,g1,e1,e2,e3⟩:=BJ j.toNat hk.2.1 hz.2
  obtain ⟨u,rfl,o7⟩:=qa.op e2
  have hlen:us.length=xs.length:=zh hk.2.1
  have bh:j.toNat < xs.length:=(List.getElem?_eq_some_iff.1 hz.2).1
  have nr:∃ a c,v = .slice (some a) us.length c:=by
   obtain ⟨b0,cap,hv,hr⟩:=hO
   obtain rfl:v = .slice b0 us.length cap:=by simpa using hv
   rcases hr with ⟨_,_,rfl,_⟩ | ⟨b,cur,f',rfl,_⟩
   ·rw [← hlen] at bh; simp at bh
   ·exact ⟨_,_,rfl⟩
  obtain ⟨a,c',rfl⟩:=nr
  have dv:HL Z w0 (.rd false (yX us j) (.bool true) (cl z u) :: en z u) []:=.fact ⟨[],⟨rfl,⟨hz.1,e1⟩,rfl⟩,fun _ h=>absurd h List.not_mem_nil⟩ (uf (o7 Z fun b hb=>tj b (e3 b hb)))
  obtain ⟨F',wQ,jq⟩:=dv.build hS
  refine ih z u hA.n B o ho r0 w0 H Z ha ⟨F',Hd,hL,jq,hG.perm (List.Perm.append_left H (by simpa using wQ))⟩ (hp.val hh ha hA hv fun r gw _ _ _ w hC=>?_)
  rw [lq q1 q2 (bI gw hx) (bI gw hy) hz.1 (by omega),q3]
  rfl
 | @V4 hd A as d n e off x v u us j cs t ty ops i sl ms fr Γ Γ1 m h1 uR hc _ ih=>
  intro hv hx ht hA B o ho r0 w0 H Z ha hs hp
  obtain ⟨F,_,_,hS,_,hK⟩:=stay hs
  refine ih hA.n B o ho r0 w0 H Z ha hs (hp.val hh ha hA hv fun r hr _ _ _ w hC=>?_)
  obtain ⟨f,F1,_,hO,_⟩:=h1.sound (hK w hC)
  obtain ⟨_,⟨_,⟨hj,hu⟩,_⟩,_⟩:=uR.rd (hK w hC) []
  exact Ld ht ((wX hO hj hu).2.2 off u hc) (bI hr hx) w (av.refl _ _)
 | @QM hd A as d n e x v u us j cs t ty ops i sl ms fr Γ Γ1 m h1 uR hc _ ih=>
  intro hv hx ht hA B o ho r0 w0 H Z ha hs hp
  obtain ⟨F,_,_,hS,_,hK⟩:=stay hs
  refine ih hA.n B o ho r0 w0 H Z ha hs (hp.val hh ha hA hv fun r hr _ _ _ w hC=>?_)
  obtain ⟨f,F1,_,hO,_⟩:=h1.sound (hK w hC)
  obtain ⟨_,⟨_,⟨hj,hu⟩,_⟩,_⟩:=uR.rd (hK w hC) []
  exact Ld ht ((wX hO hj hu).2.2 0 u hc) (bI hr hx) w (av.refl _ _)
 | load hv hx _ ih=>rename_i ht _; exact fun h1=>ih hv hx ht.h h1
 | lsw _ _ ih=>exact fun hv hx ht h1=>ih hv hx ht h1
 | @Xu hd α A as d x v j E z o' t ty ops i sl ms fr Γ QJ iz m hV h zm _ ih=>
  intro hv hx ht h1 B o ho r0 w0 H Z ha hs hp
  obtain ⟨F,Hd,⟨hL,Q4⟩,hS,hG,hK⟩:=stay hs
  obtain ⟨_,⟨u,k,h3,h4,h5⟩,_⟩:=(h (.bool true)).sound hL
  obtain ⟨dh,⟨u',k',Wl,h5',h6⟩,ug⟩:=(h u).sound hL
  rw [h3] at Wl
  cases Wl
  exact ih u h1.n B o ho r0 w0 H Z ha ⟨F,Hd,⟨(zm u).sound h3 (ug ⟨k',h5',h6⟩),Q4⟩,hS,hG⟩ (hp.Xy hh ha h1 hV hv fun r hr _ _ _ w hC=>Ld ht h3 (bI hr hx) w hC)
 | @Qr hd α A as d x v j o E z t ty ops i sl ms fr Γ Γx m h _ ih=>
  intro hv hx ht h1 B o' ho r0 w0 H Z ha hs hp
  obtain ⟨F,Hd,hL,hS,hG,hK⟩:=stay hs
  obtain ⟨_,⟨u,k,h2,h3,_⟩,_⟩:=h.sound hS
  refine ih hv hx ht h1 B o' ho r0 w0 H Z ha hs ⟨u,fun w hC=>?_⟩ hp
  have hb:(cq v 1 j).block ∉ H:=fun hm=>(h.zi hS).elim (fun h=>h.elim (fun h=>absurd h List.not_mem_nil) fun h=>(List.nodup_append.1 hG.nd).2.2 _ hm _ h rfl) fun h=>hG.apart _ (List.mem_append_left _ hm) h
  have hc:=hC.cell hb h2
  obtain ⟨_,⟨u',k',h4,h5,_⟩,_⟩:=h.sound (hK w hC)
  rw [hc] at h4
  cases h4
  exact ⟨hc,k',h5⟩
 | Qs h _ ih=>
  intro hv hx ht h1 B o ho r0 w0 H Z ha hs hp
  obtain ⟨F,_,_,hS,_,hK⟩:=stay hs
  exact ih h1.n B o ho r0 w0 H Z ha hs (hp.val hh ha h1 hv fun r hr _ _ _ w hC=>Ld ht (h.sound (hK w hC)) (bI hr hx) w (av.refl _ _))
 | JB h _ ih=>
  intro hv hx ht h1 B o ho r0 w0 H Z ha hs hp
  obtain ⟨F,_,_,hS,_,hK⟩:=stay hs
  refine ih h1.n B o ho r0 w0 H Z ha hs (hp.val hh ha h1 hv fun r hr _ _ _ w hC=>?_)
  obtain ⟨h2,h3⟩:=h.sound (hK w hC)
  exact Lg ht h2 (bI hr hx) h3 w (av.refl _ _)
 | Qt _ ih=>
  intro hv hx ht h1 B o ho r0 w0 H Z ha hs hu hp
  obtain ⟨u,hu⟩:=hu
  obtain ⟨_,_,h3,_⟩:=hu w0 (av.refl _ _)
  obtain rfl:u=_:=by simpa using h3
  exact ih h1.n B o ho r0 w0 H Z ha hs (hp.val hh ha h1 hv fun r hr _ _ _ w hC=>Ld ht (hu w hC).1 (bI hr hx) w (av.refl _ _))
 | @Qu hd α A as d x v j E z o' t ty ops i sl ms fr Γ Γ1 Γ' m h zm _ ih=>
  intro hv hx ht h1 B o ho r0 w0 H Z ha hs hu hp
  obtain ⟨u,hu⟩:=hu
  obtain ⟨h2,_⟩:=hu w0 (av.refl _ _)
  obtain ⟨F,Hd,hL,hS,hG,hK⟩:=stay hs
  obtain ⟨dh,⟨u',k',h4,h5,h6⟩,ug⟩:=(h u).sound hS
  rw [h2] at h4
  cases h4
  exact ih u h1.n B o ho r0 w0 H Z ha ⟨F,Hd,hL,(zm u).sound h2 (ug ⟨k',h5,h6⟩),hG⟩ (hp.val hh ha h1 hv fun r hr _ _ _ w hC=>Ld ht (hu w hC).1 (bI hr hx) w (av.refl _ _))
 | @Ep hd α A as d t e ty E z0 bt ops i sl ms Γ m hz _ ih=>
  intro h1 B o ho r0 w0 H Z ha hs hp
  exact ih h1.n B o ho r0 w0 H Z ha hs (Pp hz h1 hp)
 | Jz hU _ ih=>exact fun h1=>ih hU h1
 | @call hd β V A as d f xs bd ty mo rt ps ops i sl ms fr Γ g hf hv hc hi lr hw _ ih=>
  intro _ h1 B o ho r0 w0 H Z ha hs hp
  obtain ⟨y,hy,ho⟩:=bind_some ho
  obtain ⟨pos,ag,h2⟩:=h1.o
  exact ih y h1.n (by unfold bm; rw [h2]; rfl) B o ho r0 w0 H Z ha hs (LY hh hf hv hc hi lr hw h1 hy ha hs hp)
 | @UK hd β V A as d f xs bd ty mo rt ps ops i sl ms fr Γ g hf hV hv hc hi lr hw _ ih=>
  intro hU h1 B o ho r0 w0 H Z ha hs hp
  obtain ⟨y,hy,ho⟩:=bind_some ho
  obtain ⟨pos,ag,h2⟩:=h1.o
  exact ih y h1.n (by unfold bm; rw [h2]; rfl) B o ho r0 w0 H Z ha hs (JR hh hf hv hU hV hc hi lr hw h1 hy ha hs hp)
 | @UL hd β V j1 a1 o9 A as d f xs bd ty mo rt ps ops i sl ms fr Γ g hf hg Og h4 hv hc hi lr hw _ ih=>
  intro hU h1 B o ho r0 w0 H Z ha hs hp
  obtain ⟨y,hy,ho⟩:=bind_some ho
  obtain ⟨pos,ag,h2⟩:=h1.o
  exact ih y h1.n (by unfold bm; rw [h2]; rfl) B o ho r0 w0 H Z ha hs (let ⟨S',e1,e2,e3⟩:=JU hh hf hv hU hg Og h4 hc hi lr hw h1 hy ha hs hp; ⟨S',e1,e2.re (qj (by rw [← h1.A]; exact n9.1 h4)).1,e3⟩)
 | @crb hd u ps d as ops i sl ms Γ m _ ih=>
  intro h1 iz B o ho r0 w0 H Z ha hs ⟨S',hl,hR,hO,hL⟩
  subst hl
  refine ih h1 B o ho r0 w0 H Z ha hs ⟨S'++[⟨true,MV Z ⟨S'.length,d,[],Unit,fun _=>u,fun _=>ps⟩⟩],by simp,(hR.mem (b:=⟨S'.length,d,[],Unit,fun _=>u,fun _=>ps⟩) rfl iz (fun _ h=>nomatch h)).Xv (s:=⟨true,MV Z ⟨S'.length,d,[],Unit,fun _=>u,fun _=>ps⟩⟩) iz (by simp) rfl (fun f w r x ⟨v,h,_⟩=>h),fun j hj=>?_⟩
  by_cases h2:j < S'.length
  ·exact jb.more (hO j h2) h2
  ·obtain rfl:j=S'.length:=by omega
   exact hL _ fun f w r x h=>⟨f,fun _ h=>h,h⟩
 | @crv hd u d as ops i sl ms Γ m _ ih=>
  intro h1 iz B o ho r0 w0 H Z ha hs ⟨S',hl,hR,hO,hL⟩
  subst hl
  refine ih h1 B o ho r0 w0 H Z ha hs ⟨_,by simp,hR.val iz,fun j hj=>?_⟩
  by_cases h2:j < S'.length
  ·exact jb.more (hO j h2) h2
  ·obtain rfl:j=S'.length:=by omega
   exact hL (pl fun _ _ x=>x=_) fun f w r x ⟨v,h,_⟩=>⟨[],fun _ h=>absurd h List.not_mem_nil,h⟩
 | @crm hd V u ps d as ops i sl ms Γ m _ ih=>
  intro h1 iz B o ho r0 w0 H Z ha hs ⟨S',hl,hR,hO,hL⟩
  subst hl
  refine ih h1 B o ho r0 w0 H Z ha hs ⟨_,by simp,hR.mem rfl iz (fun _ h=>nomatch h),fun j hj=>?_⟩
  by_cases h2:j < S'.length
  ·exact jb.more (hO j h2) h2
  ·obtain rfl:j=S'.length:=by omega
   exact hL _ fun f w r x h=>⟨f,fun _ h=>h,h⟩
 | Qv hU _ ih=>exact fun h1=>ih hU h1
 | apH JS hv dx h2 h5 hl hz h1 hr hy _ ih=>
  rename_i hT _
  intro hU h B o ho r0 w0 H Z ha hs hp
  obtain ⟨u,hu,ho⟩:=bind_some ho
  obtain ⟨p1,p2⟩:=Pq hh ha hT hU JS hv dx h2 h5 hl hz h1 hr hy hu h hs hp
  exact ih h.n B o ho r0 w0 H Z ha p2 p1
 | ap1 h1 h2 h3 hw h4 h5 _ ih=>
  rename_i hz _
  intro h6 h B o ho r0 w0 H Z ha hs hp
  obtain ⟨u,hu,ho⟩:=bind_some ho
  exact ih h.n B o ho r0 w0 H Z ha hs (Pl hz h1 h2 h3 h4 h5 (h6.trans hw) hu h hp)
 | sw1 _ _ ih=>exact fun h1=>ih h1
 | sw2 _ _ ih=>exact fun h1=>ih h1
 | sw4 _ _ ih=>exact fun h1=>ih h1
 | JM _ ih=>
  rename_i hz _
  intro h1 B o ho r0 w0 H Z ha hs hp
  exact ih h1.n B o ho r0 w0 H Z ha hs (Pn hz h1 hp)
 | sw5 _ _ ih=>exact fun h1=>ih h1
 | wv hv hq _ ih=>
  intro h1 B o ho r0 w0 H Z ha hs hp
  obtain ⟨F,_,_,_,_,hK⟩:=stay hs
  exact ih h1.n B o ho r0 w0 H Z ha hs (hp.val hh ha h1 hv fun r hr _ _ _ w hC=>hq.sound (hK w hC) hr _ _ _ _ _ w (av.refl _ _))
 | wlt hv hx ho _ ih=>
  rename_i hz _
  intro h1 B o b9 r0 w0 H Z ha hs hp
  obtain ⟨F,_,_,_,_,hK⟩:=stay hs
  exact ih h1.n B o b9 r0 w0 H Z ha hs (QS hh ha hz hv hx ho hK h1 hp)
 | ltn hv iz hn hb _ ih=>
  rename_i hz _
  intro h1 B o b9 r0 w0 H Z ha hs hp
  obtain ⟨F,_,_,_,_,hK⟩:=stay hs
  exact ih h1.n B o b9 r0 w0 H Z ha hs (Ht hh ha hz hv iz hn hb hK h1 hp)
 | ltu hv iz hn hb _ ih=>
  rename_i hz _
  intro h1 B o b9 r0 w0 H Z ha hs hp
  obtain ⟨F,_,_,_,_,hK⟩:=stay hs
  exact ih h1.n B o b9 r0 w0 H Z ha hs (Ht hh ha ⟨hz.h⟩ hv iz hn hb hK h1 hp)
 | @rY hd A as op x y k k' a b t t' d ty ops i sl ms fr Γ f hv hx hy hk _ ih=>
  intro h1 B o ho r0 w0 H Z ha hs hp
  obtain ⟨z,hz,ho⟩:=bind_some ho
  have zl:Jx op=true∨k=k':=by
   cases hk with
   | same=>exact .inr rfl
   | sh h=>exact .inl h
  exact ih z h1.n B o ho r0 w0 H Z ha hs (hp.val hh ha h1 hv fun r hr _ _ _ w hC=>JG (bI hr hx) (bI hr hy) zl hz)
 | mk hv hx _ ih=>
  rename_i hz _
  intro h1 B o ho r0 w0 H Z ha hs hp
  obtain ⟨n,hn,ho⟩:=bind_some ho
  exact ih n h1.n B o ho r0 w0 H Z ha hs (QR hh ha hz hv hx hn h1 hp)
 | mmv hi lr hj _ ih=>
  intro h1 B o ho r0 w0 H Z ha hs hp
  exact ih h1.n B o ho r0 w0 H Z ha hs (hp.dep (X:=fun u=>u) h1 hi lr hj fun r x hx w pos ag=>(Mv (W:=w) _ rfl) w (av.refl _ _))
 | @mex hd t k A as d ty ops i sl ms Γ m hi lr hj Q5 _ ih=>
  intro h1 B o ho r0 w0 H Z ha hs hp
  refine ih h1.n B o ho r0 w0 H Z ha hs (hp.dep (X:=fun u=>Ik u _) h1 hi lr hj fun r x hx w pos ag=>?_)
  obtain ⟨E0,hc⟩:=Q5 x
  have Wm:=(vD hx Cv) _ _ (by rw [List.append_nil]; exact E0)
  have:=(Ex (W:=w) (P:=P) (r:=r) (d:=some d) (ty:=ty) (pos:=pos) (ag:=ag) (g:=none) _ (x:=.tmp t) Wm (by simpa using hc)) w (av.refl _ _)
  rw [this,Wm]
  simp [Ik,hc]
 | mbl hi lr _ hj hv Q5 _ ih=>
  rename_i hb _ _
  intro h1 B o ho r0 w0 H Z ha hs hp
  exact ih h1.n B o ho r0 w0 H Z ha hs (Po hh hb hi lr hj hv Q5 h1 ha hs hp)
 | val hv hq _ ih=>
  intro h1 B o ho r0 w0 H Z ha hs hp
  obtain ⟨F,_,_,_,_,hK⟩:=stay hs
  exact ih h1.n B o ho r0 w0 H Z ha hs (hp.val hh ha h1 hv fun r hr _ _ _ w hC=>hq.sound (hK w hC) hr _ _ _ _ _ w (av.refl _ _))
end
end Go.Dk
namespace Go.Dk
open Go Go.Li
section
variable {R S:Type} {P:Program} {cx:Cx R} {K:df R S} {l tail:LO} {base fr:Fr} {w:World} {Z:Nat→Prop}
theorem GO {n:Nat} {Q:Exit→(Nat→Value)→World→Prop} {r:NV} (hQ:∀ c,¬ Q (.panic c) r w):∀ iw,∀ c,¬ Ae P n Q iw (.panic c) r w:=by
 intro iw
 induction iw with
 | nil=>exact hQ
 | cons a iw ih=>cases a <;> exact ih
theorem GP {B:Bs} {b:Kb R S} {o:Out S R} {r:NV}:∀ c,¬ H9 P cx B b o (.panic c) r w:=by
 intro c
 cases b <;> cases o <;> exact fun h=>h
theorem xm {B:Bs} {K:df R S} {o:Out S R} {r:NV}:∀ c,¬ kz P cx B K o (.panic c) r w:=GO GP _
def yr (g:Nat→List Nat):List gu→List Nat
 | []=>[]
 | a :: l=>g a.j++yr g l
theorem Bf {g:Nat→List Nat}:∀ {ms:MM} {b:Nat},b∈yr g ms→∃ a∈ms,b∈g a.j:=by
 intro ms
 induction ms with
 | nil=>intro b h; exact absurd h List.not_mem_nil
 | cons a ms ih=>
  intro b h
  rcases List.mem_append.1 h with h | h
  ·exact ⟨a,by simp,h⟩
  ·obtain ⟨c,h1,h2⟩:=ih h
   exact ⟨c,List.mem_cons_of_mem _ h1,h2⟩
theorem Hx {Vo Vr A F:LN} (h:(Vo++Vr).Perm A):((Vo++F)++Vr).Perm (A++F):=by
 refine List.Perm.trans ?_ (h.append_right F)
 rw [List.append_assoc,List.append_assoc]
 exact List.Perm.append_left Vo List.perm_append_comm
theorem Oi {g:Nat→List Nat} {r:NV}:∀ {ms:MM},yn ms=true→(ms.map (·.j)).Nodup→(∀ a∈ms,∀ b∈ms,a.j≠b.j→rP (g a.j) (g b.j))→(∀ a∈ms,MV Z a (g a.j) w r (r a.d))→
  ∃ x:qi ms,(∀ p∈mF ms x,r p.1=p.2)∧(∃ Vo Vr,(Vo++Vr).Perm (yr g ms)∧(∀ b∈Vr,b < w.heap.size)∧HL (ru Z Vr) w (zq ms x) Vo)∧(yr g ms).Nodup:=by
 intro ms
 induction ms with
 | nil=>intro _ _ _ _; exact ⟨(),fun p hp=>absurd hp List.not_mem_nil,⟨[],[],.refl _,fun b (h:b∈[])=>absurd h List.not_mem_nil,.nil⟩,List.nodup_nil⟩
 | cons a ms ih=>
  intro lr hd hi h
  unfold yn at lr
  rw [Bool.and_eq_true] at lr
  rw [List.map_cons,List.nodup_cons] at hd
  obtain ⟨x,hx,hl,hn⟩:=ih lr.2 hd.2 (fun b hb c hc=>hi b (List.mem_cons_of_mem _ hb) c (List.mem_cons_of_mem _ hc)) fun b hb=>h b (List.mem_cons_of_mem _ hb)
  obtain ⟨v,e1,e2,e3⟩:=h a (by simp)
  have es:xi a r=zp a (mF ms x):=by
   have h3:=lr.1
   rw [List.all_eq_true] at h3
   refine Ah fun t ht=>?_
   unfold wT
   rw [LP (h3 t ht) hx]
  rw [es] at e1 e2
  refine ⟨(v,x),?_,?_,wW e3 hn ?_⟩
  rotate_left
  ·obtain ⟨Fo,Fr,hf,h1,h2⟩:=e2.all
   obtain ⟨Vo,Vr,k1,k2,k3⟩:=hl
   refine ⟨Fo++Vo,Fr++Vr,?_,fun b hb=>(List.mem_append.1 hb).elim (h1 b) (k2 b),(h2.mono fun b h=>h.imp id fun h=>List.mem_append_left _ h).app (k3.mono fun b h=>h.imp id fun h=>List.mem_append_right _ h)⟩
   show List.Perm _ (g a.j++yr g ms)
   rw [hf]
   refine List.Perm.trans ?_ (k1.append_left (Fo++Fr))
   rw [List.append_assoc,List.append_assoc]
   refine List.Perm.append_left Fo ?_
   rw [← List.append_assoc,← List.append_assoc]
   exact List.Perm.append_right Vr List.perm_append_comm
  rotate_right
  ·intro p hp
   rcases List.mem_cons.1 hp with rfl | hp
   ·exact e1
   ·exact hx p hp
  ·intro b hb hm
   obtain ⟨c,h1,h2⟩:=Bf hm
   exact hi a (by simp) c (List.mem_cons_of_mem _ h1) (fun e=>hd.1 (by rw [e]; exact List.mem_map_of_mem h1)) b hb h2
theorem E4 {r:NV} {f:Fr}:∀ {sl:LQ},(∀ p∈sl,r p.2.1=p.2.2)→(∀ p∈f,r p.1=p.2)→∀ p∈xj sl f,r p.1=p.2:=by
 intro sl
 induction sl with
 | nil=>intro _ h; exact h
 | cons a sl ih=>
  intro h1 h2 p hp
  rcases List.mem_cons.1 hp with rfl | hp
  ·exact h1 a (by simp)
  ·exact ih (fun p hp=>h1 p (List.mem_cons_of_mem _ hp)) h2 p hp
theorem E5 {mt:Nat} {U:LL} {E6:QE} (hh:lu l mt base=true) {sl:LQ} {ms:MM} {Γ:QE} {m:Option (Out S R)} (E7:yn ms=true) (o7:xk U sl ms=true)
  (h:∀ x:qi ms,D P cx (.p (xj sl (mF ms x)) (zq ms x) base Γ fun fr Γ=>.tg false (yj tail) l tail K Γ fr m)) {B:Bs} {o:Out S R} (ho:m=some o) {r0:NV} {w0:World} {H:LN} {Z:Nat→Prop} (ha:c9 r0 base) (hs:se B Z E6 Γ H w0) {S':List fc} (hi:S'.length=mt) (hR:ir Z l S' sl ms) :
  ∀ g r w,vR l mt S' U r0 w0 H (fun j=>j < mt) g r w→WL P l tail r w (kz P cx B K o .normal):=by
 obtain ⟨F,Hd,⟨zv,zw,uj,zx⟩,hS,hG⟩:=hs
 intro g r w hI
 have Iq:∀ k j,j∈U.getD k []→∀ a∈ms,a.j≠j:=by
  intro k j hj
  unfold xk at o7
  rw [Bool.and_eq_true] at o7
  rw [List.getD_eq_getElem?_getD] at hj
  cases hk:U[k]? with
  | none=>rw [hk] at hj; exact absurd hj List.not_mem_nil
  | some us=>
   rw [hk] at hj
   have h1:=List.all_eq_true.1 (List.all_eq_true.1 o7.1 us (List.mem_of_getElem? hk)) j hj
   intro a ha he
   have:=List.all_eq_true.1 h1 a ha
   rw [he,Nat.beq_refl] at this
   cases this
 have hD:∀ j,j < mt→(∀ k,j ∉ U.getD k [])→tx l S' j g r w:=fun j hj hn=>hI.done j hj fun k _=>hn k
 have bh:∀ a∈ms,a.j < mt:=fun a ha=>hi ▸ hR.lt ha
 obtain ⟨x,hx,qm,Q6⟩:=Oi (g:=g) (r:=r) (w:=w) E7 hR.d (fun a ha b hb uU=>hI.vn _ _ (bh a ha) (bh b hb) uU) fun a ha=>by
  have:=hR.EM (S2:=[]) ha (by rw [List.append_nil]; exact hD a.j (bh a ha) (fun k hk=>Iq k _ hk a ha rfl))
  exact this
 have BR:=List.nodup_append.1 hG.nd
 have qc:∀ b∈yr g ms,w0.heap.size≤b∨b∈H:=fun b hb=>by
  obtain ⟨a,h1,h2⟩:=Bf hb
  exact (hI.fresh a.j (bh a h1) b h2).1.imp (fun h=>h) (·.1)
 have jc:=se.stay hS hG hI.lj
 obtain ⟨Vo,Vr,Q7,Q8,qm⟩:=qm
 obtain ⟨F',hp,jq⟩:=qm.build (jc.mono (fun _ h=>.inl h) fun _ h=>h)
 have E8:Gd B Z (yr g ms++F) w:=by
  refine ⟨wW Q6 BR.2.1 fun b hb hF=>(qc b hb).elim (fun h=>Nat.lt_irrefl _ (Nat.lt_of_lt_of_le (hS.lt b hF) h)) (fun h=>BR.2.2 b h b hF rfl),?_,fun b hb=>Nat.lt_of_lt_of_le (hG.rV b hb) hI.lj.size,?_,hG.wK,hG.xh,hG.lj.then hI.lj fun b hb=>hG.low b (List.mem_append_left _ hb)⟩
  ·intro b hb hz
   rcases List.mem_append.1 hb with hb | hb
   ·exact (qc b hb).elim (fun h=>Nat.lt_irrefl _ (Nat.lt_of_lt_of_le (hG.rV b hz) h)) (fun h=>hG.apart b (List.mem_append_left _ h) hz)
   ·exact hG.apart b (List.mem_append_right _ hb) hz
  ·intro b hb
   rcases List.mem_append.1 hb with hb | hb
   ·exact (qc b hb).elim (fun h=>.inr (Nat.le_trans hG.lj.size h)) (fun h=>hG.low b (List.mem_append_left _ h))
   ·exact hG.low b (List.mem_append_right _ hb)
 have LZ:c9 r ((xj sl (mF ms x)).reverse++base):=by
  refine ud (E4 (fun p hp=>?_) hx) (mb hh ha hI.other)
  exact hR.zr (S2:=[]) hp fun j _ hj=>(by rw [List.append_nil]; exact hI.sd j (hi ▸ hj))
 have:=(h x).sound B o ho r w LZ ⟨_,F',jq,((E8.perm (Hx Q7)).freeze Q8).perm hp⟩
 exact this
theorem Pr {mt id:Nat} {U:LL} {Zl:LN} {E6:QE} (hU:((List.range mt).all fun i=>(U.getD i []).all fun u=>Nat.beq u l.length || ((bo l).getD i []).contains u)=true) (hh:lu l mt base=true) (hd:db cx.n l=true) (hA:vi l mt Zl=true) (hZ:AL l mt Zl=true) (Ds:mt≤l.length) (ht:tail=l.drop mt) {i:Nat} {sl:LQ} {ms:MM} {Γ:QE} {m:Option (Out S R)} (E7:yn ms=true) (o7:xk U sl ms=true)
  (h:∀ x:qi ms,D P cx (.p (xj sl (mF ms x)) (zq ms x) base Γ fun fr Γ=>.tg false (yj tail) l tail K Γ fr m)):EZ P cx K l l mt U E6 id base (.a [] [] i sl ms Γ m):=by
 rintro ⟨_,h2,h3⟩ B o ho r0 w0 H Z ha hs ⟨S',hl,hR,hO⟩
 have hi:i=mt:=by
  have:=congrArg List.length h2
  simp at this
  omega
 subst hl
 have Q9:=hs
 obtain ⟨F,Hd,⟨zv,zw,uj,zx⟩,hS,hG⟩:=hs
 refine JV (N:=Z) (S:=S') (U:=U) (H:=H) hd hA hZ (fun c r w h=>xm c h) Ds hi uj hU (fun b hb=>⟨hG.rV b hb,fun h=>hG.apart b (List.mem_append_left _ h) hb⟩) (fun i s hs=>hR.s i s hs) (fun j hj=>hO j (by omega)) ?_
 intro g r w hI
 have:=E5 hh E7 o7 h ho ha Q9 hi hR g r w hI
 rwa [ht] at this
def Kq (q:Option (Bool×Nat×Value)) (f:Fr):Fr:=
 match q with
 | none=>f
 | some (_,d,u)=>(d,u) :: f
theorem Kp.lk {ws:LN} {q:Option (Bool×Nat×Value)} {f g:Fr} (h:Kp ws q f g):(∀ b d u,q=some (b,d,u)→b=ie d ws)→∀ t v,look g t=some v→ie t ws=false∧look (Kq q f) t=some v:=by
 induction h with
 | nil=>intro _ t v h; cases h
 | cons _ ih=>intro _ t v h; exact ih (by rintro b d u h; cases h; rfl) t v h
 | @drop ws d u f g _ ih=>
  intro hq t v h
  obtain ⟨h1,h2⟩:=ih (by rintro b d u h; cases h) t v h
  refine ⟨h1,?_⟩
  show look ((d,u) :: f) t=some v
  unfold look
  cases hb:Nat.beq t d with
  | true=>have:=hq true d u rfl; rw [Nat.eq_of_beq_eq_true hb,← this] at h1; cases h1
  | false=>exact h2
 | @ee ws d u f g _ ih=>
  intro hq t v h
  unfold look at h
  show ie t ws=false∧look ((d,u) :: f) t=some v
  unfold look
  cases hb:Nat.beq t d with
  | true=>rw [hb] at h; exact ⟨by rw [Nat.eq_of_beq_eq_true hb]; exact (hq false d u rfl).symm,h⟩
  | false=>
   rw [hb] at h
   obtain ⟨h1,h2⟩:=ih (by rintro b d u h; cases h) t v h
   unfold ie at h1
   rw [hb] at h1
   exact ⟨h1,h2⟩
theorem Kp.sound {ws:LN} {f g:Fr} {r:NV} (h:Kp ws none f g) (ha:c9 r f):c9 r g:=
 fun t v hl=>ha t v (h.lk (by rintro b d u h; cases h) t v hl).2
theorem Ra {id:Nat} (hd:QE) (mt:Nat) (Zl:LN) (U as:LL) {ops:LO} {Γ Γ1:QE} {fr:Fr} {m:Option (Out S R)}
  (hB:(P.follows .mixedOrders && db cx.n l && vi l mt Zl && AL l mt Zl && Nat.ble mt l.length && (j7 l U mt == as) && ((List.range mt).all fun i=>(U.getD i []).all fun u=>Nat.beq u l.length || ((bo l).getD i []).contains u))=true)
  (ho:ops=l.take mt) (ht:tail=l.drop mt) (hf:Kp (vN ops) none fr base) (hh:lu l mt base=true) (he:EO Γ hd Γ1) (E9:OW Γ hd)
  (h:AD false P cx K l tail base U hd (.a as ops 0 [] [] Γ1 m)):∀ B o,m=some o→∀ r w,c9 r fr→St B Γ w→mh P cx.n l (kz P cx B K o) r w:=by
 simp only [Bool.and_eq_true] at hB
 obtain ⟨⟨⟨⟨⟨⟨_,b2⟩,b3⟩,b4⟩,b5⟩,b6⟩,b7⟩:=hB
 intro B o hm r w ha hs
 obtain ⟨Z,F,hS,hG⟩:=hs
 obtain ⟨Fd,F',h1,h2,h3⟩:=he.sound hS
 have Fb:SA Z w hd [] Fd:=by
  have:=(HO.hl E9 hS h1).front (Γ:=[]) (F:=[]) rfl
  simpa using this
 have hX:se B Z hd Γ1 Fd w:=⟨F',Fd,⟨Fb,fun b hb=>⟨hb,Fb.lt b hb⟩,Fb.lt,(List.nodup_append.1 (hG.perm h3).nd).1⟩,h2,hG.perm h3⟩
 refine AD.sound (id:=id) hh (fun _ _ _ _ _ _ hs he h=>Pr b7 hh b2 b3 b4 (Nat.le_of_ble_eq_true b5) ht hs he h) h
  ⟨by rw [List.drop_zero]; exact (eq_of_beq b6).symm,by rw [List.drop_zero]; exact ho,Nat.zero_le _⟩ B o hm r w Fd Z (hf.sound ha) hX ⟨[],rfl,⟨fun _ h=>absurd h List.not_mem_nil,fun _ h=>absurd h List.not_mem_nil,fun i s h=>by simp at h,List.nodup_nil,fun _ _ _ h1 h2=>yt l (Du b3) h1 h2⟩,fun j hj=>absurd hj (Nat.not_lt_zero j)⟩
theorem vj {id:Nat} (hd:QE) (mt:Nat) (Zl:LN) (U as:LL) {ops:LO} {Γ Γ1:QE} {fr:Fr} {m:Option (Out S R)}
  (hB:(P.follows .mixedOrders && db cx.n l && vi l mt Zl && AL l mt Zl && Nat.ble mt l.length && (j7 l U mt == as) && ((List.range mt).all fun i=>(U.getD i []).all fun u=>Nat.beq u l.length || ((bo l).getD i []).contains u))=true)
  (ho:ops=l.take mt) (ht:tail=l.drop mt) (hf:Kp (vN ops) none fr base) (hh:lu l mt base=true) (he:EO Γ hd Γ1) (E9:OW Γ hd)
  (h:AD false P cx K l tail base U hd (.a as ops 0 [] [] Γ1 m)):Bx (qb P cx (.dr id l K Γ fr m)):=by
 have hm:P.follows .mixedOrders=true:=by
  simp only [Bool.and_eq_true] at hB
  exact hB.1.1.1.1.1.1
 rw [qz]
 intro B o tU r w ha hs
 exact (Ra (id:=id) hd mt Zl U as hB ho ht hf hh he E9 h B o tU r w ha hs).W hm
theorem XB {id:Nat} {l0:LO} (σ π:LN) (hd:QE) (mt:Nat) (Zl:LN) (U as:LL) {ops:LO} {Γ Γ1:QE} {fr:Fr} {m:Option (Out S R)}
  (hB:(P.follows .mixedOrders && L5 l0 σ π && db cx.n (ph l0 σ π) && vi (ph l0 σ π) mt Zl && AL (ph l0 σ π) mt Zl && Nat.ble mt (ph l0 σ π).length && (j7 (ph l0 σ π) U mt == as) && ((List.range mt).all fun i=>(U.getD i []).all fun u=>Nat.beq u (ph l0 σ π).length || ((bo (ph l0 σ π)).getD i []).contains u))=true)
  (hl:l=ph l0 σ π) (ho:ops=l.take mt) (ht:tail=l.drop mt) (hf:Kp (vN ops) none fr base) (hh:lu l mt base=true) (he:EO Γ hd Γ1) (E9:OW Γ hd)
  (h:AD false P cx K l tail base U hd (.a as ops 0 [] [] Γ1 m)):Bx (qb P cx (.dr id l0 K Γ fr m)):=by
 subst hl
 simp only [Bool.and_eq_true] at hB
 obtain ⟨⟨⟨⟨⟨⟨⟨b0,b1⟩,b2⟩,b3⟩,b4⟩,b5⟩,b6⟩,b7⟩:=hB
 rw [qz]
 intro B o tU r w ha hs
 refine ((Ra (id:=id) hd mt Zl U as ?_ ho ht hf hh he E9 h B o tU r w ha hs).prm b1).W b0
 simp only [Bool.and_eq_true]
 exact ⟨⟨⟨⟨⟨⟨b0,b2⟩,b3⟩,b4⟩,b5⟩,b6⟩,b7⟩
theorem any {id:Nat} (mt:Nat) (Zl:LN) (U as:LL) {ops:LO} {Γ:QE} {fr:Fr} {m:Option (Out S R)}
  (hB:(P.follows .mixedOrders && db cx.n l && vi l mt Zl && AL l mt Zl && Nat.ble mt l.length && (j7 l U mt == as) && ((List.range mt).all fun i=>(U.getD i []).all fun u=>Nat.beq u l.length || ((bo l).getD i []).contains u))=true)
  (ho:ops=l.take mt) (ht:tail=l.drop mt) (hf:Kp (vN ops) none fr base) (hh:lu l mt base=true)
  (h:AD false P cx K l tail base U [] (.a as ops 0 [] [] Γ m)):Bx (qb P cx (.dr id l K Γ fr m)):=vj [] mt Zl U as hB ho ht hf hh .nil .nil h
end
end Go.Dk
