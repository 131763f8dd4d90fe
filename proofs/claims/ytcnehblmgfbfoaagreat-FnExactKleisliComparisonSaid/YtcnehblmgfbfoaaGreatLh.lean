/- Slices of one's own whose elements lean on memory that is only read. No condition. -/
import Derived.Test.YtcnehblmgfbfoaaGreatLg
import Derived.Laws.LoneSync
namespace Go.Li
open Go
def nh:ag Value where
 size:=1
 rep _ cs x f:=cs=[x]∧f=[]∧x.oneCell'=true
 len:=by rintro h cs x f ⟨rfl,_⟩; rfl
 one:=by rintro h cs x f ⟨rfl,_,h1⟩ v hv; simp at hv; subst hv; exact h1
 congr:=fun h _=>h
 lt:=by rintro h cs x f ⟨_,rfl,_⟩ b hb; cases hb
theorem Bw:∀ {h:Array Obj} {cs:LV} {x:Value} {f:LN},nh.rep h cs x f→f=[]:=fun h=>h.2.1
theorem vS {h:Array Obj}:∀ {us cs:LV} {f:LN},db nh h cs us f→cs=us∧f=[]:=by
 intro us
 induction us with
 | nil=>rintro cs f ⟨rfl,rfl⟩; exact ⟨rfl,rfl⟩
 | cons u us ih=>
  rintro cs f ⟨c,ic,f1,f2,rfl,rfl,⟨rfl,rfl,_⟩,h2⟩
  obtain ⟨rfl,rfl⟩:=ih h2
  exact ⟨rfl,rfl⟩
theorem Eo {h:Array Obj}:∀ {us:LV},(∀ u∈us,u.oneCell'=true)→db nh h us us []:=by
 intro us
 induction us with
 | nil=>intro _; exact ⟨rfl,rfl⟩
 | cons u us ih=>intro hu; exact ⟨[u],us,[],[],rfl,rfl,⟨rfl,rfl,hu u (by simp)⟩,ih fun v hv=>hu v (by simp [hv])⟩
section
variable {α:Type} {E:ag α} {P:Program} {r:NV} {w w':World} {d:Option Nat} {ty:TI} {pos:String} {ae:Array Edge}
variable {G F:LN} {B:Nat} {e:TI} {v:Value} {xs:List α} {f g:LN}
def OM (G:LN) (B:Nat) (w:World) (e:TI) (E:ag α) (v:Value) (xs:List α) (f g:LN):Prop:=
 ∃ us,OE G B w (aI e nh) [v] us f∧db E w.heap us xs g∧E.size=1
theorem OM.cw (h:OM G B w e E v xs f g) (hC:ao F w w') (h1:pK f F) (h2:pK g F):OM G B w' e E v xs f g:=by
 obtain ⟨us,ho,hr,hs⟩:=h
 exact ⟨us,ho.cw hC h1,fx hr fun b hb=>hC.block b (j8 hr b hb) (h2 b hb),hs⟩
theorem OM.iq (h:OM G B w e E v xs f g) (hC:ao [] w w'):OM G B w' e E v xs f g:=h.cw hC (pK.nil _) (pK.nil _)
theorem OM.read (h:OM G B w e E v xs f g):(bE E).rep w.heap [v] xs (f++g):=by
 obtain ⟨us,⟨⟨base,cap,hv,hr⟩,_,_⟩,Qv,hs⟩:=h
 have hl:us.length=xs.length:=by have:=ju Qv; rw [hs,Nat.mul_one] at this; exact this
 refine ⟨base,cap,by rw [hv,hl],?_⟩
 rcases hr with ⟨rfl,rfl,rfl,rfl⟩ | ⟨b,cur,f',rfl,h2,rfl,h4,h5,h6,h3⟩
 ·cases xs with
  | nil=>obtain ⟨_,rfl⟩:=Qv; exact .inl ⟨rfl,rfl⟩
  | cons x xs=>simp at hl
 ·obtain ⟨h7,rfl⟩:=vS h3
  refine .inr ⟨b,0,cur,e,(0,0),g,rfl,h2,rfl,hl ▸ h4,?_⟩
  rw [List.drop_zero,hs,Nat.mul_one,← hl]
  have h8:nh.size=1:=rfl
  rw [h8,Nat.mul_one] at h7
  rw [h7]
  exact Qv
variable {ops l:LO} {K:(Nat→Value)→World→Prop}
theorem PO.tr {t:TI} {s x:OO} {i:TypeInfo} {z:Value} {sv u:Value} {y:α} {k:LN} {b:Nat} {et:TI}
  (ht:P.underlying t=some (.slice e)) (hi:P.info? e=some i) (hz:i.zero=some z) (hs:i.size=1) (vv:z.oneCell'=true)
  (tJ:ev r s=sv) (hO:OM G B w e E sv xs f g) (hx:ev r x = .slice (some ⟨b,0,none⟩) 1 1) (bo:Row w b [u] et) (hy:E.rep w.heap [u] y k) (hd:pK k f) (hg:pK g f)
  (hb:(xs.length+1) * i.bytes≤140737488355328) (uI:xs.length+1≤maxLen) (hB:B≤w.heap.size)
  (next:∀ v w' f',ao f w w'→OM G B w' e E v (xs++[y]) f' (g++k)→(∀ b∈f',b∈f∨b∈[]∨w.heap.size≤b)→WL P ops l (dw r d v) w' K) :
  WL P ops (⟨d,.call ⟨.builtin .append,#[s,x],#[t,t]⟩,ty,pos,ae,none⟩ :: l) r w K:=by
 obtain ⟨us,ho,hr,h1⟩:=hO
 have hl:us.length=xs.length:=by have:=ju hr; rw [h1,Nat.mul_one] at this; exact this
 refine WL.tr (E:=nh) G B (y:=u) (k:=[]) ht hi hz hs rfl vv tJ ho hx bo ⟨rfl,rfl,E.one hy u (by simp)⟩ List.nodup_nil (fun _ h=>nomatch h) (fun _ h=>nomatch h) (by rw [hl]; exact hb) (by rw [hl]; exact uI) hB ?_
 intro v w' f' hC pJ ea
 refine next v w' f' hC ⟨us++[u],pJ,r9 (fx hr fun b hb=>hC.block b (j8 hr b hb) (hg b hb)) (qy (E.congr hy fun b hb=>hC.block b (E.lt hy b hb) (hd b hb))),h1⟩ ea
theorem PO.x7 {t:TI} {s x:OO} {i:TypeInfo} {z:Value} {sv yv:Value} {ys:List α} {k:LN}
  (ht:P.underlying t=some (.slice e)) (hi:P.info? e=some i) (hz:i.zero=some z) (hs:i.size=1) (vv:z.oneCell'=true)
  (tJ:ev r s=sv) (hO:OM G B w e E sv xs f g) (hx:ev r x=yv) (hy:(bE E).rep w.heap [yv] ys k) (hd:pK k f) (hg:pK g f)
  (hb:(xs.length+ys.length) * i.bytes≤140737488355328) (uI:xs.length+ys.length≤maxLen) (hB:B≤w.heap.size)
  (next:∀ v w' f' g',ao f w w'→OM G B w' e E v (xs++ys) f' g'→(∀ b∈f',b∈f∨b∈[]∨w.heap.size≤b)→(∀ b∈g',b∈g∨b∈k)→WL P ops l (dw r d v) w' K) :
  WL P ops (⟨d,.call ⟨.builtin .append,#[s,x],#[t,t]⟩,ty,pos,ae,none⟩ :: l) r w K:=by
 obtain ⟨us,ho,hr,h1⟩:=hO
 have hl:us.length=xs.length:=by have:=ju hr; rw [h1,Nat.mul_one] at this; exact this
 obtain ⟨ws,k0,k1,hy1,Qw,hk⟩ : ∃ ws k0 k1,(bE nh).rep w.heap [yv] ws k0∧db E w.heap ws ys k1∧∀ b∈k1,b∈k:=by
  obtain ⟨base,cap,hv,hc⟩:=hy
  rcases hc with ⟨rfl,rfl⟩ | ⟨b,off,cur,e1,fz,f',rfl,h2,rfl,Qx,h3⟩
  ·exact ⟨[],[],[],⟨base,cap,hv,.inl ⟨rfl,rfl⟩⟩,⟨rfl,rfl⟩,fun _ h=>h⟩
  ·have sS:=ju h3
   refine ⟨_,[b],f',⟨_,cap,?_,.inr ⟨b,off,cur,e1,fz,[],rfl,h2,rfl,?_,?_⟩⟩,h3,fun b hb=>by simp [hb]⟩
   ·rw [hv,sS,h1,Nat.mul_one]
   ·rw [sS,h1,Nat.mul_one]; exact Qx
   ·have h8:nh.size=1:=rfl
    have:(List.take ((List.take (ys.length * E.size) (List.drop off cur.toList)).length * nh.size) (List.drop off cur.toList))=List.take (ys.length * E.size) (List.drop off cur.toList):=by
     rw [h8,Nat.mul_one,sS]
    rw [this]
    exact Eo (Dj h3)
 have sS:ws.length=ys.length:=by have:=ju Qw; rw [h1,Nat.mul_one] at this; exact this
 refine WL.x7 (E:=nh) G B Bw ht hi hz hs rfl vv tJ ho hx hy1 (by rw [hl,sS]; exact hb) (by rw [hl,sS]; exact uI) hB ?_
 intro v w' f' hC pJ ea
 exact next v w' f' (g++k1) hC ⟨us++ws,pJ,r9 (fx hr fun b hb=>hC.block b (j8 hr b hb) (hg b hb)) (fx Qw fun b hb=>hC.block b (j8 Qw b hb) (hd b (hk b hb))),h1⟩ ea
  fun b hb=>(List.mem_append.1 hb).imp id (hk b)
theorem Iq {h:Array Obj} (h1:E.size=1):∀ {us:LV} {xs:List α} {g:LN} (j:Nat) {z':α} {u:Value} {k:LN},db E h us xs g→E.rep h [u] z' k→j < xs.length→
  ∃ g',db E h (us.set j u) (xs.set j z') g'∧∀ b∈g',b∈g∨b∈k:=by
 intro us xs
 induction xs generalizing us with
 | nil=>intro g j z' u k hr _ hj; simp at hj
 | cons x xs ih=>
  rintro g j z' u k ⟨c,ic,f1,f2,rfl,rfl,hx,hr⟩ hu hj
  have hc:=E.len hx
  rw [h1] at hc
  obtain ⟨c0,rfl⟩ : ∃ c0,c=[c0]:=by match c,hc with | [c0],_=>exact ⟨c0,rfl⟩
  cases j with
  | zero=>exact ⟨k++f2,⟨[u],ic,k,f2,rfl,rfl,hu,hr⟩,fun b hb=>(List.mem_append.1 hb).elim .inr fun h=>.inl (by simp [h])⟩
  | succ j=>
   obtain ⟨g',h2,h3⟩:=ih j hr hu (by simpa using hj)
   exact ⟨f1++g',⟨[c0],_,f1,g',rfl,rfl,hx,h2⟩,fun b hb=>(List.mem_append.1 hb).elim (fun h=>.inl (by simp [h])) fun h=>(h3 b h).imp (fun h=>by simp [h]) id⟩
theorem PO.store {t:TI} {x y:OO} {i:TypeInfo} {u:Value} {j:Int} {z z':α} {k:LN}
  (hi:P.info? t=some i) (hs:i.size=1) (hO:OM G B w e E v xs f g) (hz:xs[j.toNat]? = some z)
  (hx:ev r x = .pointer (some (ep v 1 j))) (hy:ev r y=u) (hu:E.rep w.heap [u] z' k) (hd:pK k f) (hg:pK g f)
  (next:∀ w' g',ao f w w'→OM G B w' e E v (xs.set j.toNat z') f g'→(∀ b∈g',b∈g∨b∈k)→WL P ops l (dw r d undef) w' K) :
  WL P ops (⟨d,.store t x y,ty,pos,ae,none⟩ :: l) r w K:=by
 obtain ⟨us,ho,hr,h1⟩:=hO
 have hl:us.length=xs.length:=by have:=ju hr; rw [h1,Nat.mul_one] at this; exact this
 have bj:j.toNat < xs.length:=(List.getElem?_eq_some_iff.1 hz).1
 obtain ⟨g',jd,ea⟩:=Iq h1 j.toNat hr hu bj
 have LS:us[j.toNat]? = some (us[j.toNat]'(by omega)):=List.getElem?_eq_getElem (by omega)
 refine WL.Ao (E:=nh) (z':=u) G B Bw rfl hi hs ho LS hx hy ⟨rfl,rfl,E.one hu u (by simp)⟩ ?_
 intro w' hC pJ
 exact next w' g' hC ⟨_,pJ,fx jd fun b hb=>hC.block b (j8 jd b hb) (fun hm=>(ea b hb).elim (fun h=>hg b h hm) (fun h=>hd b h hm)),h1⟩ ea
theorem OM.get (h:OM G B w e E v xs f g) {j:Int} {x:α} (h0:0≤j) (hx:xs[j.toNat]? = some x) :
  ∃ u f1,w.cell? (ep v 1 j)=some u∧E.rep w.heap [u] x f1∧∀ b∈f1,b∈g:=by
 obtain ⟨us,ho,hr,h1⟩:=h
 obtain ⟨c,f0,f1,f2,p,q,B1,hc,hp,vn,_⟩:=zh j.toNat x hr hx
 have B2:c.length=1:=by rw [E.len vn,h1]
 rw [h1,Nat.mul_one] at hp
 obtain ⟨c0,rfl⟩ : ∃ c0,c=[c0]:=by match c,B2 with | [c0],_=>exact ⟨c0,rfl⟩
 have hu:us[j.toNat]? = some c0:=by
  rw [hc,List.append_assoc,List.getElem?_append_right (by omega),hp,Nat.sub_self]; rfl
 obtain ⟨u,k,ox,⟨h3,_,_⟩,_⟩:=EH rfl ((Le.own (Le.refl nh) e).le ho.1) h0 hu
 obtain rfl:u=c0:=by simpa using h3
 exact ⟨u,f1,ox,vn,fun b hb=>by rw [B1]; simp [hb]⟩
theorem OM.low (h:OM G B w e E v xs f g):∀ b∈f,b∈G∨B≤b:=by
 obtain ⟨us,ho,hr,hs⟩:=h
 exact ho.2.2
end
theorem OM.back {α:Type} {E:ag α} {w:World} {G k:LN} {B n:Nat} {e:TI} {v:Value} {xs:List α} {f g:LN} (h:OM k n w e E v xs f g) (hk:∀ b∈k,b∈G∨B≤b) (hB:B≤n):OM G B w e E v xs f g:=by
 obtain ⟨us,ho,hr,hs⟩:=h
 exact ⟨us,ho.back hk hB,hr,hs⟩
theorem OM.Qf {α:Type} {E:ag α} {w:World} {G G':LN} {B B':Nat} {e:TI} {v:Value} {xs:List α} {f g:LN} (h:OM G B w e E v xs f g) (hk:∀ b∈f,b∈G'):OM G' B' w e E v xs f g:=by
 obtain ⟨us,ho,hr,hs⟩:=h
 exact ⟨us,ho.Qf hk,hr,hs⟩
end Go.Li
namespace Go.Li
open Go
section
variable {P:Program} {r:NV} {w:World} {d:Option Nat} {ty:TI} {pos:String} {ae:Array Edge} {g:Option (Nat×Bool)}
variable {ops l:LO} {K:(Nat→Value)→World→Prop}
theorem zO {op:BinOp} {x y:OO} {t t' e:TI} {a b:Option Addr} {v:Value} (ht:P.underlying t=some (.pointer e)) (hx:ev r x = .pointer a) (hy:ev r y = .pointer b) (hg:(eqGuard op t x y (.pointer a) (.pointer b)).run P w = .ok () w)
  (hv:(binOp op t (.pointer a) (.pointer b)).run P w = .ok v w) :
  (execOp (ev r) ⟨d,.binOp op t x y t',ty,pos,ae,g⟩).run P w = .ok (.value v) w:=by
 have _:=ht
 simp only [execOp,hx,hy]
 simp [hg,hv]
end
end Go.Li
