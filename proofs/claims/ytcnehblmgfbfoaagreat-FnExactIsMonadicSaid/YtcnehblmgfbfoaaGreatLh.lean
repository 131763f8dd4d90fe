/- Slices of one's own whose elements lean on memory that is only read. No condition. -/
import Derived.Test.YtcnehblmgfbfoaaGreatLg
import Derived.Laws.LoneSync
namespace Go.Li
open Go
def nr:ah Value where
 size:=1
 rep _ cs x f:=cs=[x]∧f=[]∧x.oneCell'=true
 len:=by rintro h cs x f ⟨rfl,_⟩; rfl
 one:=by rintro h cs x f ⟨rfl,_,h1⟩ v hv; simp at hv; subst hv; exact h1
 congr:=fun h _=>h
 lt:=by rintro h cs x f ⟨_,rfl,_⟩ b hb; cases hb
theorem B7:∀ {h:Array Obj} {cs:LV} {x:Value} {f:LN},nr.rep h cs x f→f=[]:=fun h=>h.2.1
theorem wB {h:Array Obj}:∀ {us cs:LV} {f:LN},dp nr h cs us f→cs=us∧f=[]:=by
 intro us
 induction us with
 | nil=>rintro cs f ⟨rfl,rfl⟩; exact ⟨rfl,rfl⟩
 | cons u us ih=>
  rintro cs f ⟨c,iw,f1,f2,rfl,rfl,⟨rfl,rfl,_⟩,h2⟩
  obtain ⟨rfl,rfl⟩:=ih h2
  exact ⟨rfl,rfl⟩
theorem FB {h:Array Obj}:∀ {us:LV},(∀ u∈us,u.oneCell'=true)→dp nr h us us []:=by
 intro us
 induction us with
 | nil=>intro _; exact ⟨rfl,rfl⟩
 | cons u us ih=>intro hu; exact ⟨[u],us,[],[],rfl,rfl,⟨rfl,rfl,hu u (by simp)⟩,ih fun v hv=>hu v (by simp [hv])⟩
section
variable {α:Type} {E:ah α} {P:Program} {r:NV} {w w':World} {d:Option Nat} {ty:TI} {pos:String} {af:Array Edge}
variable {G F:LN} {B:Nat} {e:TI} {v:Value} {xs:List α} {f g:LN}
def OM (G:LN) (B:Nat) (w:World) (e:TI) (E:ah α) (v:Value) (xs:List α) (f g:LN):Prop:=
 ∃ us,OE G B w (aL e nr) [v] us f∧dp E w.heap us xs g∧E.size=1
theorem OM.dq (h:OM G B w e E v xs f g) (hC:aq F w w') (h1:p9 f F) (h2:p9 g F):OM G B w' e E v xs f g:=by
 obtain ⟨us,ho,hr,hs⟩:=h
 exact ⟨us,ho.dq hC h1,gu hr fun b hb=>hC.block b (kh hr b hb) (h2 b hb),hs⟩
theorem OM.j7 (h:OM G B w e E v xs f g) (hC:aq [] w w'):OM G B w' e E v xs f g:=h.dq hC (p9.nil _) (p9.nil _)
theorem OM.read (h:OM G B w e E v xs f g):(bB E).rep w.heap [v] xs (f++g):=by
 obtain ⟨us,⟨⟨base,cap,hv,hr⟩,_,_⟩,RN,hs⟩:=h
 have hl:us.length=xs.length:=by have:=jz RN; rw [hs,Nat.mul_one] at this; exact this
 refine ⟨base,cap,by rw [hv,hl],?_⟩
 rcases hr with ⟨rfl,rfl,rfl,rfl⟩ | ⟨b,cur,f',rfl,h2,rfl,h4,h5,h6,h3⟩
 ·cases xs with
  | nil=>obtain ⟨_,rfl⟩:=RN; exact .inl ⟨rfl,rfl⟩
  | cons x xs=>simp at hl
 ·obtain ⟨h7,rfl⟩:=wB h3
  refine .inr ⟨b,0,cur,e,(0,0),g,rfl,h2,rfl,hl ▸ h4,?_⟩
  rw [List.drop_zero,hs,Nat.mul_one,← hl]
  have h8:nr.size=1:=rfl
  rw [h8,Nat.mul_one] at h7
  rw [h7]
  exact RN
variable {ops l:LO} {K:(Nat→Value)→World→Prop}
theorem QV.tX {t:TI} {s x:OO} {i:TypeInfo} {z:Value} {sv u:Value} {y:α} {k:LN} {b:Nat} {et:TI}
  (ht:P.underlying t=some (.slice e)) (hi:P.info? e=some i) (hz:i.zero=some z) (hs:i.size=1) (vN:z.oneCell'=true)
  (uh:ev r s=sv) (hO:OM G B w e E sv xs f g) (hx:ev r x = .slice (some ⟨b,0,none⟩) 1 1) (br:Row w b [u] et) (hy:E.rep w.heap [u] y k) (hd:p9 k f) (hg:p9 g f)
  (hb:(xs.length+1) * i.bytes≤140737488355328) (u3:xs.length+1≤maxLen) (hB:B≤w.heap.size)
  (next:∀ v w' f',aq f w w'→OM G B w' e E v (xs++[y]) f' (g++k)→(∀ b∈f',b∈f∨b∈[]∨w.heap.size≤b)→WL P ops l (er r d v) w' K) :
  WL P ops (⟨d,.call ⟨.builtin .append,#[s,x],#[t,t]⟩,ty,pos,af,none⟩ :: l) r w K:=by
 obtain ⟨us,ho,hr,h1⟩:=hO
 have hl:us.length=xs.length:=by have:=jz hr; rw [h1,Nat.mul_one] at this; exact this
 refine WL.tX (E:=nr) G B (y:=u) (k:=[]) ht hi hz hs rfl vN uh ho hx br ⟨rfl,rfl,E.one hy u (by simp)⟩ List.nodup_nil (fun _ h=>nomatch h) (fun _ h=>nomatch h) (by rw [hl]; exact hb) (by rw [hl]; exact u3) hB ?_
 intro v w' f' hC p8 ei
 refine next v w' f' hC ⟨us++[u],p8,sK (gu hr fun b hb=>hC.block b (kh hr b hb) (hg b hb)) (qW (E.congr hy fun b hb=>hC.block b (E.lt hy b hb) (hd b hb))),h1⟩ ei
theorem QV.yD {t:TI} {s x:OO} {i:TypeInfo} {z:Value} {sv yv:Value} {ys:List α} {k:LN}
  (ht:P.underlying t=some (.slice e)) (hi:P.info? e=some i) (hz:i.zero=some z) (hs:i.size=1) (vN:z.oneCell'=true)
  (uh:ev r s=sv) (hO:OM G B w e E sv xs f g) (hx:ev r x=yv) (hy:(bB E).rep w.heap [yv] ys k) (hd:p9 k f) (hg:p9 g f)
  (hb:(xs.length+ys.length) * i.bytes≤140737488355328) (u3:xs.length+ys.length≤maxLen) (hB:B≤w.heap.size)
  (next:∀ v w' f' g',aq f w w'→OM G B w' e E v (xs++ys) f' g'→(∀ b∈f',b∈f∨b∈[]∨w.heap.size≤b)→(∀ b∈g',b∈g∨b∈k)→WL P ops l (er r d v) w' K) :
  WL P ops (⟨d,.call ⟨.builtin .append,#[s,x],#[t,t]⟩,ty,pos,af,none⟩ :: l) r w K:=by
 obtain ⟨us,ho,hr,h1⟩:=hO
 have hl:us.length=xs.length:=by have:=jz hr; rw [h1,Nat.mul_one] at this; exact this
 obtain ⟨ws,k0,k1,hy1,RP,hk⟩ : ∃ ws k0 k1,(bB nr).rep w.heap [yv] ws k0∧dp E w.heap ws ys k1∧∀ b∈k1,b∈k:=by
  obtain ⟨base,cap,hv,hc⟩:=hy
  rcases hc with ⟨rfl,rfl⟩ | ⟨b,off,cur,e1,fz,f',rfl,h2,rfl,RQ,h3⟩
  ·exact ⟨[],[],[],⟨base,cap,hv,.inl ⟨rfl,rfl⟩⟩,⟨rfl,rfl⟩,fun _ h=>h⟩
  ·have tE:=jz h3
   refine ⟨_,[b],f',⟨_,cap,?_,.inr ⟨b,off,cur,e1,fz,[],rfl,h2,rfl,?_,?_⟩⟩,h3,fun b hb=>by simp [hb]⟩
   ·rw [hv,tE,h1,Nat.mul_one]
   ·rw [tE,h1,Nat.mul_one]; exact RQ
   ·have h8:nr.size=1:=rfl
    have:(List.take ((List.take (ys.length * E.size) (List.drop off cur.toList)).length * nr.size) (List.drop off cur.toList))=List.take (ys.length * E.size) (List.drop off cur.toList):=by
     rw [h8,Nat.mul_one,tE]
    rw [this]
    exact FB (D9 h3)
 have tE:ws.length=ys.length:=by have:=jz RP; rw [h1,Nat.mul_one] at this; exact this
 refine WL.yD (E:=nr) G B B7 ht hi hz hs rfl vN uh ho hx hy1 (by rw [hl,tE]; exact hb) (by rw [hl,tE]; exact u3) hB ?_
 intro v w' f' hC p8 ei
 exact next v w' f' (g++k1) hC ⟨us++ws,p8,sK (gu hr fun b hb=>hC.block b (kh hr b hb) (hg b hb)) (gu RP fun b hb=>hC.block b (kh RP b hb) (hd b (hk b hb))),h1⟩ ei
  fun b hb=>(List.mem_append.1 hb).imp id (hk b)
theorem Jy {h:Array Obj} (h1:E.size=1):∀ {us:LV} {xs:List α} {g:LN} (j:Nat) {z':α} {u:Value} {k:LN},dp E h us xs g→E.rep h [u] z' k→j < xs.length→
  ∃ g',dp E h (us.set j u) (xs.set j z') g'∧∀ b∈g',b∈g∨b∈k:=by
 intro us xs
 induction xs generalizing us with
 | nil=>intro g j z' u k hr _ hj; simp at hj
 | cons x xs ih=>
  rintro g j z' u k ⟨c,iw,f1,f2,rfl,rfl,hx,hr⟩ hu hj
  have hc:=E.len hx
  rw [h1] at hc
  obtain ⟨c0,rfl⟩ : ∃ c0,c=[c0]:=by match c,hc with | [c0],_=>exact ⟨c0,rfl⟩
  cases j with
  | zero=>exact ⟨k++f2,⟨[u],iw,k,f2,rfl,rfl,hu,hr⟩,fun b hb=>(List.mem_append.1 hb).elim .inr fun h=>.inl (by simp [h])⟩
  | succ j=>
   obtain ⟨g',h2,h3⟩:=ih j hr hu (by simpa using hj)
   exact ⟨f1++g',⟨[c0],_,f1,g',rfl,rfl,hx,h2⟩,fun b hb=>(List.mem_append.1 hb).elim (fun h=>.inl (by simp [h])) fun h=>(h3 b h).imp (fun h=>by simp [h]) id⟩
theorem QV.store {t:TI} {x y:OO} {i:TypeInfo} {u:Value} {j:Int} {z z':α} {k:LN}
  (hi:P.info? t=some i) (hs:i.size=1) (hO:OM G B w e E v xs f g) (hz:xs[j.toNat]? = some z)
  (hx:ev r x = .pointer (some (fi v 1 j))) (hy:ev r y=u) (hu:E.rep w.heap [u] z' k) (hd:p9 k f) (hg:p9 g f)
  (next:∀ w' g',aq f w w'→OM G B w' e E v (xs.set j.toNat z') f g'→(∀ b∈g',b∈g∨b∈k)→WL P ops l (er r d undef) w' K) :
  WL P ops (⟨d,.store t x y,ty,pos,af,none⟩ :: l) r w K:=by
 obtain ⟨us,ho,hr,h1⟩:=hO
 have hl:us.length=xs.length:=by have:=jz hr; rw [h1,Nat.mul_one] at this; exact this
 have bo:j.toNat < xs.length:=(List.getElem?_eq_some_iff.1 hz).1
 obtain ⟨g',je,ei⟩:=Jy h1 j.toNat hr hu bo
 have Nh:us[j.toNat]? = some (us[j.toNat]'(by omega)):=List.getElem?_eq_getElem (by omega)
 refine WL.AT (E:=nr) (z':=u) G B B7 rfl hi hs ho Nh hx hy ⟨rfl,rfl,E.one hu u (by simp)⟩ ?_
 intro w' hC p8
 exact next w' g' hC ⟨_,p8,gu je fun b hb=>hC.block b (kh je b hb) (fun hm=>(ei b hb).elim (fun h=>hg b h hm) (fun h=>hd b h hm)),h1⟩ ei
theorem OM.get (h:OM G B w e E v xs f g) {j:Int} {x:α} (h0:0≤j) (hx:xs[j.toNat]? = some x) :
  ∃ u f1,w.cell? (fi v 1 j)=some u∧E.rep w.heap [u] x f1∧∀ b∈f1,b∈g:=by
 obtain ⟨us,ho,hr,h1⟩:=h
 obtain ⟨c,f0,f1,f2,p,q,CG,hc,hp,vH,_⟩:=zM j.toNat x hr hx
 have CH:c.length=1:=by rw [E.len vH,h1]
 rw [h1,Nat.mul_one] at hp
 obtain ⟨c0,rfl⟩ : ∃ c0,c=[c0]:=by match c,CH with | [c0],_=>exact ⟨c0,rfl⟩
 have hu:us[j.toNat]? = some c0:=by
  rw [hc,List.append_assoc,List.getElem?_append_right (by omega),hp,Nat.sub_self]; rfl
 obtain ⟨u,k,oK,⟨h3,_,_⟩,_⟩:=FX rfl ((Le.own (Le.refl nr) e).le ho.1) h0 hu
 obtain rfl:u=c0:=by simpa using h3
 exact ⟨u,f1,oK,vH,fun b hb=>by rw [CG]; simp [hb]⟩
theorem OM.low (h:OM G B w e E v xs f g):∀ b∈f,b∈G∨B≤b:=by
 obtain ⟨us,ho,hr,hs⟩:=h
 exact ho.2.2
end
theorem OM.back {α:Type} {E:ah α} {w:World} {G k:LN} {B n:Nat} {e:TI} {v:Value} {xs:List α} {f g:LN} (h:OM k n w e E v xs f g) (hk:∀ b∈k,b∈G∨B≤b) (hB:B≤n):OM G B w e E v xs f g:=by
 obtain ⟨us,ho,hr,hs⟩:=h
 exact ⟨us,ho.back hk hB,hr,hs⟩
theorem OM.Ry {α:Type} {E:ah α} {w:World} {G G':LN} {B B':Nat} {e:TI} {v:Value} {xs:List α} {f g:LN} (h:OM G B w e E v xs f g) (hk:∀ b∈f,b∈G'):OM G' B' w e E v xs f g:=by
 obtain ⟨us,ho,hr,hs⟩:=h
 exact ⟨us,ho.Ry hk,hr,hs⟩
end Go.Li
namespace Go.Li
open Go
section
variable {P:Program} {r:NV} {w:World} {d:Option Nat} {ty:TI} {pos:String} {af:Array Edge} {g:Option (Nat×Bool)}
variable {ops l:LO} {K:(Nat→Value)→World→Prop}
theorem Au {op:BinOp} {x y:OO} {t t' e:TI} {a b:Option Addr} {v:Value} (ht:P.underlying t=some (.pointer e)) (hx:ev r x = .pointer a) (hy:ev r y = .pointer b) (hg:(eqGuard op t x y (.pointer a) (.pointer b)).run P w = .ok () w)
  (hv:(binOp op t (.pointer a) (.pointer b)).run P w = .ok v w) :
  (execOp (ev r) ⟨d,.binOp op t x y t',ty,pos,af,g⟩).run P w = .ok (.value v) w:=by
 have _:=ht
 simp only [execOp,hx,hy]
 simp [hg,hv]
end
end Go.Li
