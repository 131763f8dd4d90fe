/- Slices of one's own whose elements lean on memory that is only read. No condition. -/
import Derived.Test.YtbhhmalgcnhniaaGreatLg
import Derived.Laws.LoneSync
namespace Go.Li
open Go
def qN:ai Value where
 size:=1
 rep _ cs x f:=cs=[x]∧f=[]∧x.oneCell'=true
 len:=by rintro h cs x f ⟨rfl,_⟩; rfl
 one:=by rintro h cs x f ⟨rfl,_,h1⟩ v hv; simp at hv; subst hv; exact h1
 congr:=fun h _=>h
 lt:=by rintro h cs x f ⟨_,rfl,_⟩ b hb; cases hb
theorem Eu:∀ {h:Array Obj} {cs:LV} {x:Value} {f:LN},qN.rep h cs x f→f=[]:=fun h=>h.2.1
theorem yo {h:Array Obj}:∀ {us cs:LV} {f:LN},dj qN h cs us f→cs=us∧f=[]:=by
 intro us
 induction us with
 | nil=>rintro cs f ⟨rfl,rfl⟩; exact ⟨rfl,rfl⟩
 | cons u us ih=>
  rintro cs f ⟨c,kp,f1,f2,rfl,rfl,⟨rfl,rfl,_⟩,h2⟩
  obtain ⟨rfl,rfl⟩:=ih h2
  exact ⟨rfl,rfl⟩
theorem By {h:Array Obj}:∀ {us:LV},(∀ u∈us,u.oneCell'=true)→dj qN h us us []:=by
 intro us
 induction us with
 | nil=>intro _; exact ⟨rfl,rfl⟩
 | cons u us ih=>intro hu; exact ⟨[u],us,[],[],rfl,rfl,⟨rfl,rfl,hu u (by simp)⟩,ih fun v hv=>hu v (by simp [hv])⟩
section
variable {α:Type} {E:ai α} {P:Program} {r:NV} {w w':World} {d:Option Nat} {ty:TI} {pos:String} {ah:Array Edge}
variable {G F:LN} {B:Nat} {e:TI} {v:Value} {xs:List α} {f g:LN}
def OM (G:LN) (B:Nat) (w:World) (e:TI) (E:ai α) (v:Value) (xs:List α) (f g:LN):Prop:=
 ∃ us,OE G B w (aJ e qN) [v] us f∧dj E w.heap us xs g∧E.size=1
theorem OM.ee (h:OM G B w e E v xs f g) (hC:ao F w w') (h1:qH f F) (h2:qH g F):OM G B w' e E v xs f g:=by
 obtain ⟨us,ho,hr,hs⟩:=h
 exact ⟨us,ho.ee hC h1,j7 hr fun b hb=>hC.block b (mc hr b hb) (h2 b hb),hs⟩
theorem OM.ko (h:OM G B w e E v xs f g) (hC:ao [] w w'):OM G B w' e E v xs f g:=h.ee hC (qH.nil _) (qH.nil _)
theorem OM.Yj (h:OM G B w e E v xs f g):∀ b∈f,b < w.heap.size:=by
 obtain ⟨us,ho,hr,hs⟩:=h
 exact ai.lt _ ho.1
theorem OM.read (h:OM G B w e E v xs f g):(bF E).rep w.heap [v] xs (f++g):=by
 obtain ⟨us,⟨⟨base,cap,hv,hr⟩,_,_⟩,Um,hs⟩:=h
 have hl:us.length=xs.length:=by have:=ke Um; rw [hs,Nat.mul_one] at this; exact this
 refine ⟨base,cap,by rw [hv,hl],?_⟩
 rcases hr with ⟨rfl,rfl,rfl,rfl⟩ | ⟨b,cur,f',rfl,h2,rfl,h4,h5,h6,h3⟩
 ·cases xs with
  | nil=>obtain ⟨_,rfl⟩:=Um; exact .inl ⟨rfl,rfl⟩
  | cons x xs=>simp at hl
 ·obtain ⟨h7,rfl⟩:=yo h3
  refine .inr ⟨b,0,cur,e,(0,0),g,rfl,h2,rfl,hl ▸ h4,?_⟩
  rw [List.drop_zero,hs,Nat.mul_one,← hl]
  have h8:qN.size=1:=rfl
  rw [h8,Nat.mul_one] at h7
  rw [h7]
  exact Um
variable {ops l:LO} {K:(Nat→Value)→World→Prop}
theorem TV.vy {t:TI} {s x:OO} {i:TypeInfo} {z:Value} {sv u:Value} {y:α} {k:LN} {b:Nat} {et:TI}
  (ht:P.underlying t=some (.slice e)) (hi:P.info? e=some i) (hz:i.zero=some z) (hs:i.size=1) (xD:z.oneCell'=true)
  (uF:ev r s=sv) (hO:OM G B w e E sv xs f g) (hx:ev r x = .slice (some ⟨b,0,none⟩) 1 1) (bc:Row w b [u] et) (hy:E.rep w.heap [u] y k) (hd:qH k f) (hg:qH g f)
  (hb:(xs.length+1) * i.bytes≤140737488355328) (wY:xs.length+1≤maxLen) (hB:B≤w.heap.size)
  (next:∀ v w' f',ao f w w'→OM G B w' e E v (xs++[y]) f' (g++k)→(∀ b∈f',b∈f∨b∈[]∨w.heap.size≤b)→WL P ops l (gh r d v) w' K) :
  WL P ops (⟨d,.call ⟨.builtin .append,#[s,x],#[t,t]⟩,ty,pos,ah,none⟩ :: l) r w K:=by
 obtain ⟨us,ho,hr,h1⟩:=hO
 have hl:us.length=xs.length:=by have:=ke hr; rw [h1,Nat.mul_one] at this; exact this
 refine WL.vy (E:=qN) G B (y:=u) (k:=[]) ht hi hz hs rfl xD uF ho hx bc ⟨rfl,rfl,E.one hy u (by simp)⟩ List.nodup_nil (fun _ h=>nomatch h) (fun _ h=>nomatch h) (by rw [hl]; exact hb) (by rw [hl]; exact wY) hB ?_
 intro v w' f' hC qU du
 refine next v w' f' hC ⟨us++[u],qU,uo (j7 hr fun b hb=>hC.block b (mc hr b hb) (hg b hb)) (qM (E.congr hy fun b hb=>hC.block b (E.lt hy b hb) (hd b hb))),h1⟩ du
theorem TV.AT {t:TI} {s x:OO} {i:TypeInfo} {z:Value} {sv yv:Value} {ys:List α} {k:LN}
  (ht:P.underlying t=some (.slice e)) (hi:P.info? e=some i) (hz:i.zero=some z) (hs:i.size=1) (xD:z.oneCell'=true)
  (uF:ev r s=sv) (hO:OM G B w e E sv xs f g) (hx:ev r x=yv) (hy:(bF E).rep w.heap [yv] ys k) (hd:qH k f) (hg:qH g f)
  (hb:(xs.length+ys.length) * i.bytes≤140737488355328) (wY:xs.length+ys.length≤maxLen) (hB:B≤w.heap.size)
  (next:∀ v w' f' g',ao f w w'→OM G B w' e E v (xs++ys) f' g'→(∀ b∈f',b∈f∨b∈[]∨w.heap.size≤b)→(∀ b∈g',b∈g∨b∈k)→WL P ops l (gh r d v) w' K) :
  WL P ops (⟨d,.call ⟨.builtin .append,#[s,x],#[t,t]⟩,ty,pos,ah,none⟩ :: l) r w K:=by
 obtain ⟨us,ho,hr,h1⟩:=hO
 have hl:us.length=xs.length:=by have:=ke hr; rw [h1,Nat.mul_one] at this; exact this
 obtain ⟨ws,k0,k1,hy1,Qz,hk⟩ : ∃ ws k0 k1,(bF qN).rep w.heap [yv] ws k0∧dj E w.heap ws ys k1∧∀ b∈k1,b∈k:=by
  obtain ⟨base,cap,hv,hc⟩:=hy
  rcases hc with ⟨rfl,rfl⟩ | ⟨b,off,cur,e1,fz,f',rfl,h2,rfl,Un,h3⟩
  ·exact ⟨[],[],[],⟨base,cap,hv,.inl ⟨rfl,rfl⟩⟩,⟨rfl,rfl⟩,fun _ h=>h⟩
  ·have qT:=ke h3
   refine ⟨_,[b],f',⟨_,cap,?_,.inr ⟨b,off,cur,e1,fz,[],rfl,h2,rfl,?_,?_⟩⟩,h3,fun b hb=>by simp [hb]⟩
   ·rw [hv,qT,h1,Nat.mul_one]
   ·rw [qT,h1,Nat.mul_one]; exact Un
   ·have h8:qN.size=1:=rfl
    have:(List.take ((List.take (ys.length * E.size) (List.drop off cur.toList)).length * qN.size) (List.drop off cur.toList))=List.take (ys.length * E.size) (List.drop off cur.toList):=by
     rw [h8,Nat.mul_one,qT]
    rw [this]
    exact By (BX h3)
 have qT:ws.length=ys.length:=by have:=ke Qz; rw [h1,Nat.mul_one] at this; exact this
 refine WL.AT (E:=qN) G B Eu ht hi hz hs rfl xD uF ho hx hy1 (by rw [hl,qT]; exact hb) (by rw [hl,qT]; exact wY) hB ?_
 intro v w' f' hC qU du
 exact next v w' f' (g++k1) hC ⟨us++ws,qU,uo (j7 hr fun b hb=>hC.block b (mc hr b hb) (hg b hb)) (j7 Qz fun b hb=>hC.block b (mc Qz b hb) (hd b (hk b hb))),h1⟩ du
  fun b hb=>(List.mem_append.1 hb).imp id (hk b)
theorem L9 {h:Array Obj} (h1:E.size=1):∀ {us:LV} {xs:List α} {g:LN} (j:Nat) {z':α} {u:Value} {k:LN},dj E h us xs g→E.rep h [u] z' k→j < xs.length→
  ∃ g',dj E h (us.set j u) (xs.set j z') g'∧∀ b∈g',b∈g∨b∈k:=by
 intro us xs
 induction xs generalizing us with
 | nil=>intro g j z' u k hr _ hj; simp at hj
 | cons x xs ih=>
  rintro g j z' u k ⟨c,kp,f1,f2,rfl,rfl,hx,hr⟩ hu hj
  have hc:=E.len hx
  rw [h1] at hc
  obtain ⟨c0,rfl⟩ : ∃ c0,c=[c0]:=by match c,hc with | [c0],_=>exact ⟨c0,rfl⟩
  cases j with
  | zero=>exact ⟨k++f2,⟨[u],kp,k,f2,rfl,rfl,hu,hr⟩,fun b hb=>(List.mem_append.1 hb).elim .inr fun h=>.inl (by simp [h])⟩
  | succ j=>
   obtain ⟨g',h2,h3⟩:=ih j hr hu (by simpa using hj)
   exact ⟨f1++g',⟨[c0],_,f1,g',rfl,rfl,hx,h2⟩,fun b hb=>(List.mem_append.1 hb).elim (fun h=>.inl (by simp [h])) fun h=>(h3 b h).imp (fun h=>by simp [h]) id⟩
theorem TV.store {t:TI} {x y:OO} {i:TypeInfo} {u:Value} {j:Int} {z z':α} {k:LN}
  (hi:P.info? t=some i) (hs:i.size=1) (hO:OM G B w e E v xs f g) (hz:xs[j.toNat]? = some z)
  (hx:ev r x = .pointer (some (cy v 1 j))) (hy:ev r y=u) (hu:E.rep w.heap [u] z' k) (hd:qH k f) (hg:qH g f)
  (next:∀ w' g',ao f w w'→OM G B w' e E v (xs.set j.toNat z') f g'→(∀ b∈g',b∈g∨b∈k)→WL P ops l (gh r d undef) w' K) :
  WL P ops (⟨d,.store t x y,ty,pos,ah,none⟩ :: l) r w K:=by
 obtain ⟨us,ho,hr,h1⟩:=hO
 have hl:us.length=xs.length:=by have:=ke hr; rw [h1,Nat.mul_one] at this; exact this
 have av:j.toNat < xs.length:=(List.getElem?_eq_some_iff.1 hz).1
 obtain ⟨g',fw,du⟩:=L9 h1 j.toNat hr hu av
 have Ii:us[j.toNat]? = some (us[j.toNat]'(by omega)):=List.getElem?_eq_getElem (by omega)
 refine WL.DD (E:=qN) (z':=u) G B Eu rfl hi hs ho Ii hx hy ⟨rfl,rfl,E.one hu u (by simp)⟩ ?_
 intro w' hC qU
 exact next w' g' hC ⟨_,qU,j7 fw fun b hb=>hC.block b (mc fw b hb) (fun hm=>(du b hb).elim (fun h=>hg b h hm) (fun h=>hd b h hm)),h1⟩ du
theorem OM.get (h:OM G B w e E v xs f g) {j:Int} {x:α} (h0:0≤j) (hx:xs[j.toNat]? = some x) :
  ∃ u f1,w.cell? (cy v 1 j)=some u∧E.rep w.heap [u] x f1∧∀ b∈f1,b∈g:=by
 obtain ⟨us,ho,hr,h1⟩:=h
 obtain ⟨c,f0,f1,f2,p,q,Co,hc,hp,zu,_⟩:=yk j.toNat x hr hx
 have Cp:c.length=1:=by rw [E.len zu,h1]
 rw [h1,Nat.mul_one] at hp
 obtain ⟨c0,rfl⟩ : ∃ c0,c=[c0]:=by match c,Cp with | [c0],_=>exact ⟨c0,rfl⟩
 have hu:us[j.toNat]? = some c0:=by
  rw [hc,List.append_assoc,List.getElem?_append_right (by omega),hp,Nat.sub_self]; rfl
 obtain ⟨u,k,j8,⟨h3,_,_⟩,_⟩:=H0 rfl ((Le.own (Le.refl qN) e).le ho.1) h0 hu
 obtain rfl:u=c0:=by simpa using h3
 exact ⟨u,f1,j8,zu,fun b hb=>by rw [Co]; simp [hb]⟩
theorem OM.low (h:OM G B w e E v xs f g):∀ b∈f,b∈G∨B≤b:=by
 obtain ⟨us,ho,hr,hs⟩:=h
 exact ho.2.2
end
theorem OM.back {α:Type} {E:ai α} {w:World} {G k:LN} {B n:Nat} {e:TI} {v:Value} {xs:List α} {f g:LN} (h:OM k n w e E v xs f g) (hk:∀ b∈k,b∈G∨B≤b) (hB:B≤n):OM G B w e E v xs f g:=by
 obtain ⟨us,ho,hr,hs⟩:=h
 exact ⟨us,ho.back hk hB,hr,hs⟩
theorem OM.T9 {α:Type} {E:ai α} {w:World} {G G':LN} {B B':Nat} {e:TI} {v:Value} {xs:List α} {f g:LN} (h:OM G B w e E v xs f g) (hk:∀ b∈f,b∈G'):OM G' B' w e E v xs f g:=by
 obtain ⟨us,ho,hr,hs⟩:=h
 exact ⟨us,ho.T9 hk,hr,hs⟩
end Go.Li
namespace Go.Li
open Go
section
variable {P:Program} {r:NV} {w:World} {d:Option Nat} {ty:TI} {pos:String} {ah:Array Edge} {g:Option (Nat×Bool)}
variable {ops l:LO} {K:(Nat→Value)→World→Prop}
theorem CU {op:BinOp} {x y:OO} {t t' e:TI} {a b:Option Addr} {v:Value} (ht:P.underlying t=some (.pointer e)) (hx:ev r x = .pointer a) (hy:ev r y = .pointer b) (hg:(eqGuard op t x y (.pointer a) (.pointer b)).run P w = .ok () w)
  (hv:(binOp op t (.pointer a) (.pointer b)).run P w = .ok v w) :
  (execOp (ev r) ⟨d,.binOp op t x y t',ty,pos,ah,g⟩).run P w = .ok (.value v) w:=by
 have _:=ht
 simp only [execOp,hx,hy]
 simp [hg,hv]
end
end Go.Li
