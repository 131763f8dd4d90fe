/- Slices of one's own whose elements lean on memory that is only read. No condition. -/
import Derived.Test.YtgjbmjjihmfppaaGreatLg
import Derived.Laws.LoneSync
namespace Go.Li
open Go
def rS:af Value where
 size:=1
 rep _ cs x f:=cs=[x]∧f=[]∧x.oneCell'=true
 len:=by rintro h cs x f ⟨rfl,_⟩; rfl
 one:=by rintro h cs x f ⟨rfl,_,h1⟩ v hv; simp at hv; subst hv; exact h1
 congr:=fun h _=>h
 lt:=by rintro h cs x f ⟨_,rfl,_⟩ b hb; cases hb
theorem EA:∀ {h:Array Obj} {cs:LV} {x:Value} {f:LN},rS.rep h cs x f→f=[]:=fun h=>h.2.1
theorem yW {h:Array Obj}:∀ {us cs:LV} {f:LN},dx rS h cs us f→cs=us∧f=[]:=by
 intro us
 induction us with
 | nil=>rintro cs f ⟨rfl,rfl⟩; exact ⟨rfl,rfl⟩
 | cons u us ih=>
  rintro cs f ⟨c,gy,f1,f2,rfl,rfl,⟨rfl,rfl,_⟩,h2⟩
  obtain ⟨rfl,rfl⟩:=ih h2
  exact ⟨rfl,rfl⟩
theorem BR {h:Array Obj}:∀ {us:LV},(∀ u∈us,u.oneCell'=true)→dx rS h us us []:=by
 intro us
 induction us with
 | nil=>intro _; exact ⟨rfl,rfl⟩
 | cons u us ih=>intro hu; exact ⟨[u],us,[],[],rfl,rfl,⟨rfl,rfl,hu u (by simp)⟩,ih fun v hv=>hu v (by simp [hv])⟩
section
variable {α:Type} {E:af α} {P:Program} {r:NV} {w w':World} {d:Option Nat} {ty:TI} {pos:String} {ab:Array Edge}
variable {G F:LN} {B:Nat} {e:TI} {v:Value} {xs:List α} {f g:LN}
def OM (G:LN) (B:Nat) (w:World) (e:TI) (E:af α) (v:Value) (xs:List α) (f g:LN):Prop:=
 ∃ us,OE G B w (aK e rS) [v] us f∧dx E w.heap us xs g∧E.size=1
theorem OM.ep (h:OM G B w e E v xs f g) (hC:ak F w w') (h1:rM f F) (h2:rM g F):OM G B w' e E v xs f g:=by
 obtain ⟨us,ho,hr,hs⟩:=h
 exact ⟨us,ho.ep hC h1,ke hr fun b hb=>hC.block b (ml hr b hb) (h2 b hb),hs⟩
theorem OM.jb (h:OM G B w e E v xs f g) (hC:ak [] w w'):OM G B w' e E v xs f g:=h.ep hC (rM.nil _) (rM.nil _)
theorem OM.X8 (h:OM G B w e E v xs f g):∀ b∈f,b < w.heap.size:=by
 obtain ⟨us,ho,hr,hs⟩:=h
 exact af.lt _ ho.1
theorem OM.read (h:OM G B w e E v xs f g):(aE E).rep w.heap [v] xs (f++g):=by
 obtain ⟨us,⟨⟨base,cap,hv,hr⟩,_,_⟩,UG,hs⟩:=h
 have hl:us.length=xs.length:=by have:=jz UG; rw [hs,Nat.mul_one] at this; exact this
 refine ⟨base,cap,by rw [hv,hl],?_⟩
 rcases hr with ⟨rfl,rfl,rfl,rfl⟩ | ⟨b,cur,f',rfl,h2,rfl,h4,h5,h6,h3⟩
 ·cases xs with
  | nil=>obtain ⟨_,rfl⟩:=UG; exact .inl ⟨rfl,rfl⟩
  | cons x xs=>simp at hl
 ·obtain ⟨h7,rfl⟩:=yW h3
  refine .inr ⟨b,0,cur,e,(0,0),g,rfl,h2,rfl,?_⟩
  rw [List.drop_zero,hs,Nat.mul_one,← hl]
  have h8:rS.size=1:=rfl
  rw [h8,Nat.mul_one] at h7
  rw [h7]
  exact UG
variable {ops l:LO} {K:(Nat→Value)→World→Prop}
theorem FB.su {t:TI} {s x:OO} {i:TypeInfo} {z:Value} {sv u:Value} {y:α} {k:LN} {b:Nat} {et:TI}
  (ht:P.underlying t=some (.slice e)) (hi:P.info? e=some i) (hz:i.zero=some z) (hs:i.size=1) (yx:z.oneCell'=true)
  (th:ev r s=sv) (hO:OM G B w e E sv xs f g) (hx:ev r x = .slice (some ⟨b,0,none⟩) 1 1) (aX:Row w b [u] et) (hy:E.rep w.heap [u] y k) (hd:rM k f) (hg:rM g f)
  (hb:(xs.length+1) * i.bytes≤140737488355328) (xF:xs.length+1≤maxLen) (hB:B≤w.heap.size)
  (next:∀ v w' f',ak f w w'→OM G B w' e E v (xs++[y]) f' (g++k)→(∀ b∈f',b∈f∨b∈[]∨w.heap.size≤b)→WL P ops l (fq r d v) w' K) :
  WL P ops (⟨d,.call ⟨.builtin .append,#[s,x],#[t,t]⟩,ty,pos,ab,none⟩ :: l) r w K:=by
 obtain ⟨us,ho,hr,h1⟩:=hO
 have hl:us.length=xs.length:=by have:=jz hr; rw [h1,Nat.mul_one] at this; exact this
 refine WL.su (E:=rS) G B (y:=u) (k:=[]) ht hi hz hs rfl yx th ho hx aX ⟨rfl,rfl,E.one hy u (by simp)⟩ List.nodup_nil (fun _ h=>nomatch h) (fun _ h=>nomatch h) (by rw [hl]; exact hb) (by rw [hl]; exact xF) hB ?_
 intro v w' f' hC lu b9
 refine next v w' f' hC ⟨us++[u],lu,uZ (ke hr fun b hb=>hC.block b (ml hr b hb) (hg b hb)) (pq (E.congr hy fun b hb=>hC.block b (E.lt hy b hb) (hd b hb))),h1⟩ b9
theorem FB.te {t:TI} {s x:OO} {i:TypeInfo} {z:Value} {sv yv:Value} {ys:List α} {k:LN}
  (ht:P.underlying t=some (.slice e)) (hi:P.info? e=some i) (hz:i.zero=some z) (hs:i.size=1) (yx:z.oneCell'=true)
  (th:ev r s=sv) (hO:OM G B w e E sv xs f g) (hx:ev r x=yv) (hy:(aE E).rep w.heap [yv] ys k) (hd:rM k f) (hg:rM g f)
  (hb:(xs.length+ys.length) * i.bytes≤140737488355328) (xF:xs.length+ys.length≤maxLen) (hB:B≤w.heap.size)
  (next:∀ v w' f' g',ak f w w'→OM G B w' e E v (xs++ys) f' g'→(∀ b∈f',b∈f∨b∈[]∨w.heap.size≤b)→(∀ b∈g',b∈g∨b∈k)→WL P ops l (fq r d v) w' K) :
  WL P ops (⟨d,.call ⟨.builtin .append,#[s,x],#[t,t]⟩,ty,pos,ab,none⟩ :: l) r w K:=by
 obtain ⟨us,ho,hr,h1⟩:=hO
 have hl:us.length=xs.length:=by have:=jz hr; rw [h1,Nat.mul_one] at this; exact this
 obtain ⟨ws,k0,k1,hy1,Qs,hk⟩ : ∃ ws k0 k1,(aE rS).rep w.heap [yv] ws k0∧dx E w.heap ws ys k1∧∀ b∈k1,b∈k:=by
  obtain ⟨base,cap,hv,hc⟩:=hy
  rcases hc with ⟨rfl,rfl⟩ | ⟨b,off,cur,e1,fz,f',rfl,h2,rfl,h3⟩
  ·exact ⟨[],[],[],⟨base,cap,hv,.inl ⟨rfl,rfl⟩⟩,⟨rfl,rfl⟩,fun _ h=>h⟩
  ·have nu:=jz h3
   refine ⟨_,[b],f',⟨_,cap,?_,.inr ⟨b,off,cur,e1,fz,[],rfl,h2,rfl,?_⟩⟩,h3,fun b hb=>by simp [hb]⟩
   ·rw [hv,nu,h1,Nat.mul_one]
   ·have h8:rS.size=1:=rfl
    have:(List.take ((List.take (ys.length * E.size) (List.drop off cur.toList)).length * rS.size) (List.drop off cur.toList))=List.take (ys.length * E.size) (List.drop off cur.toList):=by
     rw [h8,Nat.mul_one,nu]
    rw [this]
    exact BR (B8 h3)
 have nu:ws.length=ys.length:=by have:=jz Qs; rw [h1,Nat.mul_one] at this; exact this
 refine WL.te (E:=rS) G B EA ht hi hz hs rfl yx th ho hx hy1 (by rw [hl,nu]; exact hb) (by rw [hl,nu]; exact xF) hB ?_
 intro v w' f' hC lu b9
 exact next v w' f' (g++k1) hC ⟨us++ws,lu,uZ (ke hr fun b hb=>hC.block b (ml hr b hb) (hg b hb)) (ke Qs fun b hb=>hC.block b (ml Qs b hb) (hd b (hk b hb))),h1⟩ b9
  fun b hb=>(List.mem_append.1 hb).imp id (hk b)
theorem LU {h:Array Obj} (h1:E.size=1):∀ {us:LV} {xs:List α} {g:LN} (j:Nat) {z':α} {u:Value} {k:LN},dx E h us xs g→E.rep h [u] z' k→j < xs.length→
  ∃ g',dx E h (us.set j u) (xs.set j z') g'∧∀ b∈g',b∈g∨b∈k:=by
 intro us xs
 induction xs generalizing us with
 | nil=>intro g j z' u k hr _ hj; simp at hj
 | cons x xs ih=>
  rintro g j z' u k ⟨c,gy,f1,f2,rfl,rfl,hx,hr⟩ hu hj
  have hc:=E.len hx
  rw [h1] at hc
  obtain ⟨c0,rfl⟩ : ∃ c0,c=[c0]:=by match c,hc with | [c0],_=>exact ⟨c0,rfl⟩
  cases j with
  | zero=>exact ⟨k++f2,⟨[u],gy,k,f2,rfl,rfl,hu,hr⟩,fun b hb=>(List.mem_append.1 hb).elim .inr fun h=>.inl (by simp [h])⟩
  | succ j=>
   obtain ⟨g',h2,h3⟩:=ih j hr hu (by simpa using hj)
   exact ⟨f1++g',⟨[c0],_,f1,g',rfl,rfl,hx,h2⟩,fun b hb=>(List.mem_append.1 hb).elim (fun h=>.inl (by simp [h])) fun h=>(h3 b h).imp (fun h=>by simp [h]) id⟩
theorem FB.store {t:TI} {x y:OO} {i:TypeInfo} {u:Value} {j:Int} {z z':α} {k:LN}
  (hi:P.info? t=some i) (hs:i.size=1) (hO:OM G B w e E v xs f g) (hz:xs[j.toNat]? = some z)
  (hx:ev r x = .pointer (some (dc v 1 j))) (hy:ev r y=u) (hu:E.rep w.heap [u] z' k) (hd:rM k f) (hg:rM g f)
  (next:∀ w' g',ak f w w'→OM G B w' e E v (xs.set j.toNat z') f g'→(∀ b∈g',b∈g∨b∈k)→WL P ops l (fq r d undef) w' K) :
  WL P ops (⟨d,.store t x y,ty,pos,ab,none⟩ :: l) r w K:=by
 obtain ⟨us,ho,hr,h1⟩:=hO
 have hl:us.length=xs.length:=by have:=jz hr; rw [h1,Nat.mul_one] at this; exact this
 have bc:j.toNat < xs.length:=(List.getElem?_eq_some_iff.1 hz).1
 obtain ⟨g',fc,b9⟩:=LU h1 j.toNat hr hu bc
 have PX:us[j.toNat]? = some (us[j.toNat]'(by omega)):=List.getElem?_eq_getElem (by omega)
 refine WL.Bd (E:=rS) (z':=u) G B EA rfl hi hs ho PX hx hy ⟨rfl,rfl,E.one hu u (by simp)⟩ ?_
 intro w' hC lu
 exact next w' g' hC ⟨_,lu,ke fc fun b hb=>hC.block b (ml fc b hb) (fun hm=>(b9 b hb).elim (fun h=>hg b h hm) (fun h=>hd b h hm)),h1⟩ b9
theorem OM.get (h:OM G B w e E v xs f g) {j:Int} {x:α} (h0:0≤j) (hx:xs[j.toNat]? = some x) :
  ∃ u f1,w.cell? (dc v 1 j)=some u∧E.rep w.heap [u] x f1∧∀ b∈f1,b∈g:=by
 obtain ⟨us,ho,hr,h1⟩:=h
 obtain ⟨c,f0,f1,f2,p,q,Ak,hc,hp,zU,_⟩:=yV j.toNat x hr hx
 have Cq:c.length=1:=by rw [E.len zU,h1]
 rw [h1,Nat.mul_one] at hp
 obtain ⟨c0,rfl⟩ : ∃ c0,c=[c0]:=by match c,Cq with | [c0],_=>exact ⟨c0,rfl⟩
 have hu:us[j.toNat]? = some c0:=by
  rw [hc,List.append_assoc,List.getElem?_append_right (by omega),hp,Nat.sub_self]; rfl
 obtain ⟨u,k,jo,⟨h3,_,_⟩,_⟩:=HY rfl ((Le.own (Le.refl rS) e).le ho.1) h0 hu
 obtain rfl:u=c0:=by simpa using h3
 exact ⟨u,f1,jo,zU,fun b hb=>by rw [Ak]; simp [hb]⟩
theorem OM.low (h:OM G B w e E v xs f g):∀ b∈f,b∈G∨B≤b:=by
 obtain ⟨us,ho,hr,hs⟩:=h
 exact ho.2.2
end
theorem OM.back {α:Type} {E:af α} {w:World} {G k:LN} {B n:Nat} {e:TI} {v:Value} {xs:List α} {f g:LN} (h:OM k n w e E v xs f g) (hk:∀ b∈k,b∈G∨B≤b) (hB:B≤n):OM G B w e E v xs f g:=by
 obtain ⟨us,ho,hr,hs⟩:=h
 exact ⟨us,ho.back hk hB,hr,hs⟩
theorem OM.Ut {α:Type} {E:af α} {w:World} {G G':LN} {B B':Nat} {e:TI} {v:Value} {xs:List α} {f g:LN} (h:OM G B w e E v xs f g) (hk:∀ b∈f,b∈G'):OM G' B' w e E v xs f g:=by
 obtain ⟨us,ho,hr,hs⟩:=h
 exact ⟨us,ho.Ut hk,hr,hs⟩
end Go.Li
namespace Go.Li
open Go
section
variable {P:Program} {r:NV} {w:World} {d:Option Nat} {ty:TI} {pos:String} {ab:Array Edge} {g:Option (Nat×Bool)}
theorem IC {f:FuncId}:ev r (.func f) = .func (.func f) #[] #[]:=rfl
theorem KU {f : FuncId} {fn : Func} {x : Operand} {a : Addr} {k : IntKind} {n : Int} {aq : Array TypeId} (hf : P.funcs[f]? = some fn) (JS : (fn.name == "runtime.NumGoroutine") = false) (hb : fn.body.isNone = true) (hn : Extern.findNext fn = none)
  (he:Extern.find fn=some (Extern.Atomic.loadT (.int k))) (hx:ev r x = .pointer (some a)) (hc:w.cell? a=some (.int k n)) :
  (execOp (ev r) ⟨d,.call ⟨.value (.func f),#[x],aq⟩,ty,pos,ab,g⟩).run P w = .ok (.value (.int k n)) w:=by
 have h:=run_call_load hf JS hb hn k he hc
 simp [execOp,resolve,Deferred.ofValue,IC,invoke,hx,h]
variable {ops l:LO} {K:(Nat→Value)→World→Prop}
theorem WL.WZ {f : FuncId} {fn : Func} {x y : Operand} {b : Nat} {cs : List Value} {e : TypeId} {j : Nat} {n m : Int} {aq : Array TypeId} (hf : P.funcs[f]? = some fn) (JS : (fn.name == "runtime.NumGoroutine") = false) (hb : fn.body.isNone = true) (hn : Extern.findNext fn = none)
  (he:Extern.find fn=some (Extern.Atomic.update (Op.intArith .add) .i64 true)) (aX:Row w b cs e) (hj:cs[j]? = some (.int .i64 n)) (hx:ev r x = .pointer (some ⟨b,j,none⟩)) (hy:ev r y = .int .i64 m)
  (k:∀ w',ak [b] w w'→Row w' b (cs.set j (.int .i64 (ai (n+m)))) e→WL P ops l (fq r d (.int .i64 (ai (n+m)))) w' K) :
  WL P ops (⟨d,.call ⟨.value (.func f),#[x,y],aq⟩,ty,pos,ab,none⟩ :: l) r w K:=by
 have z8:j < cs.length:=(List.getElem?_eq_some_iff.1 hj).1
 have hc:w.cell? ⟨b,j,none⟩ = some (.int .i64 n):=by
  rw [cell_of_row w b _ cs.toArray e _ aX,← Array.getElem?_toList]; exact hj
 have hz:w.frozen? ⟨b,j,none⟩ = false:=frozen_of_row w b _ cs.toArray e aX
 have h:=run_call_add (P:=P) hf JS hb hn .i64 he (y:=m) (s:=ai (n+m)) hc hz (by simp [Op.intArith,ai])
 have rG:=heap_setCell_same w b j cs.toArray e (.int .i64 (ai (n+m))) aX
 refine WL.val rfl (w':=w.setCell ⟨b,j,none⟩ (.int .i64 (ai (n+m)))) (by simp [execOp,resolve,Deferred.ofValue,IC,invoke,hx,hy,h]) (k _ (ak.setCell w ⟨b,j,none⟩ _) ?_)
 show _=_
 rw [rG]
 congr 2
 simp
theorem C0 {op:BinOp} {x y:OO} {t t' e:TI} {a b:Option Addr} {v:Value} (ht:P.underlying t=some (.pointer e)) (hx:ev r x = .pointer a) (hy:ev r y = .pointer b) (hg:(eqGuard op t x y (.pointer a) (.pointer b)).run P w = .ok () w)
  (hv:(binOp op t (.pointer a) (.pointer b)).run P w = .ok v w) :
  (execOp (ev r) ⟨d,.binOp op t x y t',ty,pos,ab,g⟩).run P w = .ok (.value v) w:=by
 have _:=ht
 simp only [execOp,hx,hy]
 simp [hg,hv]
end
end Go.Li
