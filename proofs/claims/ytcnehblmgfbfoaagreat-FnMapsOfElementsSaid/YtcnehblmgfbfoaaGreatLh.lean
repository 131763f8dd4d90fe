/- Slices of one's own whose elements lean on memory that is only read. No condition. -/
import Derived.Test.YtcnehblmgfbfoaaGreatLg
import Derived.Laws.LoneSync
namespace Go.Li
open Go
def se:ah Value where
 size:=1
 rep _ cs x f:=cs=[x]∧f=[]∧x.oneCell'=true
 len:=by rintro h cs x f ⟨rfl,_⟩; rfl
 one:=by rintro h cs x f ⟨rfl,_,h1⟩ v hv; simp at hv; subst hv; exact h1
 congr:=fun h _=>h
 lt:=by rintro h cs x f ⟨_,rfl,_⟩ b hb; cases hb
theorem Hb:∀ {h:Array Obj} {cs:LV} {x:Value} {f:LN},se.rep h cs x f→f=[]:=fun h=>h.2.1
theorem Ao {h:Array Obj}:∀ {us cs:LV} {f:LN},dm se h cs us f→cs=us∧f=[]:=by
 intro us
 induction us with
 | nil=>rintro cs f ⟨rfl,rfl⟩; exact ⟨rfl,rfl⟩
 | cons u us ih=>
  rintro cs f ⟨c,lf,f1,f2,rfl,rfl,⟨rfl,rfl,_⟩,h2⟩
  obtain ⟨rfl,rfl⟩:=ih h2
  exact ⟨rfl,rfl⟩
theorem Dy {h:Array Obj}:∀ {us:LV},(∀ u∈us,u.oneCell'=true)→dm se h us us []:=by
 intro us
 induction us with
 | nil=>intro _; exact ⟨rfl,rfl⟩
 | cons u us ih=>intro hu; exact ⟨[u],us,[],[],rfl,rfl,⟨rfl,rfl,hu u (by simp)⟩,ih fun v hv=>hu v (by simp [hv])⟩
section
variable {α:Type} {E:ah α} {P:Program} {r:NV} {w w':World} {d:Option Nat} {ty:TI} {pos:String} {ab:Array Edge}
variable {G F:LN} {B:Nat} {e:TI} {v:Value} {xs:List α} {f g:LN}
def OM (G:LN) (B:Nat) (w:World) (e:TI) (E:ah α) (v:Value) (xs:List α) (f g:LN):Prop:=
 ∃ us,OE G B w (aJ e se) [v] us f∧dm E w.heap us xs g∧E.size=1
theorem OM.dp (h:OM G B w e E v xs f g) (hC:ak F w w') (h1:rZ f F) (h2:rZ g F):OM G B w' e E v xs f g:=by
 obtain ⟨us,ho,hr,hs⟩:=h
 exact ⟨us,ho.dp hC h1,jw hr fun b hb=>hC.block b (mr hr b hb) (h2 b hb),hs⟩
theorem OM.ic (h:OM G B w e E v xs f g) (hC:ak [] w w'):OM G B w' e E v xs f g:=h.dp hC (rZ.nil _) (rZ.nil _)
theorem OM.read (h:OM G B w e E v xs f g):(aV E).rep w.heap [v] xs (f++g):=by
 obtain ⟨us,⟨⟨base,cap,hv,hr⟩,_,_⟩,Xk,hs⟩:=h
 have hl:us.length=xs.length:=by have:=jq Xk; rw [hs,Nat.mul_one] at this; exact this
 refine ⟨base,cap,by rw [hv,hl],?_⟩
 rcases hr with ⟨rfl,rfl,rfl,rfl⟩ | ⟨b,cur,f',rfl,h2,rfl,h4,h5,h6,h3⟩
 ·cases xs with
  | nil=>obtain ⟨_,rfl⟩:=Xk; exact .inl ⟨rfl,rfl⟩
  | cons x xs=>simp at hl
 ·obtain ⟨h7,rfl⟩:=Ao h3
  refine .inr ⟨b,0,cur,e,(0,0),g,rfl,h2,rfl,hl ▸ h4,?_⟩
  rw [List.drop_zero,hs,Nat.mul_one,← hl]
  have h8:se.size=1:=rfl
  rw [h8,Nat.mul_one] at h7
  rw [h7]
  exact Xk
variable {ops l:LO} {K:(Nat→Value)→World→Prop}
theorem Ia.tw {t:TI} {s x:OO} {i:TypeInfo} {z:Value} {sv u:Value} {y:α} {k:LN} {b:Nat} {et:TI}
  (ht:P.underlying t=some (.slice e)) (hi:P.info? e=some i) (hz:i.zero=some z) (hs:i.size=1) (zS:z.oneCell'=true)
  (uJ:ev r s=sv) (hO:OM G B w e E sv xs f g) (hx:ev r x = .slice (some ⟨b,0,none⟩) 1 1) (av:Row w b [u] et) (hy:E.rep w.heap [u] y k) (hd:rZ k f) (hg:rZ g f)
  (hb:(xs.length+1) * i.bytes≤140737488355328) (yU:xs.length+1≤maxLen) (hB:B≤w.heap.size)
  (next:∀ v w' f',ak f w w'→OM G B w' e E v (xs++[y]) f' (g++k)→(∀ b∈f',b∈f∨b∈[]∨w.heap.size≤b)→WL P ops l (gf r d v) w' K) :
  WL P ops (⟨d,.call ⟨.builtin .append,#[s,x],#[t,t]⟩,ty,pos,ab,none⟩ :: l) r w K:=by
 obtain ⟨us,ho,hr,h1⟩:=hO
 have hl:us.length=xs.length:=by have:=jq hr; rw [h1,Nat.mul_one] at this; exact this
 refine WL.tw (E:=se) G B (y:=u) (k:=[]) ht hi hz hs rfl zS uJ ho hx av ⟨rfl,rfl,E.one hy u (by simp)⟩ List.nodup_nil (fun _ h=>nomatch h) (fun _ h=>nomatch h) (by rw [hl]; exact hb) (by rw [hl]; exact yU) hB ?_
 intro v w' f' hC lu bp
 refine next v w' f' hC ⟨us++[u],lu,wa (jw hr fun b hb=>hC.block b (mr hr b hb) (hg b hb)) (l6 (E.congr hy fun b hb=>hC.block b (E.lt hy b hb) (hd b hb))),h1⟩ bp
theorem Ia.uF {t:TI} {s x:OO} {i:TypeInfo} {z:Value} {sv yv:Value} {ys:List α} {k:LN}
  (ht:P.underlying t=some (.slice e)) (hi:P.info? e=some i) (hz:i.zero=some z) (hs:i.size=1) (zS:z.oneCell'=true)
  (uJ:ev r s=sv) (hO:OM G B w e E sv xs f g) (hx:ev r x=yv) (hy:(aV E).rep w.heap [yv] ys k) (hd:rZ k f) (hg:rZ g f)
  (hb:(xs.length+ys.length) * i.bytes≤140737488355328) (yU:xs.length+ys.length≤maxLen) (hB:B≤w.heap.size)
  (next:∀ v w' f' g',ak f w w'→OM G B w' e E v (xs++ys) f' g'→(∀ b∈f',b∈f∨b∈[]∨w.heap.size≤b)→(∀ b∈g',b∈g∨b∈k)→WL P ops l (gf r d v) w' K) :
  WL P ops (⟨d,.call ⟨.builtin .append,#[s,x],#[t,t]⟩,ty,pos,ab,none⟩ :: l) r w K:=by
 obtain ⟨us,ho,hr,h1⟩:=hO
 have hl:us.length=xs.length:=by have:=jq hr; rw [h1,Nat.mul_one] at this; exact this
 obtain ⟨ws,k0,k1,hy1,Xl,hk⟩ : ∃ ws k0 k1,(aV se).rep w.heap [yv] ws k0∧dm E w.heap ws ys k1∧∀ b∈k1,b∈k:=by
  obtain ⟨base,cap,hv,hc⟩:=hy
  rcases hc with ⟨rfl,rfl⟩ | ⟨b,off,cur,e1,fz,f',rfl,h2,rfl,Xm,h3⟩
  ·exact ⟨[],[],[],⟨base,cap,hv,.inl ⟨rfl,rfl⟩⟩,⟨rfl,rfl⟩,fun _ h=>h⟩
  ·have ox:=jq h3
   refine ⟨_,[b],f',⟨_,cap,?_,.inr ⟨b,off,cur,e1,fz,[],rfl,h2,rfl,?_,?_⟩⟩,h3,fun b hb=>by simp [hb]⟩
   ·rw [hv,ox,h1,Nat.mul_one]
   ·rw [ox,h1,Nat.mul_one]; exact Xm
   ·have h8:se.size=1:=rfl
    have:(List.take ((List.take (ys.length * E.size) (List.drop off cur.toList)).length * se.size) (List.drop off cur.toList))=List.take (ys.length * E.size) (List.drop off cur.toList):=by
     rw [h8,Nat.mul_one,ox]
    rw [this]
    exact Dy (D2 h3)
 have ox:ws.length=ys.length:=by have:=jq Xl; rw [h1,Nat.mul_one] at this; exact this
 refine WL.uF (E:=se) G B Hb ht hi hz hs rfl zS uJ ho hx hy1 (by rw [hl,ox]; exact hb) (by rw [hl,ox]; exact yU) hB ?_
 intro v w' f' hC lu bp
 exact next v w' f' (g++k1) hC ⟨us++ws,lu,wa (jw hr fun b hb=>hC.block b (mr hr b hb) (hg b hb)) (jw Xl fun b hb=>hC.block b (mr Xl b hb) (hd b (hk b hb))),h1⟩ bp
  fun b hb=>(List.mem_append.1 hb).imp id (hk b)
theorem O1 {h:Array Obj} (h1:E.size=1):∀ {us:LV} {xs:List α} {g:LN} (j:Nat) {z':α} {u:Value} {k:LN},dm E h us xs g→E.rep h [u] z' k→j < xs.length→
  ∃ g',dm E h (us.set j u) (xs.set j z') g'∧∀ b∈g',b∈g∨b∈k:=by
 intro us xs
 induction xs generalizing us with
 | nil=>intro g j z' u k hr _ hj; simp at hj
 | cons x xs ih=>
  rintro g j z' u k ⟨c,lf,f1,f2,rfl,rfl,hx,hr⟩ hu hj
  have hc:=E.len hx
  rw [h1] at hc
  obtain ⟨c0,rfl⟩ : ∃ c0,c=[c0]:=by match c,hc with | [c0],_=>exact ⟨c0,rfl⟩
  cases j with
  | zero=>exact ⟨k++f2,⟨[u],lf,k,f2,rfl,rfl,hu,hr⟩,fun b hb=>(List.mem_append.1 hb).elim .inr fun h=>.inl (by simp [h])⟩
  | succ j=>
   obtain ⟨g',h2,h3⟩:=ih j hr hu (by simpa using hj)
   exact ⟨f1++g',⟨[c0],_,f1,g',rfl,rfl,hx,h2⟩,fun b hb=>(List.mem_append.1 hb).elim (fun h=>.inl (by simp [h])) fun h=>(h3 b h).imp (fun h=>by simp [h]) id⟩
theorem Ia.store {t:TI} {x y:OO} {i:TypeInfo} {u:Value} {j:Int} {z z':α} {k:LN}
  (hi:P.info? t=some i) (hs:i.size=1) (hO:OM G B w e E v xs f g) (hz:xs[j.toNat]? = some z)
  (hx:ev r x = .pointer (some (cn v 1 j))) (hy:ev r y=u) (hu:E.rep w.heap [u] z' k) (hd:rZ k f) (hg:rZ g f)
  (next:∀ w' g',ak f w w'→OM G B w' e E v (xs.set j.toNat z') f g'→(∀ b∈g',b∈g∨b∈k)→WL P ops l (gf r d undef) w' K) :
  WL P ops (⟨d,.store t x y,ty,pos,ab,none⟩ :: l) r w K:=by
 obtain ⟨us,ho,hr,h1⟩:=hO
 have hl:us.length=xs.length:=by have:=jq hr; rw [h1,Nat.mul_one] at this; exact this
 have bb:j.toNat < xs.length:=(List.getElem?_eq_some_iff.1 hz).1
 obtain ⟨g',eh,bp⟩:=O1 h1 j.toNat hr hu bb
 have BV:us[j.toNat]? = some (us[j.toNat]'(by omega)):=List.getElem?_eq_getElem (by omega)
 refine WL.CP (E:=se) (z':=u) G B Hb rfl hi hs ho BV hx hy ⟨rfl,rfl,E.one hu u (by simp)⟩ ?_
 intro w' hC lu
 exact next w' g' hC ⟨_,lu,jw eh fun b hb=>hC.block b (mr eh b hb) (fun hm=>(bp b hb).elim (fun h=>hg b h hm) (fun h=>hd b h hm)),h1⟩ bp
theorem OM.get (h:OM G B w e E v xs f g) {j:Int} {x:α} (h0:0≤j) (hx:xs[j.toNat]? = some x) :
  ∃ u f1,w.cell? (cn v 1 j)=some u∧E.rep w.heap [u] x f1∧∀ b∈f1,b∈g:=by
 obtain ⟨us,ho,hr,h1⟩:=h
 obtain ⟨c,f0,f1,f2,p,q,Er,hc,hp,BE,_⟩:=Am j.toNat x hr hx
 have Es:c.length=1:=by rw [E.len BE,h1]
 rw [h1,Nat.mul_one] at hp
 obtain ⟨c0,rfl⟩ : ∃ c0,c=[c0]:=by match c,Es with | [c0],_=>exact ⟨c0,rfl⟩
 have hu:us[j.toNat]? = some c0:=by
  rw [hc,List.append_assoc,List.getElem?_append_right (by omega),hp,Nat.sub_self]; rfl
 obtain ⟨u,k,ik,⟨h3,_,_⟩,_⟩:=Ks rfl ((Le.own (Le.refl se) e).le ho.1) h0 hu
 obtain rfl:u=c0:=by simpa using h3
 exact ⟨u,f1,ik,BE,fun b hb=>by rw [Er]; simp [hb]⟩
theorem OM.low (h:OM G B w e E v xs f g):∀ b∈f,b∈G∨B≤b:=by
 obtain ⟨us,ho,hr,hs⟩:=h
 exact ho.2.2
end
theorem OM.back {α:Type} {E:ah α} {w:World} {G k:LN} {B n:Nat} {e:TI} {v:Value} {xs:List α} {f g:LN} (h:OM k n w e E v xs f g) (hk:∀ b∈k,b∈G∨B≤b) (hB:B≤n):OM G B w e E v xs f g:=by
 obtain ⟨us,ho,hr,hs⟩:=h
 exact ⟨us,ho.back hk hB,hr,hs⟩
theorem OM.W8 {α:Type} {E:ah α} {w:World} {G G':LN} {B B':Nat} {e:TI} {v:Value} {xs:List α} {f g:LN} (h:OM G B w e E v xs f g) (hk:∀ b∈f,b∈G'):OM G' B' w e E v xs f g:=by
 obtain ⟨us,ho,hr,hs⟩:=h
 exact ⟨us,ho.W8 hk,hr,hs⟩
end Go.Li
namespace Go.Li
open Go
section
variable {P:Program} {r:NV} {w:World} {d:Option Nat} {ty:TI} {pos:String} {ab:Array Edge} {g:Option (Nat×Bool)}
theorem K7 {f:FuncId}:ev r (.func f) = .func (.func f) #[] #[]:=rfl
theorem NP {f : FuncId} {fn : Func} {x : Operand} {a : Addr} {k : IntKind} {n : Int} {au : Array TypeId} (hf : P.funcs[f]? = some fn) (MC : (fn.name == "runtime.NumGoroutine") = false) (hb : fn.body.isNone = true) (hn : Extern.findNext fn = none)
  (he:Extern.find fn=some (Extern.Atomic.loadT (.int k))) (hx:ev r x = .pointer (some a)) (hc:w.cell? a=some (.int k n)) :
  (execOp (ev r) ⟨d,.call ⟨.value (.func f),#[x],au⟩,ty,pos,ab,g⟩).run P w = .ok (.value (.int k n)) w:=by
 have h:=run_call_load hf MC hb hn k he hc
 simp [execOp,resolve,Deferred.ofValue,K7,invoke,hx,h]
variable {ops l:LO} {K:(Nat→Value)→World→Prop}
theorem WL.ZK {f : FuncId} {fn : Func} {x y : Operand} {b : Nat} {cs : List Value} {e : TypeId} {j : Nat} {n m : Int} {au : Array TypeId} (hf : P.funcs[f]? = some fn) (MC : (fn.name == "runtime.NumGoroutine") = false) (hb : fn.body.isNone = true) (hn : Extern.findNext fn = none)
  (he:Extern.find fn=some (Extern.Atomic.update (Op.intArith .add) .i64 true)) (av:Row w b cs e) (hj:cs[j]? = some (.int .i64 n)) (hx:ev r x = .pointer (some ⟨b,j,none⟩)) (hy:ev r y = .int .i64 m)
  (k:∀ w',ak [b] w w'→Row w' b (cs.set j (.int .i64 (ai (n+m)))) e→WL P ops l (gf r d (.int .i64 (ai (n+m)))) w' K) :
  WL P ops (⟨d,.call ⟨.value (.func f),#[x,y],au⟩,ty,pos,ab,none⟩ :: l) r w K:=by
 have Dx:j < cs.length:=(List.getElem?_eq_some_iff.1 hj).1
 have hc:w.cell? ⟨b,j,none⟩ = some (.int .i64 n):=by
  rw [cell_of_row w b _ cs.toArray e _ av,← Array.getElem?_toList]; exact hj
 have hz:w.frozen? ⟨b,j,none⟩ = false:=frozen_of_row w b _ cs.toArray e av
 have h:=run_call_add (P:=P) hf MC hb hn .i64 he (y:=m) (s:=ai (n+m)) hc hz (by simp [Op.intArith,ai])
 have lz:=heap_setCell_same w b j cs.toArray e (.int .i64 (ai (n+m))) av
 refine WL.val rfl (w':=w.setCell ⟨b,j,none⟩ (.int .i64 (ai (n+m)))) (by simp [execOp,resolve,Deferred.ofValue,K7,invoke,hx,hy,h]) (k _ (ak.setCell w ⟨b,j,none⟩ _) ?_)
 show _=_
 rw [lz]
 congr 2
 simp
theorem Fk {op:BinOp} {x y:OO} {t t' e:TI} {a b:Option Addr} {v:Value} (ht:P.underlying t=some (.pointer e)) (hx:ev r x = .pointer a) (hy:ev r y = .pointer b) (hg:(eqGuard op t x y (.pointer a) (.pointer b)).run P w = .ok () w)
  (hv:(binOp op t (.pointer a) (.pointer b)).run P w = .ok v w) :
  (execOp (ev r) ⟨d,.binOp op t x y t',ty,pos,ab,g⟩).run P w = .ok (.value v) w:=by
 have _:=ht
 simp only [execOp,hx,hy]
 simp [hg,hv]
end
end Go.Li
