/- Slices of one's own whose elements lean on memory that is only read. No condition. -/
import Derived.Test.YtkhdhnpokfibjaaGreatLg
import Derived.Laws.LoneSync
namespace Go.Li
open Go
def sVal:STy Value where
 size:=1
 rep _ cs x f:=cs=[x]∧f=[]∧x.oneCell'=true
 len:=by rintro h cs x f ⟨rfl,_⟩; rfl
 one:=by rintro h cs x f ⟨rfl,_,h1⟩ v hv; simp at hv; subst hv; exact h1
 congr:=fun h _=>h
 lt:=by rintro h cs x f ⟨_,rfl,_⟩ b hb; cases hb
theorem sVal_nofp:∀ {h:Array Obj} {cs:List Value} {x:Value} {f:List Nat},sVal.rep h cs x f→f=[]:=fun h=>h.2.1
theorem repL_val {h:Array Obj}:∀ {us cs:List Value} {f:List Nat},repL sVal h cs us f→cs=us∧f=[]:=by
 intro us
 induction us with
 | nil=>rintro cs f ⟨rfl,rfl⟩; exact ⟨rfl,rfl⟩
 | cons u us ih=>
  rintro cs f ⟨c,cs',f1,f2,rfl,rfl,⟨rfl,rfl,_⟩,h2⟩
  obtain ⟨rfl,rfl⟩:=ih h2
  exact ⟨rfl,rfl⟩
theorem repL_val_mk {h:Array Obj}:∀ {us:List Value},(∀ u∈us,u.oneCell'=true)→repL sVal h us us []:=by
 intro us
 induction us with
 | nil=>intro _; exact ⟨rfl,rfl⟩
 | cons u us ih=>intro hu; exact ⟨[u],us,[],[],rfl,rfl,⟨rfl,rfl,hu u (by simp)⟩,ih fun v hv=>hu v (by simp [hv])⟩
section
variable {α:Type} {E:STy α} {P:Program} {r:Nat→Value} {w w':World} {d:Option Nat} {ty:TypeId} {pos:String} {aft:Array Edge}
variable {G F:List Nat} {B:Nat} {e:TypeId} {v:Value} {xs:List α} {f g:List Nat}
def OM (G:List Nat) (B:Nat) (w:World) (e:TypeId) (E:STy α) (v:Value) (xs:List α) (f g:List Nat):Prop:=
 ∃ us,OE G B w (aK e sVal) [v] us f∧repL E w.heap us xs g∧E.size=1
theorem OM.keep (h:OM G B w e E v xs f g) (hC:Chg F w w') (h1:Dis f F) (h2:Dis g F):OM G B w' e E v xs f g:=by
 obtain ⟨us,ho,hr,hs⟩:=h
 exact ⟨us,ho.keep hC h1,repL_congr hr fun b hb=>hC.block b (repL_lt hr b hb) (h2 b hb),hs⟩
theorem OM.keep0 (h:OM G B w e E v xs f g) (hC:Chg [] w w'):OM G B w' e E v xs f g:=h.keep hC (Dis.nil _) (Dis.nil _)
theorem OM.read (h:OM G B w e E v xs f g):(aE E).rep w.heap [v] xs (f++g):=by
 obtain ⟨us,⟨⟨base,cap,hv,hr⟩,_,_⟩,hrp,hs⟩:=h
 have hl:us.length=xs.length:=by have:=repL_len hrp; rw [hs,Nat.mul_one] at this; exact this
 refine ⟨base,cap,by rw [hv,hl],?_⟩
 rcases hr with ⟨rfl,rfl,rfl,rfl⟩ | ⟨b,cur,f',rfl,h2,rfl,h4,h5,h6,h3⟩
 ·cases xs with
  | nil=>obtain ⟨_,rfl⟩:=hrp; exact .inl ⟨rfl,rfl⟩
  | cons x xs=>simp at hl
 ·obtain ⟨h7,rfl⟩:=repL_val h3
  refine .inr ⟨b,0,cur,e,(0,0),g,rfl,h2,rfl,?_⟩
  rw [List.drop_zero,hs,Nat.mul_one,← hl]
  have h8:sVal.size=1:=rfl
  rw [h8,Nat.mul_one] at h7
  rw [h7]
  exact hrp
variable {ops l:List Oper} {K:(Nat→Value)→World→Prop}
theorem WLM.append1 {t:TypeId} {s x:Operand} {i:TypeInfo} {z:Value} {sv u:Value} {y:α} {k:List Nat} {b:Nat} {et:TypeId}
  (ht:P.underlying t=some (.slice e)) (hi:P.info? e=some i) (hz:i.zero=some z) (hs:i.size=1) (hzs:z.oneCell'=true)
  (hsv:ev r s=sv) (hO:OM G B w e E sv xs f g) (hx:ev r x = .slice (some ⟨b,0,none⟩) 1 1) (hrow:Row w b [u] et) (hy:E.rep w.heap [u] y k) (hd:Dis k f) (hg:Dis g f)
  (hb:(xs.length+1) * i.bytes≤140737488355328) (h63:xs.length+1≤maxLen) (hB:B≤w.heap.size)
  (next:∀ v w' f',Chg f w w'→OM G B w' e E v (xs++[y]) f' (g++k)→(∀ b∈f',b∈f∨b∈[]∨w.heap.size≤b)→WL P ops l (updO r d v) w' K) :
  WL P ops (⟨d,.call ⟨.builtin .append,#[s,x],#[t,t]⟩,ty,pos,aft,none⟩ :: l) r w K:=by
 obtain ⟨us,ho,hr,h1⟩:=hO
 have hl:us.length=xs.length:=by have:=repL_len hr; rw [h1,Nat.mul_one] at this; exact this
 refine WL.append1 (E:=sVal) G B (y:=u) (k:=[]) ht hi hz hs rfl hzs hsv ho hx hrow ⟨rfl,rfl,E.one hy u (by simp)⟩ List.nodup_nil (fun _ h=>nomatch h) (fun _ h=>nomatch h) (by rw [hl]; exact hb) (by rw [hl]; exact h63) hB ?_
 intro v w' f' hC hO' hsub
 refine next v w' f' hC ⟨us++[u],hO',repL_append (repL_congr hr fun b hb=>hC.block b (repL_lt hr b hb) (hg b hb)) (repL_single (E.congr hy fun b hb=>hC.block b (E.lt hy b hb) (hd b hb))),h1⟩ hsub
theorem WLM.appendS {t:TypeId} {s x:Operand} {i:TypeInfo} {z:Value} {sv yv:Value} {ys:List α} {k:List Nat}
  (ht:P.underlying t=some (.slice e)) (hi:P.info? e=some i) (hz:i.zero=some z) (hs:i.size=1) (hzs:z.oneCell'=true)
  (hsv:ev r s=sv) (hO:OM G B w e E sv xs f g) (hx:ev r x=yv) (hy:(aE E).rep w.heap [yv] ys k) (hd:Dis k f) (hg:Dis g f)
  (hb:(xs.length+ys.length) * i.bytes≤140737488355328) (h63:xs.length+ys.length≤maxLen) (hB:B≤w.heap.size)
  (next:∀ v w' f' g',Chg f w w'→OM G B w' e E v (xs++ys) f' g'→(∀ b∈f',b∈f∨b∈[]∨w.heap.size≤b)→(∀ b∈g',b∈g∨b∈k)→WL P ops l (updO r d v) w' K) :
  WL P ops (⟨d,.call ⟨.builtin .append,#[s,x],#[t,t]⟩,ty,pos,aft,none⟩ :: l) r w K:=by
 obtain ⟨us,ho,hr,h1⟩:=hO
 have hl:us.length=xs.length:=by have:=repL_len hr; rw [h1,Nat.mul_one] at this; exact this
 obtain ⟨ws,k0,k1,hy1,hy2,hk⟩ : ∃ ws k0 k1,(aE sVal).rep w.heap [yv] ws k0∧repL E w.heap ws ys k1∧∀ b∈k1,b∈k:=by
  obtain ⟨base,cap,hv,hc⟩:=hy
  rcases hc with ⟨rfl,rfl⟩ | ⟨b,off,cur,e1,fz,f',rfl,h2,rfl,h3⟩
  ·exact ⟨[],[],[],⟨base,cap,hv,.inl ⟨rfl,rfl⟩⟩,⟨rfl,rfl⟩,fun _ h=>h⟩
  ·have hl2:=repL_len h3
   refine ⟨_,[b],f',⟨_,cap,?_,.inr ⟨b,off,cur,e1,fz,[],rfl,h2,rfl,?_⟩⟩,h3,fun b hb=>by simp [hb]⟩
   ·rw [hv,hl2,h1,Nat.mul_one]
   ·have h8:sVal.size=1:=rfl
    have:(List.take ((List.take (ys.length * E.size) (List.drop off cur.toList)).length * sVal.size) (List.drop off cur.toList))=List.take (ys.length * E.size) (List.drop off cur.toList):=by
     rw [h8,Nat.mul_one,hl2]
    rw [this]
    exact repL_val_mk (repL_one h3)
 have hl2:ws.length=ys.length:=by have:=repL_len hy2; rw [h1,Nat.mul_one] at this; exact this
 refine WL.appendS (E:=sVal) G B sVal_nofp ht hi hz hs rfl hzs hsv ho hx hy1 (by rw [hl,hl2]; exact hb) (by rw [hl,hl2]; exact h63) hB ?_
 intro v w' f' hC hO' hsub
 exact next v w' f' (g++k1) hC ⟨us++ws,hO',repL_append (repL_congr hr fun b hb=>hC.block b (repL_lt hr b hb) (hg b hb)) (repL_congr hy2 fun b hb=>hC.block b (repL_lt hy2 b hb) (hd b (hk b hb))),h1⟩ hsub
  fun b hb=>(List.mem_append.1 hb).imp id (hk b)
theorem repL_setV {h:Array Obj} (h1:E.size=1):∀ {us:List Value} {xs:List α} {g:List Nat} (j:Nat) {z':α} {u:Value} {k:List Nat},repL E h us xs g→E.rep h [u] z' k→j < xs.length→
  ∃ g',repL E h (us.set j u) (xs.set j z') g'∧∀ b∈g',b∈g∨b∈k:=by
 intro us xs
 induction xs generalizing us with
 | nil=>intro g j z' u k hr _ hj; simp at hj
 | cons x xs ih=>
  rintro g j z' u k ⟨c,cs',f1,f2,rfl,rfl,hx,hr⟩ hu hj
  have hc:=E.len hx
  rw [h1] at hc
  obtain ⟨c0,rfl⟩ : ∃ c0,c=[c0]:=by match c,hc with | [c0],_=>exact ⟨c0,rfl⟩
  cases j with
  | zero=>exact ⟨k++f2,⟨[u],cs',k,f2,rfl,rfl,hu,hr⟩,fun b hb=>(List.mem_append.1 hb).elim .inr fun h=>.inl (by simp [h])⟩
  | succ j=>
   obtain ⟨g',h2,h3⟩:=ih j hr hu (by simpa using hj)
   exact ⟨f1++g',⟨[c0],_,f1,g',rfl,rfl,hx,h2⟩,fun b hb=>(List.mem_append.1 hb).elim (fun h=>.inl (by simp [h])) fun h=>(h3 b h).imp (fun h=>by simp [h]) id⟩
theorem WLM.store {t:TypeId} {x y:Operand} {i:TypeInfo} {u:Value} {j:Int} {z z':α} {k:List Nat}
  (hi:P.info? t=some i) (hs:i.size=1) (hO:OM G B w e E v xs f g) (hz:xs[j.toNat]? = some z)
  (hx:ev r x = .pointer (some (elA v 1 j))) (hy:ev r y=u) (hu:E.rep w.heap [u] z' k) (hd:Dis k f) (hg:Dis g f)
  (next:∀ w' g',Chg f w w'→OM G B w' e E v (xs.set j.toNat z') f g'→(∀ b∈g',b∈g∨b∈k)→WL P ops l (updO r d undef) w' K) :
  WL P ops (⟨d,.store t x y,ty,pos,aft,none⟩ :: l) r w K:=by
 obtain ⟨us,ho,hr,h1⟩:=hO
 have hl:us.length=xs.length:=by have:=repL_len hr; rw [h1,Nat.mul_one] at this; exact this
 have hlt:j.toNat < xs.length:=(List.getElem?_eq_some_iff.1 hz).1
 obtain ⟨g',hr',hsub⟩:=repL_setV h1 j.toNat hr hu hlt
 have hz2:us[j.toNat]? = some (us[j.toNat]'(by omega)):=List.getElem?_eq_getElem (by omega)
 refine WL.storeEl (E:=sVal) (z':=u) G B sVal_nofp rfl hi hs ho hz2 hx hy ⟨rfl,rfl,E.one hu u (by simp)⟩ ?_
 intro w' hC hO'
 exact next w' g' hC ⟨_,hO',repL_congr hr' fun b hb=>hC.block b (repL_lt hr' b hb) (fun hm=>(hsub b hb).elim (fun h=>hg b h hm) (fun h=>hd b h hm)),h1⟩ hsub
theorem OM.get (h:OM G B w e E v xs f g) {j:Int} {x:α} (h0:0≤j) (hx:xs[j.toNat]? = some x) :
  ∃ u f1,w.cell? (elA v 1 j)=some u∧E.rep w.heap [u] x f1∧∀ b∈f1,b∈g:=by
 obtain ⟨us,ho,hr,h1⟩:=h
 obtain ⟨c,f0,f1,f2,p,q,hfe,hc,hp,hrc,_⟩:=repL_split j.toNat x hr hx
 have hc1:c.length=1:=by rw [E.len hrc,h1]
 rw [h1,Nat.mul_one] at hp
 obtain ⟨c0,rfl⟩ : ∃ c0,c=[c0]:=by match c,hc1 with | [c0],_=>exact ⟨c0,rfl⟩
 have hu:us[j.toNat]? = some c0:=by
  rw [hc,List.append_assoc,List.getElem?_append_right (by omega),hp,Nat.sub_self]; rfl
 obtain ⟨u,k,hcell,⟨h3,_,_⟩,_⟩:=one_get rfl ((Le.own (Le.refl sVal) e).le ho.1) h0 hu
 obtain rfl:u=c0:=by simpa using h3
 exact ⟨u,f1,hcell,hrc,fun b hb=>by rw [hfe]; simp [hb]⟩
theorem OM.low (h:OM G B w e E v xs f g):∀ b∈f,b∈G∨B≤b:=by
 obtain ⟨us,ho,hr,hs⟩:=h
 exact ho.2.2
end
theorem OM.back {α:Type} {E:STy α} {w:World} {G k:List Nat} {B n:Nat} {e:TypeId} {v:Value} {xs:List α} {f g:List Nat} (h:OM k n w e E v xs f g) (hk:∀ b∈k,b∈G∨B≤b) (hB:B≤n):OM G B w e E v xs f g:=by
 obtain ⟨us,ho,hr,hs⟩:=h
 exact ⟨us,ho.back hk hB,hr,hs⟩
theorem OM.give {α:Type} {E:STy α} {w:World} {G G':List Nat} {B B':Nat} {e:TypeId} {v:Value} {xs:List α} {f g:List Nat} (h:OM G B w e E v xs f g) (hk:∀ b∈f,b∈G'):OM G' B' w e E v xs f g:=by
 obtain ⟨us,ho,hr,hs⟩:=h
 exact ⟨us,ho.give hk,hr,hs⟩
end Go.Li
namespace Go.Li
open Go
section
variable {P:Program} {r:Nat→Value} {w:World} {d:Option Nat} {ty:TypeId} {pos:String} {aft:Array Edge} {g:Option (Nat×Bool)}
theorem ev_func {f:FuncId}:ev r (.func f) = .func (.func f) #[] #[]:=rfl
theorem op_atLoad {f : FuncId} {fn : Func} {x : Operand} {a : Addr} {k : IntKind} {n : Int} {ats : Array TypeId} (hf : P.funcs[f]? = some fn) (hname : (fn.name == "runtime.NumGoroutine") = false) (hb : fn.body.isNone = true) (hn : Extern.findNext fn = none)
  (he:Extern.find fn=some (Extern.Atomic.loadT (.int k))) (hx:ev r x = .pointer (some a)) (hc:w.cell? a=some (.int k n)) :
  (execOp (ev r) ⟨d,.call ⟨.value (.func f),#[x],ats⟩,ty,pos,aft,g⟩).run P w = .ok (.value (.int k n)) w:=by
 have h:=run_call_load hf hname hb hn k he hc
 simp [execOp,resolve,Deferred.ofValue,ev_func,invoke,hx,h]
variable {ops l:List Oper} {K:(Nat→Value)→World→Prop}
theorem WL.atAdd {f : FuncId} {fn : Func} {x y : Operand} {b : Nat} {cs : List Value} {e : TypeId} {j : Nat} {n m : Int} {ats : Array TypeId} (hf : P.funcs[f]? = some fn) (hname : (fn.name == "runtime.NumGoroutine") = false) (hb : fn.body.isNone = true) (hn : Extern.findNext fn = none)
  (he:Extern.find fn=some (Extern.Atomic.update (Op.intArith .add) .i64 true)) (hrow:Row w b cs e) (hj:cs[j]? = some (.int .i64 n)) (hx:ev r x = .pointer (some ⟨b,j,none⟩)) (hy:ev r y = .int .i64 m)
  (k:∀ w',Chg [b] w w'→Row w' b (cs.set j (.int .i64 (w64 (n+m)))) e→WL P ops l (updO r d (.int .i64 (w64 (n+m)))) w' K) :
  WL P ops (⟨d,.call ⟨.value (.func f),#[x,y],ats⟩,ty,pos,aft,none⟩ :: l) r w K:=by
 have hjl:j < cs.length:=(List.getElem?_eq_some_iff.1 hj).1
 have hc:w.cell? ⟨b,j,none⟩ = some (.int .i64 n):=by
  rw [cell_of_row w b _ cs.toArray e _ hrow,← Array.getElem?_toList]; exact hj
 have hz:w.frozen? ⟨b,j,none⟩ = false:=frozen_of_row w b _ cs.toArray e hrow
 have h:=run_call_add (P:=P) hf hname hb hn .i64 he (y:=m) (s:=w64 (n+m)) hc hz (by simp [Op.intArith,w64])
 have hrow':=heap_setCell_same w b j cs.toArray e (.int .i64 (w64 (n+m))) hrow
 refine WL.val rfl (w':=w.setCell ⟨b,j,none⟩ (.int .i64 (w64 (n+m)))) (by simp [execOp,resolve,Deferred.ofValue,ev_func,invoke,hx,hy,h]) (k _ (Chg.setCell w ⟨b,j,none⟩ _) ?_)
 show _=_
 rw [hrow']
 congr 2
 simp
theorem op_ptr {op:BinOp} {x y:Operand} {t t' e:TypeId} {a b:Option Addr} {v:Value} (ht:P.underlying t=some (.pointer e)) (hx:ev r x = .pointer a) (hy:ev r y = .pointer b) (hg:(eqGuard op t x y (.pointer a) (.pointer b)).run P w = .ok () w)
  (hv:(binOp op t (.pointer a) (.pointer b)).run P w = .ok v w) :
  (execOp (ev r) ⟨d,.binOp op t x y t',ty,pos,aft,g⟩).run P w = .ok (.value v) w:=by
 have _:=ht
 simp only [execOp,hx,hy]
 simp [hg,hv]
end
end Go.Li
