/- Memory that a call makes for itself: make, literals, append, stores. No condition. -/
import Derived.Test.YtcnehblmgfbfoaaGreatLa
import Derived.Laws.MakeOwn
import Derived.Great.BuildSlice
import Derived.Laws.Tables
namespace Go.Li
open Go
def OE {α:Type} (G:LN) (B:Nat) (w:World) (T:ag α) (cs:LV) (x:α) (f:LN):Prop:=
 T.rep w.heap cs x f∧f.Nodup∧∀ b∈f,b∈G∨B≤b
theorem OE.cw {α:Type} {G:LN} {B:Nat} {w w':World} {T:ag α} {cs:LV} {x:α} {f F:LN} (h:OE G B w T cs x f) (hC:ao F w w') (hn:∀ b∈f,b ∉ F):OE G B w' T cs x f:=
 ⟨T.cw h.1 hC hn,h.2⟩
theorem OE.iq {α:Type} {G:LN} {B:Nat} {w w':World} {T:ag α} {cs:LV} {x:α} {f:LN} (h:OE G B w T cs x f) (hC:ao [] w w'):OE G B w' T cs x f:=
 ⟨T.iq h.1 hC,h.2⟩
theorem OE.low {α:Type} {G:LN} {B B':Nat} {w:World} {T:ag α} {cs:LV} {x:α} {f:LN} (h:OE [] B w T cs x f) (hB:B'≤B):OE G B' w T cs x f:=
 ⟨h.1,h.2.1,fun b hb=>.inr (Nat.le_trans hB ((h.2.2 b hb).resolve_left (by simp)))⟩
theorem OE.fresh {α:Type} {B:Nat} {w:World} {T:ag α} {cs:LV} {x:α} {f:LN} (h:OE [] B w T cs x f):∀ b∈f,B≤b:=fun b hb=>(h.2.2 b hb).resolve_left (by simp)
theorem OE.Qf {α:Type} {G G':LN} {B B':Nat} {w:World} {T:ag α} {cs:LV} {x:α} {f:LN} (h:OE G B w T cs x f) (hs:∀ b∈f,b∈G'):OE G' B' w T cs x f:=⟨h.1,h.2.1,fun b hb=>.inl (hs b hb)⟩
theorem OE.back {α:Type} {G k:LN} {B n:Nat} {w:World} {T:ag α} {cs:LV} {x:α} {f:LN} (h:OE k n w T cs x f) (hk:∀ b∈k,b∈G∨B≤b) (hB:B≤n):OE G B w T cs x f:=
 ⟨h.1,h.2.1,fun b hb=>(h.2.2 b hb).elim (hk b) fun hn=>.inr (Nat.le_trans hB hn)⟩
def pK (f g:LN):Prop:=∀ b∈f,b ∉ g
theorem pK.symm {f g:LN} (h:pK f g):pK g f:=fun b hb hf=>h b hf hb
theorem pK.nil (f:LN):pK f []:=fun _ _ h=>nomatch h
theorem tn {b n:Nat} (h:n≤b):∀ i∈[b],n≤i:=fun i hi=>by rw [List.mem_singleton.1 hi]; exact h
theorem Oa {b n:Nat} (h:b < n):∀ i∈[b],i < n:=fun i hi=>by rw [List.mem_singleton.1 hi]; exact h
theorem Fv {f f' k G:LN} {n B:Nat} (h:∀ b∈f',b∈f∨b∈k∨n≤b) (h1:∀ b∈f,b∈G∨B≤b) (h2:∀ b∈k,b∈G∨B≤b) (hn:B≤n):∀ b∈f',b∈G∨B≤b:=by
 intro b hb
 rcases h b hb with h | h | h
 ·exact h1 b h
 ·exact h2 b h
 ·exact .inr (Nat.le_trans hn h)
section
variable {α:Type} {E:ag α} {P:Program} {r:NV} {w:World} {d:Option Nat} {ty:TI} {pos:String} {ae:Array Edge} {g:Option (Nat×Bool)}
theorem cells_one {v:Value} (h:v.oneCell'=true):v.cells = #[v]:=by cases v <;> first | rfl | cases h
theorem Cz {t e:TI} {x y:OO} {i:TypeInfo} {z:Value} {z0:α} {n:Nat} (ht:P.underlying t=some (.slice e)) (hi:P.info? e=some i) (hz:i.zero=some z)
  (hs:i.size=1) (hE:E.size=1) (Qh:z.oneCell'=true) (Fw:∀ h,E.rep h [z] z0 []) (hx:ev r x = .int .i64 (n:Int)) (hy:ev r y = .int .i64 (n:Int)) (hb:i.bytes * n≤281474976710656) (hn:n≤maxLen) :
  ∃ v w' f,(execOp (ev r) ⟨d,.makeSlice t x y,ty,pos,ae,g⟩).run P w = .ok (.value v) w'∧ao [] w w'∧OE [] w.heap.size w' (aI e E) [v] (List.replicate n z0) f:=by
 have hm:n≤9223372036854775807:=hn
 have hr:=run_make (P:=P) w t e i z ht hi hz .i64 .i64 n n (by omega) (Int.le_refl _) (by rw [← Int.natCast_mul]; omega) (by omega)
 simp only [Int.toNat_natCast,hs,Nat.mul_one] at hr
 refine ⟨_,_,[w.heap.size],by simp only [execOp,hx,hy]; simp [hr]; exact ⟨rfl,rfl⟩,ao.alloc _ _ _,?_,by simp,by simp⟩
 refine ⟨_,n,by simp,.inr ⟨w.heap.size,_,[],rfl,heap_alloc_new w _,rfl,by simp,hn,?_,?_⟩⟩
 ·rw [size_madeCells,hE,Nat.mul_one]
 ·have o4:(madeCells z.cells n).toList=List.replicate n z:=by
   rw [cells_one Qh]
   unfold madeCells
   rw [Array.toList_map,Array.toList_range]
   apply List.ext_getElem
   ·simp
   ·intro k h1 h2
    simp [Nat.mod_one]
  rw [o4,List.length_replicate,hE,Nat.mul_one,List.take_of_length_le (by simp)]
  clear hr o4 hm hn hb hx hy
  generalize (w.alloc _).heap=H
  induction n with
  | zero=>exact ⟨rfl,rfl⟩
  | succ n ih=>exact ⟨[z],List.replicate n z,[],[],rfl,rfl,Fw _,ih⟩
theorem Ie {t e:TI} {x y:OO} {i:TypeInfo} {z:Value} {n:Nat} (ht:P.underlying t=some (.slice e)) (hi:P.info? e=some i) (hz:i.zero=some z)
  (hs:i.size=E.size) (hx:ev r x = .int .i64 0) (hy:ev r y = .int .i64 (n:Int)) (hb:i.bytes * n≤281474976710656) (hn:n≤maxLen) :
  ∃ v w' f,(execOp (ev r) ⟨d,.makeSlice t x y,ty,pos,ae,g⟩).run P w = .ok (.value v) w'∧ao [] w w'∧OE [] w.heap.size w' (aI e E) [v] [] f:=by
 have hm:n≤9223372036854775807:=hn
 have hr:=run_make (P:=P) w t e i z ht hi hz .i64 .i64 0 n (by omega) (by omega) (by rw [← Int.natCast_mul]; omega) (by omega)
 simp only [Int.toNat_natCast,Int.toNat_zero] at hr
 refine ⟨_,_,[w.heap.size],by simp only [execOp,hx,hy]; simp [hr]; exact ⟨rfl,rfl⟩,ao.alloc _ _ _,?_,by simp,by simp⟩
 exact ⟨_,n,by simp,.inr ⟨w.heap.size,_,[],rfl,heap_alloc_new w _,rfl,by simp,hn,by rw [size_madeCells,hs],by simp,rfl⟩⟩
theorem Cy {t e:TI} {i:TypeInfo} (ht:P.underlying t=some (.slice e)) (hi:P.info? e=some i) :
  ∃ v w' f,(execOp (ev r) ⟨d,.buildSlice t 0 #[],ty,pos,ae,g⟩).run P w = .ok (.value v) w'∧ao [] w w'∧OE [] w.heap.size w' (aI e E) [v] [] f:=by
 refine ⟨.slice (some ⟨w.heap.size,0,none⟩) 0 0,w.alloc (.cells #[] e),[w.heap.size],?_,ao.alloc _ _ _,?_,by simp,by simp⟩
 ·simp only [execOp,Instr.buildSlice]
  have h0:Array.map (fun (_:Nat)=>(default:Value)) (Array.range 0) = #[]:=Array.eq_empty_of_size_eq_zero (by simp)
  simp [run_underlying ht,sizeOf,typeInfo,hi,Instr.fill,newRow,h0]
 ·exact ⟨_,0,by simp,.inr ⟨w.heap.size,#[],[],rfl,heap_alloc_new w _,rfl,by simp,by simp [maxLen],by simp,by simp,rfl⟩⟩
theorem Ho {t e:TI} {i:TypeInfo} {z:Value} {len:Nat} {parts:Array (Nat×Operand)} {cs:LV} (ht:P.underlying t=some (.slice e)) (hi:P.info? e=some i) (hz:i.zero=some z)
  (hs:i.size=1) (hl:0 < len) (sS:len≤16777216)
  (hf:Instr.fill (fun i=>some (i * 1,1)) ((Array.range (len * 1)).map (z.cells[· % z.cells.size]!)) ((parts.map fun (i,x)=>(i,ev r x)).toList)=some cs.toArray) :
  (execOp (ev r) ⟨d,.buildSlice t len parts,ty,pos,ae,g⟩).run P w = .ok (.value (.slice (some ⟨w.heap.size,0,none⟩) len len)) (w.alloc (.cells cs.toArray e)):=by
 have h:=run_buildSlice (P:=P) w t e len (parts.map fun (i,x)=>(i,ev r x)) cs.toArray i z ht hi hz (by rw [hs]; omega) (by rw [hs]; omega) (by rw [hs]; exact hf)
 simp only [execOp]
 simp [h]
theorem S7 {z v:Value} (h:v.oneCell'=true):Instr.fill (fun i=>some (i * 1,1)) ((Array.range (1 * 1)).map (z.cells[· % z.cells.size]!)) [(0,v)]=some [v].toArray:=by
 simp [Instr.fill,cells_one h]
 apply Array.ext
 ·simp
 ·intro i h1 h2
  obtain rfl:i=0:=by simp at h2; omega
  simp
theorem Fx {t e:TI} {i:TypeInfo} {z:Value} {x:OO} (ht:P.underlying t=some (.slice e)) (hi:P.info? e=some i) (hz:i.zero=some z)
  (hs:i.size=1) (hv:(ev r x).oneCell'=true) :
  (execOp (ev r) ⟨d,.buildSlice t 1 #[(0,x)],ty,pos,ae,g⟩).run P w = .ok (.value (.slice (some ⟨w.heap.size,0,none⟩) 1 1)) (w.alloc (.cells [ev r x].toArray e)):=
 Ho ht hi hz hs (by omega) (by omega) (by simpa using S7 (z:=z) hv)
theorem A7 {v:Value} {ys:List α} {f:LN} (hr:(bE E).rep w.heap [v] ys f):ys=[]∨
  ∃ a c news g,v = .slice (some a) ys.length c∧(∀ j u,news[j]? = some u→w.cell? (a.add j)=some u)∧db E w.heap news ys g∧∀ b∈g,b∈f:=by
 obtain ⟨base,cap,hv,hr⟩:=hr
 obtain rfl:v = .slice base ys.length cap:=by simpa using hv
 rcases hr with ⟨h,_⟩ | ⟨b,off,cur,e,fz,f',rfl,h2,rfl,_,h3⟩
 ·exact .inl h
 ·refine .inr ⟨_,cap,_,f',rfl,?_,h3,fun b hb=>by simp [hb]⟩
  intro j u hu
  rw [iy,cell_of_row w b _ cur e fz h2]
  rw [List.getElem?_take] at hu
  split at hu
  ·rw [List.getElem?_drop] at hu
   rw [← Array.getElem?_toList]
   exact hu
  ·cases hu
theorem p7 {t e:TI} {s x:OO} {i:TypeInfo} {z:Value} {sv:Value} {xs ys:List α} {f k:LN} {a:Addr} {c:Nat} {news:LV}
  (ht:P.underlying t=some (.slice e)) (hi:P.info? e=some i) (hz:i.zero=some z) (hs:i.size=E.size) (vv:z.cells.size=E.size)
  (tJ:ev r s=sv) (hO:(aI e E).rep w.heap [sv] xs f) (Uh:f.Nodup)
  (hx:ev r x = .slice (some a) ys.length c) (wc:∀ j u,news[j]? = some u→w.cell? (a.add j)=some u) (hy:db E w.heap news ys k) (hd:pK k f) (hm:0 < ys.length)
  (hb:(xs.length+ys.length) * i.bytes≤140737488355328) (uI:xs.length+ys.length≤maxLen) :
  ∃ v w' f',(execOp (ev r) ⟨d,.call ⟨.builtin .append,#[s,x],#[t,t]⟩,ty,pos,ae,g⟩).run P w = .ok (.value v) w'∧ao f w w'∧
   (aI e E).rep w'.heap [v] (xs++ys) f'∧(∀ b∈f',b∈f∨b∈k∨w.heap.size≤b)∧(k.Nodup→f'.Nodup):=by
 have Mm:xs.length+ys.length≤9223372036854775807:=uI
 have hlen:=ju hy
 have h1:=Dj hy
 have oq:∀ v w',(Builtin.append_ #[t,t] ty #[sv,.slice (some a) ys.length c]).run P w = .ok v w'→
   (execOp (ev r) ⟨d,.call ⟨.builtin .append,#[s,x],#[t,t]⟩,ty,pos,ae,g⟩).run P w = .ok (.value v) w':=by
  intro v w' h
  simp only [execOp,resolve,invoke,builtin,Sem.run_bind,Sem.run_pure,Result.andThen_ok,List.map_toArray,List.map_cons,List.map_nil,tJ,hx,h]
 obtain ⟨base,cap,hv,hr⟩:=hO
 obtain rfl:sv = .slice base xs.length cap:=by simpa using hv
 have fresh:∀ (GD:LV) (f0:LN) (qg:Nat),db E w.heap GD xs f0→f0.Nodup→(∀ b∈f0,b∈f)→
   let w':=w.drew.alloc (.cells (GD.toArray++news.toArray++Builtin.zeroCells z.cells (grownCap w (xs.length+ys.length) qg e - (xs.length+ys.length))) e)
   (aI e E).rep w'.heap [.slice (some ⟨w.heap.size,0,none⟩) (xs.length+ys.length) (grownCap w (xs.length+ys.length) qg e)] (xs++ys) (w.heap.size :: (f0++k))∧
   ao f w w'∧(∀ b∈(w.heap.size :: (f0++k)),b∈f∨b∈k∨w.heap.size≤b)∧(k.Nodup→(w.heap.size :: (f0++k)).Nodup):=by
  intro GD f0 qg hold w5 ea
  have yB:=ju hold
  have hge:=grownCap_ge w (xs.length+ys.length) qg e
  have zg:=grownCap_le_maxLen w (xs.length+ys.length) qg e uI
  have hC:ao [] w (w.drew.alloc (.cells (GD.toArray++news.toArray++Builtin.zeroCells z.cells (grownCap w (xs.length+ys.length) qg e - (xs.length+ys.length))) e)):=
   (ao.drew [] w).trans (ao.alloc [] _ _)
  refine ⟨⟨_,_,by rw [List.length_append],.inr ⟨w.heap.size,_,f0++k,rfl,heap_alloc_new w.drew _,rfl,by rw [List.length_append]; exact hge,zg,?_,?_⟩⟩,hC.nil,?_,?_⟩
  ·rw [Array.size_append,Array.size_append,List.size_toArray,List.size_toArray,size_zeroCells,vv,yB,hlen,← Nat.add_mul,← Nat.add_mul]
   congr 1
   omega
  ·rw [Array.toList_append,Array.toList_append,List.toList_toArray,List.toList_toArray,List.length_append,Nat.add_mul,← yB,← hlen,List.take_left' (by rw [List.length_append])]
   exact fx (r9 hold hy) fun b hb=>hC.block b (by
    rcases List.mem_append.1 hb with hb | hb
    ·exact j8 hold b hb
    ·exact j8 hy b hb) (by simp)
  ·intro b hb
   rcases List.mem_cons.1 hb with rfl | hb
   ·exact .inr (.inr (Nat.le_refl _))
   ·rcases List.mem_append.1 hb with hb | hb
    ·exact .inl (ea b hb)
    ·exact .inr (.inl hb)
  ·intro hk
   refine List.nodup_cons.2 ⟨fun hm=>?_,List.nodup_append.2 ⟨w5,hk,fun x hx y hy Qi=>hd y hy (Qi ▸ ea x hx)⟩⟩
   rcases List.mem_append.1 hm with hm | hm
   ·exact absurd (j8 hold _ hm) (Nat.lt_irrefl _)
   ·exact absurd (j8 hy _ hm) (Nat.lt_irrefl _)
 rcases hr with ⟨rfl,rfl,rfl,rfl⟩ | ⟨b,cur,f0,rfl,hg,rfl,ED,zg,vm,ew⟩
 ·have hr:=run_append_nil (P:=P) (w:=w) t ty e i z ht hi hz a ys.length c news (by rw [hlen,hs]) wc hm (by simp only [List.length_nil] at Mm; omega) (by simp only [List.length_nil,Nat.zero_add] at hb; omega)
  have hf:=fresh [] [] 0 ⟨rfl,rfl⟩ (by simp) (by simp)
  simp only [List.length_nil,Nat.zero_add,List.nil_append,Array.empty_append] at hf hr ⊢
  exact ⟨_,_,_,oq _ _ hr,hf.2.1,hf.1,hf.2.2⟩
 ·have w5:f0.Nodup:=(List.nodup_cons.1 Uh).2
  have uM:b ∉ f0:=(List.nodup_cons.1 Uh).1
  have yB:=ju ew
  by_cases GF:xs.length+ys.length≤cap
  ·have Qj:xs.length * i.size+news.length≤cur.size:=by rw [hlen,vm,hs,← Nat.add_mul]; exact Nat.mul_le_mul_right _ GF
   have hr:=run_append_room (P:=P) (w:=w) t ty e i ht hi b xs.length cap cur hg a ys.length c news (by rw [hlen,hs]) wc h1 GF Qj
   have hC:ao (b :: f0) w (w.setRow b (cur.toList.take (xs.length * i.size)++news++cur.toList.drop (xs.length * i.size+news.length)).toArray):=
    ⟨rfl,rfl,rfl,Nat.le_refl _,by simp,fun j _ hj=>setRow_other w b j _ fun h=>hj (by simp [h])⟩
   refine ⟨_,_,b :: (f0++k),oq _ _ hr,hC,⟨_,cap,by rw [List.length_append],.inr ⟨b,_,f0++k,rfl,setRow_heap w b cur _ e _ hg,rfl,by rw [List.length_append]; exact GF,zg,?_,?_⟩⟩,?_,?_⟩
   ·rw [List.size_toArray,← vm]
    simp only [List.length_append,List.length_take,List.length_drop,Array.length_toList]
    omega
   ·have e1:(cur.toList.take (xs.length * i.size)++news++cur.toList.drop (xs.length * i.size+news.length)).take ((xs++ys).length * E.size)=cur.toList.take (xs.length * E.size)++news:=by
     rw [hs] at Qj ⊢
     apply List.take_left'
     rw [List.length_append,yB,hlen,List.length_append,Nat.add_mul]
    rw [List.toList_toArray,e1]
    exact fx (r9 ew hy) fun j hj=>setRow_other w b j _ (by
     rintro rfl
     rcases List.mem_append.1 hj with hj | hj
     ·exact uM hj
     ·exact hd _ hj (by simp))
   ·intro j hj
    rcases List.mem_cons.1 hj with rfl | hj
    ·exact .inl (by simp)
    ·rcases List.mem_append.1 hj with hj | hj
     ·exact .inl (by simp [hj])
     ·exact .inr (.inl hj)
   ·intro hk
    refine List.nodup_cons.2 ⟨fun hm=>?_,List.nodup_append.2 ⟨w5,hk,fun x hx y hy Qi=>hd y hy (by simp [← Qi,hx])⟩⟩
    rcases List.mem_append.1 hm with hm | hm
    ·exact uM hm
    ·exact hd _ hm (by simp)
  ·have holds:∀ j u,(cur.toList.take (xs.length * E.size))[j]? = some u→w.cell? ((⟨b,0,none⟩ : Addr).add j)=some u:=by
    intro j u hu
    rw [iy,cell_of_row w b _ cur e _ hg,Nat.zero_add,← Array.getElem?_toList]
    rw [List.getElem?_take] at hu
    split at hu
    ·exact hu
    ·cases hu
   have hr:=run_append_grow (P:=P) (w:=w) t ty e i z ht hi hz ⟨b,0,none⟩ xs.length cap _ (by rw [yB,hs]) holds a ys.length c news (by rw [hlen,hs]) wc (by omega) (by omega) (growslice_fits (by omega) hb)
   have hf:=fresh _ f0 cap ew w5 (fun j hj=>by simp [hj])
   exact ⟨_,_,_,oq _ _ hr,hf.2.1,hf.1,hf.2.2⟩
def At (w:World) (p:Addr) (cs:LV):Prop:=∀ j u,cs[j]? = some u→w.cell? (p.add j)=some u
theorem At.cw {w':World} {F:LN} {p:Addr} {cs:LV} (h:At w p cs) (hC:ao F w w') (hn:p.block ∉ F):At w' p cs:=by
 intro j u hj
 refine hC.cell ?_ (h j u hj)
 have:(p.add j).block=p.block:=by unfold Addr.add; split <;> rfl
 rw [this]; exact hn
theorem At.iq {w':World} {p:Addr} {cs:LV} (h:At w p cs) (hC:ao [] w w'):At w' p cs:=h.cw hC (by simp)
theorem Qk {b:Nat} {cur:LV} {e:TI} {fz:Nat×Nat} (h:w.heap[b]? = some (.cells cur.toArray e fz)):At w ⟨b,0,none⟩ cur:=by
 intro j u hj
 rw [iy,Nat.zero_add,cell_of_row w b j _ e fz h]
 simpa using hj
theorem At.cell {p:Addr} {cs:LV} (h:At w p cs) {j:Nat} {u:Value} (hj:cs[j]? = some u):w.cell? (p.add j)=some u:=h j u hj
theorem At.FW {p:Addr} {cs:LV} (h:At w p cs) {u:Value} (hj:cs[0]? = some u):w.cell? p=some u:=h 0 u hj
def Row (w:World) (b:Nat) (cs:LV) (e:TI):Prop:=w.heap[b]? = some (.cells cs.toArray e (0,0))
theorem Row.at {b:Nat} {cs:LV} {e:TI} (h:Row w b cs e):At w ⟨b,0,none⟩ cs:=Qk h
theorem Row.lt {b:Nat} {cs:LV} {e:TI} (h:Row w b cs e):b < w.heap.size:=(Array.getElem?_eq_some_iff.1 h).1
theorem Row.cw {w':World} {F:LN} {b:Nat} {cs:LV} {e:TI} (h:Row w b cs e) (hC:ao F w w') (hn:b ∉ F):Row w' b cs e:=(hC.block b h.lt hn).trans h
theorem Row.iq {w':World} {b:Nat} {cs:LV} {e:TI} (h:Row w b cs e) (hC:ao [] w w'):Row w' b cs e:=h.cw hC (by simp)
variable {ops l:LO} {K:(Nat→Value)→World→Prop}
theorem WL.box {t:TI} {x:OO} (k:∀ b w',ao [] w w'→Row w' b (ev r x).cells.toList t→w.heap.size≤b→WL P ops l (dw r d (.pointer (some ⟨b,0,none⟩))) w' K) :
  WL P ops (⟨d,.box t x,ty,pos,ae,none⟩ :: l) r w K:=
 WL.val rfl (Qe rfl) (k _ _ (ao.alloc _ _ _) (by unfold Row; rw [Array.toArray_toList]; exact heap_alloc_new w _) (Nat.le_refl _))
theorem WL.alloc {t:TI} {i:TypeInfo} {z:Value} (hi:P.info? t=some i) (hz:i.zero=some z) (k:∀ b w',ao [] w w'→Row w' b z.cells.toList t→w.heap.size≤b→WL P ops l (dw r d (.pointer (some ⟨b,0,none⟩))) w' K) :
  WL P ops (⟨d,.alloc t,ty,pos,ae,none⟩ :: l) r w K:=
 WL.val rfl (yS hi hz) (k _ _ (ao.alloc _ _ _) (by unfold Row; rw [Array.toArray_toList]; exact heap_alloc_new w _) (Nat.le_refl _))
theorem WL.An {t e:TI} {i:TypeInfo} {z:Value} {x:OO} (ht:P.underlying t=some (.slice e)) (hi:P.info? e=some i) (hz:i.zero=some z)
  (hs:i.size=1) (hv:(ev r x).oneCell'=true) (k:∀ b w',ao [] w w'→Row w' b [ev r x] e→w.heap.size≤b→WL P ops l (dw r d (.slice (some ⟨b,0,none⟩) 1 1)) w' K) :
  WL P ops (⟨d,.buildSlice t 1 #[(0,x)],ty,pos,ae,none⟩ :: l) r w K:=
 WL.val rfl (Fx ht hi hz hs hv) (k _ _ (ao.alloc _ _ _) (heap_alloc_new w _) (Nat.le_refl _))
theorem xp {h h':Array Obj} (hE:∀ {h cs x f},E.rep h cs x f→f=[]):∀ {xs:List α} {cs f},db E h cs xs f→f=[]∧db E h' cs xs f:=by
 intro xs
 induction xs with
 | nil=>rintro cs f ⟨rfl,rfl⟩; exact ⟨rfl,rfl,rfl⟩
 | cons x xs ih=>
  rintro cs f ⟨c,ic,f1,f2,rfl,rfl,h1,h2⟩
  obtain ⟨rfl,h3⟩:=ih h2
  have:=hE h1
  subst this
  exact ⟨rfl,c,ic,[],[],rfl,rfl,E.congr h1 (by simp),h3⟩
theorem Ig {t e:TI} {x y:OO} {i:TypeInfo} {v u:Value} {xs:List α} {f:LN} {j:Int} {z z':α} (hE:∀ {h cs x f},E.rep h cs x f→f=[]) (h1:E.size=1)
  (hi:P.info? t=some i) (hs:i.size=1) (hO:(aI e E).rep w.heap [v] xs f) (hz:xs[j.toNat]? = some z)
  (hx:ev r x = .pointer (some (ep v 1 j))) (hy:ev r y=u) (hu:E.rep w.heap [u] z' []) :
  ∃ w',(execOp (ev r) ⟨d,.store t x y,ty,pos,ae,g⟩).run P w = .ok .skip w'∧ao f w w'∧(aI e E).rep w'.heap [v] (xs.set j.toNat z') f:=by
 obtain ⟨base,cap,hv,hr⟩:=hO
 obtain rfl:v = .slice base xs.length cap:=by simpa using hv
 have bj:j.toNat < xs.length:=(List.getElem?_eq_some_iff.1 hz).1
 rcases hr with ⟨_,_,rfl,_⟩ | ⟨b,cur,f0,rfl,hg,rfl,ED,zg,vm,ew⟩
 ·simp at bj
 ·obtain ⟨rfl,_⟩:=xp (h':=w.heap) hE ew
  rw [h1,Nat.mul_one] at vm ew
  have B0:ep (.slice (some ⟨b,0,none⟩) xs.length cap) 1 j = ⟨b,j.toNat,none⟩:=by
   simp only [ep,iy,Nat.zero_add,Nat.mul_one]
  rw [B0] at hx
  have ox:w.cell? ⟨b,j.toNat,none⟩ = some (cur[j.toNat]'(by omega)):=by
   rw [cell_of_row w b _ cur e _ hg,Array.getElem?_eq_getElem]
  have tL:u.oneCell'=true:=E.one hu u (by simp)
  refine ⟨_,yZ hi hs hx hy tL ox (frozen_of_row w b _ cur e hg),ao.setCell w ⟨b,j.toNat,none⟩ u,?_⟩
  have je:=heap_setCell_same w b j.toNat cur e u hg
  refine ⟨_,cap,by rw [List.length_set],.inr ⟨b,_,[],rfl,je,rfl,by rw [List.length_set]; exact ED,zg,by simpa [h1] using vm,?_⟩⟩
  rw [List.length_set,h1,Nat.mul_one,Array.toList_setIfInBounds]
  obtain ⟨c,g0,g1,g2,p,q,B1,hc,hp,vn,xe⟩:=Dl j.toNat z z' ew hz
  have B2:c.length=1:=by rw [E.len vn,h1]
  rw [h1,Nat.mul_one] at hp
  have e0:g0=[]∧g1=[]∧g2=[]:=by
   have:=B1.symm
   simp only [List.append_eq_nil_iff] at this
   exact ⟨this.1.1,this.1.2,this.2⟩
  obtain ⟨rfl,rfl,rfl⟩:=e0
  have hh:=xe (w.setCell ⟨b,j.toNat,none⟩ u).heap [u] [] (by simp) (by simp) (E.congr hu (by simp))
  have e1:(cur.toList.set j.toNat u).take xs.length=p++[u]++q:=by
   rw [List.take_set,hc,List.append_assoc,List.append_assoc,List.set_append_right _ _ (by omega)]
   congr 1
   rw [hp,Nat.sub_self]
   match c,B2 with
   | [c0],_=>rfl
  rw [e1]
  exact hh
theorem uG {k:IntKind}:∀ {h:Array Obj} {cs:LV} {x:Int} {f:LN},(aJ k).rep h cs x f→f=[]:=fun h=>h.2
theorem EI {h:Array Obj}:(bE E).rep h [.slice none 0 0] [] []:=⟨none,0,rfl,.inl ⟨rfl,rfl⟩⟩
theorem Ak {h:Array Obj} {e:TI}:(aI e E).rep h [.slice none 0 0] [] []:=⟨none,0,rfl,.inl ⟨rfl,rfl,rfl,rfl⟩⟩
theorem WL.Am (E:ag α) {t e:TI} {i:TypeInfo} (ht:P.underlying t=some (.slice e)) (hi:P.info? e=some i)
  (k:∀ v w' f,ao [] w w'→OE [] w.heap.size w' (aI e E) [v] [] f→WL P ops l (dw r d v) w' K) :
  WL P ops (⟨d,.buildSlice t 0 #[],ty,pos,ae,none⟩ :: l) r w K:=by
 obtain ⟨v,w',f,h,hC,hO⟩:=Cy (E:=E) (r:=r) (w:=w) (d:=d) (ty:=ty) (pos:=pos) (ae:=ae) (g:=none) ht hi
 exact WL.val rfl h (k v w' f hC hO)
theorem WL.make (E:ag α) {t e:TI} {x y:OO} {i:TypeInfo} {z:Value} {z0:α} {n:Nat} (ht:P.underlying t=some (.slice e)) (hi:P.info? e=some i) (hz:i.zero=some z)
  (hs:i.size=1) (hE:E.size=1) (Qh:z.oneCell'=true) (Fw:∀ h,E.rep h [z] z0 []) (hx:ev r x = .int .i64 (n:Int)) (hy:ev r y = .int .i64 (n:Int)) (hb:i.bytes * n≤281474976710656) (hn:n≤maxLen)
  (k:∀ v w' f,ao [] w w'→OE [] w.heap.size w' (aI e E) [v] (List.replicate n z0) f→WL P ops l (dw r d v) w' K) :
  WL P ops (⟨d,.makeSlice t x y,ty,pos,ae,none⟩ :: l) r w K:=by
 obtain ⟨v,w',f,h,hC,hO⟩:=Cz (d:=d) (ty:=ty) (pos:=pos) (ae:=ae) (g:=none) ht hi hz hs hE Qh Fw hx hy hb hn
 exact WL.val rfl h (k v w' f hC hO)
theorem WL.FZ (E:ag α) {t e:TI} {x y:OO} {i:TypeInfo} {z:Value} {n:Nat} (ht:P.underlying t=some (.slice e)) (hi:P.info? e=some i) (hz:i.zero=some z)
  (hs:i.size=E.size) (hx:ev r x = .int .i64 0) (hy:ev r y = .int .i64 (n:Int)) (hb:i.bytes * n≤281474976710656) (hn:n≤maxLen)
  (k:∀ v w' f,ao [] w w'→OE [] w.heap.size w' (aI e E) [v] [] f→WL P ops l (dw r d v) w' K) :
  WL P ops (⟨d,.makeSlice t x y,ty,pos,ae,none⟩ :: l) r w K:=by
 obtain ⟨v,w',f,h,hC,hO⟩:=Ie (E:=E) (d:=d) (ty:=ty) (pos:=pos) (ae:=ae) (g:=none) ht hi hz hs hx hy hb hn
 exact WL.val rfl h (k v w' f hC hO)
theorem WL.tr (G:LN) (B:Nat) {t e:TI} {s x:OO} {i:TypeInfo} {z:Value} {sv u:Value} {xs:List α} {y:α} {f k:LN} {b:Nat} {et:TI}
  (ht:P.underlying t=some (.slice e)) (hi:P.info? e=some i) (hz:i.zero=some z) (hs:i.size=1) (hE:E.size=1) (vv:z.oneCell'=true)
  (tJ:ev r s=sv) (hO:OE G B w (aI e E) [sv] xs f) (hx:ev r x = .slice (some ⟨b,0,none⟩) 1 1) (bo:Row w b [u] et) (hy:E.rep w.heap [u] y k) (hk:k.Nodup) (Ql:∀ b∈k,b∈G∨B≤b) (hd:pK k f)
  (hb:(xs.length+1) * i.bytes≤140737488355328) (uI:xs.length+1≤maxLen) (hB:B≤w.heap.size)
  (next:∀ v w' f',ao f w w'→OE G B w' (aI e E) [v] (xs++[y]) f'→(∀ b∈f',b∈f∨b∈k∨w.heap.size≤b)→WL P ops l (dw r d v) w' K) :
  WL P ops (⟨d,.call ⟨.builtin .append,#[s,x],#[t,t]⟩,ty,pos,ae,none⟩ :: l) r w K:=by
 obtain ⟨v,w',f',h,hC,ew,ea,dv⟩:=p7 (d:=d) (ty:=ty) (pos:=pos) (ae:=ae) (g:=none) (ys:=[y]) ht hi hz (by rw [hs,hE]) (by rw [cells_one vv,hE]; rfl) tJ hO.1 hO.2.1 hx bo.at (qy hy) hd (by simp) hb uI
 exact WL.val rfl h (next v w' f' hC ⟨ew,dv hk,Fv ea hO.2.2 Ql hB⟩ ea)
theorem vw {t e:TI} {i:TypeInfo} (ht:P.underlying t=some (.slice e)) (hi:P.info? e=some i) {b a:Option Addr} {n cap c:Nat} (hn:n≤cap) :
  (Builtin.append_ #[t,t] ty #[.slice b n cap,.slice a 0 c]).run P w = .ok (.slice b n cap) w:=by
 cases a <;> cases b <;> simp [Builtin.append_,run_underlying ht,sizeOf,typeInfo,hi,Builtin.lenOf,Builtin.firstCells,loadCells,loadCellsFrom,storeCells,hn]
theorem WL.x7 (G:LN) (B:Nat) {t e:TI} {s x:OO} {i:TypeInfo} {z:Value} {sv yv:Value} {xs ys:List α} {f k:LN} (OP:∀ {h cs x f},E.rep h cs x f→f=[])
  (ht:P.underlying t=some (.slice e)) (hi:P.info? e=some i) (hz:i.zero=some z) (hs:i.size=1) (hE:E.size=1) (vv:z.oneCell'=true)
  (tJ:ev r s=sv) (hO:OE G B w (aI e E) [sv] xs f) (hx:ev r x=yv) (hy:(bE E).rep w.heap [yv] ys k)
  (hb:(xs.length+ys.length) * i.bytes≤140737488355328) (uI:xs.length+ys.length≤maxLen) (hB:B≤w.heap.size)
  (next:∀ v w' f',ao f w w'→OE G B w' (aI e E) [v] (xs++ys) f'→(∀ b∈f',b∈f∨b∈[]∨w.heap.size≤b)→WL P ops l (dw r d v) w' K) :
  WL P ops (⟨d,.call ⟨.builtin .append,#[s,x],#[t,t]⟩,ty,pos,ae,none⟩ :: l) r w K:=by
 have o4:=A7 hy
 rcases Nat.eq_zero_or_pos ys.length with yu | yu
 ·obtain rfl:ys=[]:=List.eq_nil_of_length_eq_zero yu
  obtain ⟨b0,c0,Cw⟩:=rT hy
  obtain ⟨base,cap,hv,hr⟩:=hO.1
  obtain rfl:sv = .slice base xs.length cap:=by simpa using hv
  have JS:xs.length≤cap:=by
   rcases hr with ⟨_,rfl,rfl,_⟩ | ⟨_,_,_,_,_,_,h,_⟩
   ·simp
   ·exact h
  have oq:=vw (P:=P) (w:=w) (ty:=ty) ht hi (b:=base) (a:=b0) (c:=c0) JS
  refine WL.val rfl (v:=.slice base xs.length cap) (w':=w) ?_ (next _ w f (ao.refl _ _) (by rw [List.append_nil]; exact hO) fun b hb=>.inl hb)
  subst Cw
  simp only [execOp,resolve,invoke,builtin,Sem.run_bind,Sem.run_pure,Result.andThen_ok,List.map_toArray,List.map_cons,List.map_nil,tJ,hx,List.length_nil,oq]
 ·rcases o4 with rfl | ⟨a,c,news,g1,Cw,wc,ew,_⟩
  ·simp at yu
  ·obtain ⟨rfl,_⟩:=xp (h':=w.heap) OP ew
   obtain ⟨v,w',f',h,hC,BV,ea,dv⟩:=p7 (d:=d) (ty:=ty) (pos:=pos) (ae:=ae) (g:=none) ht hi hz (by rw [hs,hE]) (by rw [cells_one vv,hE]; rfl) tJ hO.1 hO.2.1 (hx.trans Cw) wc ew (fun _ h=>nomatch h) yu hb uI
   exact WL.val rfl h (next v w' f' hC ⟨BV,dv List.nodup_nil,Fv ea hO.2.2 (fun _ h=>nomatch h) hB⟩ ea)
theorem WL.Ao (G:LN) (B:Nat) {t:TI} {e:TI} {x y:OO} {i:TypeInfo} {v u:Value} {xs:List α} {f:LN} {j:Int} {z z':α} (hE:∀ {h cs x f},E.rep h cs x f→f=[]) (h1:E.size=1)
  (hi:P.info? t=some i) (hs:i.size=1) (hO:OE G B w (aI e E) [v] xs f) (hz:xs[j.toNat]? = some z)
  (hx:ev r x = .pointer (some (ep v 1 j))) (hy:ev r y=u) (hu:E.rep w.heap [u] z' [])
  (k:∀ w',ao f w w'→OE G B w' (aI e E) [v] (xs.set j.toNat z') f→WL P ops l (dw r d undef) w' K) :
  WL P ops (⟨d,.store t x y,ty,pos,ae,none⟩ :: l) r w K:=by
 obtain ⟨w',h,hC,ew⟩:=Ig (d:=d) (ty:=ty) (pos:=pos) (ae:=ae) (g:=none) (e:=e) hE h1 hi hs hO.1 hz hx hy hu
 exact WL.skip rfl h (k w' hC ⟨ew,hO.2⟩)
theorem WL.JJ {t:TI} {x y:OO} {i:TypeInfo} {b j:Nat} {cs:LV} {e:TI} {u:Value}
  (hi:P.info? t=some i) (hs:i.size=1) (bo:Row w b cs e) (hj:j < cs.length) (hx:ev r x = .pointer (some ⟨b,j,none⟩)) (hy:ev r y=u) (hu:u.oneCell'=true)
  (k:∀ w',ao [b] w w'→Row w' b (cs.set j u) e→WL P ops l (dw r d undef) w' K) :
  WL P ops (⟨d,.store t x y,ty,pos,ae,none⟩ :: l) r w K:=by
 have ox:w.cell? ⟨b,j,none⟩ = some (cs[j]):=by
  rw [cell_of_row w b j _ e _ bo]; simp [hj]
 refine WL.skip rfl (yZ hi hs hx hy hu ox (frozen_of_row w b j _ e bo)) (k _ (ao.setCell w ⟨b,j,none⟩ u) ?_)
 have:=heap_setCell_same w b j cs.toArray e u bo
 unfold Row
 rw [this]
 simp
theorem At.sub {p:Addr} {cs:LV} (h:At w p cs) (off n:Nat):At w (p.add off) ((cs.drop off).take n):=by
 intro j u hj
 rw [List.getElem?_take] at hj
 split at hj
 ·rw [List.getElem?_drop] at hj
  have:=h (off+j) u hj
  have e:(p.add off).add j=p.add (off+j):=by
   unfold Addr.add
   by_cases h1:off=0
   ·subst h1; simp
   ·by_cases h2:j=0
    ·subst h2; simp [h1]
    ·simp [h1,h2]; omega
  rw [e]; exact this
 ·cases hj
theorem KG {t:TI} {parts:List (Nat×Operand)} {cs:Array Value} (h:P.built t (parts.map fun x=>(x.1,ev r x.2))=some cs) :
  (execOp (ev r) ⟨d,.build t parts.toArray,ty,pos,ae,g⟩).run P w = .ok (.value (.agg cs)) w:=by
 have h':=Go.run_build (P:=P) w t (parts.toArray.map fun x=>(x.1,ev r x.2)) cs (by simpa using h)
 simp only [execOp,Sem.run_bind]
 rw [h']
 rfl
section
variable {s:TI} {x:OO} {k off o1 o2 b:Nat} {fs:Array Field} {f:Field} {i:TypeInfo} {a:Addr}
theorem BR (hs:P.underlying s=some (.struct fs)) (hf:fs[k]? = some f)
  (hi:P.info? f.type=some i) (h0:i.size≠0) (ho:f.offset=off) (hx:ev r x = .pointer (some a)) :
  (execOp (ev r) ⟨d,.fieldAddr s x k,ty,pos,ae,g⟩).run P w = .ok (.value (.pointer (some (a.add off)))) w:=by
 rw [← ho]; exact tX hs hf hi h0 hx
theorem BS (hs:P.underlying s=some (.struct fs)) (hf:fs[k]? = some f)
  (hi:P.info? f.type=some i) (h0:i.size≠0) (ho:f.offset=0) (hx:ev r x = .pointer (some a)) :
  (execOp (ev r) ⟨d,.fieldAddr s x k,ty,pos,ae,g⟩).run P w = .ok (.value (.pointer (some a))) w:=by
 have:=tX (d:=d) (ty:=ty) (pos:=pos) (ae:=ae) (g:=g) (w:=w) hs hf hi h0 hx
 rw [ho] at this
 exact this
theorem BT (hs:P.underlying s=some (.struct fs)) (hf:fs[k]? = some f)
  (hi:P.info? f.type=some i) (h0:i.size≠0) (ho:o1+f.offset=o2) (hx:ev r x = .pointer (some ⟨b,o1,none⟩)) :
  (execOp (ev r) ⟨d,.fieldAddr s x k,ty,pos,ae,g⟩).run P w = .ok (.value (.pointer (some ⟨b,o2,none⟩))) w:=by
 have:=tX (d:=d) (ty:=ty) (pos:=pos) (ae:=ae) (g:=g) (w:=w) hs hf hi h0 hx
 rw [iy,ho] at this
 exact this
end
theorem WL.JI {t:TI} {x y:OO} {i:TypeInfo} {b off:Nat} {cs us:LV} {e:TI}
  (hi:P.info? t=some i) (hs:us.length=i.size) (bo:Row w b cs e) (hl:off+us.length≤cs.length) (hx:ev r x = .pointer (some ⟨b,off,none⟩)) (hy:ev r y = .agg us.toArray) (hu:∀ u∈us,u.oneCell'=true)
  (k:∀ w',ao [b] w w'→Row w' b (cs.take off++us++cs.drop (off+us.length)) e→WL P ops l (dw r d undef) w' K) :
  WL P ops (⟨d,.store t x y,ty,pos,ae,none⟩ :: l) r w K:=by
 have h:=run_storeCells_at P b off e us 0 cs.toArray w bo (by simpa using hl) hu
 simp only [Nat.add_zero] at h
 refine WL.skip (w':=w.setRow b (cs.take off++us++cs.drop (off+us.length)).toArray) rfl ?_ (k _ ⟨rfl,rfl,rfl,Nat.le_refl _,by simp,fun j _ hj=>setRow_other w b j _ fun h=>hj (by simp [h])⟩ (setRow_heap w b cs.toArray _ e _ bo))
 simp only [execOp,Instr.storeAt,Instr.sureAddr,hx,hy,storeVar]
 simp [Value.cells,sizeOf,typeInfo,hi,hs,h]
theorem WL.JK (G:LN) (B:Nat) {t:TI} {e:TI} {x y:OO} {i:TypeInfo} {v u:Value} {xs:List α} {f k:LN} {j:Int} {z z':α} (h1:E.size=1)
  (hi:P.info? t=some i) (hs:i.size=1) (hO:OE G B w (aI e E) [v] xs f) (hz:xs[j.toNat]? = some z)
  (hx:ev r x = .pointer (some (ep v 1 j))) (hy:ev r y=u) (hu:E.rep w.heap [u] z' k) (hk:k.Nodup) (Ql:∀ b∈k,b∈G∨B≤b) (hd:pK k f)
  (next:∀ w' f',ao f w w'→OE G B w' (aI e E) [v] (xs.set j.toNat z') f'→(∀ b∈f',b∈f∨b∈k∨w.heap.size≤b)→WL P ops l (dw r d undef) w' K) :
  WL P ops (⟨d,.store t x y,ty,pos,ae,none⟩ :: l) r w K:=by
 obtain ⟨⟨base,cap,hv,hr⟩,dv,rV⟩:=hO
 obtain rfl:v = .slice base xs.length cap:=by simpa using hv
 have bj:j.toNat < xs.length:=(List.getElem?_eq_some_iff.1 hz).1
 rcases hr with ⟨_,_,rfl,_⟩ | ⟨b,cur,f0,rfl,hg,rfl,ED,zg,vm,ew⟩
 ·simp at bj
 ·rw [h1,Nat.mul_one] at vm ew
  have B0:ep (.slice (some ⟨b,0,none⟩) xs.length cap) 1 j = ⟨b,j.toNat,none⟩:=by
   simp only [ep,iy,Nat.zero_add,Nat.mul_one]
  rw [B0] at hx
  have ox:w.cell? ⟨b,j.toNat,none⟩ = some (cur[j.toNat]'(by omega)):=by
   rw [cell_of_row w b _ cur e _ hg,Array.getElem?_eq_getElem]
  have tL:u.oneCell'=true:=E.one hu u (by simp)
  have je:=heap_setCell_same w b j.toNat cur e u hg
  obtain ⟨uM,w5⟩:=List.nodup_cons.1 dv
  obtain ⟨c,g0,g1,g2,p,q,B1,hc,hp,vn,xe⟩:=Dl j.toNat z z' ew hz
  subst B1
  have Mn:∀ i∈g0++g1++g2,(w.setCell ⟨b,j.toNat,none⟩ u).heap[i]? = w.heap[i]?:=fun i hi=>heap_setCell_other w _ i u (fun h=>uM (by have h':i=b:=h; rw [← h']; exact hi))
  have hh:=xe (w.setCell ⟨b,j.toNat,none⟩ u).heap [u] k (fun i hi=>Mn i (by simp [hi])) (fun i hi=>Mn i (by simp [hi]))
   (E.congr hu fun i hi=>heap_setCell_other w _ i u (fun h=>hd i hi (by have h':i=b:=h; rw [h']; simp)))
  refine WL.skip rfl (yZ hi hs hx hy tL ox (frozen_of_row w b _ cur e hg)) (next _ (b :: (g0++k++g2)) ?_ ⟨⟨_,cap,by rw [List.length_set],.inr ⟨b,_,g0++k++g2,rfl,je,rfl,by rw [List.length_set]; exact ED,zg,by simpa [h1] using vm,?_⟩⟩,?_,?_⟩ ?_)
  ·exact (ao.setCell w ⟨b,j.toNat,none⟩ u).mono (by simp)
  ·have B2:c.length=1:=by rw [E.len vn,h1]
   rw [h1,Nat.mul_one] at hp
   rw [List.length_set,h1,Nat.mul_one,Array.toList_setIfInBounds]
   have e1:(cur.toList.set j.toNat u).take xs.length=p++[u]++q:=by
    rw [List.take_set,hc,List.append_assoc,List.append_assoc,List.set_append_right _ _ (by omega)]
    congr 1
    rw [hp,Nat.sub_self]
    match c,B2 with
    | [c0],_=>rfl
   rw [e1]
   exact hh
  ·have zL:=List.nodup_append.1 w5
   have Ih:=List.nodup_append.1 zL.1
   refine List.nodup_cons.2 ⟨fun hm=>?_,List.nodup_append.2 ⟨List.nodup_append.2 ⟨Ih.1,hk,fun a ha c hc Qm=>hd c hc (by simp [← Qm,ha])⟩,zL.2.1,fun a ha c hc Qm=>?_⟩⟩
   ·rcases List.mem_append.1 hm with hm | hm
    ·rcases List.mem_append.1 hm with hm | hm
     ·exact uM (by simp [hm])
     ·exact hd _ hm (by simp)
    ·exact uM (by simp [hm])
   ·subst Qm
    rcases List.mem_append.1 ha with ha | ha
    ·exact zL.2.2 a (by simp [ha]) a hc rfl
    ·exact hd a ha (by simp [hc])
  ·intro i hi
   rcases List.mem_cons.1 hi with rfl | hi
   ·exact rV _ (by simp)
   ·rcases List.mem_append.1 hi with hi | hi
    ·rcases List.mem_append.1 hi with hi | hi
     ·exact rV i (by simp [hi])
     ·exact Ql i hi
    ·exact rV i (by simp [hi])
  ·intro i hi
   rcases List.mem_cons.1 hi with rfl | hi
   ·exact .inl (by simp)
   ·rcases List.mem_append.1 hi with hi | hi
    ·rcases List.mem_append.1 hi with hi | hi
     ·exact .inl (by simp [hi])
     ·exact .inr (.inl hi)
    ·exact .inl (by simp [hi])
section
variable {n:Nat} {fn:Func} {t u v:Nat} {ty':TI} {ds:TypeDesc} {i:TypeInfo} {cs:LV} {p:Addr}
end
theorem zM {t : TypeId} {f0 f1 : Field} {k0 k1 : IntKind} {a b c e : Int} (ht : P.underlying t = some (.struct #[f0, f1])) (w5 : f0.name ≠ "_") (zL : f1.name ≠ "_")
  (h0:P.underlying f0.type=some (.int k0)) (h1:P.underlying f1.type=some (.int k1)) (Ii:f0.offset=0) (Ij:f1.offset=1) (ma:P.stoodInHeld t=false) :
  (Op.equal t (.agg #[.int k0 a,.int k1 b]) (.agg #[.int k0 c,.int k1 e])).run P w = .ok (a == c && b == e) w:=by
 have p0:∀ (x y:Value) ,(part f0.type #[x,y] f0.offset).run P w = .ok x w:=by
  intro x y; unfold part; simp only [Sem.run_bind,tH h0,Ii]; rfl
 have p1:∀ (x y:Value) ,(part f1.type #[x,y] f1.offset).run P w = .ok y w:=by
  intro x y; unfold part; simp only [Sem.run_bind,tH h1,Ij]; rfl
 have q0:∀ k (x y:Int),(Op.equalIn (k+1) f0.type (.int k0 x) (.int k0 y)).run P w = .ok (x == y) w:=by
  intro k x y; simp only [Op.equalIn,Sem.run_bind,o9 h0]; simp
 have q1:∀ k (x y:Int),(Op.equalIn (k+1) f1.type (.int k1 x) (.int k1 y)).run P w = .ok (x == y) w:=by
  intro k x y; simp only [Op.equalIn,Sem.run_bind,o9 h1]; simp
 show (Op.equalIn (9998+1+1) t _ _).run P w=_
 unfold Op.equalIn
 simp only [Sem.run_bind,o9 ht]
 simp only [Result.andThen_ok]
 simp [ma,program,Sem.run,w5,zL,p0,p1,q0,q1]
 by_cases e1:a=c <;> by_cases e2:b=e <;> simp [e1,e2]
theorem Br {op:BinOp} {t:TI} {x y:OO} {a b:Array Value} (Bt:P.eqGuardType P.depth t=false):(eqGuard op t x y (.agg a) (.agg b)).run P w = .ok () w:=by
 unfold eqGuard
 cases op <;> simp [Bt,program,Sem.run]
theorem JG {t t' : TypeId} {x y : Operand} {f0 f1 : Field} {k0 k1 : IntKind} {a b c e : Int} (ht : P.underlying t = some (.struct #[f0, f1])) (w5 : f0.name ≠ "_") (zL : f1.name ≠ "_")
  (h0:P.underlying f0.type=some (.int k0)) (h1:P.underlying f1.type=some (.int k1)) (Ii:f0.offset=0) (Ij:f1.offset=1) (ma:P.stoodInHeld t=false) (Bt:P.eqGuardType P.depth t=false)
  (hx:ev r x = .agg #[.int k0 a,.int k1 b]) (hy:ev r y = .agg #[.int k0 c,.int k1 e]) :
  (execOp (ev r) ⟨d,.binOp .neq t x y t',ty,pos,ae,g⟩).run P w = .ok (.value (.bool (!(a == c && b == e)))) w:=by
 have h:=Br (w:=w) (op:=.neq) (x:=x) (y:=y) (a:=#[.int k0 a,.int k1 b]) (b:=#[.int k0 c,.int k1 e]) Bt
 have h':=zM (w:=w) (a:=a) (b:=b) (c:=c) (e:=e) ht w5 zL h0 h1 Ii Ij ma
 simp only [execOp,hx,hy]
 simp [h,binOp,h']
theorem JE {t t' : TypeId} {x y : Operand} {f0 f1 : Field} {k0 k1 : IntKind} {a b c e : Int} (ht : P.underlying t = some (.struct #[f0, f1])) (w5 : f0.name ≠ "_") (zL : f1.name ≠ "_")
  (h0:P.underlying f0.type=some (.int k0)) (h1:P.underlying f1.type=some (.int k1)) (Ii:f0.offset=0) (Ij:f1.offset=1) (ma:P.stoodInHeld t=false) (Bt:P.eqGuardType P.depth t=false)
  (hx:ev r x = .agg #[.int k0 a,.int k1 b]) (hy:ev r y = .agg #[.int k0 c,.int k1 e]) :
  (execOp (ev r) ⟨d,.binOp .eql t x y t',ty,pos,ae,g⟩).run P w = .ok (.value (.bool (a == c && b == e))) w:=by
 have h:=Br (w:=w) (op:=.eql) (x:=x) (y:=y) (a:=#[.int k0 a,.int k1 b]) (b:=#[.int k0 c,.int k1 e]) Bt
 have h':=zM (w:=w) (a:=a) (b:=b) (c:=c) (e:=e) ht w5 zL h0 h1 Ii Ij ma
 simp only [execOp,hx,hy]
 simp [h,binOp,h']
end
section
variable {α:Type} {E:ag α} {w:World}
end
theorem xf (p:Addr) (n:Nat):(p.add n).block=p.block:=by unfold Addr.add; split <;> rfl
end Go.Li
