/- Memory that a call makes for itself: make, literals, append, stores. No condition. -/
import Derived.Test.YtcnehblmgfbfoaaGreatLa
import Derived.Laws.MakeOwn
import Derived.Great.BuildSlice
import Derived.Laws.Tables
namespace Go.Li
open Go
def OE {α:Type} (G:LN) (B:Nat) (w:World) (T:ah α) (cs:LV) (x:α) (f:LN):Prop:=
 T.rep w.heap cs x f∧f.Nodup∧∀ b∈f,b∈G∨B≤b
theorem OE.dp {α:Type} {G:LN} {B:Nat} {w w':World} {T:ah α} {cs:LV} {x:α} {f F:LN} (h:OE G B w T cs x f) (hC:ak F w w') (hn:∀ b∈f,b ∉ F):OE G B w' T cs x f:=
 ⟨T.dp h.1 hC hn,h.2⟩
theorem OE.ic {α:Type} {G:LN} {B:Nat} {w w':World} {T:ah α} {cs:LV} {x:α} {f:LN} (h:OE G B w T cs x f) (hC:ak [] w w'):OE G B w' T cs x f:=
 ⟨T.ic h.1 hC,h.2⟩
theorem OE.low {α:Type} {G:LN} {B B':Nat} {w:World} {T:ah α} {cs:LV} {x:α} {f:LN} (h:OE [] B w T cs x f) (hB:B'≤B):OE G B' w T cs x f:=
 ⟨h.1,h.2.1,fun b hb=>.inr (Nat.le_trans hB ((h.2.2 b hb).resolve_left (by simp)))⟩
theorem OE.fresh {α:Type} {B:Nat} {w:World} {T:ah α} {cs:LV} {x:α} {f:LN} (h:OE [] B w T cs x f):∀ b∈f,B≤b:=fun b hb=>(h.2.2 b hb).resolve_left (by simp)
theorem OE.W8 {α:Type} {G G':LN} {B B':Nat} {w:World} {T:ah α} {cs:LV} {x:α} {f:LN} (h:OE G B w T cs x f) (hs:∀ b∈f,b∈G'):OE G' B' w T cs x f:=⟨h.1,h.2.1,fun b hb=>.inl (hs b hb)⟩
theorem OE.back {α:Type} {G k:LN} {B n:Nat} {w:World} {T:ah α} {cs:LV} {x:α} {f:LN} (h:OE k n w T cs x f) (hk:∀ b∈k,b∈G∨B≤b) (hB:B≤n):OE G B w T cs x f:=
 ⟨h.1,h.2.1,fun b hb=>(h.2.2 b hb).elim (hk b) fun hn=>.inr (Nat.le_trans hB hn)⟩
def rZ (f g:LN):Prop:=∀ b∈f,b ∉ g
theorem rZ.symm {f g:LN} (h:rZ f g):rZ g f:=fun b hb hf=>h b hf hb
theorem rZ.nil (f:LN):rZ f []:=fun _ _ h=>nomatch h
theorem vN {b n:Nat} (h:n≤b):∀ i∈[b],n≤i:=fun i hi=>by rw [List.mem_singleton.1 hi]; exact h
theorem UZ {b n:Nat} (h:b < n):∀ i∈[b],i < n:=fun i hi=>by rw [List.mem_singleton.1 hi]; exact h
theorem K3 {f f' k G:LN} {n B:Nat} (h:∀ b∈f',b∈f∨b∈k∨n≤b) (h1:∀ b∈f,b∈G∨B≤b) (h2:∀ b∈k,b∈G∨B≤b) (hn:B≤n):∀ b∈f',b∈G∨B≤b:=by
 intro b hb
 rcases h b hb with h | h | h
 ·exact h1 b h
 ·exact h2 b h
 ·exact .inr (Nat.le_trans hn h)
section
variable {α:Type} {E:ah α} {P:Program} {r:NV} {w:World} {d:Option Nat} {ty:TI} {pos:String} {ab:Array Edge} {g:Option (Nat×Bool)}
theorem cells_one {v:Value} (h:v.oneCell'=true):v.cells = #[v]:=by cases v <;> first | rfl | cases h
theorem Io {t e:TI} {x y:OO} {i:TypeInfo} {z:Value} {z0:α} {n:Nat} (ht:P.underlying t=some (.slice e)) (hi:P.info? e=some i) (hz:i.zero=some z)
  (hs:i.size=1) (hE:E.size=1) (IL:z.oneCell'=true) (IN:∀ h,E.rep h [z] z0 []) (hx:ev r x = .int .i64 (n:Int)) (hy:ev r y = .int .i64 (n:Int)) (hb:i.bytes * n≤281474976710656) (hn:n≤maxLen) :
  ∃ v w' f,(execOp (ev r) ⟨d,.makeSlice t x y,ty,pos,ab,g⟩).run P w = .ok (.value v) w'∧ak [] w w'∧OE [] w.heap.size w' (aJ e E) [v] (List.replicate n z0) f:=by
 have hm:n≤9223372036854775807:=hn
 have hr:=run_make (P:=P) w t e i z ht hi hz .i64 .i64 n n (by omega) (Int.le_refl _) (by rw [← Int.natCast_mul]; omega) (by omega)
 simp only [Int.toNat_natCast,hs,Nat.mul_one] at hr
 refine ⟨_,_,[w.heap.size],by simp only [execOp,hx,hy]; simp [hr]; exact ⟨rfl,rfl⟩,ak.alloc _ _ _,?_,by simp,by simp⟩
 refine ⟨_,n,by simp,.inr ⟨w.heap.size,_,[],rfl,heap_alloc_new w _,rfl,by simp,hn,?_,?_⟩⟩
 ·rw [size_madeCells,hE,Nat.mul_one]
 ·have rW:(madeCells z.cells n).toList=List.replicate n z:=by
   rw [cells_one IL]
   unfold madeCells
   rw [Array.toList_map,Array.toList_range]
   apply List.ext_getElem
   ·simp
   ·intro k h1 h2
    simp [Nat.mod_one]
  rw [rW,List.length_replicate,hE,Nat.mul_one,List.take_of_length_le (by simp)]
  clear hr rW hm hn hb hx hy
  generalize (w.alloc _).heap=H
  induction n with
  | zero=>exact ⟨rfl,rfl⟩
  | succ n ih=>exact ⟨[z],List.replicate n z,[],[],rfl,rfl,IN _,ih⟩
theorem OR {t e:TI} {x y:OO} {i:TypeInfo} {z:Value} {n:Nat} (ht:P.underlying t=some (.slice e)) (hi:P.info? e=some i) (hz:i.zero=some z)
  (hs:i.size=E.size) (hx:ev r x = .int .i64 0) (hy:ev r y = .int .i64 (n:Int)) (hb:i.bytes * n≤281474976710656) (hn:n≤maxLen) :
  ∃ v w' f,(execOp (ev r) ⟨d,.makeSlice t x y,ty,pos,ab,g⟩).run P w = .ok (.value v) w'∧ak [] w w'∧OE [] w.heap.size w' (aJ e E) [v] [] f:=by
 have hm:n≤9223372036854775807:=hn
 have hr:=run_make (P:=P) w t e i z ht hi hz .i64 .i64 0 n (by omega) (by omega) (by rw [← Int.natCast_mul]; omega) (by omega)
 simp only [Int.toNat_natCast,Int.toNat_zero] at hr
 refine ⟨_,_,[w.heap.size],by simp only [execOp,hx,hy]; simp [hr]; exact ⟨rfl,rfl⟩,ak.alloc _ _ _,?_,by simp,by simp⟩
 exact ⟨_,n,by simp,.inr ⟨w.heap.size,_,[],rfl,heap_alloc_new w _,rfl,by simp,hn,by rw [size_madeCells,hs],by simp,rfl⟩⟩
theorem DX {t e:TI} {i:TypeInfo} (ht:P.underlying t=some (.slice e)) (hi:P.info? e=some i) :
  ∃ v w' f,(execOp (ev r) ⟨d,.buildSlice t 0 #[],ty,pos,ab,g⟩).run P w = .ok (.value v) w'∧ak [] w w'∧OE [] w.heap.size w' (aJ e E) [v] [] f:=by
 refine ⟨.slice (some ⟨w.heap.size,0,none⟩) 0 0,w.alloc (.cells #[] e),[w.heap.size],?_,ak.alloc _ _ _,?_,by simp,by simp⟩
 ·simp only [execOp,Instr.buildSlice]
  have h0:Array.map (fun (_:Nat)=>(default:Value)) (Array.range 0) = #[]:=Array.eq_empty_of_size_eq_zero (by simp)
  simp [run_underlying ht,sizeOf,typeInfo,hi,Instr.fill,newRow,h0]
 ·exact ⟨_,0,by simp,.inr ⟨w.heap.size,#[],[],rfl,heap_alloc_new w _,rfl,by simp,by simp [maxLen],by simp,by simp,rfl⟩⟩
theorem NC {t e:TI} {i:TypeInfo} {z:Value} {len:Nat} {parts:Array (Nat×Operand)} {cs:LV} (ht:P.underlying t=some (.slice e)) (hi:P.info? e=some i) (hz:i.zero=some z)
  (hs:i.size=1) (hl:0 < len) (ox:len≤16777216)
  (hf:Instr.fill (fun i=>some (i * 1,1)) ((Array.range (len * 1)).map (z.cells[· % z.cells.size]!)) ((parts.map fun (i,x)=>(i,ev r x)).toList)=some cs.toArray) :
  (execOp (ev r) ⟨d,.buildSlice t len parts,ty,pos,ab,g⟩).run P w = .ok (.value (.slice (some ⟨w.heap.size,0,none⟩) len len)) (w.alloc (.cells cs.toArray e)):=by
 have h:=run_buildSlice (P:=P) w t e len (parts.map fun (i,x)=>(i,ev r x)) cs.toArray i z ht hi hz (by rw [hs]; omega) (by rw [hs]; omega) (by rw [hs]; exact hf)
 simp only [execOp]
 simp [h]
theorem aan {z v:Value} (h:v.oneCell'=true):Instr.fill (fun i=>some (i * 1,1)) ((Array.range (1 * 1)).map (z.cells[· % z.cells.size]!)) [(0,v)]=some [v].toArray:=by
 simp [Instr.fill,cells_one h]
 apply Array.ext
 ·simp
 ·intro i h1 h2
  obtain rfl:i=0:=by simp at h2; omega
  simp
theorem K4 {t e:TI} {i:TypeInfo} {z:Value} {x:OO} (ht:P.underlying t=some (.slice e)) (hi:P.info? e=some i) (hz:i.zero=some z)
  (hs:i.size=1) (hv:(ev r x).oneCell'=true) :
  (execOp (ev r) ⟨d,.buildSlice t 1 #[(0,x)],ty,pos,ab,g⟩).run P w = .ok (.value (.slice (some ⟨w.heap.size,0,none⟩) 1 1)) (w.alloc (.cells [ev r x].toArray e)):=
 NC ht hi hz hs (by omega) (by omega) (by simpa using aan (z:=z) hv)
theorem GU {v:Value} {ys:List α} {f:LN} (hr:(aV E).rep w.heap [v] ys f):ys=[]∨
  ∃ a c news g,v = .slice (some a) ys.length c∧(∀ j u,news[j]? = some u→w.cell? (a.add j)=some u)∧dm E w.heap news ys g∧∀ b∈g,b∈f:=by
 obtain ⟨base,cap,hv,hr⟩:=hr
 obtain rfl:v = .slice base ys.length cap:=by simpa using hv
 rcases hr with ⟨h,_⟩ | ⟨b,off,cur,e,fz,f',rfl,h2,rfl,_,h3⟩
 ·exact .inl h
 ·refine .inr ⟨_,cap,_,f',rfl,?_,h3,fun b hb=>by simp [hb]⟩
  intro j u hu
  rw [gw,cell_of_row w b _ cur e fz h2]
  rw [List.getElem?_take] at hu
  split at hu
  ·rw [List.getElem?_drop] at hu
   rw [← Array.getElem?_toList]
   exact hu
  ·cases hu
theorem kv {t e:TI} {s x:OO} {i:TypeInfo} {z:Value} {sv:Value} {xs ys:List α} {f k:LN} {a:Addr} {c:Nat} {news:LV}
  (ht:P.underlying t=some (.slice e)) (hi:P.info? e=some i) (hz:i.zero=some z) (hs:i.size=E.size) (zS:z.cells.size=E.size)
  (uJ:ev r s=sv) (hO:(aJ e E).rep w.heap [sv] xs f) (hfn:f.Nodup)
  (hx:ev r x = .slice (some a) ys.length c) (AB:∀ j u,news[j]? = some u→w.cell? (a.add j)=some u) (hy:dm E w.heap news ys k) (hd:rZ k f) (hm:0 < ys.length)
  (hb:(xs.length+ys.length) * i.bytes≤140737488355328) (yU:xs.length+ys.length≤maxLen) :
  ∃ v w' f',(execOp (ev r) ⟨d,.call ⟨.builtin .append,#[s,x],#[t,t]⟩,ty,pos,ab,g⟩).run P w = .ok (.value v) w'∧ak f w w'∧
   (aJ e E).rep w'.heap [v] (xs++ys) f'∧(∀ b∈f',b∈f∨b∈k∨w.heap.size≤b)∧(k.Nodup→f'.Nodup):=by
 have hmm:xs.length+ys.length≤9223372036854775807:=yU
 have hlen:=jq hy
 have h1:=D2 hy
 have jl:∀ v w',(Builtin.append_ #[t,t] ty #[sv,.slice (some a) ys.length c]).run P w = .ok v w'→
   (execOp (ev r) ⟨d,.call ⟨.builtin .append,#[s,x],#[t,t]⟩,ty,pos,ab,g⟩).run P w = .ok (.value v) w':=by
  intro v w' h
  simp only [execOp,resolve,invoke,builtin,Sem.run_bind,Sem.run_pure,Result.andThen_ok,List.map_toArray,List.map_cons,List.map_nil,uJ,hx,h]
 obtain ⟨base,cap,hv,hr⟩:=hO
 obtain rfl:sv = .slice base xs.length cap:=by simpa using hv
 have fresh:∀ (My:LV) (f0:LN) (tI:Nat),dm E w.heap My xs f0→f0.Nodup→(∀ b∈f0,b∈f)→
   let w':=w.drew.alloc (.cells (My.toArray++news.toArray++Builtin.zeroCells z.cells (grownCap w (xs.length+ys.length) tI e - (xs.length+ys.length))) e)
   (aJ e E).rep w'.heap [.slice (some ⟨w.heap.size,0,none⟩) (xs.length+ys.length) (grownCap w (xs.length+ys.length) tI e)] (xs++ys) (w.heap.size :: (f0++k))∧
   ak f w w'∧(∀ b∈(w.heap.size :: (f0++k)),b∈f∨b∈k∨w.heap.size≤b)∧(k.Nodup→(w.heap.size :: (f0++k)).Nodup):=by
  intro My f0 tI hold BN bp
  have BM:=jq hold
  have hge:=grownCap_ge w (xs.length+ys.length) tI e
  have BD:=grownCap_le_maxLen w (xs.length+ys.length) tI e yU
  have hC:ak [] w (w.drew.alloc (.cells (My.toArray++news.toArray++Builtin.zeroCells z.cells (grownCap w (xs.length+ys.length) tI e - (xs.length+ys.length))) e)):=
   (ak.drew [] w).trans (ak.alloc [] _ _)
  refine ⟨⟨_,_,by rw [List.length_append],.inr ⟨w.heap.size,_,f0++k,rfl,heap_alloc_new w.drew _,rfl,by rw [List.length_append]; exact hge,BD,?_,?_⟩⟩,hC.nil,?_,?_⟩
  ·rw [Array.size_append,Array.size_append,List.size_toArray,List.size_toArray,size_zeroCells,zS,BM,hlen,← Nat.add_mul,← Nat.add_mul]
   congr 1
   omega
  ·rw [Array.toList_append,Array.toList_append,List.toList_toArray,List.toList_toArray,List.length_append,Nat.add_mul,← BM,← hlen,List.take_left' (by rw [List.length_append])]
   exact jw (wa hold hy) fun b hb=>hC.block b (by
    rcases List.mem_append.1 hb with hb | hb
    ·exact mr hold b hb
    ·exact mr hy b hb) (by simp)
  ·intro b hb
   rcases List.mem_cons.1 hb with rfl | hb
   ·exact .inr (.inr (Nat.le_refl _))
   ·rcases List.mem_append.1 hb with hb | hb
    ·exact .inl (bp b hb)
    ·exact .inr (.inl hb)
  ·intro hk
   refine List.nodup_cons.2 ⟨fun hm=>?_,List.nodup_append.2 ⟨BN,hk,fun x hx y hy W9=>hd y hy (W9 ▸ bp x hx)⟩⟩
   rcases List.mem_append.1 hm with hm | hm
   ·exact absurd (mr hold _ hm) (Nat.lt_irrefl _)
   ·exact absurd (mr hy _ hm) (Nat.lt_irrefl _)
 rcases hr with ⟨rfl,rfl,rfl,rfl⟩ | ⟨b,cur,f0,rfl,hg,rfl,BQ,BD,vy,c9⟩
 ·have hr:=run_append_nil (P:=P) (w:=w) t ty e i z ht hi hz a ys.length c news (by rw [hlen,hs]) AB hm (by simp only [List.length_nil] at hmm; omega) (by simp only [List.length_nil,Nat.zero_add] at hb; omega)
  have hf:=fresh [] [] 0 ⟨rfl,rfl⟩ (by simp) (by simp)
  simp only [List.length_nil,Nat.zero_add,List.nil_append,Array.empty_append] at hf hr ⊢
  exact ⟨_,_,_,jl _ _ hr,hf.2.1,hf.1,hf.2.2⟩
 ·have BN:f0.Nodup:=(List.nodup_cons.1 hfn).2
  have tH:b ∉ f0:=(List.nodup_cons.1 hfn).1
  have BM:=jq c9
  by_cases Mz:xs.length+ys.length≤cap
  ·have Xa:xs.length * i.size+news.length≤cur.size:=by rw [hlen,vy,hs,← Nat.add_mul]; exact Nat.mul_le_mul_right _ Mz
   have hr:=run_append_room (P:=P) (w:=w) t ty e i ht hi b xs.length cap cur hg a ys.length c news (by rw [hlen,hs]) AB h1 Mz Xa
   have hC:ak (b :: f0) w (w.setRow b (cur.toList.take (xs.length * i.size)++news++cur.toList.drop (xs.length * i.size+news.length)).toArray):=
    ⟨rfl,rfl,rfl,Nat.le_refl _,by simp,fun j _ hj=>setRow_other w b j _ fun h=>hj (by simp [h])⟩
   refine ⟨_,_,b :: (f0++k),jl _ _ hr,hC,⟨_,cap,by rw [List.length_append],.inr ⟨b,_,f0++k,rfl,setRow_heap w b cur _ e _ hg,rfl,by rw [List.length_append]; exact Mz,BD,?_,?_⟩⟩,?_,?_⟩
   ·rw [List.size_toArray,← vy]
    simp only [List.length_append,List.length_take,List.length_drop,Array.length_toList]
    omega
   ·have e1:(cur.toList.take (xs.length * i.size)++news++cur.toList.drop (xs.length * i.size+news.length)).take ((xs++ys).length * E.size)=cur.toList.take (xs.length * E.size)++news:=by
     rw [hs] at Xa ⊢
     apply List.take_left'
     rw [List.length_append,BM,hlen,List.length_append,Nat.add_mul]
    rw [List.toList_toArray,e1]
    exact jw (wa c9 hy) fun j hj=>setRow_other w b j _ (by
     rintro rfl
     rcases List.mem_append.1 hj with hj | hj
     ·exact tH hj
     ·exact hd _ hj (by simp))
   ·intro j hj
    rcases List.mem_cons.1 hj with rfl | hj
    ·exact .inl (by simp)
    ·rcases List.mem_append.1 hj with hj | hj
     ·exact .inl (by simp [hj])
     ·exact .inr (.inl hj)
   ·intro hk
    refine List.nodup_cons.2 ⟨fun hm=>?_,List.nodup_append.2 ⟨BN,hk,fun x hx y hy W9=>hd y hy (by simp [← W9,hx])⟩⟩
    rcases List.mem_append.1 hm with hm | hm
    ·exact tH hm
    ·exact hd _ hm (by simp)
  ·have holds:∀ j u,(cur.toList.take (xs.length * E.size))[j]? = some u→w.cell? ((⟨b,0,none⟩ : Addr).add j)=some u:=by
    intro j u hu
    rw [gw,cell_of_row w b _ cur e _ hg,Nat.zero_add,← Array.getElem?_toList]
    rw [List.getElem?_take] at hu
    split at hu
    ·exact hu
    ·cases hu
   have hr:=run_append_grow (P:=P) (w:=w) t ty e i z ht hi hz ⟨b,0,none⟩ xs.length cap _ (by rw [BM,hs]) holds a ys.length c news (by rw [hlen,hs]) AB (by omega) (by omega) (growslice_fits (by omega) hb)
   have hf:=fresh _ f0 cap c9 BN (fun j hj=>by simp [hj])
   exact ⟨_,_,_,jl _ _ hr,hf.2.1,hf.1,hf.2.2⟩
def At (w:World) (p:Addr) (cs:LV):Prop:=∀ j u,cs[j]? = some u→w.cell? (p.add j)=some u
theorem At.dp {w':World} {F:LN} {p:Addr} {cs:LV} (h:At w p cs) (hC:ak F w w') (hn:p.block ∉ F):At w' p cs:=by
 intro j u hj
 refine hC.cell ?_ (h j u hj)
 have:(p.add j).block=p.block:=by unfold Addr.add; split <;> rfl
 rw [this]; exact hn
theorem At.ic {w':World} {p:Addr} {cs:LV} (h:At w p cs) (hC:ak [] w w'):At w' p cs:=h.dp hC (by simp)
theorem Xb {b:Nat} {cur:LV} {e:TI} {fz:Nat×Nat} (h:w.heap[b]? = some (.cells cur.toArray e fz)):At w ⟨b,0,none⟩ cur:=by
 intro j u hj
 rw [gw,Nat.zero_add,cell_of_row w b j _ e fz h]
 simpa using hj
theorem At.cell {p:Addr} {cs:LV} (h:At w p cs) {j:Nat} {u:Value} (hj:cs[j]? = some u):w.cell? (p.add j)=some u:=h j u hj
theorem At.Lz {p:Addr} {cs:LV} (h:At w p cs) {u:Value} (hj:cs[0]? = some u):w.cell? p=some u:=h 0 u hj
def Row (w:World) (b:Nat) (cs:LV) (e:TI):Prop:=w.heap[b]? = some (.cells cs.toArray e (0,0))
theorem Row.at {b:Nat} {cs:LV} {e:TI} (h:Row w b cs e):At w ⟨b,0,none⟩ cs:=Xb h
theorem Row.lt {b:Nat} {cs:LV} {e:TI} (h:Row w b cs e):b < w.heap.size:=(Array.getElem?_eq_some_iff.1 h).1
theorem Row.dp {w':World} {F:LN} {b:Nat} {cs:LV} {e:TI} (h:Row w b cs e) (hC:ak F w w') (hn:b ∉ F):Row w' b cs e:=(hC.block b h.lt hn).trans h
theorem Row.ic {w':World} {b:Nat} {cs:LV} {e:TI} (h:Row w b cs e) (hC:ak [] w w'):Row w' b cs e:=h.dp hC (by simp)
variable {ops l:LO} {K:(Nat→Value)→World→Prop}
theorem WL.box {t:TI} {x:OO} (k:∀ b w',ak [] w w'→Row w' b (ev r x).cells.toList t→w.heap.size≤b→WL P ops l (gf r d (.pointer (some ⟨b,0,none⟩))) w' K) :
  WL P ops (⟨d,.box t x,ty,pos,ab,none⟩ :: l) r w K:=
 WL.val rfl (W7 rfl) (k _ _ (ak.alloc _ _ _) (by unfold Row; rw [Array.toArray_toList]; exact heap_alloc_new w _) (Nat.le_refl _))
theorem WL.alloc {t:TI} {i:TypeInfo} {z:Value} (hi:P.info? t=some i) (hz:i.zero=some z) (k:∀ b w',ak [] w w'→Row w' b z.cells.toList t→w.heap.size≤b→WL P ops l (gf r d (.pointer (some ⟨b,0,none⟩))) w' K) :
  WL P ops (⟨d,.alloc t,ty,pos,ab,none⟩ :: l) r w K:=
 WL.val rfl (D3 hi hz) (k _ _ (ak.alloc _ _ _) (by unfold Row; rw [Array.toArray_toList]; exact heap_alloc_new w _) (Nat.le_refl _))
theorem WL.Ge {t e:TI} {i:TypeInfo} {z:Value} {x:OO} (ht:P.underlying t=some (.slice e)) (hi:P.info? e=some i) (hz:i.zero=some z)
  (hs:i.size=1) (hv:(ev r x).oneCell'=true) (k:∀ b w',ak [] w w'→Row w' b [ev r x] e→w.heap.size≤b→WL P ops l (gf r d (.slice (some ⟨b,0,none⟩) 1 1)) w' K) :
  WL P ops (⟨d,.buildSlice t 1 #[(0,x)],ty,pos,ab,none⟩ :: l) r w K:=
 WL.val rfl (K4 ht hi hz hs hv) (k _ _ (ak.alloc _ _ _) (heap_alloc_new w _) (Nat.le_refl _))
theorem B5 {h h':Array Obj} (hE:∀ {h cs x f},E.rep h cs x f→f=[]):∀ {xs:List α} {cs f},dm E h cs xs f→f=[]∧dm E h' cs xs f:=by
 intro xs
 induction xs with
 | nil=>rintro cs f ⟨rfl,rfl⟩; exact ⟨rfl,rfl,rfl⟩
 | cons x xs ih=>
  rintro cs f ⟨c,lf,f1,f2,rfl,rfl,h1,h2⟩
  obtain ⟨rfl,h3⟩:=ih h2
  have:=hE h1
  subst this
  exact ⟨rfl,c,lf,[],[],rfl,rfl,E.congr h1 (by simp),h3⟩
theorem OS {t e:TI} {x y:OO} {i:TypeInfo} {v u:Value} {xs:List α} {f:LN} {j:Int} {z z':α} (hE:∀ {h cs x f},E.rep h cs x f→f=[]) (h1:E.size=1)
  (hi:P.info? t=some i) (hs:i.size=1) (hO:(aJ e E).rep w.heap [v] xs f) (hz:xs[j.toNat]? = some z)
  (hx:ev r x = .pointer (some (cn v 1 j))) (hy:ev r y=u) (hu:E.rep w.heap [u] z' []) :
  ∃ w',(execOp (ev r) ⟨d,.store t x y,ty,pos,ab,g⟩).run P w = .ok .skip w'∧ak f w w'∧(aJ e E).rep w'.heap [v] (xs.set j.toNat z') f:=by
 obtain ⟨base,cap,hv,hr⟩:=hO
 obtain rfl:v = .slice base xs.length cap:=by simpa using hv
 have bb:j.toNat < xs.length:=(List.getElem?_eq_some_iff.1 hz).1
 rcases hr with ⟨_,_,rfl,_⟩ | ⟨b,cur,f0,rfl,hg,rfl,BQ,BD,vy,c9⟩
 ·simp at bb
 ·obtain ⟨rfl,_⟩:=B5 (h':=w.heap) hE c9
  rw [h1,Nat.mul_one] at vy c9
  have uf:cn (.slice (some ⟨b,0,none⟩) xs.length cap) 1 j = ⟨b,j.toNat,none⟩:=by
   simp only [cn,gw,Nat.zero_add,Nat.mul_one]
  rw [uf] at hx
  have ik:w.cell? ⟨b,j.toNat,none⟩ = some (cur[j.toNat]'(by omega)):=by
   rw [cell_of_row w b _ cur e _ hg,Array.getElem?_eq_getElem]
  have uh:u.oneCell'=true:=E.one hu u (by simp)
  refine ⟨_,D8 hi hs hx hy uh ik (frozen_of_row w b _ cur e hg),ak.setCell w ⟨b,j.toNat,none⟩ u,?_⟩
  have fw:=heap_setCell_same w b j.toNat cur e u hg
  refine ⟨_,cap,by rw [List.length_set],.inr ⟨b,_,[],rfl,fw,rfl,by rw [List.length_set]; exact BQ,BD,by simpa [h1] using vy,?_⟩⟩
  rw [List.length_set,h1,Nat.mul_one,Array.toList_setIfInBounds]
  obtain ⟨c,g0,g1,g2,p,q,Er,hc,hp,BE,pr⟩:=Jc j.toNat z z' c9 hz
  have Es:c.length=1:=by rw [E.len BE,h1]
  rw [h1,Nat.mul_one] at hp
  have e0:g0=[]∧g1=[]∧g2=[]:=by
   have:=Er.symm
   simp only [List.append_eq_nil_iff] at this
   exact ⟨this.1.1,this.1.2,this.2⟩
  obtain ⟨rfl,rfl,rfl⟩:=e0
  have hh:=pr (w.setCell ⟨b,j.toNat,none⟩ u).heap [u] [] (by simp) (by simp) (E.congr hu (by simp))
  have e1:(cur.toList.set j.toNat u).take xs.length=p++[u]++q:=by
   rw [List.take_set,hc,List.append_assoc,List.append_assoc,List.set_append_right _ _ (by omega)]
   congr 1
   rw [hp,Nat.sub_self]
   match c,Es with
   | [c0],_=>rfl
  rw [e1]
  exact hh
theorem uG {k:IntKind}:∀ {h:Array Obj} {cs:LV} {x:Int} {f:LN},(aN k).rep h cs x f→f=[]:=fun h=>h.2
theorem As:∀ {h:Array Obj} {cs:LV} {x:Bool} {f:LN},jc.rep h cs x f→f=[]:=fun h=>h.2
theorem Kt {h:Array Obj}:(aV E).rep h [.slice none 0 0] [] []:=⟨none,0,rfl,.inl ⟨rfl,rfl⟩⟩
theorem CL {h:Array Obj} {e:TI}:(aJ e E).rep h [.slice none 0 0] [] []:=⟨none,0,rfl,.inl ⟨rfl,rfl,rfl,rfl⟩⟩
theorem WL.H5 (E:ah α) {t e:TI} {i:TypeInfo} (ht:P.underlying t=some (.slice e)) (hi:P.info? e=some i)
  (k:∀ v w' f,ak [] w w'→OE [] w.heap.size w' (aJ e E) [v] [] f→WL P ops l (gf r d v) w' K) :
  WL P ops (⟨d,.buildSlice t 0 #[],ty,pos,ab,none⟩ :: l) r w K:=by
 obtain ⟨v,w',f,h,hC,hO⟩:=DX (E:=E) (r:=r) (w:=w) (d:=d) (ty:=ty) (pos:=pos) (ab:=ab) (g:=none) ht hi
 exact WL.val rfl h (k v w' f hC hO)
theorem WL.make (E:ah α) {t e:TI} {x y:OO} {i:TypeInfo} {z:Value} {z0:α} {n:Nat} (ht:P.underlying t=some (.slice e)) (hi:P.info? e=some i) (hz:i.zero=some z)
  (hs:i.size=1) (hE:E.size=1) (IL:z.oneCell'=true) (IN:∀ h,E.rep h [z] z0 []) (hx:ev r x = .int .i64 (n:Int)) (hy:ev r y = .int .i64 (n:Int)) (hb:i.bytes * n≤281474976710656) (hn:n≤maxLen)
  (k:∀ v w' f,ak [] w w'→OE [] w.heap.size w' (aJ e E) [v] (List.replicate n z0) f→WL P ops l (gf r d v) w' K) :
  WL P ops (⟨d,.makeSlice t x y,ty,pos,ab,none⟩ :: l) r w K:=by
 obtain ⟨v,w',f,h,hC,hO⟩:=Io (d:=d) (ty:=ty) (pos:=pos) (ab:=ab) (g:=none) ht hi hz hs hE IL IN hx hy hb hn
 exact WL.val rfl h (k v w' f hC hO)
theorem WL.LC (E:ah α) {t e:TI} {x y:OO} {i:TypeInfo} {z:Value} {n:Nat} (ht:P.underlying t=some (.slice e)) (hi:P.info? e=some i) (hz:i.zero=some z)
  (hs:i.size=E.size) (hx:ev r x = .int .i64 0) (hy:ev r y = .int .i64 (n:Int)) (hb:i.bytes * n≤281474976710656) (hn:n≤maxLen)
  (k:∀ v w' f,ak [] w w'→OE [] w.heap.size w' (aJ e E) [v] [] f→WL P ops l (gf r d v) w' K) :
  WL P ops (⟨d,.makeSlice t x y,ty,pos,ab,none⟩ :: l) r w K:=by
 obtain ⟨v,w',f,h,hC,hO⟩:=OR (E:=E) (d:=d) (ty:=ty) (pos:=pos) (ab:=ab) (g:=none) ht hi hz hs hx hy hb hn
 exact WL.val rfl h (k v w' f hC hO)
theorem WL.tw (G:LN) (B:Nat) {t e:TI} {s x:OO} {i:TypeInfo} {z:Value} {sv u:Value} {xs:List α} {y:α} {f k:LN} {b:Nat} {et:TI}
  (ht:P.underlying t=some (.slice e)) (hi:P.info? e=some i) (hz:i.zero=some z) (hs:i.size=1) (hE:E.size=1) (zS:z.oneCell'=true)
  (uJ:ev r s=sv) (hO:OE G B w (aJ e E) [sv] xs f) (hx:ev r x = .slice (some ⟨b,0,none⟩) 1 1) (av:Row w b [u] et) (hy:E.rep w.heap [u] y k) (hk:k.Nodup) (Xc:∀ b∈k,b∈G∨B≤b) (hd:rZ k f)
  (hb:(xs.length+1) * i.bytes≤140737488355328) (yU:xs.length+1≤maxLen) (hB:B≤w.heap.size)
  (next:∀ v w' f',ak f w w'→OE G B w' (aJ e E) [v] (xs++[y]) f'→(∀ b∈f',b∈f∨b∈k∨w.heap.size≤b)→WL P ops l (gf r d v) w' K) :
  WL P ops (⟨d,.call ⟨.builtin .append,#[s,x],#[t,t]⟩,ty,pos,ab,none⟩ :: l) r w K:=by
 obtain ⟨v,w',f',h,hC,c9,bp,cp⟩:=kv (d:=d) (ty:=ty) (pos:=pos) (ab:=ab) (g:=none) (ys:=[y]) ht hi hz (by rw [hs,hE]) (by rw [cells_one zS,hE]; rfl) uJ hO.1 hO.2.1 hx av.at (l6 hy) hd (by simp) hb yU
 exact WL.val rfl h (next v w' f' hC ⟨c9,cp hk,K3 bp hO.2.2 Xc hB⟩ bp)
theorem zT {t e:TI} {i:TypeInfo} (ht:P.underlying t=some (.slice e)) (hi:P.info? e=some i) {b a:Option Addr} {n cap c:Nat} (hn:n≤cap) :
  (Builtin.append_ #[t,t] ty #[.slice b n cap,.slice a 0 c]).run P w = .ok (.slice b n cap) w:=by
 cases a <;> cases b <;> simp [Builtin.append_,run_underlying ht,sizeOf,typeInfo,hi,Builtin.lenOf,Builtin.firstCells,loadCells,loadCellsFrom,storeCells,hn]
theorem WL.uF (G:LN) (B:Nat) {t e:TI} {s x:OO} {i:TypeInfo} {z:Value} {sv yv:Value} {xs ys:List α} {f k:LN} (VF:∀ {h cs x f},E.rep h cs x f→f=[])
  (ht:P.underlying t=some (.slice e)) (hi:P.info? e=some i) (hz:i.zero=some z) (hs:i.size=1) (hE:E.size=1) (zS:z.oneCell'=true)
  (uJ:ev r s=sv) (hO:OE G B w (aJ e E) [sv] xs f) (hx:ev r x=yv) (hy:(aV E).rep w.heap [yv] ys k)
  (hb:(xs.length+ys.length) * i.bytes≤140737488355328) (yU:xs.length+ys.length≤maxLen) (hB:B≤w.heap.size)
  (next:∀ v w' f',ak f w w'→OE G B w' (aJ e E) [v] (xs++ys) f'→(∀ b∈f',b∈f∨b∈[]∨w.heap.size≤b)→WL P ops l (gf r d v) w' K) :
  WL P ops (⟨d,.call ⟨.builtin .append,#[s,x],#[t,t]⟩,ty,pos,ab,none⟩ :: l) r w K:=by
 have rW:=GU hy
 rcases Nat.eq_zero_or_pos ys.length with Du | Du
 ·obtain rfl:ys=[]:=List.eq_nil_of_length_eq_zero Du
  obtain ⟨b0,c0,B4⟩:=tu hy
  obtain ⟨base,cap,hv,hr⟩:=hO.1
  obtain rfl:sv = .slice base xs.length cap:=by simpa using hv
  have DW:xs.length≤cap:=by
   rcases hr with ⟨_,rfl,rfl,_⟩ | ⟨_,_,_,_,_,_,h,_⟩
   ·simp
   ·exact h
  have jl:=zT (P:=P) (w:=w) (ty:=ty) ht hi (b:=base) (a:=b0) (c:=c0) DW
  refine WL.val rfl (v:=.slice base xs.length cap) (w':=w) ?_ (next _ w f (ak.refl _ _) (by rw [List.append_nil]; exact hO) fun b hb=>.inl hb)
  subst B4
  simp only [execOp,resolve,invoke,builtin,Sem.run_bind,Sem.run_pure,Result.andThen_ok,List.map_toArray,List.map_cons,List.map_nil,uJ,hx,List.length_nil,jl]
 ·rcases rW with rfl | ⟨a,c,news,g1,B4,AB,c9,_⟩
  ·simp at Du
  ·obtain ⟨rfl,_⟩:=B5 (h':=w.heap) VF c9
   obtain ⟨v,w',f',h,hC,Hu,bp,cp⟩:=kv (d:=d) (ty:=ty) (pos:=pos) (ab:=ab) (g:=none) ht hi hz (by rw [hs,hE]) (by rw [cells_one zS,hE]; rfl) uJ hO.1 hO.2.1 (hx.trans B4) AB c9 (fun _ h=>nomatch h) Du hb yU
   exact WL.val rfl h (next v w' f' hC ⟨Hu,cp List.nodup_nil,K3 bp hO.2.2 (fun _ h=>nomatch h) hB⟩ bp)
theorem WL.CP (G:LN) (B:Nat) {t:TI} {e:TI} {x y:OO} {i:TypeInfo} {v u:Value} {xs:List α} {f:LN} {j:Int} {z z':α} (hE:∀ {h cs x f},E.rep h cs x f→f=[]) (h1:E.size=1)
  (hi:P.info? t=some i) (hs:i.size=1) (hO:OE G B w (aJ e E) [v] xs f) (hz:xs[j.toNat]? = some z)
  (hx:ev r x = .pointer (some (cn v 1 j))) (hy:ev r y=u) (hu:E.rep w.heap [u] z' [])
  (k:∀ w',ak f w w'→OE G B w' (aJ e E) [v] (xs.set j.toNat z') f→WL P ops l (gf r d undef) w' K) :
  WL P ops (⟨d,.store t x y,ty,pos,ab,none⟩ :: l) r w K:=by
 obtain ⟨w',h,hC,c9⟩:=OS (d:=d) (ty:=ty) (pos:=pos) (ab:=ab) (g:=none) (e:=e) hE h1 hi hs hO.1 hz hx hy hu
 exact WL.skip rfl h (k w' hC ⟨c9,hO.2⟩)
theorem WL.DS {t:TI} {x y:OO} {i:TypeInfo} {b j:Nat} {cs:LV} {e:TI} {u:Value}
  (hi:P.info? t=some i) (hs:i.size=1) (av:Row w b cs e) (hj:j < cs.length) (hx:ev r x = .pointer (some ⟨b,j,none⟩)) (hy:ev r y=u) (hu:u.oneCell'=true)
  (k:∀ w',ak [b] w w'→Row w' b (cs.set j u) e→WL P ops l (gf r d undef) w' K) :
  WL P ops (⟨d,.store t x y,ty,pos,ab,none⟩ :: l) r w K:=by
 have ik:w.cell? ⟨b,j,none⟩ = some (cs[j]):=by
  rw [cell_of_row w b j _ e _ av]; simp [hj]
 refine WL.skip rfl (D8 hi hs hx hy hu ik (frozen_of_row w b j _ e av)) (k _ (ak.setCell w ⟨b,j,none⟩ u) ?_)
 have:=heap_setCell_same w b j cs.toArray e u av
 unfold Row
 rw [this]
 simp
theorem At.sub {p:Addr} {cs:LV} (h:At w p cs) (off n:Nat):At w (p.add off) ((cs.drop off).take n):=by
 intro j u hj
 rw [List.getElem?_take] at hj
 split at hj
 ·rw [List.getElem?_drop] at hj
  have:=h (off+j) u hj
  have e:(p.add off).add j=p.add (off+j):=by
   unfold Addr.add
   by_cases h1:off=0
   ·subst h1; simp
   ·by_cases h2:j=0
    ·subst h2; simp [h1]
    ·simp [h1,h2]; omega
  rw [e]; exact this
 ·cases hj
theorem Re {t:TI} {parts:List (Nat×Operand)} {cs:Array Value} (h:P.built t (parts.map fun x=>(x.1,ev r x.2))=some cs) :
  (execOp (ev r) ⟨d,.build t parts.toArray,ty,pos,ab,g⟩).run P w = .ok (.value (.agg cs)) w:=by
 have h':=Go.run_build (P:=P) w t (parts.toArray.map fun x=>(x.1,ev r x.2)) cs (by simpa using h)
 simp only [execOp,Sem.run_bind]
 rw [h']
 rfl
section
variable {s:TI} {x:OO} {k off o1 o2 b:Nat} {fs:Array Field} {f:Field} {i:TypeInfo} {a:Addr}
theorem Hq (hs:P.underlying s=some (.struct fs)) (hf:fs[k]? = some f)
  (hi:P.info? f.type=some i) (h0:i.size≠0) (ho:f.offset=off) (hx:ev r x = .pointer (some a)) :
  (execOp (ev r) ⟨d,.fieldAddr s x k,ty,pos,ab,g⟩).run P w = .ok (.value (.pointer (some (a.add off)))) w:=by
 rw [← ho]; exact yb hs hf hi h0 hx
theorem Hr (hs:P.underlying s=some (.struct fs)) (hf:fs[k]? = some f)
  (hi:P.info? f.type=some i) (h0:i.size≠0) (ho:f.offset=0) (hx:ev r x = .pointer (some a)) :
  (execOp (ev r) ⟨d,.fieldAddr s x k,ty,pos,ab,g⟩).run P w = .ok (.value (.pointer (some a))) w:=by
 have:=yb (d:=d) (ty:=ty) (pos:=pos) (ab:=ab) (g:=g) (w:=w) hs hf hi h0 hx
 rw [ho] at this
 exact this
theorem Hs (hs:P.underlying s=some (.struct fs)) (hf:fs[k]? = some f)
  (hi:P.info? f.type=some i) (h0:i.size≠0) (ho:o1+f.offset=o2) (hx:ev r x = .pointer (some ⟨b,o1,none⟩)) :
  (execOp (ev r) ⟨d,.fieldAddr s x k,ty,pos,ab,g⟩).run P w = .ok (.value (.pointer (some ⟨b,o2,none⟩))) w:=by
 have:=yb (d:=d) (ty:=ty) (pos:=pos) (ab:=ab) (g:=g) (w:=w) hs hf hi h0 hx
 rw [gw,ho] at this
 exact this
end
theorem WL.Qh {t:TI} {x y:OO} {i:TypeInfo} {b off:Nat} {cs us:LV} {e:TI}
  (hi:P.info? t=some i) (hs:us.length=i.size) (av:Row w b cs e) (hl:off+us.length≤cs.length) (hx:ev r x = .pointer (some ⟨b,off,none⟩)) (hy:ev r y = .agg us.toArray) (hu:∀ u∈us,u.oneCell'=true)
  (k:∀ w',ak [b] w w'→Row w' b (cs.take off++us++cs.drop (off+us.length)) e→WL P ops l (gf r d undef) w' K) :
  WL P ops (⟨d,.store t x y,ty,pos,ab,none⟩ :: l) r w K:=by
 have h:=run_storeCells_at P b off e us 0 cs.toArray w av (by simpa using hl) hu
 simp only [Nat.add_zero] at h
 refine WL.skip (w':=w.setRow b (cs.take off++us++cs.drop (off+us.length)).toArray) rfl ?_ (k _ ⟨rfl,rfl,rfl,Nat.le_refl _,by simp,fun j _ hj=>setRow_other w b j _ fun h=>hj (by simp [h])⟩ (setRow_heap w b cs.toArray _ e _ av))
 simp only [execOp,Instr.storeAt,Instr.sureAddr,hx,hy,storeVar]
 simp [Value.cells,sizeOf,typeInfo,hi,hs,h]
theorem WL.Qi (G:LN) (B:Nat) {t:TI} {e:TI} {x y:OO} {i:TypeInfo} {v u:Value} {xs:List α} {f k:LN} {j:Int} {z z':α} (h1:E.size=1)
  (hi:P.info? t=some i) (hs:i.size=1) (hO:OE G B w (aJ e E) [v] xs f) (hz:xs[j.toNat]? = some z)
  (hx:ev r x = .pointer (some (cn v 1 j))) (hy:ev r y=u) (hu:E.rep w.heap [u] z' k) (hk:k.Nodup) (Xc:∀ b∈k,b∈G∨B≤b) (hd:rZ k f)
  (next:∀ w' f',ak f w w'→OE G B w' (aJ e E) [v] (xs.set j.toNat z') f'→(∀ b∈f',b∈f∨b∈k∨w.heap.size≤b)→WL P ops l (gf r d undef) w' K) :
  WL P ops (⟨d,.store t x y,ty,pos,ab,none⟩ :: l) r w K:=by
 obtain ⟨⟨base,cap,hv,hr⟩,cp,xT⟩:=hO
 obtain rfl:v = .slice base xs.length cap:=by simpa using hv
 have bb:j.toNat < xs.length:=(List.getElem?_eq_some_iff.1 hz).1
 rcases hr with ⟨_,_,rfl,_⟩ | ⟨b,cur,f0,rfl,hg,rfl,BQ,BD,vy,c9⟩
 ·simp at bb
 ·rw [h1,Nat.mul_one] at vy c9
  have uf:cn (.slice (some ⟨b,0,none⟩) xs.length cap) 1 j = ⟨b,j.toNat,none⟩:=by
   simp only [cn,gw,Nat.zero_add,Nat.mul_one]
  rw [uf] at hx
  have ik:w.cell? ⟨b,j.toNat,none⟩ = some (cur[j.toNat]'(by omega)):=by
   rw [cell_of_row w b _ cur e _ hg,Array.getElem?_eq_getElem]
  have uh:u.oneCell'=true:=E.one hu u (by simp)
  have fw:=heap_setCell_same w b j.toNat cur e u hg
  obtain ⟨tH,BN⟩:=List.nodup_cons.1 cp
  obtain ⟨c,g0,g1,g2,p,q,Er,hc,hp,BE,pr⟩:=Jc j.toNat z z' c9 hz
  subst Er
  have Tq:∀ i∈g0++g1++g2,(w.setCell ⟨b,j.toNat,none⟩ u).heap[i]? = w.heap[i]?:=fun i hi=>heap_setCell_other w _ i u (fun h=>tH (by have h':i=b:=h; rw [← h']; exact hi))
  have hh:=pr (w.setCell ⟨b,j.toNat,none⟩ u).heap [u] k (fun i hi=>Tq i (by simp [hi])) (fun i hi=>Tq i (by simp [hi]))
   (E.congr hu fun i hi=>heap_setCell_other w _ i u (fun h=>hd i hi (by have h':i=b:=h; rw [h']; simp)))
  refine WL.skip rfl (D8 hi hs hx hy uh ik (frozen_of_row w b _ cur e hg)) (next _ (b :: (g0++k++g2)) ?_ ⟨⟨_,cap,by rw [List.length_set],.inr ⟨b,_,g0++k++g2,rfl,fw,rfl,by rw [List.length_set]; exact BQ,BD,by simpa [h1] using vy,?_⟩⟩,?_,?_⟩ ?_)
  ·exact (ak.setCell w ⟨b,j.toNat,none⟩ u).mono (by simp)
  ·have Es:c.length=1:=by rw [E.len BE,h1]
   rw [h1,Nat.mul_one] at hp
   rw [List.length_set,h1,Nat.mul_one,Array.toList_setIfInBounds]
   have e1:(cur.toList.set j.toNat u).take xs.length=p++[u]++q:=by
    rw [List.take_set,hc,List.append_assoc,List.append_assoc,List.set_append_right _ _ (by omega)]
    congr 1
    rw [hp,Nat.sub_self]
    match c,Es with
    | [c0],_=>rfl
   rw [e1]
   exact hh
  ·have Fh:=List.nodup_append.1 BN
   have Je:=List.nodup_append.1 Fh.1
   refine List.nodup_cons.2 ⟨fun hm=>?_,List.nodup_append.2 ⟨List.nodup_append.2 ⟨Je.1,hk,fun a ha c hc Jf=>hd c hc (by simp [← Jf,ha])⟩,Fh.2.1,fun a ha c hc Jf=>?_⟩⟩
   ·rcases List.mem_append.1 hm with hm | hm
    ·rcases List.mem_append.1 hm with hm | hm
     ·exact tH (by simp [hm])
     ·exact hd _ hm (by simp)
    ·exact tH (by simp [hm])
   ·subst Jf
    rcases List.mem_append.1 ha with ha | ha
    ·exact Fh.2.2 a (by simp [ha]) a hc rfl
    ·exact hd a ha (by simp [hc])
  ·intro i hi
   rcases List.mem_cons.1 hi with rfl | hi
   ·exact xT _ (by simp)
   ·rcases List.mem_append.1 hi with hi | hi
    ·rcases List.mem_append.1 hi with hi | hi
     ·exact xT i (by simp [hi])
     ·exact Xc i hi
    ·exact xT i (by simp [hi])
  ·intro i hi
   rcases List.mem_cons.1 hi with rfl | hi
   ·exact .inl (by simp)
   ·rcases List.mem_append.1 hi with hi | hi
    ·rcases List.mem_append.1 hi with hi | hi
     ·exact .inl (by simp [hi])
     ·exact .inr (.inl hi)
    ·exact .inl (by simp [hi])
section
variable {n:Nat} {fn:Func} {t u v:Nat} {ty':TI} {ds:TypeDesc} {i:TypeInfo} {cs:LV} {p:Addr}
end
theorem Fi {t : TypeId} {f0 f1 : Field} {k0 k1 : IntKind} {a b c e : Int} (ht : P.underlying t = some (.struct #[f0, f1])) (BN : f0.name ≠ "_") (Fh : f1.name ≠ "_")
  (h0:P.underlying f0.type=some (.int k0)) (h1:P.underlying f1.type=some (.int k1)) (OT:f0.offset=0) (OU:f1.offset=1) (oh:P.stoodInHeld t=false) :
  (Op.equal t (.agg #[.int k0 a,.int k1 b]) (.agg #[.int k0 c,.int k1 e])).run P w = .ok (a == c && b == e) w:=by
 have p0:∀ (x y:Value) ,(part f0.type #[x,y] f0.offset).run P w = .ok x w:=by
  intro x y; unfold part; simp only [Sem.run_bind,vL h0,OT]; rfl
 have p1:∀ (x y:Value) ,(part f1.type #[x,y] f1.offset).run P w = .ok y w:=by
  intro x y; unfold part; simp only [Sem.run_bind,vL h1,OU]; rfl
 have q0:∀ k (x y:Int),(Op.equalIn (k+1) f0.type (.int k0 x) (.int k0 y)).run P w = .ok (x == y) w:=by
  intro k x y; simp only [Op.equalIn,Sem.run_bind,mj h0]; simp
 have q1:∀ k (x y:Int),(Op.equalIn (k+1) f1.type (.int k1 x) (.int k1 y)).run P w = .ok (x == y) w:=by
  intro k x y; simp only [Op.equalIn,Sem.run_bind,mj h1]; simp
 show (Op.equalIn (9998+1+1) t _ _).run P w=_
 unfold Op.equalIn
 simp only [Sem.run_bind,mj ht]
 simp only [Result.andThen_ok]
 simp [oh,program,Sem.run,BN,Fh,p0,p1,q0,q1]
 by_cases e1:a=c <;> by_cases e2:b=e <;> simp [e1,e2]
theorem G8 {op:BinOp} {t:TI} {x y:OO} {a b:Array Value} (G9:P.eqGuardType P.depth t=false):(eqGuard op t x y (.agg a) (.agg b)).run P w = .ok () w:=by
 unfold eqGuard
 cases op <;> simp [G9,program,Sem.run]
theorem Qd {t t' : TypeId} {x y : Operand} {f0 f1 : Field} {k0 k1 : IntKind} {a b c e : Int} (ht : P.underlying t = some (.struct #[f0, f1])) (BN : f0.name ≠ "_") (Fh : f1.name ≠ "_")
  (h0:P.underlying f0.type=some (.int k0)) (h1:P.underlying f1.type=some (.int k1)) (OT:f0.offset=0) (OU:f1.offset=1) (oh:P.stoodInHeld t=false) (G9:P.eqGuardType P.depth t=false)
  (hx:ev r x = .agg #[.int k0 a,.int k1 b]) (hy:ev r y = .agg #[.int k0 c,.int k1 e]) :
  (execOp (ev r) ⟨d,.binOp .neq t x y t',ty,pos,ab,g⟩).run P w = .ok (.value (.bool (!(a == c && b == e)))) w:=by
 have h:=G8 (w:=w) (op:=.neq) (x:=x) (y:=y) (a:=#[.int k0 a,.int k1 b]) (b:=#[.int k0 c,.int k1 e]) G9
 have h':=Fi (w:=w) (a:=a) (b:=b) (c:=c) (e:=e) ht BN Fh h0 h1 OT OU oh
 simp only [execOp,hx,hy]
 simp [h,binOp,h']
theorem Qb {t t' : TypeId} {x y : Operand} {f0 f1 : Field} {k0 k1 : IntKind} {a b c e : Int} (ht : P.underlying t = some (.struct #[f0, f1])) (BN : f0.name ≠ "_") (Fh : f1.name ≠ "_")
  (h0:P.underlying f0.type=some (.int k0)) (h1:P.underlying f1.type=some (.int k1)) (OT:f0.offset=0) (OU:f1.offset=1) (oh:P.stoodInHeld t=false) (G9:P.eqGuardType P.depth t=false)
  (hx:ev r x = .agg #[.int k0 a,.int k1 b]) (hy:ev r y = .agg #[.int k0 c,.int k1 e]) :
  (execOp (ev r) ⟨d,.binOp .eql t x y t',ty,pos,ab,g⟩).run P w = .ok (.value (.bool (a == c && b == e))) w:=by
 have h:=G8 (w:=w) (op:=.eql) (x:=x) (y:=y) (a:=#[.int k0 a,.int k1 b]) (b:=#[.int k0 c,.int k1 e]) G9
 have h':=Fi (w:=w) (a:=a) (b:=b) (c:=c) (e:=e) ht BN Fh h0 h1 OT OU oh
 simp only [execOp,hx,hy]
 simp [h,binOp,h']
end
section
variable {α:Type} {E:ah α} {w:World}
end
theorem wi (p:Addr) (n:Nat):(p.add n).block=p.block:=by unfold Addr.add; split <;> rfl
theorem DR {P:Program} {r:NV} {w:World} {d:Option Nat} {ty:TI} {pos:String} {ab:Array Edge} {g:Option (Nat×Bool)} {s:TI} {x:OO} {k off:Nat} {fs:Array Field} {f:Field} {ds:TypeDesc} {cs:Array Value} {v:Value}
  (hs:P.underlying s=some (.struct fs)) (hf:fs[k]? = some f) (ht:P.underlying f.type=some ds) (hd:vJ ds=false) (ho:f.offset=off) (hx:ev r x = .agg cs) (hc:cs[off]? = some v) :
  (execOp (ev r) ⟨d,.field s x k,ty,pos,ab,g⟩).run P w = .ok (.value v) w:=by
 simp only [execOp,Instr.field,hx,Sem.run_bind,run_underlying hs,Result.andThen_ok,hf]
 simp [asAgg,part,vL ht,hd,ho,hc]
end Go.Li
