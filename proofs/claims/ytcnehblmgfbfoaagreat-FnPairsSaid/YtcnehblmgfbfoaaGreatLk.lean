/- Short words for the walk's steps: what an operation reads in every world behind the one at hand. No condition. -/
import Derived.Test.YtcnehblmgfbfoaaGreatLh
namespace Go.Li
open Go
def Rd (P:Program) (W:World) (r:NV) (o:Oper) (v:Value):Prop:=∀ w,ak [] W w→(execOp (ev r) o).run P w = .ok (.value v) w
section
variable {P:Program} {W w:World} {r:NV} {ops l:LO} {d:Option Nat} {ty:TI} {pos:String} {af:Array Edge} {g:Option (Nat×Bool)} {op:Op} {v:Value}
theorem Qg {K:(Nat→Value)→Prop} {j:Nat} {t b:Bool} (hy:yl ops r j=some b) (hb:b=t) (h:Rd P W r ⟨d,op,ty,pos,af,some (j,t)⟩ v) (k:QL P (ak [] W) ops l (du r d v) K):QL P (ak [] W) ops (⟨d,op,ty,pos,af,some (j,t)⟩ :: l) r K:=
 QL.XF rfl (by rw [hy,hb]) h k
theorem Wa {K:(Nat→Value)→World→Prop} (hC:ak [] W w) (h:Rd P W r ⟨d,op,ty,pos,af,none⟩ v) (k:WL P ops l (du r d v) w K):WL P ops (⟨d,op,ty,pos,af,none⟩ :: l) r w K:=WL.val rfl (h w hC) k
theorem Wb {K:(Nat→Value)→World→Prop} (h:Rd P w r ⟨d,op,ty,pos,af,none⟩ v) (k:WL P ops l (du r d v) w K):WL P ops (⟨d,op,ty,pos,af,none⟩ :: l) r w K:=WL.val rfl (h w (ak.refl _ _)) k
theorem Mv {x:OO} (v:Value) (h:ev r x=v):Rd P W r ⟨d,.move x,ty,pos,af,g⟩ v:=fun _ _=>by rw [← h]; rfl
theorem Av {x:OO} (v:Value) (h:ev r x=v):Rd P W r ⟨d,.assign x,ty,pos,af,g⟩ v:=fun _ _=>by rw [← h]; rfl
section
variable {x y:OO} {t t':TI} {k:IntKind} {a b:Int}
theorem Ba (hx:ev r x = .int .i64 a) (hy:ev r y = .int .i64 b):Rd P W r ⟨d,.binOp .add t x y t',ty,pos,af,g⟩ (.int .i64 (ai (a+b))):=fun _ _=>sO hx hy PX
theorem Bs (hx:ev r x = .int .i64 a) (hy:ev r y = .int .i64 b):Rd P W r ⟨d,.binOp .sub t x y t',ty,pos,af,g⟩ (.int .i64 (ai (a - b))):=fun _ _=>sO hx hy PY
theorem Bm (hx:ev r x = .int .i64 a) (hy:ev r y = .int .i64 b):Rd P W r ⟨d,.binOp .mul t x y t',ty,pos,af,g⟩ (.int .i64 (ai (a * b))):=fun _ _=>sO hx hy PZ
theorem Bl (hx:ev r x = .int k a) (hy:ev r y = .int k b):Rd P W r ⟨d,.binOp .lss t x y t',ty,pos,af,g⟩ (.bool (decide (a < b))):=fun _ _=>sO hx hy P1
theorem Bk (hx:ev r x = .int k a) (hy:ev r y = .int k b):Rd P W r ⟨d,.binOp .leq t x y t',ty,pos,af,g⟩ (.bool (decide (a≤b))):=fun _ _=>sO hx hy P3
theorem Bg (hx:ev r x = .int k a) (hy:ev r y = .int k b):Rd P W r ⟨d,.binOp .gtr t x y t',ty,pos,af,g⟩ (.bool (decide (a > b))):=fun _ _=>sO hx hy P4
theorem Bh (hx:ev r x = .int k a) (hy:ev r y = .int k b):Rd P W r ⟨d,.binOp .geq t x y t',ty,pos,af,g⟩ (.bool (decide (a ≥ b))):=fun _ _=>sO hx hy P5
theorem Be (hx:ev r x = .int k a) (hy:ev r y = .int k b):Rd P W r ⟨d,.binOp .eql t x y t',ty,pos,af,g⟩ (.bool (a == b)):=fun _ _=>sO hx hy P6
theorem Bn (hx:ev r x = .int k a) (hy:ev r y = .int k b):Rd P W r ⟨d,.binOp .neq t x y t',ty,pos,af,g⟩ (.bool (a != b)):=fun _ _=>sO hx hy P7
theorem Nt {b:Bool} (hx:ev r x = .bool b):Rd P W r ⟨d,.unOp .not t x,ty,pos,af,g⟩ (.bool (!b)):=fun _ _=>Se hx
end
theorem Nk {x:OO} {a:Addr} (hx:ev r x = .pointer (some a)):Rd P W r ⟨d,.nilCheck x,ty,pos,af,g⟩ (.pointer (some a)):=fun _ _=>GN hx
theorem Ex {x:OO} {k:Nat} {vs:Array Value} (v:Value) (hx:ev r x = .tuple vs) (hv:vs[k]? = some v):Rd P W r ⟨d,.extract x k,ty,pos,af,g⟩ v:=fun _ _=>IY hx hv
def FA (P:Program) (s k off:Nat):Prop:=∃ fs f i,P.underlying s=some (.struct fs)∧fs[k]? = some f∧P.info? f.type=some i∧i.size≠0∧f.offset=off
section
variable {s:TI} {x:OO} {k off o1 b:Nat} {a:Addr}
theorem Fp (h:FA P s k off) (hx:ev r x = .pointer (some a)):Rd P W r ⟨d,.fieldAddr s x k,ty,pos,af,g⟩ (.pointer (some (a.add off))):=by
 obtain ⟨fs,f,i,h1,h2,h3,h4,h5⟩:=h; exact fun _ _=>D0 h1 h2 h3 h4 h5 hx
theorem F0 (h:FA P s k 0) (hx:ev r x = .pointer (some a)):Rd P W r ⟨d,.fieldAddr s x k,ty,pos,af,g⟩ (.pointer (some a)):=by
 obtain ⟨fs,f,i,h1,h2,h3,h4,h5⟩:=h; exact fun _ _=>D1 h1 h2 h3 h4 h5 hx
theorem Fs (h:FA P s k off) (o2:Nat) (hx:ev r x = .pointer (some ⟨b,o1,none⟩)) (ho:o1+off=o2):Rd P W r ⟨d,.fieldAddr s x k,ty,pos,af,g⟩ (.pointer (some ⟨b,o2,none⟩)):=by
 obtain ⟨fs,f,i,h1,h2,h3,h4,h5⟩:=h; exact fun _ _=>D2 h1 h2 h3 h4 (by rw [h5]; exact ho) hx
theorem Fr (h:FA P s k off) (hx:ev r x = .pointer (some ⟨b,0,none⟩)):Rd P W r ⟨d,.fieldAddr s x k,ty,pos,af,g⟩ (.pointer (some ⟨b,off,none⟩)):=Fs h off hx (Nat.zero_add _)
end
def NA (P:Program) (t:TI):Prop:=∃ ds,P.underlying t=some ds∧xm ds=false
section
variable {t:TI} {x y:OO} {a:Addr}
theorem Ld (ht:NA P t) (hc:W.cell? a=some v) (hx:ev r x = .pointer (some a)):Rd P W r ⟨d,.load t x,ty,pos,af,g⟩ v:=by
 obtain ⟨ds,h1,h2⟩:=ht; exact fun _ hC=>P8 h1 h2 hx (hC.Ii hc)
theorem La {p:Addr} {j:Nat} {cs:LV} (ht:NA P t) (h:At W p cs) (hx:ev r x = .pointer (some (p.add j))) (hj:cs[j]? = some v):Rd P W r ⟨d,.load t x,ty,pos,af,g⟩ v:=Ld ht (h.cell hj) hx
def AG (P:Program) (t:TI) (n:Nat):Prop:=∃ ds i,P.underlying t=some ds∧xm ds=true∧P.info? t=some i∧i.size=n
theorem Lg {n:Nat} {p:Addr} {cs:LV} (ht:AG P t n) (h:At W p cs) (hx:ev r x = .pointer (some p)) (hn:cs.length=n):Rd P W r ⟨d,.load t x,ty,pos,af,g⟩ (.agg cs.toArray):=by
 obtain ⟨ds,i,h1,h2,h3,h4⟩:=ht; exact fun _ hC=>IX h1 h2 h3 (by rw [hn,h4]) hx (h.fx hC)
variable {u:Value} {j:Int} {f:LN}
def SL (P:Program) (t:TI):Prop:=∃ e i,P.underlying t=some (.slice e)∧P.info? e=some i∧i.size=1
theorem Ix {α:Type} {E:ag α} {xs:List α} {z:α} {k:IntKind} (ht:SL P t) (hr:(bE E).rep W.heap [u] xs f) (hz:0≤j∧xs[j.toNat]? = some z) (hx:ev r x=u) (hy:ev r y = .int k j) (hE:E.size=1):Rd P W r ⟨d,.indexAddr t x y,ty,pos,af,g⟩ (.pointer (some (ch u 1 j))):=by
 obtain ⟨e,i,h1,h2,h3⟩:=ht; subst hx; exact fun _ hC=>KF h1 h2 h3 hE (ag.fx _ hr hC) hy hz.1 hz.2
theorem Ln {α:Type} {E:ag α} {xs:List α} (ht:SL P t) (hr:(bE E).rep W.heap [u] xs f) (hx:ev r x=u):Rd P W r ⟨d,.call ⟨.builtin .len,#[x],#[t]⟩,ty,pos,af,g⟩ (.int .i64 (xs.length:Int)):=by
 obtain ⟨e,i,h1,_,_⟩:=ht; subst hx; exact fun _ hC=>P9 h1 (ag.fx _ hr hC)
theorem Bu {parts:List (Nat×Operand)} {cs:Array Value} (h:P.built t (parts.map fun x=>(x.1,ev r x.2))=some cs):Rd P W r ⟨d,.build t parts.toArray,ty,pos,af,g⟩ (.agg cs):=fun _ _=>MK h
end
end
end Go.Li
