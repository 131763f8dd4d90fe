/- Short words for the walk's steps: what an operation reads in every world behind the one at hand. No condition. -/
import Derived.Test.YtcnehblmgfbfoaaGreatLh
namespace Go.Li
open Go
def Rd (P:Program) (W:World) (r:NV) (o:Oper) (v:Value):Prop:=∀ w,ak [] W w→(execOp (ev r) o).run P w = .ok (.value v) w
section
variable {P:Program} {W w:World} {r:NV} {ops l:LO} {d:Option Nat} {ty:TI} {pos:String} {ab:Array Edge} {g:Option (Nat×Bool)} {op:Op} {v:Value}
theorem Qg {K:(Nat→Value)→Prop} {j:Nat} {t b:Bool} (hy:yl ops r j=some b) (hb:b=t) (h:Rd P W r ⟨d,op,ty,pos,ab,some (j,t)⟩ v) (k:QL P (ak [] W) ops l (gf r d v) K):QL P (ak [] W) ops (⟨d,op,ty,pos,ab,some (j,t)⟩ :: l) r K:=
 QL.acE rfl (by rw [hy,hb]) h k
theorem Wa {K:(Nat→Value)→World→Prop} (hC:ak [] W w) (h:Rd P W r ⟨d,op,ty,pos,ab,none⟩ v) (k:WL P ops l (gf r d v) w K):WL P ops (⟨d,op,ty,pos,ab,none⟩ :: l) r w K:=WL.val rfl (h w hC) k
theorem Wb {K:(Nat→Value)→World→Prop} (h:Rd P w r ⟨d,op,ty,pos,ab,none⟩ v) (k:WL P ops l (gf r d v) w K):WL P ops (⟨d,op,ty,pos,ab,none⟩ :: l) r w K:=WL.val rfl (h w (ak.refl _ _)) k
theorem Mv {x:OO} (v:Value) (h:ev r x=v):Rd P W r ⟨d,.move x,ty,pos,ab,g⟩ v:=fun _ _=>by rw [← h]; rfl
theorem Av {x:OO} (v:Value) (h:ev r x=v):Rd P W r ⟨d,.assign x,ty,pos,ab,g⟩ v:=fun _ _=>by rw [← h]; rfl
section
variable {x y:OO} {t t':TI} {k:IntKind} {a b:Int}
theorem Ba (hx:ev r x = .int .i64 a) (hy:ev r y = .int .i64 b):Rd P W r ⟨d,.binOp .add t x y t',ty,pos,ab,g⟩ (.int .i64 (ai (a+b))):=fun _ _=>vj hx hy Uz
theorem Bs (hx:ev r x = .int .i64 a) (hy:ev r y = .int .i64 b):Rd P W r ⟨d,.binOp .sub t x y t',ty,pos,ab,g⟩ (.int .i64 (ai (a - b))):=fun _ _=>vj hx hy UA
theorem Bm (hx:ev r x = .int .i64 a) (hy:ev r y = .int .i64 b):Rd P W r ⟨d,.binOp .mul t x y t',ty,pos,ab,g⟩ (.int .i64 (ai (a * b))):=fun _ _=>vj hx hy UB
theorem Bl (hx:ev r x = .int k a) (hy:ev r y = .int k b):Rd P W r ⟨d,.binOp .lss t x y t',ty,pos,ab,g⟩ (.bool (decide (a < b))):=fun _ _=>vj hx hy UC
theorem Bk (hx:ev r x = .int k a) (hy:ev r y = .int k b):Rd P W r ⟨d,.binOp .leq t x y t',ty,pos,ab,g⟩ (.bool (decide (a≤b))):=fun _ _=>vj hx hy UD
theorem Bg (hx:ev r x = .int k a) (hy:ev r y = .int k b):Rd P W r ⟨d,.binOp .gtr t x y t',ty,pos,ab,g⟩ (.bool (decide (a > b))):=fun _ _=>vj hx hy UE
theorem Bh (hx:ev r x = .int k a) (hy:ev r y = .int k b):Rd P W r ⟨d,.binOp .geq t x y t',ty,pos,ab,g⟩ (.bool (decide (a ≥ b))):=fun _ _=>vj hx hy UF
theorem Be (hx:ev r x = .int k a) (hy:ev r y = .int k b):Rd P W r ⟨d,.binOp .eql t x y t',ty,pos,ab,g⟩ (.bool (a == b)):=fun _ _=>vj hx hy UG
theorem Bn (hx:ev r x = .int k a) (hy:ev r y = .int k b):Rd P W r ⟨d,.binOp .neq t x y t',ty,pos,ab,g⟩ (.bool (a != b)):=fun _ _=>vj hx hy UH
theorem Nt {b:Bool} (hx:ev r x = .bool b):Rd P W r ⟨d,.unOp .not t x,ty,pos,ab,g⟩ (.bool (!b)):=fun _ _=>W5 hx
theorem Ng (hx:ev r x = .int .i64 a):Rd P W r ⟨d,.unOp .neg t x,ty,pos,ab,g⟩ (.int .i64 (ai (0 - a))):=fun _ _=>W6 hx
end
theorem Nk {x:OO} {a:Addr} (hx:ev r x = .pointer (some a)):Rd P W r ⟨d,.nilCheck x,ty,pos,ab,g⟩ (.pointer (some a)):=fun _ _=>Ka hx
theorem Ex {x:OO} {k:Nat} {vs:Array Value} (v:Value) (hx:ev r x = .tuple vs) (hv:vs[k]? = some v):Rd P W r ⟨d,.extract x k,ty,pos,ab,g⟩ v:=fun _ _=>Mw hx hv
def FA (P:Program) (s k off:Nat):Prop:=∃ fs f i,P.underlying s=some (.struct fs)∧fs[k]? = some f∧P.info? f.type=some i∧i.size≠0∧f.offset=off
section
variable {s:TI} {x:OO} {k off o1 b:Nat} {a:Addr}
theorem Fp (h:FA P s k off) (hx:ev r x = .pointer (some a)):Rd P W r ⟨d,.fieldAddr s x k,ty,pos,ab,g⟩ (.pointer (some (a.add off))):=by
 obtain ⟨fs,f,i,h1,h2,h3,h4,h5⟩:=h; exact fun _ _=>Hq h1 h2 h3 h4 h5 hx
theorem F0 (h:FA P s k 0) (hx:ev r x = .pointer (some a)):Rd P W r ⟨d,.fieldAddr s x k,ty,pos,ab,g⟩ (.pointer (some a)):=by
 obtain ⟨fs,f,i,h1,h2,h3,h4,h5⟩:=h; exact fun _ _=>Hr h1 h2 h3 h4 h5 hx
theorem Fs (h:FA P s k off) (o2:Nat) (hx:ev r x = .pointer (some ⟨b,o1,none⟩)) (ho:o1+off=o2):Rd P W r ⟨d,.fieldAddr s x k,ty,pos,ab,g⟩ (.pointer (some ⟨b,o2,none⟩)):=by
 obtain ⟨fs,f,i,h1,h2,h3,h4,h5⟩:=h; exact fun _ _=>Hs h1 h2 h3 h4 (by rw [h5]; exact ho) hx
theorem Fr (h:FA P s k off) (hx:ev r x = .pointer (some ⟨b,0,none⟩)):Rd P W r ⟨d,.fieldAddr s x k,ty,pos,ab,g⟩ (.pointer (some ⟨b,off,none⟩)):=Fs h off hx (Nat.zero_add _)
end
def NA (P:Program) (t:TI):Prop:=∃ ds,P.underlying t=some ds∧vJ ds=false
section
variable {t:TI} {x y:OO} {a:Addr}
theorem Ld (ht:NA P t) (hc:W.cell? a=some v) (hx:ev r x = .pointer (some a)):Rd P W r ⟨d,.load t x,ty,pos,ab,g⟩ v:=by
 obtain ⟨ds,h1,h2⟩:=ht; exact fun _ hC=>UI h1 h2 hx (hC.Lz hc)
theorem La {p:Addr} {j:Nat} {cs:LV} (ht:NA P t) (h:At W p cs) (hx:ev r x = .pointer (some (p.add j))) (hj:cs[j]? = some v):Rd P W r ⟨d,.load t x,ty,pos,ab,g⟩ v:=Ld ht (h.cell hj) hx
def AG (P:Program) (t:TI) (n:Nat):Prop:=∃ ds i,P.underlying t=some ds∧vJ ds=true∧P.info? t=some i∧i.size=n
theorem Lg {n:Nat} {p:Addr} {cs:LV} (ht:AG P t n) (h:At W p cs) (hx:ev r x = .pointer (some p)) (hn:cs.length=n):Rd P W r ⟨d,.load t x,ty,pos,ab,g⟩ (.agg cs.toArray):=by
 obtain ⟨ds,i,h1,h2,h3,h4⟩:=ht; exact fun _ hC=>Mu h1 h2 h3 (by rw [hn,h4]) hx (h.ic hC)
variable {u:Value} {j:Int} {f:LN}
def SL (P:Program) (t:TI):Prop:=∃ e i,P.underlying t=some (.slice e)∧P.info? e=some i∧i.size=1
theorem Ix {α:Type} {E:ah α} {xs:List α} {z:α} {k:IntKind} (ht:SL P t) (hr:(aV E).rep W.heap [u] xs f) (hz:0≤j∧xs[j.toNat]? = some z) (hx:ev r x=u) (hy:ev r y = .int k j) (hE:E.size=1):Rd P W r ⟨d,.indexAddr t x y,ty,pos,ab,g⟩ (.pointer (some (cn u 1 j))):=by
 obtain ⟨e,i,h1,h2,h3⟩:=ht; subst hx; exact fun _ hC=>OQ h1 h2 h3 hE (ah.ic _ hr hC) hy hz.1 hz.2
theorem Ln {α:Type} {E:ah α} {xs:List α} (ht:SL P t) (hr:(aV E).rep W.heap [u] xs f) (hx:ev r x=u):Rd P W r ⟨d,.call ⟨.builtin .len,#[x],#[t]⟩,ty,pos,ab,g⟩ (.int .i64 (xs.length:Int)):=by
 obtain ⟨e,i,h1,_,_⟩:=ht; subst hx; exact fun _ hC=>UJ h1 (ah.ic _ hr hC)
theorem Bu {parts:List (Nat×Operand)} {cs:Array Value} (h:P.built t (parts.map fun x=>(x.1,ev r x.2))=some cs):Rd P W r ⟨d,.build t parts.toArray,ty,pos,ab,g⟩ (.agg cs):=fun _ _=>Re h
end
end
end Go.Li
