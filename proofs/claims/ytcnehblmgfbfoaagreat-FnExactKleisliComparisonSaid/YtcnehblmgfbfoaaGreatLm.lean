/- Interfaces whose dynamic type is known; guarded operations one behind the other; slices held against nil. No condition. -/
import Derived.Test.YtcnehblmgfbfoaaGreatLk
import Derived.Lib.SliceRun
import Derived.Laws.Pointers
namespace Go.Li
open Go
section
variable {P:Program} {W w:World} {r:NV} {ops l:LO} {d:Option Nat} {ty:TI} {pos:String} {ae:Array Edge} {g:Option (Nat×Bool)} {op:Op} {v:Value}
def IA (P:Program) (t a:TI):Prop:=∃ want i,P.underlying a=some (.interface want)∧P.info? t=some i∧Instr.missingMethod want i.methods=none
def IM (P:Program) (t:TI) (name:String) (f:FuncId):Prop:=∃ i m ds fn c,P.info? t=some i∧i.methods.find? (·.name == name)=some m∧m.path = #[]∧m.func=some (f,false)∧P.underlying t=some ds∧(∀ e,ds≠.pointer e)∧
 P.funcs[f]? = some fn ∧ fn.body = some c ∧ (fn.name == "runtime.NumGoroutine") = false
theorem UU {x y:OO} {t t':TI} {a:Addr} (ht:P.underlying t=some (.pointer (P.pointee t))) (hx:ev r x = .pointer (some a)) (hy:ev r y = .pointer none):Rd P W r ⟨d,.binOp .neq t x y t',ty,pos,ae,g⟩ (.bool true):=
 fun _ _=>zO ht hx hy rfl (run_neq_pointer_nil _ t (some a) ht)
theorem UW {x y:OO} {t t':TI} (ht:P.underlying t=some (.pointer (P.pointee t))) (hx:ev r x = .pointer none) (hy:ev r y = .pointer none):Rd P W r ⟨d,.binOp .neq t x y t',ty,pos,ae,g⟩ (.bool false):=
 fun _ _=>zO ht hx hy rfl (run_neq_pointer_nil _ t none ht)
theorem US {x y:OO} {t t':TI} {a:Addr} (ht:P.underlying t=some (.pointer (P.pointee t))) (hx:ev r x = .pointer (some a)) (hy:ev r y = .pointer none):Rd P W r ⟨d,.binOp .eql t x y t',ty,pos,ae,g⟩ (.bool false):=
 fun _ _=>zO ht hx hy rfl (run_eql_pointer_nil _ t (some a) ht)
theorem UT {x y:OO} {t t':TI} (ht:P.underlying t=some (.pointer (P.pointee t))) (hx:ev r x = .pointer none) (hy:ev r y = .pointer none):Rd P W r ⟨d,.binOp .eql t x y t',ty,pos,ae,g⟩ (.bool true):=
 fun _ _=>zO ht hx hy rfl (run_eql_pointer_nil _ t none ht)
theorem Wg {K:(Nat→Value)→World→Prop} {j:Nat} {t b:Bool} (hC:ao [] W w) (hy:yl ops r j=some b) (hb:b=t) (h:Rd P W r ⟨d,op,ty,pos,ae,some (j,t)⟩ v) (k:WL P ops l (dw r d v) w K):WL P ops (⟨d,op,ty,pos,ae,some (j,t)⟩ :: l) r w K:=
 .inl ⟨by rw [uD rfl (by rw [hy,hb])]; cases t <;> rfl,by unfold dq; rw [h w hC]; exact k⟩
theorem Wk {K:(Nat→Value)→World→Prop} {j:Nat} {t b c:Bool} (hy:yl ops r j=some b) (hb:b=c) (hc:(c == t)=false) (k:WL P ops l (dw r d undef) w K):WL P ops (⟨d,op,ty,pos,ae,some (j,t)⟩ :: l) r w K:=
 .inr ⟨by rw [uD rfl (by rw [hy,hb])]; exact hc,k⟩
end
theorem fe {r:NV} {l:List (Nat×Value)} (h:l.map (fun p=>r p.1)=l.map Prod.snd):∃ F,r=GC F l:=by
 refine fr ?_
 induction l with
 | nil=>trivial
 | cons p l ih=>
  simp only [List.map_cons,List.cons.injEq] at h
  exact ⟨h.1,ih h.2⟩
def Tm {X:Type} (P:Program) (fn:Func) (n:Nat) (R:X→Ending→World→Prop):X→(Nat→Value)→World→Prop:=
 fun x r w'=>∃ v,(∀ a:Act,a.tmps.size=n→b9 a=r→(results fn a.tmps).run P w' = .ok v w')∧R x (.returned v) w'
section
variable {P:Program} {n:Nat} {Q:Exit→(Nat→Value)→World→Prop} {r:NV} {w:World}
theorem Wf {R S S1:Type} {k:Nat} {c:Code} {body:S1→Option (Out S1 R)} (I:S1→(Nat→Value)→World→Prop) (T:R→(Nat→Value)→World→Prop)
  {s0:S1} {f:S1→Option (Out S R)} {o:Out S R} (hm:aj (ah k (ai body s0)) f=some o) (h0:I s0 r w)
  (step:∀ s r w,I s r w→∀ o,body s=some o→W P n c (l7 I (fun j s r w=>bif Nat.beq j k then I s r w else False) T o) r w)
  (next:∀ s r w,I s r w→f s=some o→Q .normal r w)
  (ht:∀ x r w,o = .ret x→T x r w→Q .ret r w:=by intro x r w ho hx; subst ho; exact hx):W P n (.block k (.loop c)) Q r w:=F5 I hm h0 ht step next
end
abbrev sV (v:Value):dx:=⟨true,pl fun _ _ u=>u=v⟩
def jj (l:LO) (m:Nat) (k:List (Nat×Value)):Bool:=k.all fun p=>(List.range m).all fun j=>bg l j != some p.1
theorem Hz {l:LO} {m:Nat} {k:List (Nat×Value)} (h:jj l m k=true):∀ p∈k,∀ j,j < m→bg l j≠some p.1:=by
 intro p hp j hj
 simp only [jj,List.all_eq_true,List.mem_range,bne_iff_ne] at h
 exact h p hp j hj
section
variable {P:Program} {l:LO} {S:List dx} {r0:NV} {w0 W:World}
end
end Go.Li
