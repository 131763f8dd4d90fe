/- Interfaces whose dynamic type is known; guarded operations one behind the other; slices held against nil. No condition. -/
import Derived.Test.YtcnehblmgfbfoaaGreatLk
import Derived.Lib.SliceRun
import Derived.Laws.Pointers
namespace Go.Li
open Go
section
variable {P:Program} {W w:World} {r:NV} {ops l:LO} {d:Option Nat} {ty:TI} {pos:String} {ab:Array Edge} {g:Option (Nat×Bool)} {op:Op} {v:Value}
def GM:TypeDesc→Bool | .interface _=>true | _=>false
theorem If {t:TI} {x:OO} {ds:TypeDesc} (ht:P.underlying t=some ds) (hd:GM ds=false) (v:Value) (hx:ev r x=v):Rd P W r ⟨d,.makeInterface t x,ty,pos,ab,g⟩ (.iface t v):=by
 intro w _
 simp only [execOp,Instr.makeInterface,Sem.run_bind,mj ht,Result.andThen_ok,hx]
 cases ds <;> first | rfl | cases hd
def IA (P:Program) (t a:TI):Prop:=∃ want i,P.underlying a=some (.interface want)∧P.info? t=some i∧Instr.missingMethod want i.methods=none
theorem Ta {t a xt:TI} {x:OO} {u:Value} (h:IA P t a) (hx:ev r x = .iface t u):Rd P W r ⟨d,.typeAssert x xt a true,ty,pos,ab,g⟩ (.tuple #[.iface t u,.bool true]):=by
 obtain ⟨want,i,h1,h2,h3⟩:=h
 intro w _
 simp only [execOp,Instr.typeAssert,Sem.run_bind,mj h1,Result.andThen_ok,hx]
 simp [typeInfo,h2,h3]
def IM (P:Program) (t:TI) (name:String) (f:FuncId):Prop:=∃ i m ds fn c,P.info? t=some i∧i.methods.find? (·.name == name)=some m∧m.path = #[]∧m.func=some (f,false)∧P.underlying t=some ds∧(∀ e,ds≠.pointer e)∧
 P.funcs[f]? = some fn ∧ fn.body = some c ∧ (fn.name == "runtime.NumGoroutine") = false
theorem GR {t:TI} {name:String} {f:FuncId} {x:OO} {u:Value} {xs:List Operand} {au:Array TypeId} (h:IM P t name f) (hx:ev r x = .iface t u) :
  (execOp (ev r) ⟨d,.call ⟨.invoke x name,xs.toArray,au⟩,ty,pos,ab,g⟩).run P w = .ok (.enter f (u :: xs.map (ev r)).toArray) w:=by
 obtain ⟨i,m,ds,fn,c,h1,h2,h3,h4,h5,h6,h7,h8,h9⟩:=h
 have mh : ¬ (fn.name = "runtime.NumGoroutine") := by simpa using h9
 have hm:∀ n,(method (n+1) t u name).run P w = .ok (f,u) w:=by
  intro n
  have hr : (receiverAt t (.val u) false (if m.path.isEmpty then some ((name.splitOn ".").getLastD name) else none)).run P w = .ok u w := by
   simp only [receiverAt,Sem.run_bind,mj h5,Result.andThen_ok]
   cases ds <;> first | rfl | (rename_i e; exact absurd rfl (h6 e))
  simp only [method,Sem.run_bind,typeInfo]
  simp [h1,h2,h3,h4,follow] at hr ⊢
  simp [hr]
 have hd:Made.depth=Made.depth - 1+1:=by decide
 have hm2:=hm (P.types.size+(Made.depth - 1))
 rw [Nat.add_assoc,← hd] at hm2
 simp [execOp,resolve,invoke,callMethod,hx,hm2,callFunc,h7,h8,mh]
 exact List.take_of_length_le (by simp)
theorem ab7 {x y:OO} {t t':TI} {a:Addr} (ht:P.underlying t=some (.pointer (P.pointee t))) (hx:ev r x = .pointer (some a)) (hy:ev r y = .pointer none):Rd P W r ⟨d,.binOp .neq t x y t',ty,pos,ab,g⟩ (.bool true):=
 fun _ _=>Fk ht hx hy rfl (run_neq_pointer_nil _ t (some a) ht)
theorem ab8 {x y:OO} {t t':TI} (ht:P.underlying t=some (.pointer (P.pointee t))) (hx:ev r x = .pointer none) (hy:ev r y = .pointer none):Rd P W r ⟨d,.binOp .neq t x y t',ty,pos,ab,g⟩ (.bool false):=
 fun _ _=>Fk ht hx hy rfl (run_neq_pointer_nil _ t none ht)
theorem ab5 {x y:OO} {t t':TI} {a:Addr} (ht:P.underlying t=some (.pointer (P.pointee t))) (hx:ev r x = .pointer (some a)) (hy:ev r y = .pointer none):Rd P W r ⟨d,.binOp .eql t x y t',ty,pos,ab,g⟩ (.bool false):=
 fun _ _=>Fk ht hx hy rfl (run_eql_pointer_nil _ t (some a) ht)
theorem ab6 {x y:OO} {t t':TI} (ht:P.underlying t=some (.pointer (P.pointee t))) (hx:ev r x = .pointer none) (hy:ev r y = .pointer none):Rd P W r ⟨d,.binOp .eql t x y t',ty,pos,ab,g⟩ (.bool true):=
 fun _ _=>Fk ht hx hy rfl (run_eql_pointer_nil _ t none ht)
theorem Wg {K:(Nat→Value)→World→Prop} {j:Nat} {t b:Bool} (hC:ak [] W w) (hy:yl ops r j=some b) (hb:b=t) (h:Rd P W r ⟨d,op,ty,pos,ab,some (j,t)⟩ v) (k:WL P ops l (gf r d v) w K):WL P ops (⟨d,op,ty,pos,ab,some (j,t)⟩ :: l) r w K:=
 .inl ⟨by rw [uC rfl (by rw [hy,hb])]; cases t <;> rfl,by unfold fh; rw [h w hC]; exact k⟩
theorem Wk {K:(Nat→Value)→World→Prop} {j:Nat} {t b c:Bool} (hy:yl ops r j=some b) (hb:b=c) (hc:(c == t)=false) (k:WL P ops l (gf r d undef) w K):WL P ops (⟨d,op,ty,pos,ab,some (j,t)⟩ :: l) r w K:=
 .inr ⟨by rw [uC rfl (by rw [hy,hb])]; exact hc,k⟩
end
theorem fe {r:NV} {l:List (Nat×Value)} (h:l.map (fun p=>r p.1)=l.map Prod.snd):∃ F,r=Mx F l:=by
 refine fr ?_
 induction l with
 | nil=>trivial
 | cons p l ih=>
  simp only [List.map_cons,List.cons.injEq] at h
  exact ⟨h.1,ih h.2⟩
def Tm {X:Type} (P:Program) (fn:Func) (n:Nat) (R:X→Ending→World→Prop):X→(Nat→Value)→World→Prop:=
 fun x r w'=>∃ v,(∀ a:Act,a.tmps.size=n→cu a=r→(results fn a.tmps).run P w' = .ok v w')∧R x (.returned v) w'
section
variable {P:Program} {n:Nat} {Q:Exit→(Nat→Value)→World→Prop} {r:NV} {w:World}
theorem Wf {R S S1:Type} {k:Nat} {c:Code} {body:S1→Option (Out S1 R)} (I:S1→(Nat→Value)→World→Prop) (T:R→(Nat→Value)→World→Prop)
  {s0:S1} {f:S1→Option (Out S R)} {o:Out S R} (hm:ag (ae k (af body s0)) f=some o) (h0:I s0 r w)
  (step:∀ s r w,I s r w→∀ o,body s=some o→W P n c (p7 I (fun j s r w=>bif Nat.beq j k then I s r w else False) T o) r w)
  (next:∀ s r w,I s r w→f s=some o→Q .normal r w)
  (ht:∀ x r w,o = .ret x→T x r w→Q .ret r w:=by intro x r w ho hx; subst ho; exact hx):W P n (.block k (.loop c)) Q r w:=LF I hm h0 ht step next
end
abbrev sV (v:Value):ig:=⟨true,pl fun _ _ u=>u=v⟩
def jz (l:LO) (m:Nat) (k:List (Nat×Value)):Bool:=k.all fun p=>(List.range m).all fun j=>bj l j != some p.1
theorem NX {l:LO} {m:Nat} {k:List (Nat×Value)} (h:jz l m k=true):∀ p∈k,∀ j,j < m→bj l j≠some p.1:=by
 intro p hp j hj
 simp only [jz,List.all_eq_true,List.mem_range,bne_iff_ne] at h
 exact h p hp j hj
section
variable {P:Program} {l:LO} {S:List ig} {r0:NV} {w0 W:World}
end
end Go.Li
