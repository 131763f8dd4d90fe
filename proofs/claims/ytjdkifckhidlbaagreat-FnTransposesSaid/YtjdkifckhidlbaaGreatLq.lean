/- Maps of one's own, strings made of bytes. No condition. -/
import Derived.Test.YtjdkifckhidlbaaGreatLa
import Derived.MapKept
import Derived.Laws.BytesArg
namespace Go.Li
set_option linter.unusedSectionVars false
open Go
def Rz {α:Type} [DecidableEq α] (l:List α):Option Unit:=if l.Nodup then some () else none
theorem Mc {α:Type} [DecidableEq α] {l:List α} {u:Unit} (h:Rz l=some u):l.Nodup:=by
 unfold Rz at h
 by_cases hn:l.Nodup
 ·exact hn
 ·rw [if_neg hn] at h; cases h
class Ky {κ:Type} [BEq κ] (ek:κ→Value) (kd:outParam TypeDesc):Prop where
 key:∀ a,MapKept.IsKey kd (ek a)
 inj:∀ a b:κ,(a == b)=true↔ek a=ek b
instance Ky.str:Ky (fun s:ByteArray=>Value.string s) .string:=⟨fun _=>trivial,fun a b=>by rw [MapKept.bytes_beq]; exact ⟨fun h=>by rw [h],fun h=>by cases h; rfl⟩⟩
instance Ky.int {k:IntKind}:Ky (fun a:Int=>Value.int k a) (.int k):=⟨fun _=>rfl,fun a b=>by rw [beq_iff_eq]; exact ⟨fun h=>by rw [h],fun h=>by cases h; rfl⟩⟩
def VU {κ υ:Type} (ek:κ→Value) (ev:υ→Value):ai (List (κ×υ)) where
 size:=1
 rep h cs x f:=∃ b es ck,cs=[.map (some b)]∧f=[b]∧h[b]? = some (.map es ck)∧es.toList.map (fun e=>(e.key,e.val))=x.map fun p=>(ek p.1,ev p.2)
 len:=by rintro h cs x f ⟨b,es,ck,rfl,_⟩; rfl
 one:=by rintro h cs x f ⟨b,es,ck,rfl,_⟩ v hv; simp at hv; subst hv; rfl
 congr:=by
  rintro h h' cs x f ⟨b,es,ck,rfl,rfl,h1,h2⟩ hb
  exact ⟨b,es,ck,rfl,rfl,(hb b (by simp)).trans h1,h2⟩
 lt:=by
  rintro h cs x f ⟨b,es,ck,rfl,rfl,h1,h2⟩ i hi
  rw [List.mem_singleton.1 hi]
  exact (Array.getElem?_eq_some_iff.1 h1).1
section
variable {κ υ:Type} [BEq κ] {ek:κ→Value} {ev':υ→Value} {kd:TypeDesc}
variable {P:Program} {r:NV} {w:World} {d:Option Nat} {ty:TI} {pos:String} {ag:Array Edge} {g:Option (Nat×Bool)}
end
def su (op:BinOp) (k:IntKind) (x y:Int):Option Int:=
 match op with
 | .add=>some (k.wrap (x+y))
 | .sub=>some (k.wrap (x - y))
 | .mul=>some (k.wrap (x * y))
 | .quo=>if y=0 then none else some (k.wrap (x.tdiv y))
 | .rem=>if y=0 then none else some (x.tmod y)
 | .shl=>if y < 0 then none else some (k.wrap (x * 2 ^ (min y.toNat k.bits)))
 | .shr=>if y < 0 then none else some (x.fdiv (2 ^ (min y.toNat k.bits)))
 | .and=>some (k.wrap (BitVec.ofInt k.bits x &&& BitVec.ofInt k.bits y).toNat)
 | .or=>some (k.wrap (BitVec.ofInt k.bits x ||| BitVec.ofInt k.bits y).toNat)
 | .xor=>some (k.wrap (BitVec.ofInt k.bits x ^^^ BitVec.ofInt k.bits y).toNat)
 | .andNot=>some (k.wrap (BitVec.ofInt k.bits x &&& ~~~(BitVec.ofInt k.bits y)).toNat)
 | _=>none
def Jx:BinOp→Bool
 | .shl=>true
 | .shr=>true
 | _=>false
section
variable {P:Program} {r:NV} {w:World} {d:Option Nat} {ty:TI} {pos:String} {ag:Array Edge} {g:Option (Nat×Bool)}
theorem JG {op : BinOp} {t t' : TypeId} {x y : Operand} {k k' : IntKind} {a b z : Int} (hx : Li.ev r x = .int k a) (hy : Li.ev r y = .int k' b) (hk : Jx op = true ∨ k = k') (hz : su op k a b = some z) :
    (execOp (Li.ev r) ⟨d, .binOp op t x y t', ty, pos, ag, g⟩).run P w = .ok (.value (.int k z)) w := by
  have hb : (binOp op t (.int k a) (.int k' b)).run P w = .ok (.int k z) w := by
    cases op <;> simp only [su, Jx, Bool.false_eq_true, false_or, true_or, Option.some.injEq, reduceCtorEq] at hz hk
    all_goals try subst hk
    all_goals try subst hz
    all_goals first
      | (simp [binOp, Op.intArith]; done)
      | (simp [binOp, Op.intBits]; done)
      | (split at hz
         · cases hz
         · rename_i h0
           cases hz
           first
           | (simp [binOp, Op.intDiv, h0]; done)
           | (simp [binOp, Op.shift, h0]; done))
  have h := AR (P := P) (w := w) op t x y k k' a b
  simp only [execOp, hx, hy]
  simp [h, hb]
theorem Hp {src dst:TI} {x:OO} {k k2:IntKind} {n:Int} (hs:(P.underlying src).isSome=true) (hd:P.underlying dst=some (.int k2)) (hx:Li.ev r x = .int k n) :
  (execOp (Li.ev r) ⟨d,.convert src dst x,ty,pos,ag,g⟩).run P w = .ok (.value (.int k2 (k2.wrap n))) w:=by
 have hi:P.intKind dst=k2:=by unfold Program.intKind; rw [hd]
 have:=run_convert_int (P:=P) w src dst k n hs (by rw [hd,hi])
 simp only [execOp,hx,Sem.run_bind,this,Result.andThen,Sem.run_pure,hi]
end
def WB {α:Type} (a b:Option α):Option α:=match a with | some x=>some x | none=>b
end Go.Li
