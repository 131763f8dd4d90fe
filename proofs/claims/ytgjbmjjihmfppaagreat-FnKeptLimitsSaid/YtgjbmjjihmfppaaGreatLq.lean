/- Maps of one's own, strings made of bytes. No condition. -/
import Derived.Test.YtgjbmjjihmfppaaGreatLa
import Derived.MapKept
import Derived.Laws.BytesArg
namespace Go.Li
open Go
def UC {α:Type} [DecidableEq α] (l:List α):Option Unit:=if l.Nodup then some () else none
theorem OV {α:Type} [DecidableEq α] {l:List α} {u:Unit} (h:UC l=some u):l.Nodup:=by
 unfold UC at h
 by_cases hn:l.Nodup
 ·exact hn
 ·rw [if_neg hn] at h; cases h
class Ky {κ:Type} [BEq κ] (ek:κ→Value) (kd:outParam TypeDesc):Prop where
 key:∀ a,MapKept.IsKey kd (ek a)
 inj:∀ a b:κ,(a == b)=true↔ek a=ek b
instance Ky.str:Ky (fun s:ByteArray=>Value.string s) .string:=⟨fun _=>trivial,fun a b=>by rw [MapKept.bytes_beq]; exact ⟨fun h=>by rw [h],fun h=>by cases h; rfl⟩⟩
instance Ky.int {k:IntKind}:Ky (fun a:Int=>Value.int k a) (.int k):=⟨fun _=>rfl,fun a b=>by rw [beq_iff_eq]; exact ⟨fun h=>by rw [h],fun h=>by cases h; rfl⟩⟩
def Yo {κ υ:Type} (ek:κ→Value) (ev:υ→Value):ah (List (κ×υ)) where
 size:=1
 rep h cs x f:=∃ b es ck,cs=[.map (some b)]∧f=[b]∧h[b]? = some (.map es ck)∧es.toList.map (fun e=>(e.key,e.val))=x.map fun p=>(ek p.1,ev p.2)
 len:=by rintro h cs x f ⟨b,es,ck,rfl,_⟩; rfl
 one:=by rintro h cs x f ⟨b,es,ck,rfl,_⟩ v hv; simp at hv; subst hv; rfl
 congr:=by
  rintro h h' cs x f ⟨b,es,ck,rfl,rfl,h1,h2⟩ hb
  exact ⟨b,es,ck,rfl,rfl,(hb b (by simp)).trans h1,h2⟩
 lt:=by
  rintro h cs x f ⟨b,es,ck,rfl,rfl,h1,h2⟩ i hi
  rw [List.mem_singleton.1 hi]
  exact (Array.getElem?_eq_some_iff.1 h1).1
section
variable {κ υ:Type} [BEq κ] {ek:κ→Value} {ev':υ→Value} {kd:TypeDesc}
variable {P:Program} {r:NV} {w:World} {d:Option Nat} {ty:TI} {pos:String} {af:Array Edge} {g:Option (Nat×Bool)}
omit [BEq κ] in
theorem TH {x y:OO} {k k':IntKind} {a b:Int} {au:Array TypeId} (hx:Li.ev r x = .int k a) (hy:Li.ev r y = .int k' b) :
  (execOp (Li.ev r) ⟨d,.call ⟨.builtin .max,#[x,y],au⟩,ty,pos,af,g⟩).run P w = .ok (.value (.int k (if b > a then b else a))) w:=by
 simp [execOp,resolve,invoke,builtin,Builtin.max_,Builtin.max2,hx,hy]
end
def u6 (op:BinOp) (k:IntKind) (x y:Int):Option Int:=
 match op with
 | .add=>some (k.wrap (x+y))
 | .sub=>some (k.wrap (x - y))
 | .mul=>some (k.wrap (x * y))
 | .quo=>if y=0 then none else some (k.wrap (x.tdiv y))
 | .rem=>if y=0 then none else some (x.tmod y)
 | .shl=>if y < 0 then none else some (k.wrap (x * 2 ^ (min y.toNat k.bits)))
 | .shr=>if y < 0 then none else some (x.fdiv (2 ^ (min y.toNat k.bits)))
 | .and=>some (k.wrap (BitVec.ofInt k.bits x &&& BitVec.ofInt k.bits y).toNat)
 | .or=>some (k.wrap (BitVec.ofInt k.bits x ||| BitVec.ofInt k.bits y).toNat)
 | .xor=>some (k.wrap (BitVec.ofInt k.bits x ^^^ BitVec.ofInt k.bits y).toNat)
 | .andNot=>some (k.wrap (BitVec.ofInt k.bits x &&& ~~~(BitVec.ofInt k.bits y)).toNat)
 | _=>none
def L5:BinOp→Bool
 | .shl=>true
 | .shr=>true
 | _=>false
section
variable {P:Program} {r:NV} {w:World} {d:Option Nat} {ty:TI} {pos:String} {af:Array Edge} {g:Option (Nat×Bool)}
theorem Md {op : BinOp} {t t' : TypeId} {x y : Operand} {k k' : IntKind} {a b z : Int} (hx : Li.ev r x = .int k a) (hy : Li.ev r y = .int k' b) (hk : L5 op = true ∨ k = k') (hz : u6 op k a b = some z) :
    (execOp (Li.ev r) ⟨d, .binOp op t x y t', ty, pos, af, g⟩).run P w = .ok (.value (.int k z)) w := by
  have hb : (binOp op t (.int k a) (.int k' b)).run P w = .ok (.int k z) w := by
    cases op <;> simp only [u6, L5, Bool.false_eq_true, false_or, true_or, Option.some.injEq, reduceCtorEq] at hz hk
    all_goals try subst hk
    all_goals try subst hz
    all_goals first
      | (simp [binOp, Op.intArith]; done)
      | (simp [binOp, Op.intBits]; done)
      | (split at hz
         · cases hz
         · rename_i h0
           cases hz
           first
           | (simp [binOp, Op.intDiv, h0]; done)
           | (simp [binOp, Op.shift, h0]; done))
  have h := CE (P := P) (w := w) op t x y k k' a b
  simp only [execOp, hx, hy]
  simp [h, hb]
theorem Jy {src dst:TI} {x:OO} {k k2:IntKind} {n:Int} (hs:(P.underlying src).isSome=true) (hd:P.underlying dst=some (.int k2)) (hx:Li.ev r x = .int k n) :
  (execOp (Li.ev r) ⟨d,.convert src dst x,ty,pos,af,g⟩).run P w = .ok (.value (.int k2 (k2.wrap n))) w:=by
 have hi:P.intKind dst=k2:=by unfold Program.intKind; rw [hd]
 have:=run_convert_int (P:=P) w src dst k n hs (by rw [hd,hi])
 simp only [execOp,hx,Sem.run_bind,this,Result.andThen,Sem.run_pure,hi]
end
end Go.Li
