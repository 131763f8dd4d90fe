/- Maps of one's own, strings made of bytes. No condition. -/
import Derived.Test.YtcnehblmgfbfoaaGreatLa
import Derived.MapKept
import Derived.Laws.BytesArg
namespace Go.Li
set_option linter.unusedSectionVars false
open Go
def C6 {κ υ:Type} [BEq κ]:List (κ×υ)→κ→υ→List (κ×υ)
 | [],a,b=>[(a,b)]
 | p :: l,a,b=>bif p.1 == a then (a,b) :: l else p :: C6 l a b
def za {κ υ:Type} [BEq κ]:List (κ×υ)→κ→Option υ
 | [],_=>none
 | p :: l,a=>bif p.1 == a then some p.2 else za l a
def RJ {α:Type} [DecidableEq α] (l:List α):Option Unit:=if l.Nodup then some () else none
theorem Mp {α:Type} [DecidableEq α] {l:List α} {u:Unit} (h:RJ l=some u):l.Nodup:=by
 unfold RJ at h
 by_cases hn:l.Nodup
 ·exact hn
 ·rw [if_neg hn] at h; cases h
class Ky {κ:Type} [BEq κ] (ek:κ→Value) (kd:outParam TypeDesc):Prop where
 key:∀ a,MapKept.IsKey kd (ek a)
 inj:∀ a b:κ,(a == b)=true↔ek a=ek b
instance Ky.str:Ky (fun s:ByteArray=>Value.string s) .string:=⟨fun _=>trivial,fun a b=>by rw [MapKept.bytes_beq]; exact ⟨fun h=>by rw [h],fun h=>by cases h; rfl⟩⟩
instance Ky.int {k:IntKind}:Ky (fun a:Int=>Value.int k a) (.int k):=⟨fun _=>rfl,fun a b=>by rw [beq_iff_eq]; exact ⟨fun h=>by rw [h],fun h=>by cases h; rfl⟩⟩
def G6 {κ υ:Type} (ek:κ→Value) (ev:υ→Value):ag (List (κ×υ)) where
 size:=1
 rep h cs x f:=∃ b es ck,cs=[.map (some b)]∧f=[b]∧h[b]? = some (.map es ck)∧es.toList.map (fun e=>(e.key,e.val))=x.map fun p=>(ek p.1,ev p.2)
 len:=by rintro h cs x f ⟨b,es,ck,rfl,_⟩; rfl
 one:=by rintro h cs x f ⟨b,es,ck,rfl,_⟩ v hv; simp at hv; subst hv; rfl
 congr:=by
  rintro h h' cs x f ⟨b,es,ck,rfl,rfl,h1,h2⟩ hb
  exact ⟨b,es,ck,rfl,rfl,(hb b (by simp)).trans h1,h2⟩
 lt:=by
  rintro h cs x f ⟨b,es,ck,rfl,rfl,h1,h2⟩ i hi
  rw [List.mem_singleton.1 hi]
  exact (Array.getElem?_eq_some_iff.1 h1).1
section
variable {κ υ:Type} [BEq κ] {ek:κ→Value} {zb:υ→Value} {kd:TypeDesc}
theorem Qa (hk:Ky ek kd) (a:κ):∀ (es:List MapEntry) (x:List (κ×υ)) (i:Nat),es.map (fun e:MapEntry=>(e.key,e.val))=x.map (fun p=>(ek p.1,zb p.2))→
  (za x a=none∧Instr.findNow kd (ek a) es i=some none∧∀ b ck,(es++[({ key:=ek a,val:=zb b,born:=ck }:MapEntry)]).map (fun e:MapEntry=>(e.key,e.val))=(C6 x a b).map fun p=>(ek p.1,zb p.2))∨
  ∃ j e v,za x a=some v∧e.val=zb v∧Instr.findNow kd (ek a) es i=some (some (i+j,e.val))∧es[j]? = some e∧e.key=ek a∧
   ∀ b,(es.modify j fun e:MapEntry=>{ e with key:=ek a,val:=zb b }).map (fun e:MapEntry=>(e.key,e.val))=(C6 x a b).map fun p=>(ek p.1,zb p.2):=by
 intro es
 induction es with
 | nil=>
  intro x i h
  cases x with
  | nil=>exact .inl ⟨rfl,rfl,fun _ _=>rfl⟩
  | cons p l=>simp at h
 | cons e es ih=>
  intro x i h
  cases x with
  | nil=>simp at h
  | cons p l=>
   rw [List.map_cons,List.map_cons] at h
   injection h with h1 h2
   injection h1 with h3 h4
   have Sp:MapKept.IsKey kd e.key:=by rw [h3]; exact hk.key _
   obtain ⟨r,hr,Sz⟩:=MapKept.sameNow_of_keys (hk.key a) Sp
   cases hb:(p.1 == a) with
   | true=>
    have he:ek p.1=ek a:=(hk.inj _ _).1 hb
    have hrt:r=true:=Sz.2 (by rw [h3,he])
    refine .inr ⟨0,e,p.2,by unfold za; rw [hb]; rfl,h4,by unfold Instr.findNow; rw [hr,hrt]; rfl,rfl,by rw [h3,he],fun b=>?_⟩
    unfold C6
    rw [hb,cond_true,List.map_cons,List.modify_zero_cons,List.map_cons,h2]
   | false=>
    have pN:ek p.1≠ek a:=fun he=>by rw [(hk.inj _ _).2 he] at hb; cases hb
    have Wu:r=false:=by
     cases r with
     | false=>rfl
     | true=>exact absurd (Sz.1 rfl) fun q=>pN (by rw [← h3,q])
    rcases ih l (i+1) h2 with ⟨g0,g1,g2⟩ | ⟨j,e',v,g0,g1,g2,g3,g4,g5⟩
    ·refine .inl ⟨by unfold za; rw [hb]; exact g0,by unfold Instr.findNow; rw [hr,Wu]; exact g1,fun b ck=>?_⟩
     unfold C6
     rw [hb,cond_false,List.map_cons,List.cons_append,List.map_cons,g2,h3,h4]
    ·refine .inr ⟨j+1,e',v,by unfold za; rw [hb]; exact g0,g1,by unfold Instr.findNow; rw [hr,Wu,show i+(j+1)=i+1+j by omega]; exact g2,by simpa using g3,g4,fun b=>?_⟩
     unfold C6
     rw [hb,cond_false,List.map_cons,List.modify_succ_cons,List.map_cons,g5,h3,h4]
variable {P:Program} {r:NV} {w:World} {d:Option Nat} {ty:TI} {pos:String} {af:Array Edge} {g:Option (Nat×Bool)}
theorem Iq {t kt vt:TI} {x k:OO} {y:List (κ×υ)} {f:LN} {a:κ} {z:υ} {i:TypeInfo} (hk:Ky ek kd) (ht:P.underlying t=some (.map kt vt)) (SB:P.underlying kt=some kd) (hi:P.info? vt=some i) (hz:i.zero=some (zb z))
  (hr:(G6 ek zb).rep w.heap [Li.ev r x] y f) (ha:Li.ev r k=ek a) :
  (execOp (Li.ev r) ⟨d,.lookup t x k false,ty,pos,af,g⟩).run P w = .ok (.value (zb ((za y a).getD z))) w:=by
 obtain ⟨i0,es,ck,h1,rfl,h2,h3⟩:=hr
 obtain h1:Li.ev r x = .map (some i0):=by simpa using h1
 have hc:=MapKept.run_checkKey (P:=P) (w:=w) SB (hk.key a) es.isEmpty 9999
 have hzv:(zeroValue vt).run P w = .ok (zb z) w:=by simp [zeroValue,typeInfo,hi,hz]
 rcases Qa hk a es.toList y 0 h3 with ⟨g0,g1,_⟩ | ⟨j,e,v',g0,g1,g2,_⟩
 ·have hf:=MapKept.run_findKey (P:=P) (w:=w) SB g1
  rw [g0]
  simp [execOp,Instr.lookup,h1,ha,rC ht,MapKept.run_getObj_map h2,hc,hf,hzv,Result.andThen]
 ·have hf:=MapKept.run_findKey (P:=P) (w:=w) SB g2
  rw [g0]
  simp [execOp,Instr.lookup,h1,ha,rC ht,MapKept.run_getObj_map h2,hc,hf,g1,Result.andThen]
end
def pO (op:BinOp) (k:IntKind) (x y:Int):Option Int:=
 match op with
 | .add=>some (k.wrap (x+y))
 | .sub=>some (k.wrap (x - y))
 | .mul=>some (k.wrap (x * y))
 | .quo=>if y=0 then none else some (k.wrap (x.tdiv y))
 | .rem=>if y=0 then none else some (x.tmod y)
 | .shl=>if y < 0 then none else some (k.wrap (x * 2 ^ (min y.toNat k.bits)))
 | .shr=>if y < 0 then none else some (x.fdiv (2 ^ (min y.toNat k.bits)))
 | .and=>some (k.wrap (BitVec.ofInt k.bits x &&& BitVec.ofInt k.bits y).toNat)
 | .or=>some (k.wrap (BitVec.ofInt k.bits x ||| BitVec.ofInt k.bits y).toNat)
 | .xor=>some (k.wrap (BitVec.ofInt k.bits x ^^^ BitVec.ofInt k.bits y).toNat)
 | .andNot=>some (k.wrap (BitVec.ofInt k.bits x &&& ~~~(BitVec.ofInt k.bits y)).toNat)
 | _=>none
def JK:BinOp→Bool
 | .shl=>true
 | .shr=>true
 | _=>false
section
variable {P:Program} {r:NV} {w:World} {d:Option Nat} {ty:TI} {pos:String} {af:Array Edge} {g:Option (Nat×Bool)}
theorem JS {op : BinOp} {t t' : TypeId} {x y : Operand} {k k' : IntKind} {a b z : Int} (hx : Li.ev r x = .int k a) (hy : Li.ev r y = .int k' b) (hk : JK op = true ∨ k = k') (hz : pO op k a b = some z) :
    (execOp (Li.ev r) ⟨d, .binOp op t x y t', ty, pos, af, g⟩).run P w = .ok (.value (.int k z)) w := by
  have hb : (binOp op t (.int k a) (.int k' b)).run P w = .ok (.int k z) w := by
    cases op <;> simp only [pO, JK, Bool.false_eq_true, false_or, true_or, Option.some.injEq, reduceCtorEq] at hz hk
    all_goals try subst hk
    all_goals try subst hz
    all_goals first
      | (simp [binOp, Op.intArith]; done)
      | (simp [binOp, Op.intBits]; done)
      | (split at hz
         · cases hz
         · rename_i h0
           cases hz
           first
           | (simp [binOp, Op.intDiv, h0]; done)
           | (simp [binOp, Op.shift, h0]; done))
  have h := AS (P := P) (w := w) op t x y k k' a b
  simp only [execOp, hx, hy]
  simp [h, hb]
theorem Hj {src dst:TI} {x:OO} {k k2:IntKind} {n:Int} (hs:(P.underlying src).isSome=true) (hd:P.underlying dst=some (.int k2)) (hx:Li.ev r x = .int k n) :
  (execOp (Li.ev r) ⟨d,.convert src dst x,ty,pos,af,g⟩).run P w = .ok (.value (.int k2 (k2.wrap n))) w:=by
 have hi:P.intKind dst=k2:=by unfold Program.intKind; rw [hd]
 have:=run_convert_int (P:=P) w src dst k n hs (by rw [hd,hi])
 simp only [execOp,hx,Sem.run_bind,this,Result.andThen,Sem.run_pure,hi]
end
end Go.Li
