/- Maps of one's own, strings made of bytes. No condition. -/
import Derived.Test.YtcnehblmgfbfoaaGreatLa
import Derived.MapKept
import Derived.Laws.BytesArg
namespace Go.Li
set_option linter.unusedSectionVars false
open Go
def Qm {α:Type} (xs:List α) (a b:Int):Option (List α):=bif decide (0≤a∧a≤b∧b≤(xs.length:Int)) then some ((xs.drop a.toNat).take (b.toNat - a.toNat)) else none
theorem Oe {α:Type} {xs ys:List α} {a b:Int} (h:Qm xs a b=some ys):0≤a∧a≤b∧b≤(xs.length:Int)∧ys=(xs.drop a.toNat).take (b.toNat - a.toNat):=by
 unfold Qm at h
 by_cases hj:0≤a∧a≤b∧b≤(xs.length:Int)
 ·rw [decide_eq_true hj] at h
  exact ⟨hj.1,hj.2.1,hj.2.2,by injection h with h; exact h.symm⟩
 ·rw [decide_eq_false hj] at h; cases h
def xD {κ υ:Type} [BEq κ]:List (κ×υ)→κ→υ→List (κ×υ)
 | [],a,b=>[(a,b)]
 | p :: l,a,b=>bif p.1 == a then (a,b) :: l else p :: xD l a b
def qf {κ υ:Type} [BEq κ]:List (κ×υ)→κ→Option υ
 | [],_=>none
 | p :: l,a=>bif p.1 == a then some p.2 else qf l a
def Wl {α:Type} [DecidableEq α] (l:List α):Option Unit:=if l.Nodup then some () else none
theorem QG {α:Type} [DecidableEq α] {l:List α} {u:Unit} (h:Wl l=some u):l.Nodup:=by
 unfold Wl at h
 by_cases hn:l.Nodup
 ·exact hn
 ·rw [if_neg hn] at h; cases h
class Ky {κ:Type} [BEq κ] (ek:κ→Value) (kd:outParam TypeDesc):Prop where
 key:∀ a,MapKept.IsKey kd (ek a)
 inj:∀ a b:κ,(a == b)=true↔ek a=ek b
instance Ky.str:Ky (fun s:ByteArray=>Value.string s) .string:=⟨fun _=>trivial,fun a b=>by rw [MapKept.bytes_beq]; exact ⟨fun h=>by rw [h],fun h=>by cases h; rfl⟩⟩
instance Ky.int {k:IntKind}:Ky (fun a:Int=>Value.int k a) (.int k):=⟨fun _=>rfl,fun a b=>by rw [beq_iff_eq]; exact ⟨fun h=>by rw [h],fun h=>by cases h; rfl⟩⟩
def sG {κ υ:Type} (ek:κ→Value) (ev:υ→Value):ah (List (κ×υ)) where
 size:=1
 rep h cs x f:=∃ b es ck,cs=[.map (some b)]∧f=[b]∧h[b]? = some (.map es ck)∧es.toList.map (fun e=>(e.key,e.val))=x.map fun p=>(ek p.1,ev p.2)
 len:=by rintro h cs x f ⟨b,es,ck,rfl,_⟩; rfl
 one:=by rintro h cs x f ⟨b,es,ck,rfl,_⟩ v hv; simp at hv; subst hv; rfl
 congr:=by
  rintro h h' cs x f ⟨b,es,ck,rfl,rfl,h1,h2⟩ hb
  exact ⟨b,es,ck,rfl,rfl,(hb b (by simp)).trans h1,h2⟩
 lt:=by
  rintro h cs x f ⟨b,es,ck,rfl,rfl,h1,h2⟩ i hi
  rw [List.mem_singleton.1 hi]
  exact (Array.getElem?_eq_some_iff.1 h1).1
theorem ak.setObj (w:World) (i:Nat) (o:Obj):ak [i] w { w with heap:=w.heap.setIfInBounds i o }:=
 ⟨rfl,rfl,rfl,Nat.le_refl _,by simp,fun b _ hn=>by
  have:i≠b:=fun h=>hn (by rw [h]; exact List.mem_singleton.2 rfl)
  simp [this]⟩
section
variable {κ υ:Type} [BEq κ] {ek:κ→Value} {sq:υ→Value} {kd:TypeDesc}
theorem Gu (hk:Ky ek kd) (a:κ):∀ (es:List MapEntry) (x:List (κ×υ)) (i:Nat),es.map (fun e:MapEntry=>(e.key,e.val))=x.map (fun p=>(ek p.1,sq p.2))→
  (qf x a=none∧Instr.findNow kd (ek a) es i=some none∧∀ b ck,(es++[({ key:=ek a,val:=sq b,born:=ck }:MapEntry)]).map (fun e:MapEntry=>(e.key,e.val))=(xD x a b).map fun p=>(ek p.1,sq p.2))∨
  ∃ j e v,qf x a=some v∧e.val=sq v∧Instr.findNow kd (ek a) es i=some (some (i+j,e.val))∧es[j]? = some e∧e.key=ek a∧
   ∀ b,(es.modify j fun e:MapEntry=>{ e with key:=ek a,val:=sq b }).map (fun e:MapEntry=>(e.key,e.val))=(xD x a b).map fun p=>(ek p.1,sq p.2):=by
 intro es
 induction es with
 | nil=>
  intro x i h
  cases x with
  | nil=>exact .inl ⟨rfl,rfl,fun _ _=>rfl⟩
  | cons p l=>simp at h
 | cons e es ih=>
  intro x i h
  cases x with
  | nil=>simp at h
  | cons p l=>
   rw [List.map_cons,List.map_cons] at h
   injection h with h1 h2
   injection h1 with h3 h4
   have Xg:MapKept.IsKey kd e.key:=by rw [h3]; exact hk.key _
   obtain ⟨r,hr,Xn⟩:=MapKept.sameNow_of_keys (hk.key a) Xg
   cases hb:(p.1 == a) with
   | true=>
    have he:ek p.1=ek a:=(hk.inj _ _).1 hb
    have yV:r=true:=Xn.2 (by rw [h3,he])
    refine .inr ⟨0,e,p.2,by unfold qf; rw [hb]; rfl,h4,by unfold Instr.findNow; rw [hr,yV]; rfl,rfl,by rw [h3,he],fun b=>?_⟩
    unfold xD
    rw [hb,cond_true,List.map_cons,List.modify_zero_cons,List.map_cons,h2]
   | false=>
    have mc:ek p.1≠ek a:=fun he=>by rw [(hk.inj _ _).2 he] at hb; cases hb
    have hrf:r=false:=by
     cases r with
     | false=>rfl
     | true=>exact absurd (Xn.1 rfl) fun q=>mc (by rw [← h3,q])
    rcases ih l (i+1) h2 with ⟨g0,g1,g2⟩ | ⟨j,e',v,g0,g1,g2,g3,g4,g5⟩
    ·refine .inl ⟨by unfold qf; rw [hb]; exact g0,by unfold Instr.findNow; rw [hr,hrf]; exact g1,fun b ck=>?_⟩
     unfold xD
     rw [hb,cond_false,List.map_cons,List.cons_append,List.map_cons,g2,h3,h4]
    ·refine .inr ⟨j+1,e',v,by unfold qf; rw [hb]; exact g0,g1,by unfold Instr.findNow; rw [hr,hrf,show i+(j+1)=i+1+j by omega]; exact g2,by simpa using g3,g4,fun b=>?_⟩
     unfold xD
     rw [hb,cond_false,List.map_cons,List.modify_succ_cons,List.map_cons,g5,h3,h4]
variable {P:Program} {r:NV} {w:World} {d:Option Nat} {ty:TI} {pos:String} {ab:Array Edge} {g:Option (Nat×Bool)}
theorem LD {t:TI}:(execOp (Li.ev r) ⟨d,.makeMap t none,ty,pos,ab,g⟩).run P w = .ok (.value (.map (some w.heap.size))) (w.alloc (.map #[] 0)):=by
 simp [execOp,Instr.makeMap]
theorem Qe {src dst e:TI} {x:OO} {xs:List Int} {f:LN} (hs:P.underlying src=some (.slice e)) (he:P.underlying e=some (.int .u8)) (hd:P.underlying dst=some .string) (hr:(aV (aN .u8)).rep w.heap [Li.ev r x] xs f) :
  (execOp (Li.ev r) ⟨d,.convert src dst x,ty,pos,ab,g⟩).run P w = .ok (.value (.string (strOfNums xs))) w:=by
 obtain ⟨b,c,hv⟩:=tu hr
 cases b with
 | none=>
  have h0:xs=[]:=by
   cases xs with
   | nil=>rfl
   | cons y ys=>
    obtain ⟨⟨a,c',h1⟩,_⟩:=tv hr 0 (by omega) (x:=y) rfl
    rw [hv] at h1; cases h1
  subst h0
  have:=run_convert_bytes_nil (P:=P) w src e hs he 0 c dst hd
  simp only [execOp,hv,Sem.run_bind,List.length_nil,this,Result.andThen,Sem.run_pure]
  rfl
 | some a=>
  have hl:(loadCells a xs.length).run P w = .ok (xs.map (Value.int .u8)).toArray w:=by
   have:=run_loadCells_list (P:=P) w a (xs.map (Value.int .u8)) (fun j v hj=>by
    rw [List.getElem?_map] at hj
    cases hx:xs[j]? with
    | none=>rw [hx] at hj; cases hj
    | some z=>
     rw [hx] at hj
     cases hj
     obtain ⟨_,_,cs,f1,h1,_,h2⟩:=tv hr (j:Int) (by omega) (x:=z) (by simpa using hx)
     obtain ⟨rfl,_⟩:=h1
     have h3:=h2 0 _ rfl
     rw [hv] at h3
     simp only [cn,Int.toNat_natCast,aN,Nat.mul_one] at h3
     rwa [show (a.add j).add 0=a.add j from if_pos rfl] at h3)
   simpa using this
  have:=run_convert_bytes_string (P:=P) w src dst e (some a) xs.length c hs he hd
  rw [run_bytesToString w _ _ c xs hl,foldl_push_bytes] at this
  simp only [execOp,hv,Sem.run_bind,this,Result.andThen,Sem.run_pure]
  simp [strOfNums,ByteArray.empty,ByteArray.emptyWithCapacity]
  rfl
theorem TX {t kt vt:TI} {x:OO} {y:List (κ×υ)} {f:LN} (ht:P.underlying t=some (.map kt vt)) (hr:(sG ek sq).rep w.heap [Li.ev r x] y f) :
  (execOp (Li.ev r) ⟨d,.call ⟨.builtin .len,#[x],#[t]⟩,ty,pos,ab,g⟩).run P w = .ok (.value (.int .i64 (y.length:Int))) w:=by
 obtain ⟨b,es,ck,h1,rfl,h2,h3⟩:=hr
 obtain h1:Li.ev r x = .map (some b):=by simpa using h1
 have hl:es.size=y.length:=by
  have:=congrArg List.length h3
  simpa using this
 simp [execOp,resolve,invoke,builtin,Builtin.len_,h1,mj ht,MapKept.run_getObj_map h2,goInt,hl,Result.andThen]
theorem NM {t kt vt:TI} {x k v:OO} {y:List (κ×υ)} {f:LN} {a:κ} {b:υ} (hk:Ky ek kd) (ht:P.underlying t=some (.map kt vt)) (Cn:P.underlying kt=some kd)
  (hr:(sG ek sq).rep w.heap [Li.ev r x] y f) (ha:Li.ev r k=ek a) (hb:Li.ev r v=sq b) :
  ∃ i es ck,f=[i]∧(execOp (Li.ev r) ⟨d,.mapUpdate t x k v,ty,pos,ab,g⟩).run P w = .ok .skip { w with heap:=w.heap.setIfInBounds i (.map es ck) }∧
   (sG ek sq).rep (w.heap.setIfInBounds i (.map es ck)) [Li.ev r x] (xD y a b) [i]:=by
 obtain ⟨i,es,ck,h1,rfl,h2,h3⟩:=hr
 obtain h1:Li.ev r x = .map (some i):=by simpa using h1
 have hc:=MapKept.run_checkKey (P:=P) (w:=w) Cn (hk.key a) false 9999
 rcases Gu hk a es.toList y 0 h3 with ⟨_,g1,g2⟩ | ⟨j,e,v',_,g1,g2,g3,g4,g5⟩
 ·have hf:=MapKept.run_findKey (P:=P) (w:=w) Cn g1
  refine ⟨i,es.push { key:=ek a,val:=sq b,born:=ck },ck+1,rfl,?_,i,_,_,by rw [h1],rfl,(MapKept.heap_set h2).1,?_⟩
  ·simp [execOp,Instr.mapUpdate,h1,ha,hb,mj ht,MapKept.run_getObj_map h2,hc,hf,MapKept.run_setObj_map _ h2,Result.andThen]
  ·rw [Array.toList_push]; exact g2 b ck
 ·have hf:=MapKept.run_findKey (P:=P) (w:=w) Cn g2
  have oh:(Instr.keyThatStays (((es[0+j]?).map (·.key)).getD (ek a)) (ek a)).run P w = .ok (ek a) w:=by
   have hg:es[0+j]? = some e:=by rw [Nat.zero_add]; simpa using g3
   rw [hg]
   show (Instr.keyThatStays e.key (ek a)).run P w=_
   rw [g4]
   unfold Instr.keyThatStays
   have:Instr.sameBits 10000 (ek a) (ek a)=true:=by
    have:=hk.key a
    generalize ek a=u at this
    cases kd <;> cases u <;> simp_all [MapKept.IsKey,Instr.sameBits,MapKept.bytes_beq]
   rw [if_pos this]
   rfl
  refine ⟨i,es.modify (0+j) fun e=>{ e with key:=ek a,val:=sq b },ck,rfl,?_,i,_,_,by rw [h1],rfl,(MapKept.heap_set h2).1,?_⟩
  ·simp only [execOp,Instr.mapUpdate,h1,ha,hb,Sem.run_bind,mj ht,MapKept.run_getObj_map h2,hc,hf,oh,MapKept.run_setObj_map _ h2,Result.andThen,Sem.run_pure]
  ·rw [Nat.zero_add,Array.toList_modify]; exact g5 b
theorem NI {x y:OO} {k k':IntKind} {a b:Int} {au:Array TypeId} (hx:Li.ev r x = .int k a) (hy:Li.ev r y = .int k' b) :
  (execOp (Li.ev r) ⟨d,.call ⟨.builtin .max,#[x,y],au⟩,ty,pos,ab,g⟩).run P w = .ok (.value (.int k (if b > a then b else a))) w:=by
 simp [execOp,resolve,invoke,builtin,Builtin.max_,Builtin.max2,hx,hy]
theorem NJ {x y:OO} {k k':IntKind} {a b:Int} {au:Array TypeId} (hx:Li.ev r x = .int k a) (hy:Li.ev r y = .int k' b) :
  (execOp (Li.ev r) ⟨d,.call ⟨.builtin .min,#[x,y],au⟩,ty,pos,ab,g⟩).run P w = .ok (.value (.int k (if b < a then b else a))) w:=by
 simp [execOp,resolve,invoke,builtin,Builtin.min_,Builtin.min2,hx,hy]
theorem NK {t kt vt:TI} {x k:OO} {y:List (κ×υ)} {f:LN} {a:κ} {z:υ} {i:TypeInfo} (hk:Ky ek kd) (ht:P.underlying t=some (.map kt vt)) (Cn:P.underlying kt=some kd) (hi:P.info? vt=some i) (hz:i.zero=some (sq z))
  (hr:(sG ek sq).rep w.heap [Li.ev r x] y f) (ha:Li.ev r k=ek a) :
  (execOp (Li.ev r) ⟨d,.lookup t x k true,ty,pos,ab,g⟩).run P w = .ok (.value (.tuple #[sq ((qf y a).getD z),.bool (qf y a).isSome])) w:=by
 obtain ⟨i0,es,ck,h1,rfl,h2,h3⟩:=hr
 obtain h1:Li.ev r x = .map (some i0):=by simpa using h1
 have hc:=MapKept.run_checkKey (P:=P) (w:=w) Cn (hk.key a) es.isEmpty 9999
 have Xo:(zeroValue vt).run P w = .ok (sq z) w:=by simp [zeroValue,typeInfo,hi,hz]
 rcases Gu hk a es.toList y 0 h3 with ⟨g0,g1,_⟩ | ⟨j,e,v',g0,g1,g2,_⟩
 ·have hf:=MapKept.run_findKey (P:=P) (w:=w) Cn g1
  rw [g0]
  simp [execOp,Instr.lookup,h1,ha,mj ht,MapKept.run_getObj_map h2,hc,hf,Xo,Result.andThen]
 ·have hf:=MapKept.run_findKey (P:=P) (w:=w) Cn g2
  rw [g0]
  simp [execOp,Instr.lookup,h1,ha,mj ht,MapKept.run_getObj_map h2,hc,hf,g1,Result.andThen]
theorem LJ {t kt vt:TI} {x k:OO} {y:List (κ×υ)} {f:LN} {a:κ} {z:υ} {i:TypeInfo} (hk:Ky ek kd) (ht:P.underlying t=some (.map kt vt)) (Cn:P.underlying kt=some kd) (hi:P.info? vt=some i) (hz:i.zero=some (sq z))
  (hr:(sG ek sq).rep w.heap [Li.ev r x] y f) (ha:Li.ev r k=ek a) :
  (execOp (Li.ev r) ⟨d,.lookup t x k false,ty,pos,ab,g⟩).run P w = .ok (.value (sq ((qf y a).getD z))) w:=by
 obtain ⟨i0,es,ck,h1,rfl,h2,h3⟩:=hr
 obtain h1:Li.ev r x = .map (some i0):=by simpa using h1
 have hc:=MapKept.run_checkKey (P:=P) (w:=w) Cn (hk.key a) es.isEmpty 9999
 have Xo:(zeroValue vt).run P w = .ok (sq z) w:=by simp [zeroValue,typeInfo,hi,hz]
 rcases Gu hk a es.toList y 0 h3 with ⟨g0,g1,_⟩ | ⟨j,e,v',g0,g1,g2,_⟩
 ·have hf:=MapKept.run_findKey (P:=P) (w:=w) Cn g1
  rw [g0]
  simp [execOp,Instr.lookup,h1,ha,mj ht,MapKept.run_getObj_map h2,hc,hf,Xo,Result.andThen]
 ·have hf:=MapKept.run_findKey (P:=P) (w:=w) Cn g2
  rw [g0]
  simp [execOp,Instr.lookup,h1,ha,mj ht,MapKept.run_getObj_map h2,hc,hf,g1,Result.andThen]
end
def qz (op:BinOp) (k:IntKind) (x y:Int):Option Int:=
 match op with
 | .add=>some (k.wrap (x+y))
 | .sub=>some (k.wrap (x - y))
 | .mul=>some (k.wrap (x * y))
 | .quo=>if y=0 then none else some (k.wrap (x.tdiv y))
 | .rem=>if y=0 then none else some (x.tmod y)
 | .shl=>if y < 0 then none else some (k.wrap (x * 2 ^ (min y.toNat k.bits)))
 | .shr=>if y < 0 then none else some (x.fdiv (2 ^ (min y.toNat k.bits)))
 | .and=>some (k.wrap (BitVec.ofInt k.bits x &&& BitVec.ofInt k.bits y).toNat)
 | .or=>some (k.wrap (BitVec.ofInt k.bits x ||| BitVec.ofInt k.bits y).toNat)
 | .xor=>some (k.wrap (BitVec.ofInt k.bits x ^^^ BitVec.ofInt k.bits y).toNat)
 | .andNot=>some (k.wrap (BitVec.ofInt k.bits x &&& ~~~(BitVec.ofInt k.bits y)).toNat)
 | _=>none
def Ny:BinOp→Bool
 | .shl=>true
 | .shr=>true
 | _=>false
section
variable {P:Program} {r:NV} {w:World} {d:Option Nat} {ty:TI} {pos:String} {ab:Array Edge} {g:Option (Nat×Bool)}
theorem NL {op : BinOp} {t t' : TypeId} {x y : Operand} {k k' : IntKind} {a b z : Int} (hx : Li.ev r x = .int k a) (hy : Li.ev r y = .int k' b) (hk : Ny op = true ∨ k = k') (hz : qz op k a b = some z) :
    (execOp (Li.ev r) ⟨d, .binOp op t x y t', ty, pos, ab, g⟩).run P w = .ok (.value (.int k z)) w := by
  have hb : (binOp op t (.int k a) (.int k' b)).run P w = .ok (.int k z) w := by
    cases op <;> simp only [qz, Ny, Bool.false_eq_true, false_or, true_or, Option.some.injEq, reduceCtorEq] at hz hk
    all_goals try subst hk
    all_goals try subst hz
    all_goals first
      | (simp [binOp, Op.intArith]; done)
      | (simp [binOp, Op.intBits]; done)
      | (split at hz
         · cases hz
         · rename_i h0
           cases hz
           first
           | (simp [binOp, Op.intDiv, h0]; done)
           | (simp [binOp, Op.shift, h0]; done))
  have h := DD (P := P) (w := w) op t x y k k' a b
  simp only [execOp, hx, hy]
  simp [h, hb]
theorem KF {src dst:TI} {x:OO} {k k2:IntKind} {n:Int} (hs:(P.underlying src).isSome=true) (hd:P.underlying dst=some (.int k2)) (hx:Li.ev r x = .int k n) :
  (execOp (Li.ev r) ⟨d,.convert src dst x,ty,pos,ab,g⟩).run P w = .ok (.value (.int k2 (k2.wrap n))) w:=by
 have hi:P.intKind dst=k2:=by unfold Program.intKind; rw [hd]
 have:=run_convert_int (P:=P) w src dst k n hs (by rw [hd,hi])
 simp only [execOp,hx,Sem.run_bind,this,Result.andThen,Sem.run_pure,hi]
end
end Go.Li
