/- Walking: a region that draws its order, whose last operations wait for all others. No condition. -/
import Derived.Test.YtcnehblmgfbfoaaGreatLm
import Derived.StillTail
namespace Go.Li
open Go
theorem Wc {P:Program} {n:Nat} {Q:Exit→(Nat→Value)→World→Prop} {r:NV} {w:World} {t:Nat} {x y:Code} {b:Bool} {α:Type} {X Y:Option α} {o:α} (hb:r t = .bool b) (ho:(bif b then X else Y)=some o)
  (ht:b=true→X=some o→W P n x Q r w) (hf:b=false→Y=some o→W P n y Q r w):W P n (.cond (.tmp t) x y) Q r w:=
 NG hb (fun h=>ht h (by rw [h] at ho; exact ho)) (fun h=>hf h (by rw [h] at ho; exact ho))
def tl {α:Type} (xs:List α) (j:Int):Option (List α):=bif decide (0≤j∧j≤(xs.length:Int)) then some (xs.drop j.toNat) else none
theorem KV {α:Type} {xs ys:List α} {j:Int} (h:tl xs j=some ys):0≤j∧j≤(xs.length:Int)∧ys=xs.drop j.toNat:=by
 unfold tl at h
 by_cases hj:0≤j∧j≤(xs.length:Int)
 ·rw [decide_eq_true hj] at h
  exact ⟨hj.1,hj.2,by injection h with h; exact h.symm⟩
 ·rw [decide_eq_false hj] at h; cases h
def BW:Op→Bool
 | .move _ | .assign _ | .pick _ _ _ | .load _ _ | .fieldAddr _ _ _ | .field _ _ _ | .indexAddr _ _ _ | .index _ _ _ | .extract _ _ | .unOp _ _ _ | .slice _ _ _ _ _ | .binOp _ _ _ _ _=>true
 | .call c=>(match c.callee with | .builtin .len=>true | _=>false)
 | _=>false
theorem AS {α:Type} {P:Program} {s:Sem α} {f:α→Value} {w w':World} {y:Next} (h:Sem.run P (s>>=fun x=>pure (Next.value (f x))) w = .ok y w'):∃ v,y = .value v:=by
 rw [Sem.run_bind] at h
 generalize s.run P w=x at h
 cases x with
 | halt a b=>cases h
 | ok v u=>exact ⟨f v,by cases h; rfl⟩
theorem Kd {P:Program} {ρ:Operand→Value} {o:Oper} {w w':World} {y:Next} (hp:BW o.op=true) (h:(execOp ρ o).run P w = .ok y w'):∃ v,y = .value v:=by
 obtain ⟨d,op,ty,pos,ab,g⟩:=o
 cases op with
 | call c=>
  obtain ⟨Nz,xs,au⟩:=c
  cases Nz with
  | builtin b=>
   cases b with
   | len=>exact AS (f:=fun v=>v) h
   | _=>cases hp
  | _=>cases hp
 | _=>first | (cases hp; done) | exact AS (f:=fun v=>v) h | exact AS h | exact ⟨_,by cases h; rfl⟩
section
variable {P:Program} {n:Nat} {Q:Exit→(Nat→Value)→World→Prop} {r:NV} {w w0:World}
theorem Jh {l l':LO} (h:dh n l=true) (hs:∀ o∈l',o∈l):dh n l'=true:=by
 unfold dh at *
 rw [List.all_eq_true] at *
 exact fun o ho=>h o (hs o ho)
theorem WL.list {l:LO} (hd:dh n l=true):∀ (l':LO) (a:Act) (w:World),dh n l'=true→a.tmps.size=n→a.defers=[]→WL P l l' (cu a) w (Q .normal)→
   wpList P l.toArray (fun e a' w'=>a'.tmps.size=n∧a'.defers=[]∧Q e (cu a') w') l' a w:=by
 intro l'
 induction l' with
 | nil=>intro a w _ g1 g2 hh; exact ⟨g1,g2,hh⟩
 | cons o l' ih=>
  intro a w fx g1 g2 hh
  obtain ⟨d1,d2⟩:=xk fx
  have ya:∀ v,cu (a.put o.dst v)=gf (cu a) o.dst v:=fun v=>js (fun k hk=>by rw [g1]; exact d1 k hk) v
  unfold wpList
  rw [vX (by rw [g1]; exact hd)]
  rcases hh with ⟨hw,hh⟩ | ⟨hw,hh⟩
  ·rw [if_pos hw]
   refine .inl (hh.wp fun v w' hv=>ih _ _ d2 (by rw [iT]; exact g1) (by rw [fu]; exact g2) (by rw [ya]; exact hv))
  ·rw [if_neg (by rw [hw]; exact Bool.false_ne_true)]
   exact ih _ _ d2 (by rw [iT]; exact g1) (by rw [fu]; exact g2) (by rw [ya]; exact hh)
theorem QL.still {C:World→Prop} {K:(Nat→Value)→Prop} {l:LO} (hC:C w) (hd:dh n l=true):∀ (l':LO) (a:Act),dh n l'=true→(l'.all fun o=>BW o.op)=true→a.tmps.size=n→a.defers=[]→QL P C l l' (cu a) K→
   ∀ (Q':Act→Prop),(∀ a':Act,a'.tmps.size=n→a'.defers=[]→K (cu a')→Q' a')→wpStill P l.toArray w Q' l' a:=by
 intro l'
 induction l' with
 | nil=>intro a _ _ g1 g2 hh Q' hq; exact hq a g1 g2 hh
 | cons o l' ih=>
  intro a fx hp g1 g2 hh Q' hq
  obtain ⟨d1,d2⟩:=xk fx
  rw [List.all_cons,Bool.and_eq_true] at hp
  have ya:∀ v,cu (a.put o.dst v)=gf (cu a) o.dst v:=fun v=>js (fun k hk=>by rw [g1]; exact d1 k hk) v
  unfold wpStill
  rw [vX (by rw [g1]; exact hd)]
  rcases hh with ⟨hw,v,hv,hh⟩ | ⟨hw,hh⟩
  ·rw [if_pos hw]
   have h3:=hv w hC
   unfold Oper.still
   rw [ny]
   cases hx:(execOp (ev (cu a)) o).run P w with
   | halt y w'=>rw [hx] at h3; exact h3.elim
   | ok y w'=>
    rw [hx] at h3
    obtain ⟨u,rfl⟩:=Kd hp.1 hx
    obtain ⟨rfl,rfl⟩:=h3
    exact ⟨rfl,ih _ d2 hp.2 (by rw [iT]; exact g1) (by rw [fu]; exact g2) (by rw [ya]; exact hh) Q' hq⟩
  ·rw [if_neg (by rw [hw]; exact Bool.false_ne_true)]
   exact ih _ d2 hp.2 (by rw [iT]; exact g1) (by rw [fu]; exact g2) (by rw [ya]; exact hh) Q' hq
theorem Vs (k:Nat) {id:Nat} {l:LO} (hm:P.follows .mixedOrders=true) (hd:dh n l=true) (hp:((l.take k).all fun o=>BW o.op)=true) (hB:Region.lexTailB .any l.toArray k=true) (hC:ak [] w0 w)
  (h:QL P (ak [] w0) l (l.take k) r fun r'=>∀ w',ak [] w0 w'→WL P l (l.drop k) r' w' (Q .normal)):W P n (.region id l.toArray true) Q r w:=by
 intro a h1 h2 h3
 have xY:ak [] w0 { w with drawn:=w.drawn+1 }:=hC.trans (ak.drew _ _)
 refine wp_region_still_tail k hm hB ?_
 refine QL.still (n:=n) (C:=ak [] w0) xY hd (l.take k) a (Jh hd fun o ho=>List.mem_of_mem_take ho) hp h1 h2 (by rw [h3]; exact h) _ ?_
 intro a' g1 g2 g3
 exact WL.list hd _ _ _ (Jh hd fun o ho=>List.mem_of_mem_drop ho) g1 g2 (g3 _ xY)
def acG (cs:LV) (e:TI):List Nat→World→Value→Prop:=fun f w v=>∃ b,f=[b]∧v = .pointer (some ⟨b,0,none⟩)∧Row w b cs e
theorem fh.Vy {t:TI} {i:TypeInfo} {z:Value} {cs:LV} {r:NV} {w:World} {d:Option Nat} {ty:TI} {pos:String} {ab:Array Edge} (hi:P.info? t=some i) (hz:i.zero=some z) (hc:z.cells=cs.toArray:=by rfl) :
  fh P ⟨d,.alloc t,ty,pos,ab,none⟩ r w fun v w'=>ak [] w w'∧∃ f,(∀ b∈f,w.heap.size≤b∧b < w'.heap.size)∧acG cs t f w' v:=by
 unfold fh
 rw [D3 hi hz]
 exact ⟨ak.alloc _ _ _,[w.heap.size],fun b hb=>by rw [List.mem_singleton.1 hb]; simp,w.heap.size,rfl,rfl,by unfold Row; rw [← hc]; exact heap_alloc_new w _⟩
end
end Go.Li
