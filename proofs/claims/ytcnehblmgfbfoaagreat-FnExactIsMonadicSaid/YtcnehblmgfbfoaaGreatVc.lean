/- That a model does not fail, and what it gives: rules. No condition beside those that each theorem names. -/
import Derived.Test.YtcnehblmgfbfoaaGreatPa
import Derived.Test.YtcnehblmgfbfoaaGreatPj
set_option linter.unusedVariables false
set_option linter.unusedSectionVars false
set_option linter.unusedSimpArgs false
namespace Go.Li
open Go
def Ok {α:Type} (m:Option α) (Q:α→Prop):Prop:=∃ x,m=some x∧Q x
section
variable {α β S S1 R:Type}
theorem Ok.mono {m:Option α} {P Q:α→Prop} (h:Ok m P) (hq:∀ x,P x→Q x):Ok m Q:=by
 obtain ⟨x,e,hx⟩:=h
 exact ⟨x,e,hq x hx⟩
theorem os {x:α} {Q:α→Prop} (h:Q x):Ok (some x) Q:=⟨x,rfl,h⟩
theorem ob {m:Option α} {f:α→Option β} {Q:β→Prop} {P:α→Prop} (hm:Ok m P) (h:∀ x,P x→Ok (f x) Q):Ok (m>>=f) Q:=by
 obtain ⟨x,rfl,hx⟩:=hm
 exact h x hx
theorem oe {m:Option α} {f:α→Option β} {Q:β→Prop} {x:α} (e:m=some x) (h:Ok (f x) Q):Ok (m>>=f) Q:=by
 subst e; exact h
theorem oi {l:List α} {j:Int} {f:α→Option β} {Q:β→Prop} (h0:0≤j) (h1:j < l.length) (h:∀ x∈l,Ok (f x) Q):Ok (idx l j>>=f) Q:=by
 rw [Eu h0 h1]
 exact h _ (List.getElem_mem _)
theorem oc {b:Bool} {x y:Option α} {Q:α→Prop} (h1:b=true→Ok x Q) (h2:b=false→Ok y Q):Ok (bif b then x else y) Q:=by
 cases b with
 | true=>exact h1 rfl
 | false=>exact h2 rfl
theorem od {p:Prop} [Decidable p] {x y:Option α} {Q:α→Prop} (h1:p→Ok x Q) (h2 : ¬ p→Ok y Q):Ok (bif decide p then x else y) Q:=
 oc (fun h=>h1 (of_decide_eq_true h)) (fun h=>h2 (of_decide_eq_false h))
theorem og {m:Option Bool} {f:Bool→Option β} {Q:β→Prop} (hm:Ok m fun _=>True) (h:∀ b,Ok (f b) Q):Ok (m>>=f) Q:=ob hm fun b _=>h b
def Stp (k:Nat) (J:S1→Prop) (mu:S1→Nat) (n:Nat) (E:S1→Prop) (G:R→Prop):Out S1 R→Prop
 | .norm s=>J s∧mu s < n
 | .exit k' s=>k'=k∧E s
 | .ret r=>G r
def Rt (Q:R→Prop):Out S R→Prop
 | .ret r=>Q r
 | _=>False
theorem Rj {m:Option (Out S R)} {Q:R→Prop} (h:Ok m (Rt Q)):Ok (an m) Q:=by
 obtain ⟨o,rfl,ho⟩:=h
 cases o with
 | ret r=>exact ⟨r,rfl,ho⟩
 | _=>exact ho.elim
def Rn (Q:R→Prop):Out R R→Prop
 | .norm r=>Q r
 | .ret r=>Q r
 | _=>False
theorem off {m:Option (Out R R)} {Q:R→Prop} (h:Ok m (Rn Q)):Ok (C2 m) Q:=by
 obtain ⟨o,rfl,ho⟩:=h
 cases o with
 | ret r=>exact ⟨r,rfl,ho⟩
 | norm r=>exact ⟨r,rfl,ho⟩
 | _=>exact ho.elim
theorem ol {body:S1→Option (Out S1 R)} {k:Nat} {f:S1→Option (Out S R)} {Q:Out S R→Prop} (J:S1→Prop) (mu:S1→Nat) {s0:S1} (h0:J s0)
  (step:∀ s,J s→Ok (body s) (Stp k J mu (mu s) (fun s=>Ok (f s) Q) (fun r=>Q (.ret r)))):Ok (aj (ag k (ai body s0)) f) Q:=by
 have key:∀ n s,mu s=n→J s→Ok (aj (ag k (ai body s)) f) Q:=by
  intro n
  induction n using Nat.strongRecOn with
  | ind n ih=>
   intro s hn hs
   obtain ⟨o,e,ho⟩:=step s hs
   rw [nk,e]
   cases o with
   | norm s'=>exact ih _ (hn ▸ ho.2) s' rfl ho.1
   | exit k' s'=>
    obtain ⟨rfl,he⟩:=ho
    have:aj (S:=S) (ag k' (some (Out.exit k' s':Out S1 R))) f=f s':=sB rfl
    rw [this]; exact he
   | ret r=>
    have:aj (S:=S) (ag k (some (Out.ret r:Out S1 R))) f=some (.ret r):=wi rfl
    rw [this]; exact ⟨_,rfl,ho⟩
 exact key _ s0 rfl h0
end
theorem w1 {i n:Int} (h0:0≤i) (h1:i < n) (hn:n≤1048576000):bg (i+1)=i+1:=oS (by omega) (by omega)
end Go.Li
namespace Go.Proofs.YtcnehblmgfbfoaaGreat
open Go Go.Li
structure E6 (x:List Int):Prop where
 len:x.length≤4096
 b:∀ y∈x,0≤y∧y < 256
structure Km (a b:Nat) (c:aJ):Prop where
 o0:0≤c.aE
 o:c.aE≤a
 m:c.aH.length≤b
 t:c.To.length=c.aH.length
 i:(c.aI.length:Int)=c.aE
 k:c.aG.length=c.aH.length
 r:∀ y∈c.aG,y.length=c.aH.length
theorem Km.mono {a b a' b':Nat} {c:aJ} (h:Km a b c) (ha:a≤a') (hb:b≤b'):Km a' b' c:=
 ⟨h.o0,by have:=h.o; omega,Nat.le_trans h.m hb,h.t,h.i,h.k,h.r⟩
theorem Km.small {a b:Nat} {c:aJ} (h:Km a b c) (ha:a≤1048576) (hb:b≤1048576):ew c:=
 ⟨Nat.le_trans h.m hb,by rw [h.t]; exact Nat.le_trans h.m hb,by have:=h.i; have:=h.o; omega,by rw [h.k]; exact Nat.le_trans h.m hb,fun y hy=>by rw [h.r y hy]; exact Nat.le_trans h.m hb⟩
end Go.Proofs.YtcnehblmgfbfoaaGreat
namespace Go.Proofs.YtcnehblmgfbfoaaGreat
open Go Go.Li
end Go.Proofs.YtcnehblmgfbfoaaGreat
namespace Go.Proofs.YtcnehblmgfbfoaaGreat
open Go Go.Li
end Go.Proofs.YtcnehblmgfbfoaaGreat
namespace Go.Proofs.YtcnehblmgfbfoaaGreat
open Go Go.Li
structure Dag (n:Int) (f t:List Int):Prop where
 len:t.length=f.length
 SC:f.length≤3
 up:∀ (k:Nat) u v,f[k]? = some u→t[k]? = some v→0≤u∧u < v∧v < n
def cap (v:Int) (e:Nat):Nat:=if v=0 then 4 * e else if v=1 then e else 0
section
variable {n:Int} {f t:List Int} (D:Dag n f t) (n0:0≤n) (n3:n≤3)
include D n0 n3
end
end Go.Proofs.YtcnehblmgfbfoaaGreat
namespace Go.Proofs.YtcnehblmgfbfoaaGreat
open Go Go.Li
section
variable {x:List Int} (B:E6 x)
include B
end
end Go.Proofs.YtcnehblmgfbfoaaGreat
