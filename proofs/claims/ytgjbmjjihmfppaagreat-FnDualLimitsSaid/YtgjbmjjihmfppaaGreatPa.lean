/- Loops and partial operations of models, reckoned. No condition. -/
import Derived.Test.YtgjbmjjihmfppaaGreatLa
import Derived.Test.YtgjbmjjihmfppaaGreatMo
namespace Go.Li
open Go
section
variable {S S1 R α:Type} {body:S→Option (Out S R)}
theorem HJ (f:Nat→S) (n:Nat) (h:∀ i,i < n→body (f i)=some (.norm (f (i+1)))):ah body (f 0)=ah body (f n):=by
 induction n with
 | zero=>rfl
 | succ n ih=>rw [ih fun i hi=>h i (by omega),oh (s:=f n),h n (by omega)]
theorem mb {s s':S} {k:Nat} (h:body s=some (.exit k s')):ah body s=some (.exit k s'):=by rw [oh,h]
theorem AV {s:S} {x:R} (h:body s=some (.ret x)):ah body s=some (.ret x):=by rw [oh,h]
theorem sB {k:Nat} {m:Option (Out S1 R)} {s:S1} {f:S1→Option (Out S R)} (h:m=some (.exit k s)):ag (ae k m) f=f s:=by
 rw [h]; simp [ae,DN,ag]
theorem AW {k:Nat} {m:Option (Out S1 R)} {x:R} {f:S1→Option (Out S R)} (h:m=some (.ret x)):ag (ae k m) f=some (.ret x):=by
 rw [h]; rfl
theorem O3 {k:Nat} (l:List α) (st:Nat→S) {e:S} (step:∀ i x,l[i]? = some x→body (st i)=some (.norm (st (i+1)))) (last:body (st l.length)=some (.exit k e)) :
  ah body (st 0)=some (.exit k e):=by
 rw [HJ st l.length fun i hi=>step i l[i] (List.getElem?_eq_getElem hi)]
 exact mb last
theorem RS {k:Nat} (l:List α) (p:α→Bool) (st:Nat→S) {e:S} {y:R} (step:∀ i x,l[i]? = some x→p x=false→body (st i)=some (.norm (st (i+1))))
  (Mm:∀ i x,l[i]? = some x→p x=true→body (st i)=some (.ret y)) (last:body (st l.length)=some (.exit k e)) :
  ah body (st 0)=some (if l.any p then .ret y else .exit k e):=by
 have key:∀ (m:List α) (i:Nat),l.drop i=m→i≤l.length→ah body (st i)=some (if m.any p then .ret y else .exit k e):=by
  intro m
  induction m with
  | nil=>
   intro i hd hi
   have:i=l.length:=by have:=congrArg List.length hd; simp at this; omega
   subst this
   simp only [List.any_nil,Bool.false_eq_true,if_false]
   exact mb last
  | cons x m ih=>
   intro i hd hi
   have bc:i < l.length:=by
    rcases Nat.lt_or_ge i l.length with h | h
    ·exact h
    ·rw [List.drop_eq_nil_of_le h] at hd; cases hd
   have hx:l[i]? = some x:=by
    rw [List.drop_eq_getElem_cons bc] at hd
    rw [List.getElem?_eq_getElem bc]; exact congrArg some (List.cons.inj hd).1
   have ib:l.drop (i+1)=m:=by
    rw [List.drop_eq_getElem_cons bc] at hd; exact (List.cons.inj hd).2
   cases hp:p x with
   | true=>simp only [List.any_cons,hp,Bool.true_or,if_true]; exact AV (Mm i x hx hp)
   | false=>
    simp only [List.any_cons,hp,Bool.false_or]
    rw [oh,step i x hx hp]
    exact ih (i+1) ib bc
 exact key l 0 rfl (Nat.zero_le _)
end
section
variable {S S1 R α:Type} {body:S1→Option (Out S1 R)}
theorem rz {k:Nat} {f:S1→Option (Out S R)} {s0 e:S1} (l:List α) (st:Nat→S1) (h0:st 0=s0) (step:∀ i x,l[i]? = some x→body (st i)=some (.norm (st (i+1)))) (last:body (st l.length)=some (.exit k e)) :
  ag (ae k (ah body s0)) f=f e:=sB (h0 ▸ O3 l st step last)
theorem mc {k:Nat} {f:S1→Option (Out S R)} {s0 e:S1} {y:R} (l:List α) (p:α→Bool) (st:Nat→S1) (h0:st 0=s0) (step:∀ i x,l[i]? = some x→p x=false→body (st i)=some (.norm (st (i+1))))
  (Mm:∀ i x,l[i]? = some x→p x=true→body (st i)=some (.ret y)) (last:body (st l.length)=some (.exit k e)) :
  ag (ae k (ah body s0)) f=if l.any p then some (.ret y) else f e:=by
 have h:=RS l p st step Mm last
 rw [h0] at h
 cases hp:l.any p with
 | true=>rw [hp] at h; exact AW h
 | false=>rw [hp] at h; exact sB h
end
theorem dw {α:Type} (l:List α) (i:Nat):idx l (i:Int)=l[i]?:=by simp [idx]
theorem G4 {α:Type} {l:List α} {j:Int} (h0:0≤j):idx l j=l[j.toNat]?:=by simp [idx,h0]
theorem vm {α:Type} {l:List α} {j:Int} (h0:0≤j) (h1:j < l.length):idx l j=some (l[j.toNat]'(by omega)):=by
 rw [G4 h0,List.getElem?_eq_getElem]
theorem cW {a:Int} (h1 : -9223372036854775808≤a) (h2:a≤9223372036854775807):ai a=a:=by
 unfold ai IntKind.wrap
 simp [IntKind.bits,IntKind.signed]
 omega
theorem bH {i:Nat} (h:i < 9223372036854775807):ai ((i:Int)+1)=((i+1:Nat):Int):=by
 rw [cW (by omega) (by omega)]; omega
theorem cV {b n:Nat} (h1:n * b≤140737488355328) (h2:n≤9223372036854775807):fits b n=some ():=by simp [fits,h1,h2]
theorem Df {b n:Nat} (h1:b * n≤281474976710656) (h2:n≤9223372036854775807):mk b (n:Int)=some n:=by simp [mk,h1,h2]
theorem ay {p:Prop} [Decidable p] (h:p):decide p=true:=decide_eq_true h
theorem bm {p:Prop} [Decidable p] (h : ¬ p):decide p=false:=decide_eq_false h
theorem xe {α:Type} [BEq α] [LawfulBEq α] {a b:α} (h:a≠b):(a != b)=true:=by simp [h]
theorem uT {α:Type} [BEq α] [LawfulBEq α] {a b:α} (h:a=b):(a != b)=false:=by simp [h]
theorem yn {α:Type} [BEq α] [LawfulBEq α] {a b:α} (h:a=b):(a == b)=true:=by simp [h]
theorem sZ {α:Type} [BEq α] [LawfulBEq α] {a b:α} (h:a≠b):(a == b)=false:=by simp [h]
theorem aF {α β:Type} (x:α) (f:α→Option β):((some x)>>=f)=f x:=rfl
theorem E3 {α:Type} {l:List α} {i:Nat} {x:α} (h:l[i]? = some x):l.take (i+1)=l.take i++[x]:=by
 rw [List.take_add_one,h]; rfl
theorem ca {α:Type} {l:List α} {i:Nat} {x:α} (h:l[i]? = some x):i < l.length:=(List.getElem?_eq_some_iff.1 h).1
end Go.Li
namespace Go.Li
set_option linter.unusedSectionVars false
section
variable {α A:Type} [DecidableEq α] (out:List A) (step:α→A→α) (has:α→A→Bool) (M:Nat)
inductive Reaches (s0:α):α→Prop
 | base:Reaches s0 s0
 | step {s a}:Reaches s0 s→a∈out→Reaches s0 (step s a)
variable {out step has M}
theorem Reaches.trans {s0 s t:α} (h:Reaches out step s0 s) (k:Reaches out step s t):Reaches out step s0 t:=by
 induction k with
 | base=>exact h
 | step _ ha ih=>exact .step ih ha
structure xU (out:List A) (step:α→A→α) (s0:α) (L:List α):Prop where
 nodup:L.Nodup
 mem:∀ x,x∈L↔Reaches out step s0 x
theorem O4 {s0:α} {L:List α} (hn:L.Nodup) (h0:s0∈L) (hr:∀ x∈L,Reaches out step s0 x) (hc:∀ x∈L,∀ a∈out,step x a∈L):xU out step s0 L:=
 ⟨hn,fun x=>⟨hr x,fun h=>by
  induction h with
  | base=>exact h0
  | step _ ha ih=>exact hc _ ih _ ha⟩⟩
def J8 (out:List A) (step:α→A→α) (M:Nat) (s0:α):Prop:=∃ L:List α,L.Nodup∧M < L.length∧∀ x∈L,Reaches out step s0 x
theorem xU.QH {s0:α} {L:List α} (h:xU out step s0 L) (hl:L.length≤M) : ¬ J8 out step M s0:=by
 rintro ⟨K,k1,k2,k3⟩
 have:=k1.length_le_of_subset fun x hx=>(h.mem x).2 (k3 x hx)
 omega
theorem xU.perm {s0:α} {L K:List α} (h:xU out step s0 L) (k:xU out step s0 K):L.Perm K:=
 List.perm_iff_count.2 fun a=>by
  rw [h.nodup.count,k.nodup.count]
  by_cases ha:Reaches out step s0 a
  ·rw [if_pos ((h.mem a).2 ha),if_pos ((k.mem a).2 ha)]
  ·rw [if_neg fun hm=>ha ((h.mem a).1 hm),if_neg fun hm=>ha ((k.mem a).1 hm)]
def vn (step:α→A→α) (M:Nat) (s:α) (l:List A) (L:List α):Option (List α):=
 l.foldlM (fun L a=>if step s a∈L then some L else if L.length=M then none else some (L++[step s a])) L
structure xf (out:List A) (step:α→A→α) (M:Nat) (s0:α) (i:Nat) (L:List α):Prop where
 nodup:L.Nodup
 start:s0∈L
 reach:∀ x∈L,Reaches out step s0 x
 len:L.length≤M
 idx:i≤L.length
 done:∀ j x,j < i→L[j]? = some x→∀ a∈out,step x a∈L
theorem Dg {s0 s:α} {i:Nat} (hs:Reaches out step s0 s):∀ (l:List A) (L:List α) (p:List A),(∀ a∈l,a∈out)→xf out step M s0 i L→L[i]? = some s→(∀ a∈p,step s a∈L)→
  match vn step M s l L with
  | some L'=>xf out step M s0 i L'∧L'[i]? = some s∧(∀ a∈p,step s a∈L')∧(∀ a∈l,step s a∈L')
  | none=>J8 out step M s0:=by
 intro l
 induction l with
 | nil=>intro L p _ h1 h2 h3; exact ⟨h1,h2,h3,fun _ h=>nomatch h⟩
 | cons a l ih=>
  intro L p hl h1 h2 h3
  have ha:a∈out:=hl a (by simp)
  unfold vn
  rw [List.foldlM_cons]
  by_cases hm:step s a∈L
  ·rw [if_pos hm]
   have:=ih L (a :: p) (fun b hb=>hl b (by simp [hb])) h1 h2 (fun b hb=>(List.mem_cons.1 hb).elim (fun e=>e ▸ hm) (h3 b))
   show match vn step M s l L with | some L'=>_ | none=>_
   cases hr:vn step M s l L with
   | none=>rw [hr] at this; exact this
   | some L'=>
    rw [hr] at this
    obtain ⟨q1,q2,q3,q4⟩:=this
    exact ⟨q1,q2,fun b hb=>q3 b (by simp [hb]),fun b hb=>(List.mem_cons.1 hb).elim (fun e=>e ▸ q3 a (by simp)) (q4 b)⟩
  ·rw [if_neg hm]
   have Iy:(L++[step s a]).Nodup:=List.nodup_append.2 ⟨h1.nodup,by simp,fun x hx y hy=>by simp at hy; subst hy; exact fun h=>hm (h ▸ hx)⟩
   have Qh:∀ x∈L++[step s a],Reaches out step s0 x:=fun x hx=>(List.mem_append.1 hx).elim (h1.reach x) fun h=>by simp at h; subst h; exact .step hs ha
   by_cases hM:L.length=M
   ·rw [if_pos hM]
    exact ⟨L++[step s a],Iy,by simp; omega,Qh⟩
   ·rw [if_neg hM]
    have hi:i < L.length:=(List.getElem?_eq_some_iff.1 h2).1
    have hlen:=h1.len
    have:=ih (L++[step s a]) (a :: p) (fun b hb=>hl b (by simp [hb]))
     ⟨Iy,List.mem_append_left _ h1.start,Qh,by simp; omega,by simp; omega,fun j x hj hx b hb=>List.mem_append_left _ (h1.done j x hj (by rwa [List.getElem?_append_left (by omega)] at hx) b hb)⟩
     (by rw [List.getElem?_append_left hi]; exact h2) (fun b hb=>(List.mem_cons.1 hb).elim (fun e=>by simp [e]) fun h=>List.mem_append_left _ (h3 b h))
    show match vn step M s l (L++[step s a]) with | some L'=>_ | none=>_
    cases hr:vn step M s l (L++[step s a]) with
    | none=>rw [hr] at this; exact this
    | some L'=>
     rw [hr] at this
     obtain ⟨q1,q2,q3,q4⟩:=this
     exact ⟨q1,q2,fun b hb=>q3 b (by simp [hb]),fun b hb=>(List.mem_cons.1 hb).elim (fun e=>e ▸ q3 a (by simp)) (q4 b)⟩
theorem xf.next {s0 s:α} {i:Nat} {L L':List α} (h:xf out step M s0 i L) (hs:L[i]? = some s) (hr:vn step M s out L=some L'):xf out step M s0 (i+1) L':=by
 have:=Dg (h.reach s (List.mem_of_getElem? hs)) out L [] (fun _ h=>h) h hs (fun _ h=>nomatch h)
 rw [hr] at this
 obtain ⟨q1,q2,_,q4⟩:=this
 have hi:i < L'.length:=(List.getElem?_eq_some_iff.1 q2).1
 refine ⟨q1.nodup,q1.start,q1.reach,q1.len,hi,fun j x hj hx a ha=>?_⟩
 by_cases lv:j=i
 ·subst lv
  rw [q2] at hx
  cases hx
  exact q4 a ha
 ·exact q1.done j x (by omega) hx a ha
theorem xf.many {s0 s:α} {i:Nat} {L:List α} (h:xf out step M s0 i L) (hs:L[i]? = some s) (hr:vn step M s out L=none):J8 out step M s0:=by
 have:=Dg (h.reach s (List.mem_of_getElem? hs)) out L [] (fun _ h=>h) h hs (fun _ h=>nomatch h)
 rw [hr] at this
 exact this
theorem xf.ajR {s0:α} {i:Nat} {L:List α} (h:xf out step M s0 i L) (hi:L.length≤i):xU out step s0 L:=
 O4 h.nodup h.start h.reach fun x hx a ha=>by
  obtain ⟨j,hj,rfl⟩:=List.getElem_of_mem hx
  exact h.done j _ (by omega) (List.getElem?_eq_getElem hj) a ha
theorem xf.base {s0:α} (hM:0 < M):xf out step M s0 0 [s0]:=
 ⟨by simp,by simp,fun x hx=>by simp at hx; subst hx; exact .base,by simp; omega,by simp,fun j x hj=>absurd hj (Nat.not_lt_zero _)⟩
end
end Go.Li
namespace Go.Proofs.YtgjbmjjihmfppaaGreat
open Go Go.Li
theorem Mn:∀ {x y:List Int},x.length=y.length→(((x.zip y).any fun p=>p.1 != p.2) = !(x == y)):=by
 intro x
 induction x with
 | nil=>intro y h; cases y with | nil=>rfl | cons=>simp at h
 | cons a x ih=>
  intro y h
  cases y with
  | nil=>simp at h
  | cons b y=>
   have:=ih (y:=y) (by simpa using h)
   rw [List.zip_cons_cons,List.any_cons,this]
   by_cases vb:a=b <;> simp [vb,bne]
theorem DQ {α β:Type} {x:List α} {y:List β} {i:Nat} {p:α×β} (h:(x.zip y)[i]? = some p):x[i]? = some p.1∧y[i]? = some p.2:=by
 rw [List.getElem?_zip_eq_some] at h; exact h
noncomputable def Dh (x0 x1:List Int) (s:Int):Option (Out Int Bool):=
 bif decide (s < (x0.length:Int)) then ((idx x0 s)>>=fun wU=>((idx x1 s)>>=fun GG=>(bif wU != GG then some (Out.ret false) else some (Out.norm (ai (s+(1:Int))))))) else some (Out.exit 0 s)
noncomputable def Yp (x0 x1:List Int):Option Bool:=
 an (S:=Unit) (bif (x0.length:Int) != (x1.length:Int) then some (Out.ret false) else ag (ae 0 (ah (Dh x0 x1) (0:Int))) fun _=>some (Out.ret true))
theorem Vx (x y:List Int) (hx:x.length≤1048576000):Yp x y=some (x == y):=by
 unfold Yp
 by_cases hl:x.length=y.length
 ·rw [show (((x.length:Int)) != ((y.length:Int)))=false by simp [hl],cond_false]
  have hz:(x.zip y).length=x.length:=by simp [hl]
  refine (congrArg an (mc (x.zip y) (fun p=>p.1 != p.2) (fun i=>(i:Int)) rfl ?_ ?_ (e:=(x.length:Int)) (y:=false) ?_)).trans ?_
  ·intro i p hp hq
   obtain ⟨h1,h2⟩:=DQ hp
   have hi:=ca h1
   unfold Dh
   rw [ay (by omega),cond_true,dw,h1,aF,dw,h2,aF,hq,cond_false,bH (by omega)]
  ·intro i p hp hq
   obtain ⟨h1,h2⟩:=DQ hp
   have hi:=ca h1
   unfold Dh
   rw [ay (by omega),cond_true,dw,h1,aF,dw,h2,aF,hq,cond_true]
  ·unfold Dh
   rw [bm (by omega),cond_false,hz]
  ·rw [Mn hl]
   cases x == y <;> rfl
 ·rw [show (((x.length:Int)) != ((y.length:Int)))=true by simp; omega,cond_true]
  have:(x == y)=false:=by
   apply Bool.eq_false_iff.2
   intro h
   exact hl (by rw [eq_of_beq h])
  rw [this]; rfl
structure gu (c:aG):Prop where
 f:c.aD.length≤1048576
 t:c.To.length≤1048576
 i:c.aJ.length≤1048576
 k:c.aB.length≤1048576
 r:∀ x∈c.aB,x.length≤1048576
end Go.Proofs.YtgjbmjjihmfppaaGreat
namespace Go.Proofs.YtgjbmjjihmfppaaGreat
open Go Go.Li
section
variable {α R:Type} (size:α→Nat) (num:Int→α→α)
def J9 (xs:List α):Nat:=(xs.map size).sum
def Ka:Int→List α→List α
 | _,[]=>[]
 | k,x :: xs=>num k x :: Ka (k+size x) xs
end
def n0 (k _x:Int):Int:=k
def s0 (_x:Int):Nat:=1
def n1:=Ka s0 n0
def s1:=J9 s0
def n2:=Ka s1 n1
def s2:=J9 s1
def n3:=Ka s2 n2
def s3:=J9 s2
end Go.Proofs.YtgjbmjjihmfppaaGreat
