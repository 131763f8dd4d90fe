/- Inverses; the reference's search in depth for a natural isomorphism finds the first one of the enumeration. No condition beside those that each theorem names. -/
import Derived.Test.YtgjbmjjihmfppaaGreatVw
import Derived.Test.YtgjbmjjihmfppaaGreatYn
namespace Go.Proofs.YtgjbmjjihmfppaaGreat
open Go Go.Li
set_option linter.unusedVariables false
set_option linter.unusedSectionVars false
set_option linter.unusedSimpArgs false
def Zv (c:aI) (f g:Int):Bool:=gk c.aD f g == gi c.aJ (gi c.aF f) && gk c.aD g f == gi c.aJ (gi c.To f)
def Ly (c:aI) (f:Int):Bool:=(ns c.aF.length).any fun g=>qj c (gi c.To f) (gi c.aF f) g && Zv c f g
section
variable {c:aI} (H:oh c) {f:Int} (f0:0≤f) (f1:f < c.aF.length)
include H f0 f1
theorem Qo:jF c f=some ((ns c.aF.length).filter fun r=>qj c (gi c.To f) (gi c.aF f) r && (gk c.aD f r == gi c.aJ (gi c.aF f))):=by
 have hm:=H.m
 have hf:=H.fr f0 f1
 have ht:=H.to f0 f1
 unfold jF
 refine (congrArg ak (s8 (ns c.aF.length) (fun r=>qj c (gi c.To f) (gi c.aF f) r && (gk c.aD f r == gi c.aJ (gi c.aF f))) (fun acc i=>(acc,(i:Int))) rfl ?_ ?_)).trans rfl
 ·intro i a acc ha Dd
  obtain ⟨rfl,hi⟩:=ic ha
  show fE c f acc i=_
  unfold fE
  have e1:=H.ja (f:=(i:Int)) (by omega) (by omega)
  have e3:=H.je (f:=(i:Int)) (by omega) (by omega)
  have e6:=H.torI.lg f0 f1 (g:=(i:Int)) (by omega) (by omega)
  rw [av (by omega),cond_true,dF (by omega) (by omega)]
  simp only [e1,H.je f0 f1,e3,H.ja f0 f1,H.mb f0 f1,e6,H.oK hf.1 hf.2,aG,bN (show i < 9223372036854775807 by omega)]
  unfold qj
  cases gi c.aF (i:Int) == gi c.To f with
  | false=>rfl
  | true=>
   cases gi c.To (i:Int) == gi c.aF f with
   | false=>rfl
   | true=>cases gk c.aD f (i:Int) == gi c.aJ (gi c.aF f) <;> rfl
 ·intro acc
  show fE c f acc _=_
  unfold fE
  rw [dD,bd (by omega),cond_false]
theorem Qp:kY c f=some ((ns c.aF.length).filter fun r=>qj c (gi c.To f) (gi c.aF f) r && (gk c.aD r f == gi c.aJ (gi c.To f))):=by
 have hm:=H.m
 have hf:=H.fr f0 f1
 have ht:=H.to f0 f1
 unfold kY
 refine (congrArg ak (s8 (ns c.aF.length) (fun r=>qj c (gi c.To f) (gi c.aF f) r && (gk c.aD r f == gi c.aJ (gi c.To f))) (fun acc i=>(acc,(i:Int))) rfl ?_ ?_)).trans rfl
 ·intro i a acc ha Dd
  obtain ⟨rfl,hi⟩:=ic ha
  show gD c f acc i=_
  unfold gD
  have e1:=H.ja (f:=(i:Int)) (by omega) (by omega)
  have e3:=H.je (f:=(i:Int)) (by omega) (by omega)
  have e5:=H.mb (f:=(i:Int)) (by omega) (by omega)
  have e6:=H.torI.lg (f:=(i:Int)) (by omega) (by omega) f0 f1
  rw [av (by omega),cond_true,dF (by omega) (by omega)]
  simp only [e1,H.je f0 f1,e3,H.ja f0 f1,e5,e6,H.oK ht.1 ht.2,aG,bN (show i < 9223372036854775807 by omega)]
  unfold qj
  cases gi c.aF (i:Int) == gi c.To f with
  | false=>rfl
  | true=>
   cases gi c.To (i:Int) == gi c.aF f with
   | false=>rfl
   | true=>cases gk c.aD (i:Int) f == gi c.aJ (gi c.To f) <;> rfl
 ·intro acc
  show gD c f acc _=_
  unfold gD
  rw [dD,bd (by omega),cond_false]
theorem Qa:∃ y,jK c f=some y∧decide (y < 0) = !(Ly c f):=by
 have hm:=H.m
 unfold jK
 rw [Qo H f0 f1,aG,Qp H f0 f1,aG]
 generalize hS:((ns c.aF.length).filter fun r=>qj c (gi c.To f) (gi c.aF f) r && (gk c.aD r f == gi c.aJ (gi c.To f)))=sc
 generalize hL:((ns c.aF.length).filter fun r=>qj c (gi c.To f) (gi c.aF f) r && (gk c.aD f r == gi c.aJ (gi c.aF f)))=l
 have Wx:∀ g∈l,0≤g∧g < c.aF.length:=fun g hg=>by rw [← hL] at hg; exact bz.1 (List.mem_filter.1 hg).1
 have Iz:l.length≤c.aF.length:=by rw [← hL]; exact Nat.le_trans (List.length_filter_le _ _) (by rw [dD]; exact Nat.le_refl _)
 have Jl:sc.length≤c.aF.length:=by rw [← hS]; exact Nat.le_trans (List.length_filter_le _ _) (by rw [dD]; exact Nat.le_refl _)
 have Gm:∀ (i:Nat) g,l[i]? = some g→gV l sc (i:Int)=bif hasB sc g then some (.ret g) else some (.norm ((i+1:Nat):Int)):=by
  intro i g hg
  have hi:=bm hg
  unfold gV
  rw [av (by omega),cond_true,bu,hg,aG,SM _ _ (by omega),aG,aG,bN (by omega)]
 have As:l.any (hasB sc)=Ly c f:=by
  unfold Ly Zv
  rw [← hL,any_filter',Bool.eq_iff_iff,List.any_eq_true,List.any_eq_true]
  refine ⟨fun ⟨g,h1,h2⟩=>⟨g,h1,?_⟩,fun ⟨g,h1,h2⟩=>⟨g,h1,?_⟩⟩
  ·simp only [Bool.and_eq_true,xT] at h2 ⊢
   rw [← hS] at h2
   have h3:=(List.mem_filter.1 h2.2).2
   simp only [Bool.and_eq_true] at h3
   exact ⟨h2.1.1,h2.1.2,h3.2⟩
  ·simp only [Bool.and_eq_true,xT] at h2 ⊢
   refine ⟨⟨h2.1,h2.2.1⟩,?_⟩
   rw [← hS]
   exact List.mem_filter.2 ⟨h1,by simp only [Bool.and_eq_true]; exact ⟨h2.1,h2.2.2⟩⟩
 rcases xP (s0:=(0:Int)) (k:=0) (f:=fun _=>some (Out.ret (S:=Unit) (-1:Int))) l (hasB sc) (fun y:Int=>0≤y) (fun i=>(i:Int)) rfl (e:=(l.length:Int)) (body:=gV l sc)
  (fun i g hg hp=>by rw [Gm i g hg,hp]; rfl) (fun i g hg hp=>⟨g,by rw [Gm i g hg,hp]; rfl,(Wx g (List.mem_of_getElem? hg)).1⟩) (by unfold gV; rw [bd (by omega),cond_false]) with ⟨h1,y,h2,h3⟩ | ⟨h1,h2⟩
 ·exact ⟨y,by rw [h2]; rfl,by rw [← As,h1,bd (by omega)]; rfl⟩
 ·exact ⟨-1,by rw [h2]; rfl,by rw [← As,h1]; rfl⟩
end
theorem RE {c:aI} (H:oh c) (x y:Int):gR c x y=some ((ns c.aF.length).filter (qj c x y)):=by
 have hm:=H.m
 unfold gR
 refine (congrArg ak (s8 (ns c.aF.length) (qj c x y) (fun acc i=>(acc,(i:Int))) rfl ?_ ?_)).trans rfl
 ·intro i a acc ha Dd
  obtain ⟨rfl,hi⟩:=ic ha
  show gO c x y acc i=_
  unfold gO
  have e1:=H.ja (f:=(i:Int)) (by omega) (by omega)
  have e3:=H.je (f:=(i:Int)) (by omega) (by omega)
  rw [av (by omega),cond_true,dF (by omega) (by omega)]
  simp only [e1,e3,aG,bN (show i < 9223372036854775807 by omega)]
  unfold qj
  cases gi c.aF (i:Int) == x with
  | false=>rfl
  | true=>cases gi c.To (i:Int) == y <;> rfl
 ·intro acc
  show gO c x y acc _=_
  unfold gO
  rw [dD,bd (by omega),cond_false]
theorem FQ {R:Type} {body:Bool×Int→Option (Out (Bool×Int) R)} {k:Nat} {n:Nat} (p:Int→Bool) (h:∀ i:Nat,i < n→body (true,(i:Int))=some (.norm (p i,((i+1:Nat):Int))))
  (hf:∀ i:Nat,i≤n→body (false,(i:Int))=some (.exit k (false,(i:Int)))) (last:body (true,(n:Int))=some (.exit k (true,(n:Int)))):∃ j:Int,ai body (true,(0:Int))=some (.exit k ((ns n).all p,j)):=by
 have key:∀ m i:Nat,i+m=n→(∀ a:Nat,a < i→p a=true)→∃ j:Int,ai body (true,(i:Int))=some (.exit k ((ns n).all p,j)):=by
  intro m
  induction m with
  | zero=>
   intro i hi ha
   obtain rfl:i=n:=by omega
   have:(ns i).all p=true:=List.all_eq_true.2 fun x hx=>by
    have:=bz.1 hx
    have h:=ha x.toNat (by omega)
    rwa [show ((x.toNat:Nat):Int)=x by omega] at h
   rw [this]
   exact ⟨_,lv last⟩
  | succ m ih=>
   intro i hi ha
   rw [nk,h i (by omega)]
   cases hp:p i with
   | true=>
    refine ih (i+1) (by omega) fun a h1=>?_
    rcases Nat.lt_or_ge a i with h2 | h2
    ·exact ha a h2
    ·obtain rfl:a=i:=by omega
     exact hp
   | false=>
    have:(ns n).all p=false:=by
     rw [Bool.eq_false_iff]
     intro dw
     have:=List.all_eq_true.1 dw (i:Int) (bz.2 ⟨by omega,by omega⟩)
     rw [hp] at this; cases this
    rw [this]
    exact ⟨_,lv (hf (i+1) (by omega))⟩
 exact key n 0 (by omega) fun a h=>by omega
def IB (f g:aM) (x:Int) (p:List Int) (a:Int):Bool:=(gi f.aE.aF a != x && gi f.aE.To a != x) || (decide (gi p (gi f.aE.aF a) < 0) || (decide (gi p (gi f.aE.To a) < 0) || sk f g p a))
def EL (f g:aM) (x:Int) (p:List Int):Bool:=(ns f.aE.aF.length).all (IB f g x p)
theorem Co (n:Nat):ns (n+1)=ns n++[(n:Int)]:=by simp [ns,List.range_succ]
section
variable {f g:aM} (T:Dc f g)
include T
theorem Yb {p:List Int} (pl:(p.length:Int)=f.aE.aA) {a:Int} (a0:0≤a) (a1:a < f.aE.aF.length) (k1:0≤gi p (gi f.aE.To a)∧gi p (gi f.aE.To a) < f.aH.aF.length) (k2:0≤gi p (gi f.aE.aF a)∧gi p (gi f.aE.aF a) < f.aH.aF.length):iL f g p a=some (sk f g p a):=by
 have F:=T.F
 have kf:=F.c.fr a0 a1
 have kt:=F.c.to a0 a1
 have ka:=F.ar a0 a1
 have k3:=T.G.ar (a:=a) a0 (by rw [T.es]; exact a1)
 have e3:=T.G.uY (a:=a) a0 (by rw [T.es]; exact a1)
 rw [T.et] at k3
 unfold iL sk
 rw [F.uY a0 a1,aG,F.d.mb ka.1 ka.2,aG,F.c.je a0 a1,aG,cB kt.1 (by omega),aG,F.d.lg ka.1 ka.2 k1.1 k1.2,aG,F.c.ja a0 a1,aG,cB kf.1 (by omega),aG,F.d.mb k2.1 k2.2,aG,e3,aG,F.d.lg k2.1 k2.2 k3.1 k3.2,aG]
 rfl
end
end Go.Proofs.YtgjbmjjihmfppaaGreat
namespace Go.Proofs.YtgjbmjjihmfppaaGreat
open Go Go.Li
set_option linter.unusedVariables false
set_option linter.unusedSectionVars false
set_option linter.unusedSimpArgs false
theorem IC {l m:List Int} {e:Int} (h0:0≤e) (h1:e < l.length):gi (l++m) e=gi l e:=by
 unfold gi; rw [List.getD_eq_getElem?_getD,List.getD_eq_getElem?_getD,List.getElem?_append_left (by omega)]
theorem NN {p:List Int} {k:Nat} {i:Int} (h0:(p.length:Int)≤i) (h1:i < ((p.length+k:Nat):Int)):gi (p++List.replicate k (-1)) i = -1:=by
 unfold gi
 rw [List.getD_eq_getElem?_getD,List.getElem?_append_right (by omega),List.getElem?_replicate,if_pos (by omega)]; rfl
theorem FU {f g:aM} {BW:Int→Bool}:∀ (k:Nat) (p c:List Int),c∈j5 BW f g k p→c.length=p.length+k∧(∀ i:Int,0≤i→i < p.length→gi c i=gi p i)∧∀ i:Int,(p.length:Int)≤i→i < c.length→BW (gi c i)=true:=by
 intro k
 induction k with
 | zero=>
  intro p c hc
  obtain rfl:c=p:=by simpa [j5] using hc
  exact ⟨rfl,fun _ _ _=>rfl,fun i h1 h2=>by omega⟩
 | succ k ih=>
  intro p c hc
  unfold j5 at hc
  obtain ⟨b,hb,hc⟩:=List.mem_flatMap.1 hc
  have sU:=(List.mem_filter.1 hb).2
  unfold yF at sU
  rw [Bool.and_eq_true] at sU
  obtain ⟨h1,h2,h3⟩:=ih (p++[b]) c hc
  rw [List.length_append,List.length_singleton] at h1 h2 h3
  refine ⟨by omega,fun i i0 i1=>?_,fun i i0 i1=>?_⟩
  ·rw [h2 i i0 (by omega),IC i0 i1]
  ·by_cases e:i=(p.length:Int)
   ·rw [h2 i (by omega) (by omega),jz (by omega),if_neg (by omega),if_pos e]; exact sU.1
   ·exact h3 i (by omega) i1
theorem SX {P:Int→Bool} {x:Nat} (hx:P x=true) (h:∀ y:Nat,y < x→P y=false):∀ n:Nat,x < n→(ns n).find? P=some (x:Int):=by
 intro n
 induction n with
 | zero=>intro h; omega
 | succ n ih=>
  intro hn
  rw [Co,List.find?_append]
  by_cases e:x < n
  ·rw [ih e]; rfl
  ·obtain rfl:x=n:=by omega
   have:(ns x).find? P=none:=List.find?_eq_none.2 fun y hy=>by
    have hy:=bz.1 hy
    have:=h y.toNat (by omega)
    rw [show ((y.toNat:Nat):Int)=y by omega] at this
    rw [this]; decide
   rw [this]
   simp [hx]
section
variable {f g:aM} {c:List Int} (hc:tQ ⟨f,g,c⟩ = true)
include hc
end
section
variable {f g:aM} (T:Dc f g)
include T
theorem LA {BW:Int→Bool} {p:List Int} {b:Int} (hp:yE f g p) (BC:b∈(ns f.aH.aF.length).filter (qj f.aH (gi f.aA p.length) (gi g.aA p.length))) (sU:yF BW f g p b=true):yE f g (p++[b]):=by
 have:p++[b]∈j5 BW f g 1 p:=by
  unfold j5
  exact List.mem_flatMap.2 ⟨b,List.mem_filter.2 ⟨BC,sU⟩,by simp [j5]⟩
 exact (wZ T _ _ _ hp this).1
end
end Go.Proofs.YtgjbmjjihmfppaaGreat
