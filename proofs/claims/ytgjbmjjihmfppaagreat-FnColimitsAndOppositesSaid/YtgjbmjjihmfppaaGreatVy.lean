/- Inverses; the reference's search in depth for a natural isomorphism finds the first one of the enumeration. No condition beside those that each theorem names. -/
import Derived.Test.YtgjbmjjihmfppaaGreatVw
import Derived.Test.YtgjbmjjihmfppaaGreatYn
namespace Go.Proofs.YtgjbmjjihmfppaaGreat
open Go Go.Li
set_option linter.unusedVariables false
set_option linter.unusedSectionVars false
set_option linter.unusedSimpArgs false
def ivB (c:aG) (f g:Int):Bool:=gk c.aB f g == gi c.aH (gi c.aD f) && gk c.aB g f == gi c.aH (gi c.To f)
def ME (c:aG) (f:Int):Bool:=(ns c.aD.length).any fun g=>rf c (gi c.To f) (gi c.aD f) g && ivB c f g
section
variable {c:aG} (H:nm c) {f:Int} (f0:0≤f) (f1:f < c.aD.length)
include H f0 f1
theorem Rw:jQ c f=some ((ns c.aD.length).filter fun r=>rf c (gi c.To f) (gi c.aD f) r && (gk c.aB f r == gi c.aH (gi c.aD f))):=by
 have hm:=H.m
 have hf:=H.fr f0 f1
 have ht:=H.to f0 f1
 unfold jQ
 refine (congrArg ak (tK (ns c.aD.length) (fun r=>rf c (gi c.To f) (gi c.aD f) r && (gk c.aB f r == gi c.aH (gi c.aD f))) (fun acc i=>(acc,(i:Int))) rfl ?_ ?_)).trans rfl
 ·intro i a acc ha DR
  obtain ⟨rfl,hi⟩:=iH ha
  show fK c f acc i=_
  unfold fK
  have e1:=H.js (f:=(i:Int)) (by omega) (by omega)
  have e3:=H.j3 (f:=(i:Int)) (by omega) (by omega)
  have e6:=H.torG.l8 f0 f1 (g:=(i:Int)) (by omega) (by omega)
  rw [av (by omega),cond_true,dK (by omega) (by omega)]
  simp only [e1,H.j3 f0 f1,e3,H.js f0 f1,H.mm f0 f1,e6,H.p9 hf.1 hf.2,aF,bR (show i < 9223372036854775807 by omega)]
  unfold rf
  cases gi c.aD (i:Int) == gi c.To f with
  | false=>rfl
  | true=>
   cases gi c.To (i:Int) == gi c.aD f with
   | false=>rfl
   | true=>cases gk c.aB f (i:Int) == gi c.aH (gi c.aD f) <;> rfl
 ·intro acc
  show fK c f acc _=_
  unfold fK
  rw [dM,aX (by omega),cond_false]
theorem Rx:lO c f=some ((ns c.aD.length).filter fun r=>rf c (gi c.To f) (gi c.aD f) r && (gk c.aB r f == gi c.aH (gi c.To f))):=by
 have hm:=H.m
 have hf:=H.fr f0 f1
 have ht:=H.to f0 f1
 unfold lO
 refine (congrArg ak (tK (ns c.aD.length) (fun r=>rf c (gi c.To f) (gi c.aD f) r && (gk c.aB r f == gi c.aH (gi c.To f))) (fun acc i=>(acc,(i:Int))) rfl ?_ ?_)).trans rfl
 ·intro i a acc ha DR
  obtain ⟨rfl,hi⟩:=iH ha
  show gI c f acc i=_
  unfold gI
  have e1:=H.js (f:=(i:Int)) (by omega) (by omega)
  have e3:=H.j3 (f:=(i:Int)) (by omega) (by omega)
  have e5:=H.mm (f:=(i:Int)) (by omega) (by omega)
  have e6:=H.torG.l8 (f:=(i:Int)) (by omega) (by omega) f0 f1
  rw [av (by omega),cond_true,dK (by omega) (by omega)]
  simp only [e1,H.j3 f0 f1,e3,H.js f0 f1,e5,e6,H.p9 ht.1 ht.2,aF,bR (show i < 9223372036854775807 by omega)]
  unfold rf
  cases gi c.aD (i:Int) == gi c.To f with
  | false=>rfl
  | true=>
   cases gi c.To (i:Int) == gi c.aD f with
   | false=>rfl
   | true=>cases gk c.aB (i:Int) f == gi c.aH (gi c.To f) <;> rfl
 ·intro acc
  show gI c f acc _=_
  unfold gI
  rw [dM,aX (by omega),cond_false]
theorem Rf:∃ y,jW c f=some y∧decide (y < 0) = !(ME c f):=by
 have hm:=H.m
 unfold jW
 rw [Rw H f0 f1,aF,Rx H f0 f1,aF]
 generalize hS:((ns c.aD.length).filter fun r=>rf c (gi c.To f) (gi c.aD f) r && (gk c.aB r f == gi c.aH (gi c.To f)))=sc
 generalize hL:((ns c.aD.length).filter fun r=>rf c (gi c.To f) (gi c.aD f) r && (gk c.aB f r == gi c.aH (gi c.aD f)))=l
 have hin:∀ g∈l,0≤g∧g < c.aD.length:=fun g hg=>by rw [← hL] at hg; exact ca.1 (List.mem_filter.1 hg).1
 have Jq:l.length≤c.aD.length:=by rw [← hL]; exact Nat.le_trans (List.length_filter_le _ _) (by rw [dM]; exact Nat.le_refl _)
 have Kg:sc.length≤c.aD.length:=by rw [← hS]; exact Nat.le_trans (List.length_filter_le _ _) (by rw [dM]; exact Nat.le_refl _)
 have Hb:∀ (i:Nat) g,l[i]? = some g→iC l sc (i:Int)=bif hasB sc g then some (.ret g) else some (.norm ((i+1:Nat):Int)):=by
  intro i g hg
  have hi:=bj hg
  unfold iC
  rw [av (by omega),cond_true,bu,hg,aF,T6 _ _ (by omega),aF,aF,bR (by omega)]
 have Bb:l.any (hasB sc)=ME c f:=by
  unfold ME ivB
  rw [← hL,any_filter',Bool.eq_iff_iff,List.any_eq_true,List.any_eq_true]
  refine ⟨fun ⟨g,h1,h2⟩=>⟨g,h1,?_⟩,fun ⟨g,h1,h2⟩=>⟨g,h1,?_⟩⟩
  ·simp only [Bool.and_eq_true,yF] at h2 ⊢
   rw [← hS] at h2
   have h3:=(List.mem_filter.1 h2.2).2
   simp only [Bool.and_eq_true] at h3
   exact ⟨h2.1.1,h2.1.2,h3.2⟩
  ·simp only [Bool.and_eq_true,yF] at h2 ⊢
   refine ⟨⟨h2.1,h2.2.1⟩,?_⟩
   rw [← hS]
   exact List.mem_filter.2 ⟨h1,by simp only [Bool.and_eq_true]; exact ⟨h2.1,h2.2.2⟩⟩
 rcases yC (s0:=(0:Int)) (k:=0) (f:=fun _=>some (Out.ret (S:=Unit) (-1:Int))) l (hasB sc) (fun y:Int=>0≤y) (fun i=>(i:Int)) rfl (e:=(l.length:Int)) (body:=iC l sc)
  (fun i g hg hp=>by rw [Hb i g hg,hp]; rfl) (fun i g hg hp=>⟨g,by rw [Hb i g hg,hp]; rfl,(hin g (List.mem_of_getElem? hg)).1⟩) (by unfold iC; rw [aX (by omega),cond_false]) with ⟨h1,y,h2,h3⟩ | ⟨h1,h2⟩
 ·exact ⟨y,by rw [h2]; rfl,by rw [← Bb,h1,aX (by omega)]; rfl⟩
 ·exact ⟨-1,by rw [h2]; rfl,by rw [← Bb,h1]; rfl⟩
end
theorem SY {c:aG} (H:nm c) (x y:Int):gX c x y=some ((ns c.aD.length).filter (rf c x y)):=by
 have hm:=H.m
 unfold gX
 refine (congrArg ak (tK (ns c.aD.length) (rf c x y) (fun acc i=>(acc,(i:Int))) rfl ?_ ?_)).trans rfl
 ·intro i a acc ha DR
  obtain ⟨rfl,hi⟩:=iH ha
  show gT c x y acc i=_
  unfold gT
  have e1:=H.js (f:=(i:Int)) (by omega) (by omega)
  have e3:=H.j3 (f:=(i:Int)) (by omega) (by omega)
  rw [av (by omega),cond_true,dK (by omega) (by omega)]
  simp only [e1,e3,aF,bR (show i < 9223372036854775807 by omega)]
  unfold rf
  cases gi c.aD (i:Int) == x with
  | false=>rfl
  | true=>cases gi c.To (i:Int) == y <;> rfl
 ·intro acc
  show gT c x y acc _=_
  unfold gT
  rw [dM,aX (by omega),cond_false]
theorem GI {R:Type} {body:Bool×Int→Option (Out (Bool×Int) R)} {k:Nat} {n:Nat} (p:Int→Bool) (h:∀ i:Nat,i < n→body (true,(i:Int))=some (.norm (p i,((i+1:Nat):Int))))
  (hf:∀ i:Nat,i≤n→body (false,(i:Int))=some (.exit k (false,(i:Int)))) (last:body (true,(n:Int))=some (.exit k (true,(n:Int)))):∃ j:Int,ai body (true,(0:Int))=some (.exit k ((ns n).all p,j)):=by
 have key:∀ m i:Nat,i+m=n→(∀ a:Nat,a < i→p a=true)→∃ j:Int,ai body (true,(i:Int))=some (.exit k ((ns n).all p,j)):=by
  intro m
  induction m with
  | zero=>
   intro i hi ha
   obtain rfl:i=n:=by omega
   have:(ns i).all p=true:=List.all_eq_true.2 fun x hx=>by
    have:=ca.1 hx
    have h:=ha x.toNat (by omega)
    rwa [show ((x.toNat:Nat):Int)=x by omega] at h
   rw [this]
   exact ⟨_,ml last⟩
  | succ m ih=>
   intro i hi ha
   rw [oh,h i (by omega)]
   cases hp:p i with
   | true=>
    refine ih (i+1) (by omega) fun a h1=>?_
    rcases Nat.lt_or_ge a i with h2 | h2
    ·exact ha a h2
    ·obtain rfl:a=i:=by omega
     exact hp
   | false=>
    have:(ns n).all p=false:=by
     rw [Bool.eq_false_iff]
     intro du
     have:=List.all_eq_true.1 du (i:Int) (ca.2 ⟨by omega,by omega⟩)
     rw [hp] at this; cases this
    rw [this]
    exact ⟨_,ml (hf (i+1) (by omega))⟩
 exact key n 0 (by omega) fun a h=>by omega
def Jr (f g:aI) (x:Int) (p:List Int) (a:Int):Bool:=(gi f.aC.aD a != x && gi f.aC.To a != x) || (decide (gi p (gi f.aC.aD a) < 0) || (decide (gi p (gi f.aC.To a) < 0) || sX f g p a))
def FH (f g:aI) (x:Int) (p:List Int):Bool:=(ns f.aC.aD.length).all (Jr f g x p)
theorem CZ (n:Nat):ns (n+1)=ns n++[(n:Int)]:=by simp [ns,List.range_succ]
section
variable {f g:aI} (T:DQ f g)
include T
theorem Zv {p:List Int} (pl:(p.length:Int)=f.aC.aA) {a:Int} (a0:0≤a) (a1:a < f.aC.aD.length) (k1:0≤gi p (gi f.aC.To a)∧gi p (gi f.aC.To a) < f.aE.aD.length) (k2:0≤gi p (gi f.aC.aD a)∧gi p (gi f.aC.aD a) < f.aE.aD.length):jB f g p a=some (sX f g p a):=by
 have F:=T.F
 have kf:=F.c.fr a0 a1
 have kt:=F.c.to a0 a1
 have ka:=F.ar a0 a1
 have k3:=T.G.ar (a:=a) a0 (by rw [T.es]; exact a1)
 have e3:=T.G.wj (a:=a) a0 (by rw [T.es]; exact a1)
 rw [T.et] at k3
 unfold jB sX
 rw [F.wj a0 a1,aF,F.d.mm ka.1 ka.2,aF,F.c.j3 a0 a1,aF,cH kt.1 (by omega),aF,F.d.l8 ka.1 ka.2 k1.1 k1.2,aF,F.c.js a0 a1,aF,cH kf.1 (by omega),aF,F.d.mm k2.1 k2.2,aF,e3,aF,F.d.l8 k2.1 k2.2 k3.1 k3.2,aF]
 rfl
end
end Go.Proofs.YtgjbmjjihmfppaaGreat
namespace Go.Proofs.YtgjbmjjihmfppaaGreat
open Go Go.Li
set_option linter.unusedVariables false
set_option linter.unusedSectionVars false
set_option linter.unusedSimpArgs false
theorem Js {l m:List Int} {e:Int} (h0:0≤e) (h1:e < l.length):gi (l++m) e=gi l e:=by
 unfold gi; rw [List.getD_eq_getElem?_getD,List.getD_eq_getElem?_getD,List.getElem?_append_left (by omega)]
theorem OR {p:List Int} {k:Nat} {i:Int} (h0:(p.length:Int)≤i) (h1:i < ((p.length+k:Nat):Int)):gi (p++List.replicate k (-1)) i = -1:=by
 unfold gi
 rw [List.getD_eq_getElem?_getD,List.getElem?_append_right (by omega),List.getElem?_replicate,if_pos (by omega)]; rfl
theorem GK {f g:aI} {Cw:Int→Bool}:∀ (k:Nat) (p c:List Int),c∈ks Cw f g k p→c.length=p.length+k∧(∀ i:Int,0≤i→i < p.length→gi c i=gi p i)∧∀ i:Int,(p.length:Int)≤i→i < c.length→Cw (gi c i)=true:=by
 intro k
 induction k with
 | zero=>
  intro p c hc
  obtain rfl:c=p:=by simpa [ks] using hc
  exact ⟨rfl,fun _ _ _=>rfl,fun i h1 h2=>by omega⟩
 | succ k ih=>
  intro p c hc
  unfold ks at hc
  obtain ⟨b,hb,hc⟩:=List.mem_flatMap.1 hc
  have tD:=(List.mem_filter.1 hb).2
  unfold zp at tD
  rw [Bool.and_eq_true] at tD
  obtain ⟨h1,h2,h3⟩:=ih (p++[b]) c hc
  rw [List.length_append,List.length_singleton] at h1 h2 h3
  refine ⟨by omega,fun i i0 i1=>?_,fun i i0 i1=>?_⟩
  ·rw [h2 i i0 (by omega),Js i0 i1]
  ·by_cases e:i=(p.length:Int)
   ·rw [h2 i (by omega) (by omega),km (by omega),if_neg (by omega),if_pos e]; exact tD.1
   ·exact h3 i (by omega) i1
theorem Uf {P:Int→Bool} {x:Nat} (hx:P x=true) (h:∀ y:Nat,y < x→P y=false):∀ n:Nat,x < n→(ns n).find? P=some (x:Int):=by
 intro n
 induction n with
 | zero=>intro h; omega
 | succ n ih=>
  intro hn
  rw [CZ,List.find?_append]
  by_cases e:x < n
  ·rw [ih e]; rfl
  ·obtain rfl:x=n:=by omega
   have:(ns x).find? P=none:=List.find?_eq_none.2 fun y hy=>by
    have hy:=ca.1 hy
    have:=h y.toNat (by omega)
    rw [show ((y.toNat:Nat):Int)=y by omega] at this
    rw [this]; decide
   rw [this]
   simp [hx]
section
variable {f g:aI} {c:List Int} (hc:uD ⟨f,g,c⟩ = true)
include hc
end
section
variable {f g:aI} (T:DQ f g)
include T
theorem MH {Cw:Int→Bool} {p:List Int} {b:Int} (hp:zo f g p) (B9:b∈(ns f.aE.aD.length).filter (rf f.aE (gi f.aA p.length) (gi g.aA p.length))) (tD:zp Cw f g p b=true):zo f g (p++[b]):=by
 have:p++[b]∈ks Cw f g 1 p:=by
  unfold ks
  exact List.mem_flatMap.2 ⟨b,List.mem_filter.2 ⟨B9,tD⟩,by simp [ks]⟩
 exact (xP T _ _ _ hp this).1
end
end Go.Proofs.YtgjbmjjihmfppaaGreat
