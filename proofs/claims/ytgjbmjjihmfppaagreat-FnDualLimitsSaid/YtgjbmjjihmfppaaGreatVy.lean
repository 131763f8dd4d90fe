/- Inverses; the reference's search in depth for a natural isomorphism finds the first one of the enumeration. No condition beside those that each theorem names. -/
import Derived.Test.YtgjbmjjihmfppaaGreatVw
import Derived.Test.YtgjbmjjihmfppaaGreatYn
namespace Go.Proofs.YtgjbmjjihmfppaaGreat
open Go Go.Li
set_option linter.unusedVariables false
set_option linter.unusedSectionVars false
set_option linter.unusedSimpArgs false
def YB (c:aG) (f g:Int):Bool:=gk c.aB f g == gi c.aJ (gi c.aD f) && gk c.aB g f == gi c.aJ (gi c.To f)
def Ke (c:aG) (f:Int):Bool:=(ns c.aD.length).any fun g=>qv c (gi c.To f) (gi c.aD f) g && YB c f g
section
variable {c:aG} (H:nb c) {f:Int} (f0:0≤f) (f1:f < c.aD.length)
include H f0 f1
theorem Pt:iG c f=some ((ns c.aD.length).filter fun r=>qv c (gi c.To f) (gi c.aD f) r && (gk c.aB f r == gi c.aJ (gi c.aD f))):=by
 have hm:=H.m
 have hf:=H.fr f0 f1
 have ht:=H.to f0 f1
 unfold iG
 refine (congrArg an (si (ns c.aD.length) (fun r=>qv c (gi c.To f) (gi c.aD f) r && (gk c.aB f r == gi c.aJ (gi c.aD f))) (fun acc i=>(acc,(i:Int))) rfl ?_ ?_)).trans rfl
 ·intro i a acc ha DV
  obtain ⟨rfl,hi⟩:=iv ha
  show eK c f acc i=_
  unfold eK
  have e1:=H.jd (f:=(i:Int)) (by omega) (by omega)
  have e3:=H.jh (f:=(i:Int)) (by omega) (by omega)
  have e6:=H.topM.ly f0 f1 (g:=(i:Int)) (by omega) (by omega)
  rw [ay (by omega),cond_true,cV (by omega) (by omega)]
  simp only [e1,H.jh f0 f1,e3,H.jd f0 f1,H.mh f0 f1,e6,H.pg hf.1 hf.2,aF,bH (show i < 9223372036854775807 by omega)]
  unfold qv
  cases gi c.aD (i:Int) == gi c.To f with
  | false=>rfl
  | true=>
   cases gi c.To (i:Int) == gi c.aD f with
   | false=>rfl
   | true=>cases gk c.aB f (i:Int) == gi c.aJ (gi c.aD f) <;> rfl
 ·intro acc
  show eK c f acc _=_
  unfold eK
  rw [cQ,bm (by omega),cond_false]
theorem Pu:jS c f=some ((ns c.aD.length).filter fun r=>qv c (gi c.To f) (gi c.aD f) r && (gk c.aB r f == gi c.aJ (gi c.To f))):=by
 have hm:=H.m
 have hf:=H.fr f0 f1
 have ht:=H.to f0 f1
 unfold jS
 refine (congrArg an (si (ns c.aD.length) (fun r=>qv c (gi c.To f) (gi c.aD f) r && (gk c.aB r f == gi c.aJ (gi c.To f))) (fun acc i=>(acc,(i:Int))) rfl ?_ ?_)).trans rfl
 ·intro i a acc ha DV
  obtain ⟨rfl,hi⟩:=iv ha
  show fG c f acc i=_
  unfold fG
  have e1:=H.jd (f:=(i:Int)) (by omega) (by omega)
  have e3:=H.jh (f:=(i:Int)) (by omega) (by omega)
  have e5:=H.mh (f:=(i:Int)) (by omega) (by omega)
  have e6:=H.topM.ly (f:=(i:Int)) (by omega) (by omega) f0 f1
  rw [ay (by omega),cond_true,cV (by omega) (by omega)]
  simp only [e1,H.jh f0 f1,e3,H.jd f0 f1,e5,e6,H.pg ht.1 ht.2,aF,bH (show i < 9223372036854775807 by omega)]
  unfold qv
  cases gi c.aD (i:Int) == gi c.To f with
  | false=>rfl
  | true=>
   cases gi c.To (i:Int) == gi c.aD f with
   | false=>rfl
   | true=>cases gk c.aB (i:Int) f == gi c.aJ (gi c.To f) <;> rfl
 ·intro acc
  show fG c f acc _=_
  unfold fG
  rw [cQ,bm (by omega),cond_false]
theorem Pc:∃ y,iN c f=some y∧decide (y < 0) = !(Ke c f):=by
 have hm:=H.m
 unfold iN
 rw [Pt H f0 f1,aF,Pu H f0 f1,aF]
 generalize hS:((ns c.aD.length).filter fun r=>qv c (gi c.To f) (gi c.aD f) r && (gk c.aB r f == gi c.aJ (gi c.To f)))=sc
 generalize hL:((ns c.aD.length).filter fun r=>qv c (gi c.To f) (gi c.aD f) r && (gk c.aB f r == gi c.aJ (gi c.aD f)))=l
 have VT:∀ g∈l,0≤g∧g < c.aD.length:=fun g hg=>by rw [← hL] at hg; exact bu.1 (List.mem_filter.1 hg).1
 have He:l.length≤c.aD.length:=by rw [← hL]; exact Nat.le_trans (List.length_filter_le _ _) (by rw [cQ]; exact Nat.le_refl _)
 have D7:sc.length≤c.aD.length:=by rw [← hS]; exact Nat.le_trans (List.length_filter_le _ _) (by rw [cQ]; exact Nat.le_refl _)
 have Fb:∀ (i:Nat) g,l[i]? = some g→gB l sc (i:Int)=bif hasB sc g then some (.ret g) else some (.norm ((i+1:Nat):Int)):=by
  intro i g hg
  have hi:=ca hg
  unfold gB
  rw [ay (by omega),cond_true,dw,hg,aF,RU _ _ (by omega),aF,aF,bH (by omega)]
 have zN:l.any (hasB sc)=Ke c f:=by
  unfold Ke YB
  rw [← hL,any_filter',Bool.eq_iff_iff,List.any_eq_true,List.any_eq_true]
  refine ⟨fun ⟨g,h1,h2⟩=>⟨g,h1,?_⟩,fun ⟨g,h1,h2⟩=>⟨g,h1,?_⟩⟩
  ·simp only [Bool.and_eq_true,xj] at h2 ⊢
   rw [← hS] at h2
   have h3:=(List.mem_filter.1 h2.2).2
   simp only [Bool.and_eq_true] at h3
   exact ⟨h2.1.1,h2.1.2,h3.2⟩
  ·simp only [Bool.and_eq_true,xj] at h2 ⊢
   refine ⟨⟨h2.1,h2.2.1⟩,?_⟩
   rw [← hS]
   exact List.mem_filter.2 ⟨h1,by simp only [Bool.and_eq_true]; exact ⟨h2.1,h2.2.2⟩⟩
 rcases xg (s0:=(0:Int)) (k:=0) (f:=fun _=>some (Out.ret (S:=Unit) (-1:Int))) l (hasB sc) (fun y:Int=>0≤y) (fun i=>(i:Int)) rfl (e:=(l.length:Int)) (body:=gB l sc)
  (fun i g hg hp=>by rw [Fb i g hg,hp]; rfl) (fun i g hg hp=>⟨g,by rw [Fb i g hg,hp]; rfl,(VT g (List.mem_of_getElem? hg)).1⟩) (by unfold gB; rw [bm (by omega),cond_false]) with ⟨h1,y,h2,h3⟩ | ⟨h1,h2⟩
 ·exact ⟨y,by rw [h2]; rfl,by rw [← zN,h1,bm (by omega)]; rfl⟩
 ·exact ⟨-1,by rw [h2]; rfl,by rw [← zN,h1]; rfl⟩
end
theorem QM {c:aG} (H:nb c) (x y:Int):fW c x y=some ((ns c.aD.length).filter (qv c x y)):=by
 have hm:=H.m
 unfold fW
 refine (congrArg an (si (ns c.aD.length) (qv c x y) (fun acc i=>(acc,(i:Int))) rfl ?_ ?_)).trans rfl
 ·intro i a acc ha DV
  obtain ⟨rfl,hi⟩:=iv ha
  show fR c x y acc i=_
  unfold fR
  have e1:=H.jd (f:=(i:Int)) (by omega) (by omega)
  have e3:=H.jh (f:=(i:Int)) (by omega) (by omega)
  rw [ay (by omega),cond_true,cV (by omega) (by omega)]
  simp only [e1,e3,aF,bH (show i < 9223372036854775807 by omega)]
  unfold qv
  cases gi c.aD (i:Int) == x with
  | false=>rfl
  | true=>cases gi c.To (i:Int) == y <;> rfl
 ·intro acc
  show fR c x y acc _=_
  unfold fR
  rw [cQ,bm (by omega),cond_false]
theorem EG {R:Type} {body:Bool×Int→Option (Out (Bool×Int) R)} {k:Nat} {n:Nat} (p:Int→Bool) (h:∀ i:Nat,i < n→body (true,(i:Int))=some (.norm (p i,((i+1:Nat):Int))))
  (hf:∀ i:Nat,i≤n→body (false,(i:Int))=some (.exit k (false,(i:Int)))) (last:body (true,(n:Int))=some (.exit k (true,(n:Int)))):∃ j:Int,ah body (true,(0:Int))=some (.exit k ((ns n).all p,j)):=by
 have key:∀ m i:Nat,i+m=n→(∀ a:Nat,a < i→p a=true)→∃ j:Int,ah body (true,(i:Int))=some (.exit k ((ns n).all p,j)):=by
  intro m
  induction m with
  | zero=>
   intro i hi ha
   obtain rfl:i=n:=by omega
   have:(ns i).all p=true:=List.all_eq_true.2 fun x hx=>by
    have:=bu.1 hx
    have h:=ha x.toNat (by omega)
    rwa [show ((x.toNat:Nat):Int)=x by omega] at h
   rw [this]
   exact ⟨_,mb last⟩
  | succ m ih=>
   intro i hi ha
   rw [oh,h i (by omega)]
   cases hp:p i with
   | true=>
    refine ih (i+1) (by omega) fun a h1=>?_
    rcases Nat.lt_or_ge a i with h2 | h2
    ·exact ha a h2
    ·obtain rfl:a=i:=by omega
     exact hp
   | false=>
    have:(ns n).all p=false:=by
     rw [Bool.eq_false_iff]
     intro ew
     have:=List.all_eq_true.1 ew (i:Int) (bu.2 ⟨by omega,by omega⟩)
     rw [hp] at this; cases this
    rw [this]
    exact ⟨_,mb (hf (i+1) (by omega))⟩
 exact key n 0 (by omega) fun a h=>by omega
def Hf (f g:aN) (x:Int) (p:List Int) (a:Int):Bool:=(gi f.aH.aD a != x && gi f.aH.To a != x) || (decide (gi p (gi f.aH.aD a) < 0) || (decide (gi p (gi f.aH.To a) < 0) || rR f g p a))
def DU (f g:aN) (x:Int) (p:List Int):Bool:=(ns f.aH.aD.length).all (Hf f g x p)
theorem BC (n:Nat):ns (n+1)=ns n++[(n:Int)]:=by simp [ns,List.range_succ]
section
variable {f g:aN} (T:Ck f g)
include T
theorem Xr {p:List Int} (pl:(p.length:Int)=f.aH.aA) {a:Int} (a0:0≤a) (a1:a < f.aH.aD.length) (k1:0≤gi p (gi f.aH.To a)∧gi p (gi f.aH.To a) < f.aI.aD.length) (k2:0≤gi p (gi f.aH.aD a)∧gi p (gi f.aH.aD a) < f.aI.aD.length):gR f g p a=some (rR f g p a):=by
 have F:=T.F
 have kf:=F.c.fr a0 a1
 have kt:=F.c.to a0 a1
 have ka:=F.ar a0 a1
 have k3:=T.G.ar (a:=a) a0 (by rw [T.es]; exact a1)
 have e3:=T.G.uj (a:=a) a0 (by rw [T.es]; exact a1)
 rw [T.et] at k3
 unfold gR rR
 rw [F.uj a0 a1,aF,F.d.mh ka.1 ka.2,aF,F.c.jh a0 a1,aF,bR kt.1 (by omega),aF,F.d.ly ka.1 ka.2 k1.1 k1.2,aF,F.c.jd a0 a1,aF,bR kf.1 (by omega),aF,F.d.mh k2.1 k2.2,aF,e3,aF,F.d.ly k2.1 k2.2 k3.1 k3.2,aF]
 rfl
end
end Go.Proofs.YtgjbmjjihmfppaaGreat
namespace Go.Proofs.YtgjbmjjihmfppaaGreat
open Go Go.Li
set_option linter.unusedVariables false
set_option linter.unusedSectionVars false
set_option linter.unusedSimpArgs false
theorem Hg {l m:List Int} {e:Int} (h0:0≤e) (h1:e < l.length):gi (l++m) e=gi l e:=by
 unfold gi; rw [List.getD_eq_getElem?_getD,List.getD_eq_getElem?_getD,List.getElem?_append_left (by omega)]
theorem MD {p:List Int} {k:Nat} {i:Int} (h0:(p.length:Int)≤i) (h1:i < ((p.length+k:Nat):Int)):gi (p++List.replicate k (-1)) i = -1:=by
 unfold gi
 rw [List.getD_eq_getElem?_getD,List.getElem?_append_right (by omega),List.getElem?_replicate,if_pos (by omega)]; rfl
theorem EI {f g:aN} {A7:Int→Bool}:∀ (k:Nat) (p c:List Int),c∈kn A7 f g k p→c.length=p.length+k∧(∀ i:Int,0≤i→i < p.length→gi c i=gi p i)∧∀ i:Int,(p.length:Int)≤i→i < c.length→A7 (gi c i)=true:=by
 intro k
 induction k with
 | zero=>
  intro p c hc
  obtain rfl:c=p:=by simpa [kn] using hc
  exact ⟨rfl,fun _ _ _=>rfl,fun i h1 h2=>by omega⟩
 | succ k ih=>
  intro p c hc
  unfold kn at hc
  obtain ⟨b,hb,hc⟩:=List.mem_flatMap.1 hc
  have r9:=(List.mem_filter.1 hb).2
  unfold xW at r9
  rw [Bool.and_eq_true] at r9
  obtain ⟨h1,h2,h3⟩:=ih (p++[b]) c hc
  rw [List.length_append,List.length_singleton] at h1 h2 h3
  refine ⟨by omega,fun i i0 i1=>?_,fun i i0 i1=>?_⟩
  ·rw [h2 i i0 (by omega),Hg i0 i1]
  ·by_cases e:i=(p.length:Int)
   ·rw [h2 i (by omega) (by omega),j9 (by omega),if_neg (by omega),if_pos e]; exact r9.1
   ·exact h3 i (by omega) i1
theorem R1 {P:Int→Bool} {x:Nat} (hx:P x=true) (h:∀ y:Nat,y < x→P y=false):∀ n:Nat,x < n→(ns n).find? P=some (x:Int):=by
 intro n
 induction n with
 | zero=>intro h; omega
 | succ n ih=>
  intro hn
  rw [BC,List.find?_append]
  by_cases e:x < n
  ·rw [ih e]; rfl
  ·obtain rfl:x=n:=by omega
   have:(ns x).find? P=none:=List.find?_eq_none.2 fun y hy=>by
    have hy:=bu.1 hy
    have:=h y.toNat (by omega)
    rw [show ((y.toNat:Nat):Int)=y by omega] at this
    rw [this]; decide
   rw [this]
   simp [hx]
section
variable {f g:aN} {c:List Int} (hc:s7 ⟨f,g,c⟩ = true)
include hc
end
section
variable {f g:aN} (T:Ck f g)
include T
theorem Kg {A7:Int→Bool} {p:List Int} {b:Int} (hp:xV f g p) (AM:b∈(ns f.aI.aD.length).filter (qv f.aI (gi f.aA p.length) (gi g.aA p.length))) (r9:xW A7 f g p b=true):xV f g (p++[b]):=by
 have:p++[b]∈kn A7 f g 1 p:=by
  unfold kn
  exact List.mem_flatMap.2 ⟨b,List.mem_filter.2 ⟨AM,r9⟩,by simp [kn]⟩
 exact (wg T _ _ _ hp this).1
end
end Go.Proofs.YtgjbmjjihmfppaaGreat
