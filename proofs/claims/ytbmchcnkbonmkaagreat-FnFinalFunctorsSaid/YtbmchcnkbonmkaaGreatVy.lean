/- Inverses; the reference's search in depth for a natural isomorphism finds the first one of the enumeration. No condition beside those that each theorem names. -/
import Derived.Test.YtbmchcnkbonmkaaGreatVw
import Derived.Test.YtbmchcnkbonmkaaGreatYn
namespace Go.Proofs.YtbmchcnkbonmkaaGreat
open Go Go.Li
set_option linter.unusedVariables false
set_option linter.unusedSectionVars false
set_option linter.unusedSimpArgs false
def ivB (c:aG) (f g:Int):Bool:=gk c.aB f g == gi c.aH (gi c.aC f) && gk c.aB g f == gi c.aH (gi c.To f)
def M0 (c:aG) (f:Int):Bool:=(ns c.aC.length).any fun g=>p8 c (gi c.To f) (gi c.aC f) g && ivB c f g
section
variable {c:aG} (H:mc c) {f:Int} (f0:0≤f) (f1:f < c.aC.length)
include H f0 f1
theorem R8:jP c f=some ((ns c.aC.length).filter fun r=>p8 c (gi c.To f) (gi c.aC f) r && (gk c.aB f r == gi c.aH (gi c.aC f))):=by
 have hm:=H.m
 have hf:=H.fr f0 f1
 have ht:=H.to f0 f1
 unfold jP
 refine (congrArg ak (tX (ns c.aC.length) (fun r=>p8 c (gi c.To f) (gi c.aC f) r && (gk c.aB f r == gi c.aH (gi c.aC f))) (fun acc i=>(acc,(i:Int))) rfl ?_ ?_)).trans rfl
 ·intro i a acc ha F5
  obtain ⟨rfl,hi⟩:=ij ha
  show fC c f acc i=_
  unfold fC
  have e1:=H.ji (f:=(i:Int)) (by omega) (by omega)
  have e3:=H.jj (f:=(i:Int)) (by omega) (by omega)
  have e6:=H.torF.l5 f0 f1 (g:=(i:Int)) (by omega) (by omega)
  rw [aq (by omega),cond_true,cN (by omega) (by omega)]
  simp only [e1,H.jj f0 f1,e3,H.ji f0 f1,H.mm f0 f1,e6,H.qw hf.1 hf.2,aD,bH (show i < 9223372036854775807 by omega)]
  unfold p8
  cases gi c.aC (i:Int) == gi c.To f with
  | false=>rfl
  | true=>
   cases gi c.To (i:Int) == gi c.aC f with
   | false=>rfl
   | true=>cases gk c.aB f (i:Int) == gi c.aH (gi c.aC f) <;> rfl
 ·intro acc
  show fC c f acc _=_
  unfold fC
  rw [bZ,ba (by omega),cond_false]
theorem R9:lC c f=some ((ns c.aC.length).filter fun r=>p8 c (gi c.To f) (gi c.aC f) r && (gk c.aB r f == gi c.aH (gi c.To f))):=by
 have hm:=H.m
 have hf:=H.fr f0 f1
 have ht:=H.to f0 f1
 unfold lC
 refine (congrArg ak (tX (ns c.aC.length) (fun r=>p8 c (gi c.To f) (gi c.aC f) r && (gk c.aB r f == gi c.aH (gi c.To f))) (fun acc i=>(acc,(i:Int))) rfl ?_ ?_)).trans rfl
 ·intro i a acc ha F5
  obtain ⟨rfl,hi⟩:=ij ha
  show fV c f acc i=_
  unfold fV
  have e1:=H.ji (f:=(i:Int)) (by omega) (by omega)
  have e3:=H.jj (f:=(i:Int)) (by omega) (by omega)
  have e5:=H.mm (f:=(i:Int)) (by omega) (by omega)
  have e6:=H.torF.l5 (f:=(i:Int)) (by omega) (by omega) f0 f1
  rw [aq (by omega),cond_true,cN (by omega) (by omega)]
  simp only [e1,H.jj f0 f1,e3,H.ji f0 f1,e5,e6,H.qw ht.1 ht.2,aD,bH (show i < 9223372036854775807 by omega)]
  unfold p8
  cases gi c.aC (i:Int) == gi c.To f with
  | false=>rfl
  | true=>
   cases gi c.To (i:Int) == gi c.aC f with
   | false=>rfl
   | true=>cases gk c.aB (i:Int) f == gi c.aH (gi c.To f) <;> rfl
 ·intro acc
  show fV c f acc _=_
  unfold fV
  rw [bZ,ba (by omega),cond_false]
theorem RW:∃ y,jV c f=some y∧decide (y < 0) = !(M0 c f):=by
 have hm:=H.m
 unfold jV
 rw [R8 H f0 f1,aD,R9 H f0 f1,aD]
 generalize hS:((ns c.aC.length).filter fun r=>p8 c (gi c.To f) (gi c.aC f) r && (gk c.aB r f == gi c.aH (gi c.To f)))=sc
 generalize hL:((ns c.aC.length).filter fun r=>p8 c (gi c.To f) (gi c.aC f) r && (gk c.aB f r == gi c.aH (gi c.aC f)))=l
 have E3:∀ g∈l,0≤g∧g < c.aC.length:=fun g hg=>by rw [← hL] at hg; exact bp.1 (List.mem_filter.1 hg).1
 have CF:l.length≤c.aC.length:=by rw [← hL]; exact Nat.le_trans (List.length_filter_le _ _) (by rw [bZ]; exact Nat.le_refl _)
 have Hy:sc.length≤c.aC.length:=by rw [← hS]; exact Nat.le_trans (List.length_filter_le _ _) (by rw [bZ]; exact Nat.le_refl _)
 have Hs:∀ (i:Nat) g,l[i]? = some g→gR l sc (i:Int)=bif hasB sc g then some (.ret g) else some (.norm ((i+1:Nat):Int)):=by
  intro i g hg
  have hi:=bd hg
  unfold gR
  rw [aq (by omega),cond_true,bx,hg,aD,UA _ _ (by omega),aD,aD,bH (by omega)]
 have xr:l.any (hasB sc)=M0 c f:=by
  unfold M0 ivB
  rw [← hL,any_filter',Bool.eq_iff_iff,List.any_eq_true,List.any_eq_true]
  refine ⟨fun ⟨g,h1,h2⟩=>⟨g,h1,?_⟩,fun ⟨g,h1,h2⟩=>⟨g,h1,?_⟩⟩
  ·simp only [Bool.and_eq_true,yW] at h2 ⊢
   rw [← hS] at h2
   have h3:=(List.mem_filter.1 h2.2).2
   simp only [Bool.and_eq_true] at h3
   exact ⟨h2.1.1,h2.1.2,h3.2⟩
  ·simp only [Bool.and_eq_true,yW] at h2 ⊢
   refine ⟨⟨h2.1,h2.2.1⟩,?_⟩
   rw [← hS]
   exact List.mem_filter.2 ⟨h1,by simp only [Bool.and_eq_true]; exact ⟨h2.1,h2.2.2⟩⟩
 rcases yU (s0:=(0:Int)) (k:=0) (f:=fun _=>some (Out.ret (S:=Unit) (-1:Int))) l (hasB sc) (fun y:Int=>0≤y) (fun i=>(i:Int)) rfl (e:=(l.length:Int)) (body:=gR l sc)
  (fun i g hg hp=>by rw [Hs i g hg,hp]; rfl) (fun i g hg hp=>⟨g,by rw [Hs i g hg,hp]; rfl,(E3 g (List.mem_of_getElem? hg)).1⟩) (by unfold gR; rw [ba (by omega),cond_false]) with ⟨h1,y,h2,h3⟩ | ⟨h1,h2⟩
 ·exact ⟨y,by rw [h2]; rfl,by rw [← xr,h1,ba (by omega)]; rfl⟩
 ·exact ⟨-1,by rw [h2]; rfl,by rw [← xr,h1]; rfl⟩
end
theorem E5 {c:aG} (H:mc c) (x y:Int):dX c x y=some ((ns c.aC.length).filter (p8 c x y)):=by
 have hm:=H.m
 unfold dX
 refine (congrArg ak (tX (ns c.aC.length) (p8 c x y) (fun acc i=>(acc,(i:Int))) rfl ?_ ?_)).trans rfl
 ·intro i a acc ha F5
  obtain ⟨rfl,hi⟩:=ij ha
  show gE c x y acc i=_
  unfold gE
  have e1:=H.ji (f:=(i:Int)) (by omega) (by omega)
  have e3:=H.jj (f:=(i:Int)) (by omega) (by omega)
  rw [aq (by omega),cond_true,cN (by omega) (by omega)]
  simp only [e1,e3,aD,bH (show i < 9223372036854775807 by omega)]
  unfold p8
  cases gi c.aC (i:Int) == x with
  | false=>rfl
  | true=>cases gi c.To (i:Int) == y <;> rfl
 ·intro acc
  show gE c x y acc _=_
  unfold gE
  rw [bZ,ba (by omega),cond_false]
theorem G3 {R:Type} {body:Bool×Int→Option (Out (Bool×Int) R)} {k:Nat} {n:Nat} (p:Int→Bool) (h:∀ i:Nat,i < n→body (true,(i:Int))=some (.norm (p i,((i+1:Nat):Int))))
  (hf:∀ i:Nat,i≤n→body (false,(i:Int))=some (.exit k (false,(i:Int)))) (last:body (true,(n:Int))=some (.exit k (true,(n:Int)))):∃ j:Int,af body (true,(0:Int))=some (.exit k ((ns n).all p,j)):=by
 have key:∀ m i:Nat,i+m=n→(∀ a:Nat,a < i→p a=true)→∃ j:Int,af body (true,(i:Int))=some (.exit k ((ns n).all p,j)):=by
  intro m
  induction m with
  | zero=>
   intro i hi ha
   obtain rfl:i=n:=by omega
   have:(ns i).all p=true:=List.all_eq_true.2 fun x hx=>by
    have:=bp.1 hx
    have h:=ha x.toNat (by omega)
    rwa [show ((x.toNat:Nat):Int)=x by omega] at h
   rw [this]
   exact ⟨_,mj last⟩
  | succ m ih=>
   intro i hi ha
   rw [o4,h i (by omega)]
   cases hp:p i with
   | true=>
    refine ih (i+1) (by omega) fun a h1=>?_
    rcases Nat.lt_or_ge a i with h2 | h2
    ·exact ha a h2
    ·obtain rfl:a=i:=by omega
     exact hp
   | false=>
    have:(ns n).all p=false:=by
     rw [Bool.eq_false_iff]
     intro de
     have:=List.all_eq_true.1 de (i:Int) (bp.2 ⟨by omega,by omega⟩)
     rw [hp] at this; cases this
    rw [this]
    exact ⟨_,mj (hf (i+1) (by omega))⟩
 exact key n 0 (by omega) fun a h=>by omega
def JD (f g:aJ) (x:Int) (p:List Int) (a:Int):Bool:=(gi f.aE.aC a != x && gi f.aE.To a != x) || (decide (gi p (gi f.aE.aC a) < 0) || (decide (gi p (gi f.aE.To a) < 0) || tC f g p a))
def F4 (f g:aJ) (x:Int) (p:List Int):Bool:=(ns f.aE.aC.length).all (JD f g x p)
theorem AF (n:Nat):ns (n+1)=ns n++[(n:Int)]:=by simp [ns,List.range_succ]
section
variable {f g:aJ} (T:D6 f g)
include T
theorem ZU {p:List Int} (pl:(p.length:Int)=f.aE.aA) {a:Int} (a0:0≤a) (a1:a < f.aE.aC.length) (k1:0≤gi p (gi f.aE.To a)∧gi p (gi f.aE.To a) < f.aF.aC.length) (k2:0≤gi p (gi f.aE.aC a)∧gi p (gi f.aE.aC a) < f.aF.aC.length):iP f g p a=some (tC f g p a):=by
 have F:=T.F
 have kf:=F.c.fr a0 a1
 have kt:=F.c.to a0 a1
 have ka:=F.ar a0 a1
 have k3:=T.G.ar (a:=a) a0 (by rw [T.es]; exact a1)
 have e3:=T.G.uz (a:=a) a0 (by rw [T.es]; exact a1)
 rw [T.et] at k3
 unfold iP tC
 rw [F.uz a0 a1,aD,F.d.mm ka.1 ka.2,aD,F.c.jj a0 a1,aD,bI kt.1 (by omega),aD,F.d.l5 ka.1 ka.2 k1.1 k1.2,aD,F.c.ji a0 a1,aD,bI kf.1 (by omega),aD,F.d.mm k2.1 k2.2,aD,e3,aD,F.d.l5 k2.1 k2.2 k3.1 k3.2,aD]
 rfl
end
end Go.Proofs.YtbmchcnkbonmkaaGreat
namespace Go.Proofs.YtbmchcnkbonmkaaGreat
open Go Go.Li
set_option linter.unusedVariables false
set_option linter.unusedSectionVars false
set_option linter.unusedSimpArgs false
theorem JE {l m:List Int} {e:Int} (h0:0≤e) (h1:e < l.length):gi (l++m) e=gi l e:=by
 unfold gi; rw [List.getD_eq_getElem?_getD,List.getD_eq_getElem?_getD,List.getElem?_append_left (by omega)]
theorem Ph {p:List Int} {k:Nat} {i:Int} (h0:(p.length:Int)≤i) (h1:i < ((p.length+k:Nat):Int)):gi (p++List.replicate k (-1)) i = -1:=by
 unfold gi
 rw [List.getD_eq_getElem?_getD,List.getElem?_append_right (by omega),List.getElem?_replicate,if_pos (by omega)]; rfl
theorem G5 {f g:aJ} {CL:Int→Bool}:∀ (k:Nat) (p c:List Int),c∈km CL f g k p→c.length=p.length+k∧(∀ i:Int,0≤i→i < p.length→gi c i=gi p i)∧∀ i:Int,(p.length:Int)≤i→i < c.length→CL (gi c i)=true:=by
 intro k
 induction k with
 | zero=>
  intro p c hc
  obtain rfl:c=p:=by simpa [km] using hc
  exact ⟨rfl,fun _ _ _=>rfl,fun i h1 h2=>by omega⟩
 | succ k ih=>
  intro p c hc
  unfold km at hc
  obtain ⟨b,hb,hc⟩:=List.mem_flatMap.1 hc
  have s6:=(List.mem_filter.1 hb).2
  unfold zK at s6
  rw [Bool.and_eq_true] at s6
  obtain ⟨h1,h2,h3⟩:=ih (p++[b]) c hc
  rw [List.length_append,List.length_singleton] at h1 h2 h3
  refine ⟨by omega,fun i i0 i1=>?_,fun i i0 i1=>?_⟩
  ·rw [h2 i i0 (by omega),JE i0 i1]
  ·by_cases e:i=(p.length:Int)
   ·rw [h2 i (by omega) (by omega),j7 (by omega),if_neg (by omega),if_pos e]; exact s6.1
   ·exact h3 i (by omega) i1
theorem U1 {P:Int→Bool} {x:Nat} (hx:P x=true) (h:∀ y:Nat,y < x→P y=false):∀ n:Nat,x < n→(ns n).find? P=some (x:Int):=by
 intro n
 induction n with
 | zero=>intro h; omega
 | succ n ih=>
  intro hn
  rw [AF,List.find?_append]
  by_cases e:x < n
  ·rw [ih e]; rfl
  ·obtain rfl:x=n:=by omega
   have:(ns x).find? P=none:=List.find?_eq_none.2 fun y hy=>by
    have hy:=bp.1 hy
    have:=h y.toNat (by omega)
    rw [show ((y.toNat:Nat):Int)=y by omega] at this
    rw [this]; decide
   rw [this]
   simp [hx]
section
variable {f g:aJ} {c:List Int} (hc:uT ⟨f,g,c⟩ = true)
include hc
end
section
variable {f g:aJ} (T:D6 f g)
include T
theorem M3 {CL:Int→Bool} {p:List Int} {b:Int} (hp:zJ f g p) (vE:b∈(ns f.aF.aC.length).filter (p8 f.aF (gi f.aA p.length) (gi g.aA p.length))) (s6:zK CL f g p b=true):zJ f g (p++[b]):=by
 have:p++[b]∈km CL f g 1 p:=by
  unfold km
  exact List.mem_flatMap.2 ⟨b,List.mem_filter.2 ⟨vE,s6⟩,by simp [km]⟩
 exact (xS T _ _ _ hp this).1
end
end Go.Proofs.YtbmchcnkbonmkaaGreat
