/- Inverses; the reference's search in depth for a natural isomorphism finds the first one of the enumeration. No condition beside those that each theorem names. -/
import Derived.Test.YtgjbmjjihmfppaaGreatVw
import Derived.Test.YtgjbmjjihmfppaaGreatYn
namespace Go.Proofs.YtgjbmjjihmfppaaGreat
open Go Go.Li
set_option linter.unusedVariables false
set_option linter.unusedSectionVars false
set_option linter.unusedSimpArgs false
def ivB (c:aG) (f g:Int):Bool:=gk c.aB f g == gi c.aH (gi c.aE f) && gk c.aB g f == gi c.aH (gi c.To f)
def M3 (c:aG) (f:Int):Bool:=(ns c.aE.length).any fun g=>o6 c (gi c.To f) (gi c.aE f) g && ivB c f g
section
variable {c:aG} (H:pq c) {f:Int} (f0:0≤f) (f1:f < c.aE.length)
include H f0 f1
theorem R6:jJ c f=some ((ns c.aE.length).filter fun r=>o6 c (gi c.To f) (gi c.aE f) r && (gk c.aB f r == gi c.aH (gi c.aE f))):=by
 have hm:=H.m
 have hf:=H.fr f0 f1
 have ht:=H.to f0 f1
 unfold jJ
 refine (congrArg ao (ud (ns c.aE.length) (fun r=>o6 c (gi c.To f) (gi c.aE f) r && (gk c.aB f r == gi c.aH (gi c.aE f))) (fun acc i=>(acc,(i:Int))) rfl ?_ ?_)).trans rfl
 ·intro i a acc ha Ed
  obtain ⟨rfl,hi⟩:=gu ha
  show fG c f acc i=_
  unfold fG
  have e1:=H.jx (f:=(i:Int)) (by omega) (by omega)
  have e3:=H.kz (f:=(i:Int)) (by omega) (by omega)
  have e6:=H.torQ.l8 f0 f1 (g:=(i:Int)) (by omega) (by omega)
  rw [av (by omega),cond_true,dH (by omega) (by omega)]
  simp only [e1,H.kz f0 f1,e3,H.jx f0 f1,H.mq f0 f1,e6,H.p8 hf.1 hf.2,aF,bQ (show i < 9223372036854775807 by omega)]
  unfold o6
  cases gi c.aE (i:Int) == gi c.To f with
  | false=>rfl
  | true=>
   cases gi c.To (i:Int) == gi c.aE f with
   | false=>rfl
   | true=>cases gk c.aB f (i:Int) == gi c.aH (gi c.aE f) <;> rfl
 ·intro acc
  show fG c f acc _=_
  unfold fG
  rw [dF,bc (by omega),cond_false]
theorem R7:lG c f=some ((ns c.aE.length).filter fun r=>o6 c (gi c.To f) (gi c.aE f) r && (gk c.aB r f == gi c.aH (gi c.To f))):=by
 have hm:=H.m
 have hf:=H.fr f0 f1
 have ht:=H.to f0 f1
 unfold lG
 refine (congrArg ao (ud (ns c.aE.length) (fun r=>o6 c (gi c.To f) (gi c.aE f) r && (gk c.aB r f == gi c.aH (gi c.To f))) (fun acc i=>(acc,(i:Int))) rfl ?_ ?_)).trans rfl
 ·intro i a acc ha Ed
  obtain ⟨rfl,hi⟩:=gu ha
  show gD c f acc i=_
  unfold gD
  have e1:=H.jx (f:=(i:Int)) (by omega) (by omega)
  have e3:=H.kz (f:=(i:Int)) (by omega) (by omega)
  have e5:=H.mq (f:=(i:Int)) (by omega) (by omega)
  have e6:=H.torQ.l8 (f:=(i:Int)) (by omega) (by omega) f0 f1
  rw [av (by omega),cond_true,dH (by omega) (by omega)]
  simp only [e1,H.kz f0 f1,e3,H.jx f0 f1,e5,e6,H.p8 ht.1 ht.2,aF,bQ (show i < 9223372036854775807 by omega)]
  unfold o6
  cases gi c.aE (i:Int) == gi c.To f with
  | false=>rfl
  | true=>
   cases gi c.To (i:Int) == gi c.aE f with
   | false=>rfl
   | true=>cases gk c.aB (i:Int) f == gi c.aH (gi c.To f) <;> rfl
 ·intro acc
  show gD c f acc _=_
  unfold gD
  rw [dF,bc (by omega),cond_false]
theorem RR:∃ y,jP c f=some y∧decide (y < 0) = !(M3 c f):=by
 have hm:=H.m
 unfold jP
 rw [R6 H f0 f1,aF,R7 H f0 f1,aF]
 generalize hS:((ns c.aE.length).filter fun r=>o6 c (gi c.To f) (gi c.aE f) r && (gk c.aB r f == gi c.aH (gi c.To f)))=sc
 generalize hL:((ns c.aE.length).filter fun r=>o6 c (gi c.To f) (gi c.aE f) r && (gk c.aB f r == gi c.aH (gi c.aE f)))=l
 have YJ:∀ g∈l,0≤g∧g < c.aE.length:=fun g hg=>by rw [← hL] at hg; exact bw.1 (List.mem_filter.1 hg).1
 have JJ:l.length≤c.aE.length:=by rw [← hL]; exact Nat.le_trans (List.length_filter_le _ _) (by rw [dF]; exact Nat.le_refl _)
 have KB:sc.length≤c.aE.length:=by rw [← hS]; exact Nat.le_trans (List.length_filter_le _ _) (by rw [dF]; exact Nat.le_refl _)
 have Hu:∀ (i:Nat) g,l[i]? = some g→hY l sc (i:Int)=bif hasB sc g then some (.ret g) else some (.norm ((i+1:Nat):Int)):=by
  intro i g hg
  have hi:=bg hg
  unfold hY
  rw [av (by omega),cond_true,bp,hg,aF,UA _ _ (by omega),aF,aF,bQ (by omega)]
 have BG:l.any (hasB sc)=M3 c f:=by
  unfold M3 ivB
  rw [← hL,any_filter',Bool.eq_iff_iff,List.any_eq_true,List.any_eq_true]
  refine ⟨fun ⟨g,h1,h2⟩=>⟨g,h1,?_⟩,fun ⟨g,h1,h2⟩=>⟨g,h1,?_⟩⟩
  ·simp only [Bool.and_eq_true,yZ] at h2 ⊢
   rw [← hS] at h2
   have h3:=(List.mem_filter.1 h2.2).2
   simp only [Bool.and_eq_true] at h3
   exact ⟨h2.1.1,h2.1.2,h3.2⟩
  ·simp only [Bool.and_eq_true,yZ] at h2 ⊢
   refine ⟨⟨h2.1,h2.2.1⟩,?_⟩
   rw [← hS]
   exact List.mem_filter.2 ⟨h1,by simp only [Bool.and_eq_true]; exact ⟨h2.1,h2.2.2⟩⟩
 rcases yW (s0:=(0:Int)) (k:=0) (f:=fun _=>some (Out.ret (S:=Unit) (-1:Int))) l (hasB sc) (fun y:Int=>0≤y) (fun i=>(i:Int)) rfl (e:=(l.length:Int)) (body:=hY l sc)
  (fun i g hg hp=>by rw [Hu i g hg,hp]; rfl) (fun i g hg hp=>⟨g,by rw [Hu i g hg,hp]; rfl,(YJ g (List.mem_of_getElem? hg)).1⟩) (by unfold hY; rw [bc (by omega),cond_false]) with ⟨h1,y,h2,h3⟩ | ⟨h1,h2⟩
 ·exact ⟨y,by rw [h2]; rfl,by rw [← BG,h1,bc (by omega)]; rfl⟩
 ·exact ⟨-1,by rw [h2]; rfl,by rw [← BG,h1]; rfl⟩
end
theorem Tx {c:aG} (H:pq c) (x y:Int):gS c x y=some ((ns c.aE.length).filter (o6 c x y)):=by
 have hm:=H.m
 unfold gS
 refine (congrArg ao (ud (ns c.aE.length) (o6 c x y) (fun acc i=>(acc,(i:Int))) rfl ?_ ?_)).trans rfl
 ·intro i a acc ha Ed
  obtain ⟨rfl,hi⟩:=gu ha
  show gO c x y acc i=_
  unfold gO
  have e1:=H.jx (f:=(i:Int)) (by omega) (by omega)
  have e3:=H.kz (f:=(i:Int)) (by omega) (by omega)
  rw [av (by omega),cond_true,dH (by omega) (by omega)]
  simp only [e1,e3,aF,bQ (show i < 9223372036854775807 by omega)]
  unfold o6
  cases gi c.aE (i:Int) == x with
  | false=>rfl
  | true=>cases gi c.To (i:Int) == y <;> rfl
 ·intro acc
  show gO c x y acc _=_
  unfold gO
  rw [dF,bc (by omega),cond_false]
theorem G7 {R:Type} {body:Bool×Int→Option (Out (Bool×Int) R)} {k:Nat} {n:Nat} (p:Int→Bool) (h:∀ i:Nat,i < n→body (true,(i:Int))=some (.norm (p i,((i+1:Nat):Int))))
  (hf:∀ i:Nat,i≤n→body (false,(i:Int))=some (.exit k (false,(i:Int)))) (last:body (true,(n:Int))=some (.exit k (true,(n:Int)))):∃ j:Int,aj body (true,(0:Int))=some (.exit k ((ns n).all p,j)):=by
 have key:∀ m i:Nat,i+m=n→(∀ a:Nat,a < i→p a=true)→∃ j:Int,aj body (true,(i:Int))=some (.exit k ((ns n).all p,j)):=by
  intro m
  induction m with
  | zero=>
   intro i hi ha
   obtain rfl:i=n:=by omega
   have:(ns i).all p=true:=List.all_eq_true.2 fun x hx=>by
    have:=bw.1 hx
    have h:=ha x.toNat (by omega)
    rwa [show ((x.toNat:Nat):Int)=x by omega] at h
   rw [this]
   exact ⟨_,mh last⟩
  | succ m ih=>
   intro i hi ha
   rw [n5,h i (by omega)]
   cases hp:p i with
   | true=>
    refine ih (i+1) (by omega) fun a h1=>?_
    rcases Nat.lt_or_ge a i with h2 | h2
    ·exact ha a h2
    ·obtain rfl:a=i:=by omega
     exact hp
   | false=>
    have:(ns n).all p=false:=by
     rw [Bool.eq_false_iff]
     intro dw
     have:=List.all_eq_true.1 dw (i:Int) (bw.2 ⟨by omega,by omega⟩)
     rw [hp] at this; cases this
    rw [this]
    exact ⟨_,mh (hf (i+1) (by omega))⟩
 exact key n 0 (by omega) fun a h=>by omega
def JK (f g:aI) (x:Int) (p:List Int) (a:Int):Bool:=(gi f.aC.aE a != x && gi f.aC.To a != x) || (decide (gi p (gi f.aC.aE a) < 0) || (decide (gi p (gi f.aC.To a) < 0) || tb f g p a))
def Gf (f g:aI) (x:Int) (p:List Int):Bool:=(ns f.aC.aE.length).all (JK f g x p)
theorem Dp (n:Nat):ns (n+1)=ns n++[(n:Int)]:=by simp [ns,List.range_succ]
section
variable {f g:aI} (T:CK f g)
include T
theorem Z8 {p:List Int} (pl:(p.length:Int)=f.aC.aA) {a:Int} (a0:0≤a) (a1:a < f.aC.aE.length) (k1:0≤gi p (gi f.aC.To a)∧gi p (gi f.aC.To a) < f.aD.aE.length) (k2:0≤gi p (gi f.aC.aE a)∧gi p (gi f.aC.aE a) < f.aD.aE.length):iU f g p a=some (tb f g p a):=by
 have F:=T.F
 have kf:=F.c.fr a0 a1
 have kt:=F.c.to a0 a1
 have ka:=F.ar a0 a1
 have k3:=T.G.ar (a:=a) a0 (by rw [T.es]; exact a1)
 have e3:=T.G.wQ (a:=a) a0 (by rw [T.es]; exact a1)
 rw [T.et] at k3
 unfold iU tb
 rw [F.wQ a0 a1,aF,F.d.mq ka.1 ka.2,aF,F.c.kz a0 a1,aF,cH kt.1 (by omega),aF,F.d.l8 ka.1 ka.2 k1.1 k1.2,aF,F.c.jx a0 a1,aF,cH kf.1 (by omega),aF,F.d.mq k2.1 k2.2,aF,e3,aF,F.d.l8 k2.1 k2.2 k3.1 k3.2,aF]
 rfl
end
end Go.Proofs.YtgjbmjjihmfppaaGreat
namespace Go.Proofs.YtgjbmjjihmfppaaGreat
open Go Go.Li
set_option linter.unusedVariables false
set_option linter.unusedSectionVars false
set_option linter.unusedSimpArgs false
theorem JL {l m:List Int} {e:Int} (h0:0≤e) (h1:e < l.length):gi (l++m) e=gi l e:=by
 unfold gi; rw [List.getD_eq_getElem?_getD,List.getD_eq_getElem?_getD,List.getElem?_append_left (by omega)]
theorem Ph {p:List Int} {k:Nat} {i:Int} (h0:(p.length:Int)≤i) (h1:i < ((p.length+k:Nat):Int)):gi (p++List.replicate k (-1)) i = -1:=by
 unfold gi
 rw [List.getD_eq_getElem?_getD,List.getElem?_append_right (by omega),List.getElem?_replicate,if_pos (by omega)]; rfl
theorem zK {f g:aI} {CW:Int→Bool}:∀ (k:Nat) (p c:List Int),c∈iz CW f g k p→c.length=p.length+k∧(∀ i:Int,0≤i→i < p.length→gi c i=gi p i)∧∀ i:Int,(p.length:Int)≤i→i < c.length→CW (gi c i)=true:=by
 intro k
 induction k with
 | zero=>
  intro p c hc
  obtain rfl:c=p:=by simpa [iz] using hc
  exact ⟨rfl,fun _ _ _=>rfl,fun i h1 h2=>by omega⟩
 | succ k ih=>
  intro p c hc
  unfold iz at hc
  obtain ⟨b,hb,hc⟩:=List.mem_flatMap.1 hc
  have tU:=(List.mem_filter.1 hb).2
  unfold xS at tU
  rw [Bool.and_eq_true] at tU
  obtain ⟨h1,h2,h3⟩:=ih (p++[b]) c hc
  rw [List.length_append,List.length_singleton] at h1 h2 h3
  refine ⟨by omega,fun i i0 i1=>?_,fun i i0 i1=>?_⟩
  ·rw [h2 i i0 (by omega),JL i0 i1]
  ·by_cases e:i=(p.length:Int)
   ·rw [h2 i (by omega) (by omega),jf (by omega),if_neg (by omega),if_pos e]; exact tU.1
   ·exact h3 i (by omega) i1
theorem UU {P:Int→Bool} {x:Nat} (hx:P x=true) (h:∀ y:Nat,y < x→P y=false):∀ n:Nat,x < n→(ns n).find? P=some (x:Int):=by
 intro n
 induction n with
 | zero=>intro h; omega
 | succ n ih=>
  intro hn
  rw [Dp,List.find?_append]
  by_cases e:x < n
  ·rw [ih e]; rfl
  ·obtain rfl:x=n:=by omega
   have:(ns x).find? P=none:=List.find?_eq_none.2 fun y hy=>by
    have hy:=bw.1 hy
    have:=h y.toNat (by omega)
    rw [show ((y.toNat:Nat):Int)=y by omega] at this
    rw [this]; decide
   rw [this]
   simp [hx]
section
variable {f g:aI} {c:List Int} (hc:uU ⟨f,g,c⟩ = true)
include hc
end
section
variable {f g:aI} (T:CK f g)
include T
theorem M5 {CW:Int→Bool} {p:List Int} {b:Int} (hp:ye f g p) (Cw:b∈(ns f.aD.aE.length).filter (o6 f.aD (gi f.aA p.length) (gi g.aA p.length))) (tU:xS CW f g p b=true):ye f g (p++[b]):=by
 have:p++[b]∈iz CW f g 1 p:=by
  unfold iz
  exact List.mem_flatMap.2 ⟨b,List.mem_filter.2 ⟨Cw,tU⟩,by simp [iz]⟩
 exact (yg T _ _ _ hp this).1
end
end Go.Proofs.YtgjbmjjihmfppaaGreat
