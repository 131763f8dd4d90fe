/- Monads, as both sides test them: one test. No condition beside those that each theorem names. -/
import Derived.Test.YtcnehblmgfbfoaaGreatTn
set_option linter.unusedVariables false
set_option linter.unusedSectionVars false
set_option linter.unusedSimpArgs false
namespace Go.Proofs.YtcnehblmgfbfoaaGreat
open Go Go.Li
set_option linter.unusedVariables false
set_option linter.unusedSectionVars false
set_option linter.unusedSimpArgs false
theorem NK {c:aJ} (H:gj c) (x y:Int):fT c x y=some ((ns c.aH.length).filter (xz c x y)):=by
 have hm:=H.m
 unfold fT
 refine (congrArg an (sW (ns c.aH.length) (xz c x y) (fun acc i=>(acc,(i:Int))) rfl ?_ ?_)).trans rfl
 ·intro i a acc ha r9
  obtain ⟨rfl,hi⟩:=cj ha
  show fW c x y acc i=_
  unfold fW
  have e1:=H.fx (f:=(i:Int)) (by omega) (by omega)
  have e3:=H.gw (f:=(i:Int)) (by omega) (by omega)
  rw [ao (by omega),cond_true,eB (by omega) (by omega)]
  simp only [e1,e3,aB,bR (show i < 9223372036854775807 by omega)]
  unfold xz
  cases gi c.aH (i:Int) == x with
  | false=>rfl
  | true=>cases gi c.To (i:Int) == y <;> rfl
 ·intro acc
  show fW c x y acc _=_
  unfold fW
  rw [cJ,av (by omega),cond_false]
theorem Bq {c:aJ} (C:gj c) {x f:Int} (h:ch c x x f):eJ c f=some (gi c.aI x == f):=by
 have k:=yf C h
 unfold eJ
 rw [C.fx h.1.1 h.1.2,aB,h.2.1,C.lg k.1 k.2,aB]; rfl
theorem pZ {c:aJ} (C:gj c) {x y z u v:Int} (h:ch c x y u) (h':ch c y z v):dF c u v=some (gk c.aG u v):=C.thenS h.1.1 h.1.2 h'.1.1 h'.1.2
theorem tZ {c:aJ} (C:gj c) {x y z u v:Int} (h:ch c x y u) (h':ch c y z v):cP c u v=some (gk c.aG u v):=C.kj h.1.1 h.1.2 h'.1.1 h'.1.2
section
variable {m:cK} (M:Mon0 m)
include M
theorem Ie {x:Int} (x0:0≤x) (x1:x < m.On.aA.aE):idx m.Unit x=some (gi m.Unit x):=dE x0 (by have:=M.muL; omega)
theorem Ig {x:Int} (x0:0≤x) (x1:x < m.On.aA.aE):idx m.cb x=some (gi m.cb x):=dE x0 (by have:=M.mjL; omega)
theorem Ab {x:Int} (x0:0≤x) (x1:x < m.On.aA.aE):idx m.On.aE x=some (oM m x):=(bw M.fb).qo x0 x1
theorem yJ {x y u:Int} (h:ch m.On.aA x y u):idx m.On.ab u=some (aM m u):=(bw M.fb).lj h.1.1 h.1.2
theorem MJ:oO m.On m.Unit m.cb=some (DZ m):=by
 have C:=M.mc
 have o0:=C.o0
 have o8:=C.o8
 unfold oO DZ
 rw [ke (n:=m.On.aA.aE.toNat) (D0 m) (y:=false) (fun i bo=>?_) (by unfold oN; rw [av (by omega),cond_false])]
 ·cases (ns m.On.aA.aE.toNat).any (D0 m) <;> rfl
 ·have x0:(0:Int)≤(i:Int):=by omega
  have x1:(i:Int) < m.On.aA.aE:=by omega
  have hu:=M.N9 x0 x1
  have hj:=M.Oa x0 x1
  have ho:=M.mob x0 x1
  have tu:=M.Ac hu
  have tj:=M.Ac hj
  have V6:=M.N9 ho.1 ho.2
  have jy:=M.Oa ho.1 ho.2
  have c1:ch m.On.aA (oM m i) (oM m i) (gk m.On.aA.aG (aM m (gi m.Unit i)) (gi m.cb i)):=M.NL tu hj
  have c2:ch m.On.aA (oM m i) (oM m i) (gk m.On.aA.aG (gi m.Unit (oM m i)) (gi m.cb i)):=M.NL V6 hj
  unfold oN D0 kM
  rw [ao x1,cond_true,Ab M x0 x1,aB,Ie M x0 x1,aB,yJ M hu,aB,Ig M x0 x1,aB,pZ C tu hj,aB,Bq C c1,aB,Ie M ho.1 ho.2,aB,aB,pZ C V6 hj,aB,Bq C c2,aB,aB,yJ M hj,aB,aB,pZ C tj hj,aB,Ig M ho.1 ho.2,aB,aB,pZ C jy hj,aB,wq,wq,bR (by omega)]
  cases gk m.On.aA.aG (aM m (gi m.Unit i)) (gi m.cb i) != gi m.On.aA.aI (oM m i) <;> cases gk m.On.aA.aG (gi m.Unit (oM m i)) (gi m.cb i) != gi m.On.aA.aI (oM m i) <;> rfl
end
section
variable {m:cK} (hs:Ak m)
include hs
theorem Kg (F:xH m.On):se (D1 m):=⟨yr F.c,hs.l,hs.u⟩
theorem Kh (F:xH m.On):se (B0 m):=⟨qX hs.l hs.l,hs.l,hs.j⟩
theorem Jk:pJ m=some (DY m):=by
 unfold pJ DY
 rw [yt hs.l,aB]
 cases h1:dk m.On with
 | false=>rfl
 | true=>
  have F:=bw h1
  simp only [Bool.not_true,cond_false,Bool.true_and]
  rw [vB hs.l.s,aB,aB]
  cases h3:jv m.On.aA m.On.aF with
  | false=>rfl
  | true=>
   have e:=ib.1 h3
   have g1:=Br F.c
   have t1:=uz h1 h1 e.symm
   have n1:eD (vj m.On.aA) m.On m.Unit=some (dx (D1 m)):=vk (t:=D1 m) (Kg hs F) g1 h1 rfl e.symm
   have n2:eD (mb m.On m.On) m.On m.cb=some (dx (B0 m)):=vk (t:=B0 m) (Kh hs F) t1 h1 rfl rfl
   have tw:oA m.On=some (mb m.On m.On):=by
    unfold oA
    rw [u9 F.toFHead F.toFHead e.symm hs.l hs.l,aB]; rfl
   simp only [Bool.not_true,cond_false,Bool.true_and,Bt F.c,aB,n1]
   cases h4:dx (D1 m) with
   | false=>rfl
   | true=>
    simp only [Bool.not_true,cond_false,Bool.true_and,tw,aB,n2]
    cases h5:dx (B0 m) with
    | false=>rfl
    | true=>
     simp only [Bool.not_true,cond_false,Bool.true_and,MJ ⟨h1,e,h4,h5⟩,aB]
     rfl
end
end Go.Proofs.YtcnehblmgfbfoaaGreat
namespace Go.Proofs.YtcnehblmgfbfoaaGreat
open Go Go.Li
set_option linter.unusedVariables false
set_option linter.unusedSectionVars false
set_option linter.unusedSimpArgs false
theorem zv {α β:Type} {F:α→List β} {b:Nat}:∀ {l:List α},(∀ x∈l,(F x).length≤b)→(l.flatMap F).length≤l.length * b:=by
 intro l
 induction l with
 | nil=>intro _; simp
 | cons a l ih=>
  intro h
  have h1:=h a (by simp)
  have h2:=ih fun x hx=>h x (by simp [hx])
  rw [List.flatMap_cons,List.length_append,List.length_cons,Nat.add_mul,Nat.one_mul]
  omega
theorem rA {β:Type} (n:Nat) (F:Int→List β):(ns (n+1)).flatMap F=(ns n).flatMap F++F n:=by
 rw [zH,List.flatMap_append]; simp
theorem wT {α β:Type} {F:α→List β}:∀ {l:List α},l.Nodup→(∀ x∈l,(F x).Nodup)→(∀ x∈l,∀ y∈l,∀ z,z∈F x→z∈F y→x=y)→(l.flatMap F).Nodup:=by
 intro l
 induction l with
 | nil=>intro _ _ _; simp
 | cons a l ih=>
  intro hn h1 h2
  rw [List.nodup_cons] at hn
  rw [List.flatMap_cons,List.nodup_append]
  refine ⟨h1 a (by simp),ih hn.2 (fun x hx=>h1 x (by simp [hx])) fun x hx y hy=>h2 x (by simp [hx]) y (by simp [hy]),?_⟩
  intro z hz w hw e
  subst e
  obtain ⟨y,hy,hyz⟩:=List.mem_flatMap.1 hw
  have:=h2 a (by simp) y (by simp [hy]) z hz hyz
  rw [this] at hn
  exact hn.1 hy
theorem yb (n:Nat):(ns n).Nodup:=by
 have:=r8 (n:=n) (p:=fun _=>true)
 rwa [List.filter_eq_self.2 fun _ _=>rfl] at this
section
variable {m:cK} (M:Mon0 m)
include M
end
end Go.Proofs.YtcnehblmgfbfoaaGreat
