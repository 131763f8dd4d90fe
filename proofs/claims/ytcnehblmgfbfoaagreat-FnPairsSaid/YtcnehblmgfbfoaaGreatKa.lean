/- Products of categories are categories, and the program reckons them as the reference does. No condition beside those that each theorem names. -/
import Derived.Test.YtcnehblmgfbfoaaGreatYt
import Derived.Test.YtcnehblmgfbfoaaGreatYn
import Derived.Test.YtcnehblmgfbfoaaGreatTn
import Derived.Test.YtcnehblmgfbfoaaGreatYk
set_option linter.unusedVariables false
set_option linter.unusedSectionVars false
set_option linter.unusedSimpArgs false
namespace Go.Proofs.YtcnehblmgfbfoaaGreat
open Go Go.Li
section
variable {c d:aD}
theorem x8 {a b:Int} (a0:0≤a) (a1:a < c.aB.length) (b0:0≤b) (b1:b < d.aB.length):gi (bn c d).aB (a * d.aB.length+b)=gi c.aB a * d.aA+gi d.aB b:=oK a0 a1 b0 b1
theorem x9 {a b:Int} (a0:0≤a) (a1:a < c.aB.length) (b0:0≤b) (b1:b < d.aB.length):gi (bn c d).To (a * d.aB.length+b)=gi c.To a * d.aA+gi d.To b:=oK a0 a1 b0 b1
theorem Fq {a b:Int} (a0:0≤a) (a1:a < c.aA) (b0:0≤b) (b1:b < d.aA):gi (bn c d).aF (a * d.aA+b)=gi c.aF a * d.aB.length+gi d.aF b:=by
 have:=oK (n:=c.aA.toNat) (m:=d.aA.toNat) (g:=fun x y=>gi c.aF x * d.aB.length+gi d.aF y) a0 (by omega) b0 (by omega)
 rwa [show ((d.aA.toNat:Nat):Int)=d.aA by omega] at this
theorem XE {a b f g:Int} (a0:0≤a) (a1:a < c.aB.length) (b0:0≤b) (b1:b < d.aB.length) (f0:0≤f) (f1:f < c.aB.length) (g0:0≤g) (g1:g < d.aB.length):gk (bn c d).aC (a * d.aB.length+b) (f * d.aB.length+g)=kp c d a b f g:=by
 show gi (gr _ _) _=_
 rw [show gr (bn c d).aC _=_ from Hz a0 a1 b0 b1,oK f0 f1 g0 g1]
theorem Ku:(bn c d).aB.length=c.aB.length * d.aB.length:=dk _ _ _
theorem qT:((bn c d).aB.length:Int)=(c.aB.length:Int) * d.aB.length:=by rw [Ku,Int.natCast_mul]
theorem wW (C:Ty c) (D:Ty d) {a b f g:Int} (a0:0≤a) (a1:a < c.aB.length) (b0:0≤b) (b1:b < d.aB.length) (f0:0≤f) (f1:f < c.aB.length) (g0:0≤g) (g1:g < d.aB.length) (e1:gi c.To a=gi c.aB f) (e2:gi d.To b=gi d.aB g) :
  gk (bn c d).aC (a * d.aB.length+b) (f * d.aB.length+g)=gk c.aC a f * d.aB.length+gk d.aC b g:=by
 rw [XE a0 a1 b0 b1 f0 f1 g0 g1]
 unfold kp
 rw [if_pos ⟨(C.cell a f a0 a1 f0 f1 e1).1.1,(D.cell b g b0 b1 g0 g1 e2).1.1⟩]
theorem ig {k:Int} (k0:0≤k) (k1:k < (bn c d).aB.length):∃ a b:Int,(0≤a∧a < c.aB.length)∧(0≤b∧b < d.aB.length)∧k=a * d.aB.length+b:=by
 rw [Ku] at k1
 exact o3 k0 k1
theorem tT (C:Ty c) (D:Ty d) {k:Int} (k0:0≤k) (k1:k < c.aA * d.aA):∃ a b:Int,(0≤a∧a < c.aA)∧(0≤b∧b < d.aA)∧k=a * d.aA+b:=by
 have c0:=C.o0
 have d0:=D.o0
 have zn:((c.aA.toNat * d.aA.toNat:Nat):Int)=c.aA * d.aA:=by
  rw [Int.natCast_mul,Int.toNat_of_nonneg c0,Int.toNat_of_nonneg d0]
 obtain ⟨a,b,ha,hb,e⟩:=o3 (n:=c.aA.toNat) (m:=d.aA.toNat) k0 (by omega)
 rw [show ((d.aA.toNat:Nat):Int)=d.aA by omega] at e
 exact ⟨a,b,⟨ha.1,by omega⟩,⟨hb.1,by omega⟩,e⟩
theorem Ft (C:gu c) (D:gu d) (ho:c.aA * d.aA≤8) (hm:(c.aB.length:Int) * d.aB.length≤40):gu (bn c d):=by
 have T:=(bx C).t
 have U:=(bx D).t
 have P:=Fu T U
 have lf:=qT (c:=c) (d:=d)
 refine { o0:=P.o0,o8:=ho,m:=by omega,f:=P.f,tl:=P.tl,t:=P.t,kl:=P.kl,il:=P.il,i:=P.i,qK:=P.qK,rz:=P.rz,row:=fun f f0 f1=>P.row f0 f1,cell:=fun f g f0 f1 g0 g1 e=>?_,none:=P.none,uI:=fun k k0 k1=>?_,uJ:=fun k k0 k1=>?_,assoc:=fun p q r p0 p1 q0 q1 r0 r1 e1 e2=>?_ }
 ·have:=P.cell f g f0 f1 g0 g1 e
  exact ⟨this.1.1,this.1.2,this.2.1,this.2.2⟩
 ·obtain ⟨a,b,ha,hb,rfl⟩:=ig k0 k1
  have h1:=T.fr ha.1 ha.2
  have h2:=U.fr hb.1 hb.2
  have i1:=T.id h1.1 h1.2
  have i2:=U.id h2.1 h2.2
  rw [x8 ha.1 ha.2 hb.1 hb.2,Fq h1.1 h1.2 h2.1 h2.2,wW T U i1.1 i1.2 i2.1 i2.2 ha.1 ha.2 hb.1 hb.2 (T.rz _ h1.1 h1.2) (U.rz _ h2.1 h2.2),C.uI a ha.1 ha.2,D.uI b hb.1 hb.2]
 ·obtain ⟨a,b,ha,hb,rfl⟩:=ig k0 k1
  have h1:=T.to ha.1 ha.2
  have h2:=U.to hb.1 hb.2
  have i1:=T.id h1.1 h1.2
  have i2:=U.id h2.1 h2.2
  rw [x9 ha.1 ha.2 hb.1 hb.2,Fq h1.1 h1.2 h2.1 h2.2,wW T U ha.1 ha.2 hb.1 hb.2 i1.1 i1.2 i2.1 i2.2 (T.qK _ h1.1 h1.2).symm (U.qK _ h2.1 h2.2).symm,C.uJ a ha.1 ha.2,D.uJ b hb.1 hb.2]
 ·obtain ⟨a,b,ha,hb,rfl⟩:=ig p0 p1
  obtain ⟨f,g,hf,hg,rfl⟩:=ig q0 q1
  obtain ⟨s,t,hs,ht,rfl⟩:=ig r0 r1
  rw [x9 ha.1 ha.2 hb.1 hb.2,x8 hf.1 hf.2 hg.1 hg.2] at e1
  rw [x9 hf.1 hf.2 hg.1 hg.2,x8 hs.1 hs.2 ht.1 ht.2] at e2
  have y1:=U.to hb.1 hb.2
  have y2:=U.fr hg.1 hg.2
  have y3:=U.to hg.1 hg.2
  have y4:=U.fr ht.1 ht.2
  obtain ⟨u1,v1⟩:=rL y1.1 y1.2 y2.1 y2.2 e1
  obtain ⟨u2,v2⟩:=rL y3.1 y3.2 y4.1 y4.2 e2
  have c1:=T.cell a f ha.1 ha.2 hf.1 hf.2 u1
  have c2:=T.cell f s hf.1 hf.2 hs.1 hs.2 u2
  have d1:=U.cell b g hb.1 hb.2 hg.1 hg.2 v1
  have d2:=U.cell g t hg.1 hg.2 ht.1 ht.2 v2
  rw [wW T U ha.1 ha.2 hb.1 hb.2 hf.1 hf.2 hg.1 hg.2 u1 v1,wW T U hf.1 hf.2 hg.1 hg.2 hs.1 hs.2 ht.1 ht.2 u2 v2,
   wW T U c1.1.1 c1.1.2 d1.1.1 d1.1.2 hs.1 hs.2 ht.1 ht.2 (c1.2.2.trans u2) (d1.2.2.trans v2),wW T U ha.1 ha.2 hb.1 hb.2 c2.1.1 c2.1.2 d2.1.1 d2.1.2 (u1.trans c2.2.1.symm) (v1.trans d2.2.1.symm),
   C.assoc a f s ha.1 ha.2 hf.1 hf.2 hs.1 hs.2 u1 u2,D.assoc b g t hb.1 hb.2 hg.1 hg.2 ht.1 ht.2 v1 v2]
def jo (c:aD):Bool:=decide (c.aA≤8) && decide ((c.aB.length:Int)≤40)
theorem Fv (c:aD):cI c=some (jo c):=by
 unfold cI jo
 by_cases h:c.aA≤8
 ·rw [au h,cond_true,aE]; simp; rfl
 ·rw [ba h,cond_false,aE]; simp; rfl
def Fw:aD:=aD.mk 0 [] [] [] []
theorem p6 {a b m:Int} (b0:0≤b) (b1:b < m):(a * m+b) / m=a∧(a * m+b) % m=b:=by
 have h1:(a * m+b) / m=a:=by
  rw [Int.add_comm,Int.add_mul_ediv_right _ _ (by omega),Int.ediv_eq_zero_of_lt b0 b1,Int.zero_add]
 refine ⟨h1,?_⟩
 rw [Int.add_comm,Int.add_mul_emod_self_right,Int.emod_eq_of_lt b0 b1]
theorem Kv {c:aD} (T:Ty c) {G:Int→Int→Int} (h:∀ p q:Int,0≤p→p < c.aB.length→0≤q→q < c.aB.length→gi c.To p=gi c.aB q→gk c.aC p q=G p q):qx c G=c.aC:=by
 refine R8 (by unfold qx; rw [aW,T.kl]) fun p p0 p1=>?_
 rw [T.kl] at p1
 rw [show gr (qx c G) p=bj c.aB.length fun h=>ya c G p h from uV p0 p1]
 refine tU (by rw [aW,T.row p0 p1]) fun q q0 q1=>?_
 rw [T.row p0 p1] at q1
 rw [ei q0 q1]
 unfold ya
 by_cases e:gi c.To p=gi c.aB q
 ·rw [pI e,cond_true]; exact (h p q p0 p1 q0 q1 e).symm
 ·rw [rM e,cond_false]; exact (T.none p q p0 p1 q0 q1 e).symm
theorem Mz {a m:Int} (a0:0≤a) (m0:0 < m) (hs:a < 4611686018427387904):pO .quo .i64 a m=some (a / m):=by
 have h1:a.tdiv m=a / m:=Int.tdiv_eq_ediv_of_nonneg a0
 have h2:a / m≤a:=Int.ediv_le_self m a0
 have h3:0≤a / m:=Int.ediv_nonneg a0 (by omega)
 have h:pO .quo .i64 a m=some (ai (a.tdiv m)):=if_neg (by omega)
 rw [h,h1,bX (by omega) (by omega)]
theorem MA {a m:Int} (a0:0≤a) (m0:0 < m):pO .rem .i64 a m=some (a % m):=by
 have h:pO .rem .i64 a m=some (a.tmod m):=if_neg (by omega)
 rw [h,Int.tmod_eq_emod_of_nonneg a0]
theorem AN (C:gu c) (D:gu d):jH c d=some (bif jo (bn c d) then (bn c d,true) else (Fw,false)):=by
 have T:=(bx C).t
 have U:=(bx D).t
 have c0:=C.o0
 have d0:=D.o0
 have c8:=C.o8
 have d8:=D.o8
 have cm:=C.m
 have dm:=D.m
 have lf:=qT (c:=c) (d:=d)
 have b1:0≤c.aA * d.aA∧c.aA * d.aA≤8 * 8:=vp c0 c8 d0 d8
 have b2:0≤(c.aB.length:Int) * d.aB.length∧(c.aB.length:Int) * d.aB.length≤40 * 40:=vp (by omega) (by omega) (by omega) (by omega)
 have ar:∀ e:aD,bB e=some (e.aB.length:Int):=fun _=>rfl
 unfold jH
 rw [ar,aE,ar,aE,bX (by omega) (by omega),bX (by omega) (by omega)]
 have tk:jo (bn c d)=(decide (c.aA * d.aA≤8) && decide ((c.aB.length:Int) * d.aB.length≤40)):=by
  unfold jo; rw [lf]; rfl
 rw [tk]
 by_cases h1:c.aA * d.aA > 8
 ·rw [au h1,cond_true,aE,cond_true,ba (show ¬ c.aA * d.aA≤8 by omega)]; rfl
 rw [ba h1,cond_false,aE,au (show c.aA * d.aA≤8 by omega),Bool.true_and]
 by_cases h2:(c.aB.length:Int) * d.aB.length > 40
 ·rw [au h2,cond_true,ba (show ¬ (c.aB.length:Int) * d.aB.length≤40 by omega)]; rfl
 rw [ba h2,cond_false,au (show (c.aB.length:Int) * d.aB.length≤40 by omega),cond_true]
 have B6:∀ {x y n m:Int},0≤x→x≤40→0≤y→y≤40→0≤m→m≤40→ai (ai (x * m)+y)=x * m+y:=by
  intro x y n m x0 x1 y0 y1 m0 m1
  have:=vp (b:=40) x0 x1 m0 m1
  rw [bX (a:=x * m) (by omega) (by omega),bX (by omega) (by omega)]
 refine (congrArg an (sf (β:=Int×Int) c.aB.length d.aB.length (fun a b=>(gi c.aB a * d.aA+gi d.aB b,gi c.To a * d.aA+gi d.To b)) [] (fun acc i=>((i:Int),acc.map (·.1),acc.map (·.2))) rfl ?_ ?_)).trans ?_
 ·intro i acc hi ha
  show gO c d i (acc.map (·.1)) (acc.map (·.2))=_
  unfold gO
  rw [au (by omega:(i:Int) < (c.aB.length:Int)),cond_true]
  refine (np (β:=Int×Int) d.aB.length (fun b=>(gi c.aB i * d.aA+gi d.aB b,gi c.To i * d.aA+gi d.To b)) acc (fun acc j=>((j:Int),acc.map (·.1),acc.map (·.2))) rfl ?_ ?_).trans ?_
  ·intro j ll hj R9
   show gP c d i j (ll.map (·.1)) (ll.map (·.2))=_
   unfold gP
   have hl:ll.length≤1640:=by
    have:i * d.aB.length≤40 * 40:=Nat.mul_le_mul (by omega) dm
    simp only [List.length_nil] at ha
    omega
   have f1:=T.fr (f:=(i:Int)) (by omega) (by omega)
   have f2:=U.fr (f:=(j:Int)) (by omega) (by omega)
   have t1:=T.to (f:=(i:Int)) (by omega) (by omega)
   have t2:=U.to (f:=(j:Int)) (by omega) (by omega)
   rw [au (by omega:(j:Int) < (d.aB.length:Int)),cond_true,T.j5 (by omega) (by omega),aE,U.j5 (by omega) (by omega),aE,cB (by rw [List.length_map]; omega) (by rw [List.length_map]; omega),aE,T.ke (by omega) (by omega),aE,U.ke (by omega) (by omega),aE,cB (by rw [List.length_map]; omega) (by rw [List.length_map]; omega),aE,bD (by omega),B6 (n:=0) f1.1 (by omega) f2.1 (by omega) d0 (by omega),B6 (n:=0) t1.1 (by omega) t2.1 (by omega) d0 (by omega),List.map_append,List.map_append]
   rfl
  ·intro ll _
   show gP c d i _ (ll.map (·.1)) (ll.map (·.2))=_
   unfold gP
   rw [ba (by omega),cond_false]
  ·dsimp only
   rw [bD (by omega)]
 ·intro acc _
  show gO c d _ (acc.map (·.1)) (acc.map (·.2))=_
  unfold gO
  rw [ba (by omega),cond_false]
 dsimp only
 rw [List.nil_append,show List.map (fun x:Int×Int=>x.1) (iy c.aB.length d.aB.length fun a b=>(gi c.aB a * d.aA+gi d.aB b,gi c.To a * d.aA+gi d.To b))=iy c.aB.length d.aB.length fun a b=>gi c.aB a * d.aA+gi d.aB b from rN _ _ _ _,show List.map (fun x:Int×Int=>x.2) (iy c.aB.length d.aB.length fun a b=>(gi c.aB a * d.aA+gi d.aB b,gi c.To a * d.aA+gi d.To b))=iy c.aB.length d.aB.length fun a b=>gi c.To a * d.aA+gi d.To b from rN _ _ _ _]
 have OL:c.aF.length=c.aA.toNat:=by have:=C.il; omega
 have Sa:d.aF.length=d.aA.toNat:=by have:=D.il; omega
 refine (congrArg an (sf (β:=Int) c.aA.toNat d.aA.toNat (fun x y=>gi c.aF x * d.aB.length+gi d.aF y) [] (fun acc i=>((i:Int),acc)) rfl ?_ ?_)).trans ?_
 ·intro i acc hi ha
  show gQ c d (d.aB.length:Int) i acc=_
  unfold gQ
  rw [OL,au (by omega:(i:Int) < ((c.aA.toNat:Nat):Int)),cond_true,T.l6 (by omega) (by omega),aE]
  refine (np (β:=Int) d.aA.toNat (fun y=>gi c.aF i * d.aB.length+gi d.aF y) acc (fun acc j=>((j:Int),acc)) rfl ?_ ?_).trans ?_
  ·intro j ll hj R9
   show gR d (d.aB.length:Int) (gi c.aF i) j ll=_
   unfold gR
   have hl:ll.length≤100:=by
    have:i * d.aA.toNat≤8 * 8:=Nat.mul_le_mul (by omega) (by omega)
    simp only [List.length_nil] at ha
    omega
   have e1:=T.id (x:=(i:Int)) (by omega) (by omega)
   have e2:=U.id (x:=(j:Int)) (by omega) (by omega)
   rw [Sa,au (by omega:(j:Int) < ((d.aA.toNat:Nat):Int)),cond_true,U.l6 (by omega) (by omega),aE,cB (by omega) (by omega),aE,bD (by omega),B6 (n:=0) e1.1 (by omega) e2.1 (by omega) (by omega) (by omega)]
  ·intro ll _
   show gR d _ _ _ ll=_
   unfold gR
   rw [Sa,ba (by omega),cond_false]
  ·dsimp only
   rw [bD (by omega)]
 ·intro acc _
  show gQ c d _ _ acc=_
  unfold gQ
  rw [OL,ba (by omega),cond_false]
 dsimp only
 rw [List.nil_append]
 have hl:(iy c.aB.length d.aB.length fun a b=>gi c.aB a * d.aA+gi d.aB b).length=c.aB.length * d.aB.length:=dk _ _ _
 rw [DD (c:=aD.mk (c.aA * d.aA) (iy c.aB.length d.aB.length fun a b=>gi c.aB a * d.aA+gi d.aB b) (iy c.aB.length d.aB.length fun a b=>gi c.To a * d.aA+gi d.To b) (iy c.aA.toNat d.aA.toNat fun x y=>gi c.aF x * d.aB.length+gi d.aF y) []) (g:=fun a0 a1=>iC a0 a1 c (d.aB.length:Int) d) (G:=fun p q=>gk c.aC (p / d.aB.length) (q / d.aB.length) * d.aB.length+gk d.aC (p % d.aB.length) (q % d.aB.length)) (by show (iy _ _ _).length≤_; rw [hl]; omega) ((dk _ _ _).trans (dk _ _ _).symm) (fun p q p0 p1 q0 q1 e=>?_)]
 ·rw [aE]
  have hk:qx (bn c d) (fun p q=>gk c.aC (p / d.aB.length) (q / d.aB.length) * d.aB.length+gk d.aC (p % d.aB.length) (q % d.aB.length))=(bn c d).aC:=by
   refine Kv (Fu T U) fun p q p0 p1 q0 q1 e=>?_
   obtain ⟨a,b,ha,hb,rfl⟩:=ig p0 p1
   obtain ⟨f,g,hf,hg,rfl⟩:=ig q0 q1
   rw [x9 ha.1 ha.2 hb.1 hb.2,x8 hf.1 hf.2 hg.1 hg.2] at e
   have y1:=U.to hb.1 hb.2
   have y2:=U.fr hg.1 hg.2
   obtain ⟨u1,v1⟩:=rL y1.1 y1.2 y2.1 y2.2 e
   rw [wW T U ha.1 ha.2 hb.1 hb.2 hf.1 hf.2 hg.1 hg.2 u1 v1,(p6 (a:=a) hb.1 hb.2).1,(p6 (a:=a) hb.1 hb.2).2,(p6 (a:=f) hg.1 hg.2).1,(p6 (a:=f) hg.1 hg.2).2]
  exact congrArg (fun K=>some (aD.mk (bn c d).aA (bn c d).aB (bn c d).To (bn c d).aF K,true)) hk
 ·dsimp only at p1 q1 e ⊢
  rw [hl] at p1 q1
  obtain ⟨a,b,ha,hb,rfl⟩:=o3 p0 p1
  obtain ⟨f,g,hf,hg,rfl⟩:=o3 q0 q1
  rw [oK ha.1 ha.2 hb.1 hb.2,oK hf.1 hf.2 hg.1 hg.2] at e
  have y1:=U.to hb.1 hb.2
  have y2:=U.fr hg.1 hg.2
  obtain ⟨u1,v1⟩:=rL y1.1 y1.2 y2.1 y2.2 e
  have k1:=T.cell a f ha.1 ha.2 hf.1 hf.2 u1
  have k2:=U.cell b g hb.1 hb.2 hg.1 hg.2 v1
  have q1:=gx ha.1 ha.2 hb.1 hb.2
  have q2:=gx hf.1 hf.2 hg.1 hg.2
  unfold iC
  rw [Mz q1.1 (by omega) (by omega),aE,Mz q2.1 (by omega) (by omega),aE,(p6 (a:=a) hb.1 hb.2).1,(p6 (a:=f) hg.1 hg.2).1,C.pg ha.1 ha.2 hf.1 hf.2,aE,MA q1.1 (by omega),aE,MA q2.1 (by omega),aE,(p6 (a:=a) hb.1 hb.2).2,(p6 (a:=f) hg.1 hg.2).2,D.pg hb.1 hb.2 hg.1 hg.2,aE,B6 (n:=0) k1.1.1 (by omega) k2.1.1 (by omega) (by omega) (by omega)]
  rfl
end
end Go.Proofs.YtcnehblmgfbfoaaGreat
set_option linter.unusedVariables false
set_option linter.unusedSectionVars false
set_option linter.unusedSimpArgs false
namespace Go.Proofs.YtcnehblmgfbfoaaGreat
open Go Go.Li
section
variable {c d:aD} (T:Ty c) (U:Ty d)
include T U
theorem vq {y:Int} (y0:0≤y) (y1:y < c.aA):gi (ay c d).aF y=gi c.aF y:=by
 have:=T.il
 show gi (_++_) y=_; rw [iT y0,if_pos (by omega)]
theorem B7 {y:Int} (y0:0≤y) (y1:y < d.aA):gi (ay c d).aF (c.aA+y)=c.aB.length+gi d.aF y:=by
 have qL:=T.il
 have HA:=T.o0
 show gi (_++_) _=_; rw [iT (by omega),if_neg (by omega),show c.aA+y - c.aF.length=y by omega,ei y0 (by omega)]; omega
theorem tV {p q:Int} (p0:0≤p) (p1:p < d.aB.length) (q0:0≤q) (q1:q < d.aB.length) (e:gi d.To p=gi d.aB q):gk (ay c d).aC (c.aB.length+p) (c.aB.length+q)=c.aB.length+gk d.aC p q:=by
 rw [Af T U p0 p1 q0 q1]
 unfold DE
 rw [if_pos (U.cell p q p0 p1 q0 q1 e).1.1]; omega
theorem uW {p q:Int} (p0:0≤p) (p1:p < (ay c d).aB.length) (q0:0≤q) (q1:q < (ay c d).aB.length) (e:gi (ay c d).To p=gi (ay c d).aB q) :
  (p < c.aB.length∧q < c.aB.length∧gi c.To p=gi c.aB q)∨∃ a b:Int,p=c.aB.length+a∧q=c.aB.length+b∧(0≤a∧a < d.aB.length)∧(0≤b∧b < d.aB.length)∧gi d.To a=gi d.aB b:=by
 rcases nq T U p0 p1 with hp | ⟨a,rfl,a0,a1⟩
 ·rcases nq T U q0 q1 with hq | ⟨b,rfl,b0,b1⟩
  ·rw [p7 T U p0 hp,nr T U q0 hq] at e
   exact .inl ⟨hp,hq,e⟩
  ·rw [p7 T U p0 hp,rA T U b0 b1] at e
   have:=T.to p0 hp
   have:=U.fr b0 b1
   omega
 ·rcases nq T U q0 q1 with hq | ⟨b,rfl,b0,b1⟩
  ·rw [qo T U a0 a1,nr T U q0 hq] at e
   have:=U.to a0 a1
   have:=T.fr q0 hq
   omega
  ·rw [qo T U a0 a1,rA T U b0 b1] at e
   exact .inr ⟨a,b,rfl,rfl,⟨a0,a1⟩,⟨b0,b1⟩,by omega⟩
end
section
variable {c d:aD}
theorem PL (C:gu c) (D:gu d) (ho:c.aA+d.aA≤8) (hm:c.aB.length+d.aB.length≤40):gu (ay c d):=by
 have T:=(bx C).t
 have U:=(bx D).t
 have P:=sM T U
 have lf:=nj T U
 refine { o0:=P.o0,o8:=ho,m:=by omega,f:=P.f,tl:=P.tl,t:=P.t,kl:=P.kl,il:=P.il,i:=P.i,qK:=P.qK,rz:=P.rz,row:=fun f f0 f1=>P.row f0 f1,cell:=fun f g f0 f1 g0 g1 e=>?_,none:=P.none,uI:=fun k k0 k1=>?_,uJ:=fun k k0 k1=>?_,assoc:=fun p q r p0 p1 q0 q1 r0 r1 e1 e2=>?_ }
 ·have:=P.cell f g f0 f1 g0 g1 e
  exact ⟨this.1.1,this.1.2,this.2.1,this.2.2⟩
 ·rcases nq T U k0 k1 with h | ⟨a,rfl,a0,a1⟩
  ·have h1:=T.fr k0 h
   have i1:=T.id h1.1 h1.2
   rw [nr T U k0 h,vq T U h1.1 h1.2,mc T U i1.1 i1.2 k0 h,C.uI k k0 h]
  ·have h1:=U.fr a0 a1
   have i1:=U.id h1.1 h1.2
   rw [rA T U a0 a1,Int.add_comm (gi d.aB a),B7 T U h1.1 h1.2,tV T U i1.1 i1.2 a0 a1 (U.rz _ h1.1 h1.2),D.uI a a0 a1]
 ·rcases nq T U k0 k1 with h | ⟨a,rfl,a0,a1⟩
  ·have h1:=T.to k0 h
   have i1:=T.id h1.1 h1.2
   rw [p7 T U k0 h,vq T U h1.1 h1.2,mc T U k0 h i1.1 i1.2,C.uJ k k0 h]
  ·have h1:=U.to a0 a1
   have i1:=U.id h1.1 h1.2
   rw [qo T U a0 a1,Int.add_comm (gi d.To a),B7 T U h1.1 h1.2,tV T U a0 a1 i1.1 i1.2 (U.qK _ h1.1 h1.2).symm,D.uJ a a0 a1]
 ·rcases uW T U p0 p1 q0 q1 e1 with ⟨hp,hq,u1⟩ | ⟨a,b,rfl,rfl,ha,hb,u1⟩
  ·rcases uW T U q0 q1 r0 r1 e2 with ⟨_,hr,u2⟩ | ⟨a,b,rfl,rfl,ha,hb,u2⟩
   ·have k1:=T.cell p q p0 hp q0 hq u1
    have k2:=T.cell q r q0 hq r0 hr u2
    rw [mc T U p0 hp q0 hq,mc T U q0 hq r0 hr,mc T U k1.1.1 k1.1.2 r0 hr,mc T U p0 hp k2.1.1 k2.1.2,C.assoc p q r p0 hp q0 hq r0 hr u1 u2]
   ·omega
  ·rcases uW T U q0 q1 r0 r1 e2 with ⟨hq,hr,u2⟩ | ⟨b',s,eb,rfl,bz,hs,u2⟩
   ·omega
   ·obtain rfl:b=b':=by omega
    have k1:=U.cell a b ha.1 ha.2 hb.1 hb.2 u1
    have k2:=U.cell b s hb.1 hb.2 hs.1 hs.2 u2
    rw [tV T U ha.1 ha.2 hb.1 hb.2 u1,tV T U hb.1 hb.2 hs.1 hs.2 u2,tV T U k1.1.1 k1.1.2 hs.1 hs.2 (k1.2.2.trans u2),tV T U ha.1 ha.2 k2.1.1 k2.1.2 (u1.trans k2.2.1.symm),D.assoc a b s ha.1 ha.2 hb.1 hb.2 hs.1 hs.2 u1 u2]
theorem wx {β:Type} (g:Int→β):bj 0 g=[]:=rfl
theorem Kw (C:gu c) (D:gu d):mZ c d false=some (bif jo (ay c d) then (ay c d,true) else (Fw,false)):=by
 have T:=(bx C).t
 have U:=(bx D).t
 have c0:=C.o0
 have d0:=D.o0
 have c8:=C.o8
 have d8:=D.o8
 have cm:=C.m
 have dm:=D.m
 have lf:=nj T U
 have cl:=C.tl
 have OL:=C.il
 have Sa:=D.il
 have ar:∀ e:aD,bB e=some (e.aB.length:Int):=fun _=>rfl
 unfold mZ
 rw [ar,aE,sN _ (by omega),aE,sN _ (by omega),aE,sN _ (by omega),aE]
 refine (congrArg an (jj (ns d.aB.length) (fun i=>((i:Int),c.aB++bj i (fun f=>gi d.aB f+c.aA),c.To++bj i (fun f=>gi d.To f+c.aA))) (by rw [wx,wx,List.append_nil,List.append_nil]; rfl) (fun i x hx=>?_) (e:=((d.aB.length:Int),c.aB++bj d.aB.length (fun f=>gi d.aB f+c.aA),c.To++bj d.aB.length (fun f=>gi d.To f+c.aA))) ?_)).trans ?_
 ·obtain ⟨rfl,hi⟩:=fl hx
  show iW c d i _ _=_
  unfold iW
  have f1:=U.fr (f:=(i:Int)) (by omega) (by omega)
  have t1:=U.to (f:=(i:Int)) (by omega) (by omega)
  rw [au (by omega:(i:Int) < (d.aB.length:Int)),cond_true,U.j5 (by omega) (by omega),aE,cB (by rw [List.length_append,aW]; omega) (by rw [List.length_append,aW]; omega),aE,U.ke (by omega) (by omega),aE,cB (by rw [List.length_append,aW]; omega) (by rw [List.length_append,aW]; omega),aE,bD (by omega),bX (by omega) (by omega),bX (by omega) (by omega),ib,ib,List.append_assoc,List.append_assoc,Int.add_comm c.aA,Int.add_comm c.aA]
 ·rw [cA]
  show iW c d _ _ _=_
  unfold iW
  rw [ba (by omega),cond_false]
 dsimp only
 refine (congrArg an (jj (ns d.aF.length) (fun i=>((i:Int),c.aF++bj i (fun y=>gi d.aF y+c.aB.length))) (by rw [wx,List.append_nil]; rfl) (fun i x hx=>?_) (e:=((d.aF.length:Int),c.aF++bj d.aF.length (fun y=>gi d.aF y+c.aB.length))) ?_)).trans ?_
 ·obtain ⟨rfl,hi⟩:=fl hx
  show iX d (c.aB.length:Int) i _=_
  unfold iX
  have i1:=U.id (x:=(i:Int)) (by omega) (by omega)
  rw [au (by omega:(i:Int) < (d.aF.length:Int)),cond_true,U.l6 (by omega) (by omega),aE,cB (by rw [List.length_append,aW]; omega) (by rw [List.length_append,aW]; omega),aE,bD (by omega),bX (by omega) (by omega),ib,List.append_assoc,Int.add_comm (c.aB.length:Int)]
 ·rw [cA]
  show iX d _ _ _=_
  unfold iX
  rw [ba (by omega),cond_false]
 dsimp only
 have hl:(c.aB++bj d.aB.length (fun f=>gi d.aB f+c.aA)).length=c.aB.length+d.aB.length:=lf
 rw [ar,aE,cond_false,bX (by omega) (by omega)]
 dsimp only
 rw [hl]
 have tk:jo (ay c d)=(decide (c.aA+d.aA≤8) && decide (((c.aB.length+d.aB.length:Nat):Int)≤40)):=by
  unfold jo; rw [lf]; rfl
 rw [tk]
 by_cases h1:c.aA+d.aA > 8
 ·rw [au h1,cond_true,aE,cond_true,ba (show ¬ c.aA+d.aA≤8 by omega)]; rfl
 rw [ba h1,cond_false,aE,aE,au (show c.aA+d.aA≤8 by omega),Bool.true_and]
 by_cases h2:((c.aB.length+d.aB.length:Nat):Int) > 40
 ·rw [au h2,cond_true,ba (show ¬ ((c.aB.length+d.aB.length:Nat):Int)≤40 by omega)]; rfl
 rw [ba h2,cond_false,au (show ((c.aB.length+d.aB.length:Nat):Int)≤40 by omega),cond_true]
 have edo:d.aF.length=d.aA.toNat:=by omega
 rw [edo]
 rw [DD (c:=aD.mk (c.aA+d.aA) (c.aB++bj d.aB.length (fun f=>gi d.aB f+c.aA)) (c.To++bj d.aB.length (fun f=>gi d.To f+c.aA)) (c.aF++bj d.aA.toNat (fun y=>gi d.aF y+c.aB.length)) []) (G:=fun p q=>if p < c.aB.length then gk c.aC p q else c.aB.length+gk d.aC (p - c.aB.length) (q - c.aB.length)) (by show (_++_:List Int).length≤_; rw [hl]; omega) (sM T U).tl (fun p q p0 p1 q0 q1 e=>?_)]
 ·rw [aE]
  refine congrArg (fun K=>some (aD.mk (c.aA+d.aA) _ _ _ K,true)) ?_
  show qx (ay c d) _=(ay c d).aC
  refine Kv (sM T U) fun p q p0 p1 q0 q1 e=>?_
  rcases uW T U p0 p1 q0 q1 e with ⟨hp,hq,u1⟩ | ⟨a,b,rfl,rfl,ha,hb,u1⟩
  ·rw [mc T U p0 hp q0 hq,if_pos hp]
  ·rw [tV T U ha.1 ha.2 hb.1 hb.2 u1,if_neg (by omega),show (c.aB.length:Int)+a - c.aB.length=a by omega,show (c.aB.length:Int)+b - c.aB.length=b by omega]
 ·unfold jI
  rcases uW T U (p:=p) (q:=q) p0 p1 q0 q1 e with ⟨hp,hq,u1⟩ | ⟨a,b,rfl,rfl,ha,hb,u1⟩
  ·rw [au hp,cond_true,aE,au hq,cond_true,C.pg p0 hp q0 hq,aE,if_pos hp]; rfl
  ·have k1:=U.cell a b ha.1 ha.2 hb.1 hb.2 u1
   rw [ba (by omega),cond_false,aE,cond_false,if_neg (by omega)]
   unfold dG
   rw [au (show (c.aB.length:Int)+a ≥ c.aB.length by omega),cond_true,aE,bX (a:=((c.aB.length+d.aB.length:Nat):Int) - 1) (by omega) (by omega),au (show (c.aB.length:Int)+a≤((c.aB.length+d.aB.length:Nat):Int) - 1 by omega)]
   rw [show an (S:=Unit) (some (Out.ret true))=some true from rfl,aE,cond_true,bX (a:=(c.aB.length:Int)+a - c.aB.length) (by omega) (by omega),bX (a:=(c.aB.length:Int)+b - c.aB.length) (by omega) (by omega),show (c.aB.length:Int)+a - c.aB.length=a by omega,show (c.aB.length:Int)+b - c.aB.length=b by omega,D.pg ha.1 ha.2 hb.1 hb.2,aE,bX (by omega) (by omega)]
   rfl
end
end Go.Proofs.YtcnehblmgfbfoaaGreat
set_option linter.unusedVariables false
set_option linter.unusedSectionVars false
set_option linter.unusedSimpArgs false
namespace Go.Proofs.YtcnehblmgfbfoaaGreat
open Go Go.Li
def iu (n:Nat):List Int:=bj n fun i=>i
theorem cp (n:Nat):(iu n).length=n:=aW _ _
theorem Fx {n i:Nat} (h:i < n):(iu n)[i]? = some (i:Int):=ja (fun i=>i) h
theorem Ag {n i:Nat} (h:i < n):idx (iu n) (i:Int)=some (i:Int):=by rw [bw,Fx h]
theorem l7 {n:Nat} {i:Int} (h0:0≤i) (h1:i < n):gi (iu n) i=i:=ei h0 h1
theorem wy (l:List Int):bj l.length (gi l)=l:=tU (aW _ _) fun x x0 x1=>ei x0 x1
theorem MB {n:Nat} (hn:n≤100000):mN (n:Int)=some (iu n):=by
 unfold mN
 refine (congrArg an (np n (fun i=>i) [] (fun acc i=>(acc,(i:Int))) rfl ?_ ?_)).trans ?_
 ·intro i acc hi hl
  show iD n acc i=_
  unfold iD
  rw [List.length_nil] at hl
  rw [au (by omega),cond_true,cB (by omega) (by omega),aE,bD (by omega)]
 ·intro acc hl
  show iD n acc _=_
  unfold iD
  rw [ba (by omega),cond_false]
 ·rfl
theorem zr {α:Type} {l r:List α} {n:Nat} (h:l.length=n):(l++r).take n=l:=by subst h; exact List.take_left
section
variable {c d:aD} (C:gu c) (D:gu d)
include C D
theorem DF:eM (ay c d) (iu c.aB.length)=some (List.replicate c.aB.length true++List.replicate d.aB.length false):=by
 have T:=(bx C).t
 have U:=(bx D).t
 have lf:=nj T U
 have cm:=C.m
 have dm:=D.m
 have hr:(List.replicate c.aB.length true++List.replicate d.aB.length false).length=c.aB.length+d.aB.length:=by rw [List.length_append,List.length_replicate,List.length_replicate]
 unfold eM
 rw [show bB (ay c d)=some ((ay c d).aB.length:Int) from rfl,aE,lf,uK (by omega) (by omega),aE]
 refine (congrArg an (jj (iu c.aB.length) (fun i=>((i:Int),(List.replicate c.aB.length true++List.replicate d.aB.length false).take i++List.replicate ((List.replicate c.aB.length true++List.replicate d.aB.length false).length - i) false)) (by rw [hr]; simp) (fun i x hx=>?_) (e:=((c.aB.length:Int),List.replicate c.aB.length true++List.replicate d.aB.length false)) ?_)).trans ?_
 ·have hi:=bg hx
  rw [cp] at hi
  have hv:(List.replicate c.aB.length true++List.replicate d.aB.length false)[i]? = some true:=by rw [List.getElem?_append_left (by rw [List.length_replicate]; exact hi),List.getElem?_replicate,if_pos hi]
  show dH _ (i:Int) _=_
  unfold dH
  rw [cp,au (by omega),cond_true,Ag hi,aE,bw,get_copy _ _ hv,aE,Int.toNat_natCast,rO _ _ hv,bD (by omega)]
 ·rw [cp]
  show dH _ _ _=_
  unfold dH
  rw [cp,ba (by omega),cond_false,zr (List.length_replicate ..),hr,show c.aB.length+d.aB.length - c.aB.length=d.aB.length by omega]
 ·rfl
theorem IP:kN (iu c.aB.length)=some true:=by
 have cm:=C.m
 have h:Ok (kN (iu c.aB.length)) fun b=>b=true:=by
  unfold kN
  refine km (ol (fun s:Int=>1≤s∧s≤1+c.aB.length) (fun s=>(1+c.aB.length - s).toNat) ⟨by omega,by omega⟩ ?_)
  rintro s ⟨s0,s1⟩
  show Ok (mH _ s) _
  unfold mH
  rw [cp]
  refine od (fun hs=>?_) fun _=>os ⟨rfl,os rfl⟩
  rw [bX (a:=s - 1) (by omega) (by omega),bV (by omega) (by rw [cp]; omega),aE,bV (by omega) (by rw [cp]; omega),aE,l7 (by omega) (by omega),l7 (by omega) (by omega)]
  refine od (fun h=>?_) fun _=>os ⟨⟨?_,?_⟩,?_⟩
  ·omega
  all_goals rw [bX (by omega) (by omega)]
  all_goals (try dsimp only)
  all_goals omega
 obtain ⟨b,hb,rfl⟩:=h
 exact hb
theorem yb {f:Int} (f0:0≤f) (f1:f < (ay c d).aB.length):idx (List.replicate c.aB.length true++List.replicate d.aB.length false) f=some (decide (f < c.aB.length)):=by
 have T:=(bx C).t
 have U:=(bx D).t
 have lf:=nj T U
 obtain ⟨n,rfl⟩ : ∃ n:Nat,f=n:=⟨f.toNat,by omega⟩
 rw [bw]
 by_cases h:n < c.aB.length
 ·rw [List.getElem?_append_left (by rw [List.length_replicate]; exact h),List.getElem?_replicate,if_pos h,show decide ((n:Int) < c.aB.length)=true from decide_eq_true (by omega)]
 ·rw [List.getElem?_append_right (by rw [List.length_replicate]; omega),List.getElem?_replicate,List.length_replicate,if_pos (by omega),show decide ((n:Int) < c.aB.length)=false from decide_eq_false (by omega)]
theorem Sb:cP (ay c d) (iu c.aB.length)=some true:=by
 have T:=(bx C).t
 have U:=(bx D).t
 have S:=sM T U
 have lf:=nj T U
 have cm:=C.m
 have dm:=D.m
 have h:Ok (cP (ay c d) (iu c.aB.length)) fun b=>b=true:=by
  unfold cP
  rw [IP C D,aE,Bool.not_true,cond_false,DF C D,aE]
  refine km (ol (fun s:Int=>0≤s∧s≤c.aB.length) (fun s=>(c.aB.length - s).toNat) ⟨by omega,by omega⟩ ?_)
  rintro s ⟨s0,s1⟩
  show Ok (dN _ _ _ s) _
  unfold dN
  rw [cp]
  refine od (fun hs=>?_) fun _=>os ⟨rfl,os rfl⟩
  have h1:=T.fr s0 hs
  have h2:=T.to s0 hs
  have i1:=T.id h1.1 h1.2
  have i2:=T.id h2.1 h2.2
  have c0:=T.o0
  have d0:=U.o0
  have so:(ay c d).aA=c.aA+d.aA:=rfl
  rw [bV s0 (by rw [cp]; exact hs),aE,l7 s0 hs,S.j5 s0 (by omega),aE,nr T U s0 hs,S.l6 h1.1 (by omega),aE,vq T U h1.1 h1.2,yb C D i1.1 (by omega),aE,decide_eq_true i1.2,Bool.not_true,cond_false,
   S.ke s0 (by omega),aE,p7 T U s0 hs,S.l6 h2.1 (by omega),aE,vq T U h2.1 h2.2,yb C D i2.1 (by omega),aE,decide_eq_true i2.2,Bool.not_true,aE,cond_false]
  refine ol (fun t:Int=>0≤t∧t≤c.aB.length) (fun t=>(c.aB.length - t).toNat) ⟨by omega,by omega⟩ ?_
  rintro t ⟨t0,t1⟩
  show Ok (dP _ _ _ _ t) _
  unfold dP
  rw [cp]
  refine od (fun ht=>?_) fun _=>os ⟨rfl,os ⟨⟨?_,?_⟩,?_⟩⟩
  ·have IQ:bR (ay c d) s t=some (gk c.aC s t):=by
    unfold bR
    rw [S.mx s0 (by omega),aE,S.l8 s0 (by omega) t0 (by omega),aE,mc T U s0 hs t0 ht]
    rfl
   rw [bV t0 (by rw [cp]; exact ht),aE,l7 t0 ht,IQ,aE]
   have kl:=T.uX s0 hs t0 ht
   refine oe (x:=false) ?_ ?_
   ·by_cases e:gk c.aC s t ≥ 0
    ·rw [au e,cond_true,yb C D e (by omega),aE,decide_eq_true kl.2]; rfl
    ·rw [ba e,cond_false]
   ·rw [cond_false]
    refine os ⟨⟨?_,?_⟩,?_⟩
    all_goals rw [bX (by omega) (by omega)]
    all_goals (try dsimp only)
    all_goals omega
  all_goals rw [bX (by omega) (by omega)]
  all_goals (try dsimp only)
  all_goals omega
 obtain ⟨b,hb,rfl⟩:=h
 exact hb
theorem HB:fR (ay c d) (iu c.aB.length)=some (c,iu c.aA.toNat):=by
 have T:=(bx C).t
 have U:=(bx D).t
 have S:=sM T U
 have lf:=nj T U
 have cm:=C.m
 have dm:=D.m
 have c0:=C.o0
 have d0:=D.o0
 have c8:=C.o8
 have d8:=D.o8
 have OL:=C.il
 have sil:=S.il
 have so:(ay c d).aA=c.aA+d.aA:=rfl
 have hn:(iu c.aB.length++List.replicate d.aB.length (0:Int)).length=c.aB.length+d.aB.length:=by rw [List.length_append,cp,List.length_replicate]
 have ho:(iu c.aA.toNat++List.replicate d.aA.toNat (0:Int)).length=c.aA.toNat+d.aA.toNat:=by rw [List.length_append,cp,List.length_replicate]
 have nat:∀ {f:Int},0≤f→f < c.aB.length→idx (iu c.aB.length++List.replicate d.aB.length (0:Int)) f=some f:=fun {f} f0 f1=>by
  rw [bV f0 (by rw [hn]; omega),iT f0,cp,if_pos f1,l7 f0 f1]
 have wz:∀ {x:Int},0≤x→x < c.aA→idx (iu c.aA.toNat++List.replicate d.aA.toNat (0:Int)) x=some x:=fun {x} x0 x1=>by
  rw [bV x0 (by rw [ho]; omega),iT x0,cp,if_pos (by omega),l7 x0 (by omega)]
 unfold fR
 rw [show bB (ay c d)=some ((ay c d).aB.length:Int) from rfl,aE,lf,uK (by omega) (by omega),aE]
 refine (congrArg an (jj (iu c.aB.length) (fun i=>((i:Int),(iu c.aB.length++List.replicate d.aB.length (0:Int)).take i++List.replicate ((iu c.aB.length++List.replicate d.aB.length (0:Int)).length - i) (0:Int))) (by rw [hn]; simp) (fun i x hx=>?_) (e:=((c.aB.length:Int),iu c.aB.length++List.replicate d.aB.length (0:Int))) ?_)).trans ?_
 ·have hi:=bg hx
  rw [cp] at hi
  have hv:(iu c.aB.length++List.replicate d.aB.length (0:Int))[i]? = some (i:Int):=by rw [List.getElem?_append_left (by rw [cp]; exact hi),Fx hi]
  show dQ _ (i:Int) _=_
  unfold dQ
  rw [cp,au (by omega),cond_true,Ag hi,aE,bw,get_copy _ _ hv,aE,Int.toNat_natCast,rO _ _ hv,bD (by omega)]
 ·rw [cp]
  show dQ _ _ _=_
  unfold dQ
  rw [cp,ba (by omega),cond_false,zr (cp _),hn,show c.aB.length+d.aB.length - c.aB.length=d.aB.length by omega]
 dsimp only
 rw [DF C D,aE,so]
 rw [show c.aA+d.aA=((c.aA.toNat+d.aA.toNat:Nat):Int) by omega,uK (by omega) (by omega),aE]
 have sl:(ay c d).aF.length=c.aA.toNat+d.aA.toNat:=by omega
 refine (congrArg an (jj (ns (c.aA.toNat+d.aA.toNat)) (fun i=>(iu (min i c.aA.toNat),(i:Int),bj (min i c.aA.toNat) (gi c.aF),(iu c.aA.toNat++List.replicate d.aA.toNat (0:Int)).take (min i c.aA.toNat)++List.replicate ((iu c.aA.toNat++List.replicate d.aA.toNat (0:Int)).length - min i c.aA.toNat) (0:Int))) (by rw [ho,Nat.zero_min]; simp [wx,iu]) (fun i x hx=>?_) (e:=(iu c.aA.toNat,((c.aA.toNat+d.aA.toNat:Nat):Int),c.aF,iu c.aA.toNat++List.replicate d.aA.toNat (0:Int))) ?_)).trans ?_
 ·obtain ⟨rfl,hi⟩:=fl hx
  show dR _ _ _ _ (i:Int) _ _=_
  unfold dR
  have i1:=S.id (x:=(i:Int)) (by omega) (by omega)
  rw [sl,au (by omega),cond_true,S.l6 (by omega) (by omega),aE,yb C D i1.1 i1.2,aE]
  by_cases h:i < c.aA.toNat
  ·have e1:gi (ay c d).aF i=gi c.aF i:=vq T U (by omega) (by omega)
   have j1:=T.id (x:=(i:Int)) (by omega) (by omega)
   have hv:(iu c.aA.toNat++List.replicate d.aA.toNat (0:Int))[i]? = some (i:Int):=by rw [List.getElem?_append_left (by rw [cp]; exact h),Fx h]
   rw [e1,decide_eq_true j1.2,cond_true,show min i c.aA.toNat=i by omega,show min (i+1) c.aA.toNat=i+1 by omega,bw,get_copy _ _ hv,aE,cB (by rw [cp]; omega) (by rw [cp]; omega),aE,nat j1.1 j1.2,aE,cB (by rw [aW]; omega) (by rw [aW]; omega),aE,bD (by omega),Int.toNat_natCast,cp,rO _ _ hv,ib]
   unfold iu
   rw [ib]
  ·have e1:gi (ay c d).aF i=c.aB.length+gi d.aF (i - c.aA):=by
    have:=B7 T U (y:=(i:Int) - c.aA) (by omega) (by omega)
    rwa [show c.aA+((i:Int) - c.aA)=i by omega] at this
   have j1:=U.id (x:=(i:Int) - c.aA) (by omega) (by omega)
   rw [e1,decide_eq_false (by omega),cond_false,show min i c.aA.toNat=c.aA.toNat by omega,show min (i+1) c.aA.toNat=c.aA.toNat by omega,bD (by omega)]
 ·rw [cA,show min (c.aA.toNat+d.aA.toNat) c.aA.toNat=c.aA.toNat by omega]
  show dR _ _ _ _ ((c.aA.toNat+d.aA.toNat:Nat):Int) _ _=_
  unfold dR
  rw [sl,ba (by omega),cond_false,zr (cp _),ho,show c.aA.toNat+d.aA.toNat - c.aA.toNat=d.aA.toNat by omega]
  have:bj c.aA.toNat (gi c.aF)=c.aF:=by rw [show c.aA.toNat=c.aF.length by omega]; exact wy _
  rw [this]
 dsimp only
 refine (congrArg an (jj (ns c.aB.length) (fun i=>((i:Int),bj i (gi c.aB),bj i (gi c.To),bj i (gr c.aC))) rfl (fun i x hx=>?_) (e:=((c.aB.length:Int),c.aB,c.To,c.aC)) ?_)).trans ?_
 ·obtain ⟨rfl,hi⟩:=fl hx
  show dS _ _ _ _ (i:Int) _ _ _=_
  unfold dS
  have h1:=T.fr (f:=(i:Int)) (by omega) (by omega)
  have h2:=T.to (f:=(i:Int)) (by omega) (by omega)
  rw [cp,au (by omega),cond_true,Ag hi,aE,S.j5 (by omega) (by omega),aE,nr T U (by omega) (by omega),wz h1.1 h1.2,aE,cB (by rw [aW]; omega) (by rw [aW]; omega),aE,S.ke (by omega) (by omega),aE,p7 T U (by omega) (by omega),wz h2.1 h2.2,aE,cB (by rw [aW]; omega) (by rw [aW]; omega),aE]
  refine (np c.aB.length (fun j=>gk c.aC i j) [] (fun acc j=>(acc,(j:Int))) rfl ?_ ?_).trans ?_
  ·intro j acc hj hl
   show dT _ _ _ _ acc (j:Int)=_
   unfold dT
   rw [List.length_nil] at hl
   have IQ:bR (ay c d) i j=some (gk c.aC i j):=by
    unfold bR
    rw [S.mx (by omega) (by omega),aE,S.l8 (by omega) (by omega) (by omega) (by omega),aE,mc T U (by omega) (by omega) (by omega) (by omega)]
    rfl
   rw [cp,au (by omega),cond_true,Ag hj,aE,IQ,aE,bD (by omega)]
   have kl:=T.uX (f:=(i:Int)) (g:=(j:Int)) (by omega) (by omega) (by omega) (by omega)
   by_cases e:gk c.aC i j ≥ 0
   ·rw [au e,cond_true,nat e kl.2,aE,cB (by omega) (by omega),aE]
   ·rw [ba e,cond_false,cB (by omega) (by omega),aE]
  ·intro acc hl
   show dT _ _ _ _ acc _=_
   unfold dT
   rw [cp,ba (by omega),cond_false]
  ·dsimp only
   have bb:bj c.aB.length (fun j=>gk c.aC i j)=gr c.aC i:=by
    have:=wy (gr c.aC i)
    rwa [T.row (f:=(i:Int)) (by omega) (by omega)] at this
   rw [cB (by rw [aW]; omega) (by rw [aW]; omega),aE,bD (by omega),List.nil_append,bb,ib,ib,ib]
 ·rw [cA]
  show dS _ _ _ _ _ _ _ _=_
  unfold dS
  have e1:bj c.aB.length (gi c.To)=c.To:=by rw [← C.tl]; exact wy _
  have e2:bj c.aB.length (gr c.aC)=c.aC:=by rw [← C.kl]; exact DG _
  rw [cp,ba (by omega),cond_false,wy,e1,e2]
 ·dsimp only
  rw [cp,show ((c.aA.toNat:Nat):Int)=c.aA by omega]
  rfl
end
end Go.Proofs.YtcnehblmgfbfoaaGreat
set_option linter.unusedVariables false
set_option linter.unusedSectionVars false
set_option linter.unusedSimpArgs false
namespace Go.Proofs.YtcnehblmgfbfoaaGreat
open Go Go.Li
def yc:aN:=aN.mk Fw Fw [] []
theorem B8:dv Fw:=⟨by decide,by decide,by decide,by decide,jv⟩
theorem B9:ew yc:=⟨B8,B8,by decide,by decide⟩
theorem Fy {f g:aN} (hf:ew f) (hg:ew g):kO f g=some (bif dh f && dh g then 0 else 1):=by
 unfold kO
 rw [DH hf,aE]
 cases h1:dh f with
 | false=>rfl
 | true=>
  rw [Bool.not_true,cond_false,DH hg]
  cases h2:dh g <;> rfl
def my (a b:List Int) (n:Int):List Int:=bj a.length fun i=>gi a i * n+gi b i
theorem dq (a b:List Int) (n:Int):(my a b n).length=a.length:=aW _ _
def ly (f g:aN):aN:=aN.mk f.aG (bn f.aH g.aH) (my f.aA g.aA g.aH.aA) (my f.ae g.ae g.aH.aB.length)
theorem C4 {a b:List Int} {n i:Int} (h1:∀ y∈a,0≤y∧y≤40) (h2:∀ y∈b,0≤y∧y≤40) (n0:0≤n) (n1:n≤40) (i0:0≤i) (i1:i < a.length) (i2:i < b.length):ai (ai (gi a i * n)+gi b i)=gi a i * n+gi b i:=by
 have k1:=h1 _ (gw i0 i1)
 have k2:=h2 _ (gw i0 i2)
 have:=vp (b:=40) k1.1 k1.2 n0 n1
 rw [bX (a:=gi a i * n) (by omega) (by omega),bX (by omega) (by omega)]
theorem HC {a b:List Int} {n:Int} (hl:a.length≤1000) (sH:b.length=a.length) (h1:∀ y∈a,0≤y∧y≤40) (h2:∀ y∈b,0≤y∧y≤40) (n0:0≤n) (n1:n≤40):kP a b n=some (my a b n):=by
 unfold kP
 refine (congrArg an (tn a.length (fun i=>gi a i * n+gi b i) (fun acc i=>(acc,(i:Int))) rfl ?_ ?_)).trans rfl
 ·intro i acc hi aim
  show iE a b n acc i=_
  unfold iE
  rw [au (by omega),cond_true,bV (by omega) (by omega),aE,bV (by omega) (by omega),aE,cB (by omega) (by omega),aE,bD (by omega),C4 h1 h2 n0 n1 (by omega) (by omega) (by omega)]
 ·intro acc _
  show iE a b n acc _=_
  unfold iE
  rw [ba (by omega),cond_false]
theorem Ca {l r:List Int} {i:Nat} (hi:i < r.length) (hl:l.length=r.length):idx (l.take i++r.drop i) (i:Int)=some (gi r i):=by
 rw [bw,List.getElem?_append_right (by rw [List.length_take]; omega),List.length_take,show i - min i l.length=0 by omega,List.getElem?_drop,Nat.add_zero,← bw,bV (by omega) (by omega)]
theorem Cb {l r:List Int} {i:Nat} {v:Int} (hv:l[i]? = some v) (hl:l.length=r.length):(l.take i++r.drop i).set i v=l.take (i+1)++r.drop (i+1):=by
 have hi:=bg hv
 rw [List.set_append_right _ _ (by rw [List.length_take]; omega),List.length_take,show i - min i l.length=0 by omega,List.drop_eq_getElem_cons (by omega:i < r.length),List.set_cons_zero,List.take_add_one,hv]
 simp
section
variable {f g:aN} (F:uw f) (G:uw g)
include F G
theorem DI (e:f.aG=g.aG):(g.aA.length=f.aA.length∧g.ae.length=f.ae.length)∧(f.aA.length≤8∧f.ae.length≤40)∧((∀ y∈f.aA,0≤y∧y≤40)∧∀ y∈g.aA,0≤y∧y≤40)∧((∀ y∈f.ae,0≤y∧y≤40)∧∀ y∈g.ae,0≤y∧y≤40):=by
 have f1:=F.ol
 have f2:=F.al
 have g1:=G.ol
 have g2:=G.al
 rw [← e] at g1 g2
 have o8:=F.c.o8
 have m:=F.c.m
 have t1:=F.d.o8
 have t2:=F.d.m
 have t3:=G.d.o8
 have t4:=G.d.m
 refine ⟨⟨by omega,by omega⟩,⟨by omega,by omega⟩,⟨fun y hy=>?_,fun y hy=>?_⟩,fun y hy=>?_,fun y hy=>?_⟩
 ·have:=F.oo y hy; omega
 ·have:=G.oo y hy; omega
 ·have:=F.aa y hy; omega
 ·have:=G.aa y hy; omega
theorem Bi (e:f.aG=g.aG) (tk:jo (bn f.aH g.aH)=true):dh (ly f g)=true:=by
 have T:=(bx F.d).t
 have U:=(bx G.d).t
 unfold jo at tk
 simp only [Bool.and_eq_true,decide_eq_true_eq] at tk
 have P:=Ft F.d G.d tk.1 (by rw [← qT]; exact tk.2)
 have f1:=F.ol
 have f2:=F.al
 have g1:=G.ol
 have g2:=G.al
 have lp:=qT (c:=f.aH) (d:=g.aH)
 have wz:∀ x:Int,0≤x→x < f.aG.aA→gi (ly f g).aA x=gi f.aA x * g.aH.aA+gi g.aA x:=fun x x0 x1=>ei x0 (by omega)
 have sg:∀ x:Int,0≤x→x < f.aG.aB.length→gi (ly f g).ae x=gi f.ae x * g.aH.aB.length+gi g.ae x:=fun x x0 x1=>ei x0 (by omega)
 have fo:∀ x:Int,0≤x→x < f.aG.aA→0≤gi f.aA x∧gi f.aA x < f.aH.aA:=fun x x0 x1=>F.ob x0 x1
 have go:∀ x:Int,0≤x→x < f.aG.aA→0≤gi g.aA x∧gi g.aA x < g.aH.aA:=fun x x0 x1=>G.ob x0 (by rw [← e]; exact x1)
 have fa:∀ x:Int,0≤x→x < f.aG.aB.length→0≤gi f.ae x∧gi f.ae x < f.aH.aB.length:=fun x x0 x1=>F.ar x0 x1
 have ga:∀ x:Int,0≤x→x < f.aG.aB.length→0≤gi g.ae x∧gi g.ae x < g.aH.aB.length:=fun x x0 x1=>G.ar x0 (by rw [← e]; exact x1)
 refine zt (f:=ly f g) (p8 F.c) (p8 P) ?_ ?_ ?_ ?_ ?_ ?_ ?_ ?_
 ·show ((my _ _ _).length:Int)=_; rw [dq]; exact F.ol
 ·show (my _ _ _).length=_; rw [dq]; exact F.al
 ·intro y hy
  obtain ⟨i,hi,rfl⟩:=ij.1 hy
  have k1:=fo i hi.1 (by omega)
  have k2:=go i hi.1 (by omega)
  exact gx k1.1 k1.2 k2.1 k2.2
 ·intro y hy
  obtain ⟨i,hi,rfl⟩:=ij.1 hy
  have k1:=fa i hi.1 (by omega)
  have k2:=ga i hi.1 (by omega)
  show 0≤_∧_ < ((bn f.aH g.aH).aB.length:Int)
  rw [lp]
  exact gx k1.1 k1.2 k2.1 k2.2
 ·intro a a0 a1
  have k1:=fa a a0 a1
  have k2:=ga a a0 a1
  have kf:=F.c.fr a0 a1
  rw [sg a a0 a1]
  show gi (bn f.aH g.aH).aB _=gi (ly f g).aA (gi f.aG.aB a)
  rw [wz _ kf.1 kf.2,x8 k1.1 k1.2 k2.1 k2.2,F.fr a a0 a1,G.fr a a0 (by rw [← e]; exact a1),← e]
 ·intro a a0 a1
  have k1:=fa a a0 a1
  have k2:=ga a a0 a1
  have kf:=F.c.to a0 a1
  rw [sg a a0 a1]
  show gi (bn f.aH g.aH).To _=gi (ly f g).aA (gi f.aG.To a)
  rw [wz _ kf.1 kf.2,x9 k1.1 k1.2 k2.1 k2.2,F.to a a0 a1,G.to a a0 (by rw [← e]; exact a1),← e]
 ·intro x x0 x1
  have ki:=F.c.id x0 x1
  have k1:=fo x x0 x1
  have k2:=go x x0 x1
  rw [wz x x0 x1]
  show gi (ly f g).ae (gi f.aG.aF x)=gi (bn f.aH g.aH).aF _
  rw [sg _ ki.1 ki.2,Fq k1.1 k1.2 k2.1 k2.2,F.un x x0 x1,← G.un x x0 (by rw [← e]; exact x1),e]
 ·intro a b a0 a1 b0 b1 h
  have k:=F.c.cell a b a0 a1 b0 b1 h
  have k1:=fa a a0 a1
  have k2:=ga a a0 a1
  have l1:=fa b b0 b1
  have l2:=ga b b0 b1
  rw [sg a a0 a1,sg b b0 b1]
  show gi (ly f g).ae (gk f.aG.aC a b)=gk (bn f.aH g.aH).aC _ _
  have h':gi g.aG.To a=gi g.aG.aB b:=by rw [← e]; exact h
  have Wp:a < g.aG.aB.length:=by rw [← e]; exact a1
  have BE:b < g.aG.aB.length:=by rw [← e]; exact b1
  rw [sg _ k.1 k.2.1,wW T U k1.1 k1.2 k2.1 k2.2 l1.1 l1.2 l2.1 l2.2 (by rw [F.to a a0 a1,F.fr b b0 b1]; exact congrArg (gi f.aA) h) (by rw [G.to a a0 Wp,G.fr b b0 BE]; exact congrArg (gi g.aA) h'),F.co a b a0 a1 b0 b1 h,← G.co a b a0 Wp b0 BE h',e]
end
def uj (f g:aN):aN×Int:=bif dh f && dh g then (bif ny f.aG g.aG then (bif jo (bn f.aH g.aH) then (ly f g,0) else (yc,3)) else (yc,5)) else (yc,1)
theorem GL {f g:aN} (F:uw f) (G:uw g) (e:f.aG=g.aG) (h:jo (bn f.aH g.aH)=true):ew (ly f g):=by
 have P:=gp (Bi F G e h)
 have h1:=P.ol
 have h2:=P.al
 have h3:=F.c.o8
 have h4:=F.c.m
 exact ⟨(bx F.c).s,(bx P.d).s,by show (my _ _ _).length≤_; rw [dq]; have:=F.ol; omega,by show (my _ _ _).length≤_; rw [dq]; have:=F.al; omega⟩
theorem vr {c d:aD} (C:gu c) (D:gu d) (h:jo (bn c d)=true):gu (bn c d):=by
 unfold jo at h
 simp only [Bool.and_eq_true,decide_eq_true_eq] at h
 exact Ft C D h.1 (by rw [← qT]; exact h.2)
theorem Kx {f g:aN} (hf:ew f) (hg:ew g):hJ f g=some (uj f g):=by
 unfold hJ uj
 rw [Fy hf hg,aE]
 cases h:dh f && dh g with
 | false=>rfl
 | true=>
  simp only [Bool.and_eq_true] at h
  have F:=gp h.1
  have G:=gp h.2
  rw [cond_true,qM rfl,cond_false,cond_true,AO hf.s,aE]
  cases hs:ny f.aG g.aG with
  | false=>rfl
  | true=>
   have e:=rP.1 hs
   have p:=DI F G e
   have T:=(bx F.d).t
   have U:=(bx G.d).t
   have t1:=F.d.o8
   have t2:=F.d.m
   have t3:=G.d.o8
   have t4:=G.d.m
   have t5:=G.d.o0
   rw [Bool.not_true,cond_false,cond_true,AP T U (by omega) (by omega) (by omega) (by omega),aE,Fv,aE]
   cases hh:jo (bn f.aH g.aH) with
   | false=>rfl
   | true=>
    have P:=vr F.d G.d hh
    rw [Bool.not_true,cond_false,cond_true,HC (by omega) p.1.1 p.2.2.1.1 p.2.2.1.2 t5 (by omega),aE,HC (by omega) p.1.2 p.2.2.2.1 p.2.2.2.2 (by omega) (by omega),aE,vu hf.s (bx P).s (by rw [dq]; omega) (by rw [dq]; omega),aE]
    rfl
theorem Kz {f g:aN} (hf:ew f) (hg:ew g):hY f g=some (uj f g):=by
 unfold hY uj
 rw [wX _ (by simp) (by intro c hc; simp at hc; rcases hc with rfl | rfl; exact hf; exact hg),aE]
 simp only [List.all_cons,List.all_nil,Bool.and_true]
 cases h:dh f && dh g with
 | false=>rfl
 | true=>
  simp only [Bool.and_eq_true] at h
  have F:=gp h.1
  have G:=gp h.2
  rw [Bool.not_true,cond_false,cond_true,wY hf.s,aE]
  cases hs:ny f.aG g.aG with
  | false=>rfl
  | true=>
   have e:=rP.1 hs
   have p:=DI F G e
   have t1:=F.d.o8
   have t2:=F.d.m
   have t3:=G.d.o8
   have t4:=G.d.m
   have t5:=G.d.o0
   rw [Bool.not_true,cond_false,cond_true,AN F.d G.d,aE]
   cases hh:jo (bn f.aH g.aH) with
   | false=>rfl
   | true=>
    have P:=vr F.d G.d hh
    rw [cond_true,cond_true]
    dsimp only
    rw [Bool.not_true,cond_false,sN _ hf.o,aE,sN _ hf.a,aE]
    refine (congrArg an (jj (my f.aA g.aA g.aH.aA) (fun i=>((i:Int),(my f.aA g.aA g.aH.aA).take i++f.aA.drop i)) rfl (fun i v hv=>?_) (e:=(((my f.aA g.aA g.aH.aA).length:Int),my f.aA g.aA g.aH.aA)) ?_)).trans ?_
    ·have hi:=bg hv
     rw [dq] at hi
     have ev:v=gi f.aA i * g.aH.aA+gi g.aA i:=by
      rw [show (my f.aA g.aA g.aH.aA)[i]? = _ from ja _ hi] at hv
      exact (Option.some.inj hv).symm
     show dU g f.aA (i:Int) _=_
     unfold dU
     rw [au (by omega),cond_true,Ca hi (dq ..),aE,bV (by omega) (by omega),aE,aE,bD (by omega),Int.toNat_natCast,C4 p.2.2.1.1 p.2.2.1.2 t5 (by omega) (by omega) (by omega) (by omega),← ev,Cb hv (by rw [dq])]
    ·rw [dq]
     show dU g f.aA _ _=_
     unfold dU
     rw [ba (by omega),cond_false,List.drop_length,List.append_nil,List.take_of_length_le (by rw [dq]; exact Nat.le_refl _)]
    dsimp only
    refine (congrArg an (jj (my f.ae g.ae g.aH.aB.length) (fun i=>((i:Int),(my f.ae g.ae g.aH.aB.length).take i++f.ae.drop i)) rfl (fun i v hv=>?_) (e:=(((my f.ae g.ae g.aH.aB.length).length:Int),my f.ae g.ae g.aH.aB.length)) ?_)).trans ?_
    ·have hi:=bg hv
     rw [dq] at hi
     have ev:v=gi f.ae i * g.aH.aB.length+gi g.ae i:=by
      rw [show (my f.ae g.ae g.aH.aB.length)[i]? = _ from ja _ hi] at hv
      exact (Option.some.inj hv).symm
     show dV g f.ae (i:Int) _=_
     unfold dV
     rw [au (by omega),cond_true,Ca hi (dq ..),aE,show bB g.aH=some (g.aH.aB.length:Int) from rfl,aE,bV (by omega) (by omega),aE,aE,bD (by omega),Int.toNat_natCast,C4 p.2.2.2.1 p.2.2.2.2 (by omega) (by omega) (by omega) (by omega) (by omega),← ev,Cb hv (by rw [dq])]
    ·rw [dq]
     show dV g f.ae _ _=_
     unfold dV
     rw [ba (by omega),cond_false,List.drop_length,List.append_nil,List.take_of_length_le (by rw [dq]; exact Nat.le_refl _)]
    dsimp only
    rw [rB hf.s (bx P).s (by rw [dq]; omega) (by rw [dq]; omega),aE]
    rfl
end Go.Proofs.YtcnehblmgfbfoaaGreat
set_option linter.unusedVariables false
set_option linter.unusedSectionVars false
set_option linter.unusedSimpArgs false
namespace Go.Proofs.YtcnehblmgfbfoaaGreat
open Go Go.Li
def j3 (c d t:aD) (G:Int→Int→Int):aN:=aN.mk (bn c d) t (bj (c.aA * d.aA).toNat fun x=>G x d.aA) (bj (bn c d).aB.length fun a=>G a d.aB.length)
theorem FB {c d t:aD} {x3:Int→Int→Option Int} {G:Int→Int→Int} (C:gu c) (D:gu d) (ht:dv t) (h:jo (bn c d)=true) (hg:∀ n s:Int,0≤n→0 < s→n < 4611686018427387904→x3 n s=some (G n s)):fL c d t x3=some (j3 c d t G,0):=by
 have P:=vr C D h
 have T:=(bx C).t
 have U:=(bx D).t
 have o0:=P.o0
 have o8:=P.o8
 have pm:=P.m
 have po:(bn c d).aA=c.aA * d.aA:=rfl
 unfold fL
 rw [AQ _ (by simp) (by intro e he; simp at he; rcases he with rfl | rfl; exact (bx C).s; exact (bx D).s),aE]
 simp only [List.all_cons,List.all_nil,Bool.and_true]
 rw [p8 C,p8 D,Bool.and_true,Bool.not_true,cond_false,AN C D,h,cond_true,aE]
 dsimp only
 rw [Bool.not_true,cond_false,AR o0 (by omega),aE,show bB (bn c d)=some ((bn c d).aB.length:Int) from rfl,aE,AR (by omega) (by omega),aE,Int.toNat_natCast,po]
 rw [po] at o0 o8
 refine (congrArg an (jj (bj (c.aA * d.aA).toNat fun x=>G x d.aA) (fun i=>((i:Int),(bj (c.aA * d.aA).toNat fun x=>G x d.aA).take i++(ns (c.aA * d.aA).toNat).drop i)) rfl (fun i v hv=>?_) (e:=(((c.aA * d.aA).toNat:Int),bj (c.aA * d.aA).toNat fun x=>G x d.aA)) ?_)).trans ?_
 ·have hi:=bg hv
  rw [aW] at hi
  have ev:v=G i d.aA:=by
   rw [ja _ hi] at hv
   exact (Option.some.inj hv).symm
  obtain ⟨a,b,ha,hb,_⟩:=tT T U (k:=(i:Int)) (by omega) (by omega)
  show fD d x3 _ (i:Int) _=_
  unfold fD
  rw [cA,au (by omega),cond_true,hg i d.aA (by omega) (by omega) (by omega),aE,Ca (by rw [cA]; exact hi) (by rw [aW,cA]),aE,bD (by omega),Int.toNat_natCast,← ev,Cb hv (by rw [aW,cA])]
 ·rw [aW]
  show fD d x3 _ _ _=_
  unfold fD
  rw [cA,ba (by omega),cond_false,List.drop_of_length_le (by rw [cA]; exact Nat.le_refl _),List.append_nil,List.take_of_length_le (by rw [aW]; exact Nat.le_refl _)]
 dsimp only
 refine (congrArg an (jj (bj (bn c d).aB.length fun x=>G x d.aB.length) (fun i=>((i:Int),(bj (bn c d).aB.length fun x=>G x d.aB.length).take i++(ns (bn c d).aB.length).drop i)) rfl (fun i v hv=>?_) (e:=(((bn c d).aB.length:Int),bj (bn c d).aB.length fun x=>G x d.aB.length)) ?_)).trans ?_
 ·have hi:=bg hv
  rw [aW] at hi
  have ev:v=G i d.aB.length:=by
   rw [ja _ hi] at hv
   exact (Option.some.inj hv).symm
  obtain ⟨a,b,ha,hb,_⟩:=ig (c:=c) (d:=d) (k:=(i:Int)) (by omega) (by omega)
  show fE d x3 _ (i:Int) _=_
  unfold fE
  rw [cA,au (by omega),cond_true,show bB d=some (d.aB.length:Int) from rfl,aE,hg i d.aB.length (by omega) (by omega) (by omega),aE,Ca (by rw [cA]; exact hi) (by rw [aW,cA]),aE,bD (by omega),Int.toNat_natCast,← ev,Cb hv (by rw [aW,cA])]
 ·rw [aW]
  show fE d x3 _ _ _=_
  unfold fE
  rw [cA,ba (by omega),cond_false,List.drop_of_length_le (by rw [cA]; exact Nat.le_refl _),List.append_nil,List.take_of_length_le (by rw [aW]; exact Nat.le_refl _)]
 dsimp only
 rw [rB (bx P).s ht (by rw [aW]; omega) (by rw [aW]; omega),aE]
 rfl
section
variable {c d:aD} (C:gu c) (D:gu d) (h:jo (bn c d)=true)
include C D h
theorem PM:fS c d=some (j3 c d c (fun n s=>n / s),0):=by
 unfold fS
 rw [FB (G:=fun n s=>n / s) C D (bx C).s h (fun n s n0 s0 n1=>by unfold fA; rw [Mz n0 s0 n1,aE]; rfl),aE]; rfl
theorem PN:fM c d=some (j3 c d d (fun n s=>n % s),0):=by
 unfold fM
 rw [FB (G:=fun n s=>n % s) C D (bx D).s h (fun n s n0 s0 n1=>by unfold eK; rw [MA n0 s0,aE]; rfl),aE]; rfl
theorem PO:dh (j3 c d c fun n s=>n / s)=true:=by
 have P:=vr C D h
 have T:=(bx C).t
 have U:=(bx D).t
 have o0:0≤c.aA * d.aA:=P.o0
 have lp:=qT (c:=c) (d:=d)
 have wz:∀ a b:Int,0≤a→a < c.aA→0≤b→b < d.aA→gi (j3 c d c fun n s=>n / s).aA (a * d.aA+b)=a:=fun a b a0 a1 b0 b1=>by
  have:=gx a0 a1 b0 b1
  exact (ei this.1 (by omega)).trans (p6 b0 b1).1
 have sg:∀ a b:Int,0≤a→a < c.aB.length→0≤b→b < d.aB.length→gi (j3 c d c fun n s=>n / s).ae (a * d.aB.length+b)=a:=fun a b a0 a1 b0 b1=>by
  have:=gx a0 a1 b0 b1
  exact (ei this.1 (by omega)).trans (p6 b0 b1).1
 refine zt (f:=j3 c d c fun n s=>n / s) (p8 P) (p8 C) ?_ ?_ ?_ ?_ ?_ ?_ ?_ ?_
 ·show ((bj _ _).length:Int)=c.aA * d.aA; rw [aW]; omega
 ·show (bj _ _).length=_; rw [aW]; rfl
 ·intro y hy
  obtain ⟨i,hi,rfl⟩:=ij.1 hy
  obtain ⟨a,b,ha,hb,rfl⟩:=tT T U (k:=i) hi.1 (by omega)
  dsimp only
  rw [(p6 hb.1 hb.2).1]; exact ha
 ·intro y hy
  obtain ⟨i,hi,rfl⟩:=ij.1 hy
  obtain ⟨a,b,ha,hb,rfl⟩:=ig (c:=c) (d:=d) hi.1 hi.2
  dsimp only
  rw [(p6 hb.1 hb.2).1]; exact ha
 ·intro k k0 k1
  obtain ⟨a,b,ha,hb,rfl⟩:=ig (c:=c) (d:=d) k0 k1
  have h1:=T.fr ha.1 ha.2
  have h2:=U.fr hb.1 hb.2
  rw [sg a b ha.1 ha.2 hb.1 hb.2]
  show gi c.aB a=gi (j3 c d c fun n s=>n / s).aA (gi (bn c d).aB _)
  rw [x8 ha.1 ha.2 hb.1 hb.2,wz _ _ h1.1 h1.2 h2.1 h2.2]
 ·intro k k0 k1
  obtain ⟨a,b,ha,hb,rfl⟩:=ig (c:=c) (d:=d) k0 k1
  have h1:=T.to ha.1 ha.2
  have h2:=U.to hb.1 hb.2
  rw [sg a b ha.1 ha.2 hb.1 hb.2]
  show gi c.To a=gi (j3 c d c fun n s=>n / s).aA (gi (bn c d).To _)
  rw [x9 ha.1 ha.2 hb.1 hb.2,wz _ _ h1.1 h1.2 h2.1 h2.2]
 ·intro k k0 k1
  obtain ⟨a,b,ha,hb,rfl⟩:=tT T U (k:=k) k0 k1
  have i1:=T.id ha.1 ha.2
  have i2:=U.id hb.1 hb.2
  rw [wz a b ha.1 ha.2 hb.1 hb.2]
  show gi (j3 c d c fun n s=>n / s).ae (gi (bn c d).aF _)=gi c.aF a
  rw [Fq ha.1 ha.2 hb.1 hb.2,sg _ _ i1.1 i1.2 i2.1 i2.2]
 ·intro p q p0 p1 q0 q1 e
  obtain ⟨a,b,ha,hb,rfl⟩:=ig (c:=c) (d:=d) p0 p1
  obtain ⟨f,g,hf,hg,rfl⟩:=ig (c:=c) (d:=d) q0 q1
  have e':gi (bn c d).To (a * d.aB.length+b)=gi (bn c d).aB (f * d.aB.length+g):=e
  rw [x9 ha.1 ha.2 hb.1 hb.2,x8 hf.1 hf.2 hg.1 hg.2] at e'
  have y1:=U.to hb.1 hb.2
  have y2:=U.fr hg.1 hg.2
  obtain ⟨u1,v1⟩:=rL y1.1 y1.2 y2.1 y2.2 e'
  have k1:=T.cell a f ha.1 ha.2 hf.1 hf.2 u1
  have k2:=U.cell b g hb.1 hb.2 hg.1 hg.2 v1
  rw [sg a b ha.1 ha.2 hb.1 hb.2,sg f g hf.1 hf.2 hg.1 hg.2]
  show gi (j3 c d c fun n s=>n / s).ae (gk (bn c d).aC _ _)=gk c.aC a f
  rw [wW T U ha.1 ha.2 hb.1 hb.2 hf.1 hf.2 hg.1 hg.2 u1 v1,sg _ _ k1.1.1 k1.1.2 k2.1.1 k2.1.2]
theorem PR:dh (j3 c d d fun n s=>n % s)=true:=by
 have P:=vr C D h
 have T:=(bx C).t
 have U:=(bx D).t
 have o0:0≤c.aA * d.aA:=P.o0
 have lp:=qT (c:=c) (d:=d)
 have wz:∀ a b:Int,0≤a→a < c.aA→0≤b→b < d.aA→gi (j3 c d d fun n s=>n % s).aA (a * d.aA+b)=b:=fun a b a0 a1 b0 b1=>by
  have:=gx a0 a1 b0 b1
  exact (ei this.1 (by omega)).trans (p6 b0 b1).2
 have sg:∀ a b:Int,0≤a→a < c.aB.length→0≤b→b < d.aB.length→gi (j3 c d d fun n s=>n % s).ae (a * d.aB.length+b)=b:=fun a b a0 a1 b0 b1=>by
  have:=gx a0 a1 b0 b1
  exact (ei this.1 (by omega)).trans (p6 b0 b1).2
 refine zt (f:=j3 c d d fun n s=>n % s) (p8 P) (p8 D) ?_ ?_ ?_ ?_ ?_ ?_ ?_ ?_
 ·show ((bj _ _).length:Int)=c.aA * d.aA; rw [aW]; omega
 ·show (bj _ _).length=_; rw [aW]; rfl
 ·intro y hy
  obtain ⟨i,hi,rfl⟩:=ij.1 hy
  obtain ⟨a,b,ha,hb,rfl⟩:=tT T U (k:=i) hi.1 (by omega)
  dsimp only
  rw [(p6 hb.1 hb.2).2]; exact hb
 ·intro y hy
  obtain ⟨i,hi,rfl⟩:=ij.1 hy
  obtain ⟨a,b,ha,hb,rfl⟩:=ig (c:=c) (d:=d) hi.1 hi.2
  dsimp only
  rw [(p6 hb.1 hb.2).2]; exact hb
 ·intro k k0 k1
  obtain ⟨a,b,ha,hb,rfl⟩:=ig (c:=c) (d:=d) k0 k1
  have h1:=T.fr ha.1 ha.2
  have h2:=U.fr hb.1 hb.2
  rw [sg a b ha.1 ha.2 hb.1 hb.2]
  show gi d.aB b=gi (j3 c d d fun n s=>n % s).aA (gi (bn c d).aB _)
  rw [x8 ha.1 ha.2 hb.1 hb.2,wz _ _ h1.1 h1.2 h2.1 h2.2]
 ·intro k k0 k1
  obtain ⟨a,b,ha,hb,rfl⟩:=ig (c:=c) (d:=d) k0 k1
  have h1:=T.to ha.1 ha.2
  have h2:=U.to hb.1 hb.2
  rw [sg a b ha.1 ha.2 hb.1 hb.2]
  show gi d.To b=gi (j3 c d d fun n s=>n % s).aA (gi (bn c d).To _)
  rw [x9 ha.1 ha.2 hb.1 hb.2,wz _ _ h1.1 h1.2 h2.1 h2.2]
 ·intro k k0 k1
  obtain ⟨a,b,ha,hb,rfl⟩:=tT T U (k:=k) k0 k1
  have i1:=T.id ha.1 ha.2
  have i2:=U.id hb.1 hb.2
  rw [wz a b ha.1 ha.2 hb.1 hb.2]
  show gi (j3 c d d fun n s=>n % s).ae (gi (bn c d).aF _)=gi d.aF b
  rw [Fq ha.1 ha.2 hb.1 hb.2,sg _ _ i1.1 i1.2 i2.1 i2.2]
 ·intro p q p0 p1 q0 q1 e
  obtain ⟨a,b,ha,hb,rfl⟩:=ig (c:=c) (d:=d) p0 p1
  obtain ⟨f,g,hf,hg,rfl⟩:=ig (c:=c) (d:=d) q0 q1
  have e':gi (bn c d).To (a * d.aB.length+b)=gi (bn c d).aB (f * d.aB.length+g):=e
  rw [x9 ha.1 ha.2 hb.1 hb.2,x8 hf.1 hf.2 hg.1 hg.2] at e'
  have y1:=U.to hb.1 hb.2
  have y2:=U.fr hg.1 hg.2
  obtain ⟨u1,v1⟩:=rL y1.1 y1.2 y2.1 y2.2 e'
  have k1:=T.cell a f ha.1 ha.2 hf.1 hf.2 u1
  have k2:=U.cell b g hb.1 hb.2 hg.1 hg.2 v1
  rw [sg a b ha.1 ha.2 hb.1 hb.2,sg f g hf.1 hf.2 hg.1 hg.2]
  show gi (j3 c d d fun n s=>n % s).ae (gk (bn c d).aC _ _)=gk d.aC b g
  rw [wW T U ha.1 ha.2 hb.1 hb.2 hf.1 hf.2 hg.1 hg.2 u1 v1,sg _ _ k1.1.1 k1.1.2 k2.1.1 k2.1.2]
end
theorem yd {f g:aN} (hf:dh f=true) (hg:dh g=true) (e:f.aH=g.aG):eH f g=some (Cc f g,0):=by
 have F:=gp hf
 have G:=gp hg
 unfold eH
 rw [wX _ (by simp) (by intro c hc; simp at hc; rcases hc with rfl | rfl; exact qN (gp hf); exact qN (gp hg)),aE]
 simp only [List.all_cons,List.all_nil,Bool.and_true]
 rw [hf,hg,Bool.and_true,Bool.not_true,cond_false,wY (qN (gp hf)).t,aE,rP.2 e,Bool.not_true,cond_false,KA F.toFHead G.toFHead e (qN (gp hf)) (qN (gp hg)),aE]
 rfl
theorem HD {f g:aN} (h1:f.aG=g.aG) (h2:f.aH=g.aH) (h3:f.aA=g.aA) (h4:f.ae=g.ae):f=g:=by
 obtain ⟨_,_,_,_⟩:=f
 obtain ⟨_,_,_,_⟩:=g
 cases h1; cases h2; cases h3; cases h4; rfl
section
variable {f g:aN} (F:uw f) (G:uw g) (e:f.aG=g.aG)
include F G e
theorem MC (h:jo (bn f.aH g.aH)=true):Cc (ly f g) (j3 f.aH g.aH f.aH fun n s=>n / s)=f:=by
 have f1:=F.ol
 have f2:=F.al
 have g1:=G.ol
 have g2:=G.al
 rw [← e] at g1 g2
 have lp:=qT (c:=f.aH) (d:=g.aH)
 refine HD rfl rfl (tU ?_ fun x x0 x1=>?_) (tU ?_ fun x x0 x1=>?_)
 ·show (thenS _ _).length=_; rw [qO]; exact dq ..
 ·have k1:=F.ob x0 (by omega)
  have k2:=G.ob x0 (by rw [← e]; omega)
  have kl:=gx k1.1 k1.2 k2.1 k2.2
  have:=(vv (a:=(ly f g).aA) (b:=(j3 f.aH g.aH f.aH fun n s=>n / s).aA) x0 (by show x < ((my _ _ _).length:Int); rw [dq]; exact x1))
  refine this.trans ?_
  rw [show gi (ly f g).aA x=gi f.aA x * g.aH.aA+gi g.aA x from ei x0 x1]
  exact (ei kl.1 (by omega)).trans (p6 k2.1 k2.2).1
 ·show (thenS _ _).length=_; rw [qO]; exact dq ..
 ·have k1:=F.ar x0 (by omega)
  have k2:=G.ar x0 (by rw [← e]; omega)
  have kl:=gx k1.1 k1.2 k2.1 k2.2
  have:=(vv (a:=(ly f g).ae) (b:=(j3 f.aH g.aH f.aH fun n s=>n / s).ae) x0 (by show x < ((my _ _ _).length:Int); rw [dq]; exact x1))
  refine this.trans ?_
  rw [show gi (ly f g).ae x=gi f.ae x * g.aH.aB.length+gi g.ae x from ei x0 x1]
  exact (ei kl.1 (by omega)).trans (p6 k2.1 k2.2).1
theorem MD (h:jo (bn f.aH g.aH)=true):Cc (ly f g) (j3 f.aH g.aH g.aH fun n s=>n % s)=g:=by
 have f1:=F.ol
 have f2:=F.al
 have g1:=G.ol
 have g2:=G.al
 rw [← e] at g1 g2
 have lp:=qT (c:=f.aH) (d:=g.aH)
 refine HD e rfl (tU ?_ fun x x0 x1=>?_) (tU ?_ fun x x0 x1=>?_)
 ·show (thenS _ _).length=_; rw [qO]; show (my _ _ _).length=_; rw [dq]; omega
 ·have k1:=F.ob x0 (by omega)
  have k2:=G.ob x0 (by rw [← e]; omega)
  have kl:=gx k1.1 k1.2 k2.1 k2.2
  have:=(vv (a:=(ly f g).aA) (b:=(j3 f.aH g.aH g.aH fun n s=>n % s).aA) x0 (by show x < ((my _ _ _).length:Int); rw [dq]; omega))
  refine this.trans ?_
  rw [show gi (ly f g).aA x=gi f.aA x * g.aH.aA+gi g.aA x from ei x0 (by omega)]
  exact (ei kl.1 (by omega)).trans (p6 k2.1 k2.2).2
 ·show (thenS _ _).length=_; rw [qO]; show (my _ _ _).length=_; rw [dq]; omega
 ·have k1:=F.ar x0 (by omega)
  have k2:=G.ar x0 (by rw [← e]; omega)
  have kl:=gx k1.1 k1.2 k2.1 k2.2
  have:=(vv (a:=(ly f g).ae) (b:=(j3 f.aH g.aH g.aH fun n s=>n % s).ae) x0 (by show x < ((my _ _ _).length:Int); rw [dq]; omega))
  refine this.trans ?_
  rw [show gi (ly f g).ae x=gi f.ae x * g.aH.aB.length+gi g.ae x from ei x0 (by omega)]
  exact (ei kl.1 (by omega)).trans (p6 k2.1 k2.2).2
end
end Go.Proofs.YtcnehblmgfbfoaaGreat
