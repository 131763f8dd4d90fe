/- Tools for categories whose arrows are rows: arrows between two objects, lists of rows, their keys and places; tables of composites that a closure fills. No condition beside those that each theorem names. -/
import Derived.Test.YtcnehblmgfbfoaaGreatUr
import Derived.Test.YtcnehblmgfbfoaaGreatVw
set_option linter.unusedVariables false
set_option linter.unusedSectionVars false
set_option linter.unusedSimpArgs false
namespace Go.Proofs.YtcnehblmgfbfoaaGreat
open Go Go.Li
set_option linter.unusedVariables false
set_option linter.unusedSectionVars false
set_option linter.unusedSimpArgs false
def tW (c:aH) (z x u:Int):Prop:=(0≤u∧u < c.aG.length)∧gi c.aG u=z∧gi c.To u=x
theorem QU {c:aH} (C:lg c) {x y z u v:Int} (h:tW c x y u) (h':tW c y z v):tW c x z (gk c.aB u v):=by
 have:=C.cell u v h.1.1 h.1.2 h'.1.1 h'.1.2 (by rw [h.2.2,h'.2.1])
 exact ⟨⟨this.1,this.2.1⟩,this.2.2.1.trans h.2.1,this.2.2.2.trans h'.2.2⟩
theorem WH {c:aH} (C:lg c) {x:Int} (x0:0≤x) (x1:x < c.aD):tW c x x (gi c.aI x):=⟨C.id x0 x1,C.zb x x0 x1,C.G5 x x0 x1⟩
theorem Ow {c:aH} (C:lg c) {x y z w u v t:Int} (h:tW c x y u) (h':tW c y z v) (h2:tW c z w t):gk c.aB (gk c.aB u v) t=gk c.aB u (gk c.aB v t):=
 C.assoc u v t h.1.1 h.1.2 h'.1.1 h'.1.2 h2.1.1 h2.1.2 (by rw [h.2.2,h'.2.1]) (by rw [h'.2.2,h2.2.1])
theorem WU {c:aH} (C:lg c) {x y u:Int} (h:tW c x y u):0≤y∧y < c.aD:=by have:=C.to h.1.1 h.1.2; rwa [h.2.2] at this
theorem WM {c:aH} (C:lg c) {x y u:Int} (h:tW c x y u):gk c.aB (gi c.aI x) u=u:=by have:=C.HC u h.1.1 h.1.2; rwa [h.2.1] at this
theorem WN {c:aH} (C:lg c) {x y u:Int} (h:tW c x y u):gk c.aB u (gi c.aI y)=u:=by have:=C.C3 u h.1.1 h.1.2; rwa [h.2.2] at this
def zW (c:aH) (x y:Int):List Int:=(ns c.aG.length).filter (G0 c x y)
theorem Gq {c:aH} {x y h:Int}:h∈zW c x y↔tW c x y h:=by
 unfold zW G0 tW
 rw [List.mem_filter,dv,Bool.and_eq_true,beq_iff_eq,beq_iff_eq]
theorem IY (n:Nat):ns (n+1)=ns n++[(n:Int)]:=by simp [ns,List.range_succ]
theorem D4 {α β:Type} {F:α→List β} {b:Nat}:∀ {l:List α},(∀ x∈l,(F x).length≤b)→(l.flatMap F).length≤l.length * b:=by
 intro l
 induction l with
 | nil=>intro _; simp
 | cons a l ih=>
  intro h
  have h1:=h a (by simp)
  have h2:=ih fun x hx=>h x (by simp [hx])
  rw [List.flatMap_cons,List.length_append,List.length_cons,Nat.add_mul,Nat.one_mul]
  omega
theorem sS {β:Type} (n:Nat) (F:Int→List β):(ns (n+1)).flatMap F=(ns n).flatMap F++F n:=by
 rw [IY,List.flatMap_append]; simp
theorem AM {α β:Type} {F:α→List β}:∀ {l:List α},l.Nodup→(∀ x∈l,(F x).Nodup)→(∀ x∈l,∀ y∈l,∀ z,z∈F x→z∈F y→x=y)→(l.flatMap F).Nodup:=by
 intro l
 induction l with
 | nil=>intro _ _ _; simp
 | cons a l ih=>
  intro hn h1 h2
  rw [List.nodup_cons] at hn
  rw [List.flatMap_cons,List.nodup_append]
  refine ⟨h1 a (by simp),ih hn.2 (fun x hx=>h1 x (by simp [hx])) fun x hx y hy=>h2 x (by simp [hx]) y (by simp [hy]),?_⟩
  intro z hz w hw e
  subst e
  obtain ⟨y,hy,hyz⟩:=List.mem_flatMap.1 hw
  have:=h2 a (by simp) y (by simp [hy]) z hz hyz
  rw [this] at hn
  exact hn.1 hy
theorem yZ (n:Nat):(ns n).Nodup:=by
 have:=sx (n:=n) (p:=fun _=>true)
 rwa [List.filter_eq_self.2 fun _ _=>rfl] at this
def x6 (l:List Int):ByteArray:=strOfNums (l.map (fun n=>IntKind.u8.wrap n)++[255])
theorem x5 {l:List Int} (hl:l.length≤1048576):kK [l]=some (x6 l):=by
 unfold kK
 refine (congrArg ao (du [l] (fun i=>(if i=0 then [] else l.map (fun n=>IntKind.u8.wrap n)++[255],(i:Int))) (e:=(l.map (fun n=>IntKind.u8.wrap n)++[255],1)) rfl ?_ ?_)).trans rfl
 ·intro i y hy
  obtain rfl:i=0:=by have:=bf hy; simp at this; exact this
  obtain rfl:l=y:=by simpa using hy
  show mV [l] [] ((0:Nat):Int)=_
  unfold mV
  have:idx [l] ((0:Nat):Int)=some l:=by rw [bn]; rfl
  rw [aw (by simp),cond_true,this,aA]
  refine (du l (fun i=>((l.take i).map (fun n=>IntKind.u8.wrap n),(i:Int))) (e:=(l.map (fun n=>IntKind.u8.wrap n),(l.length:Int))) rfl ?_ ?_).trans ?_
  ·intro i n hn
   have hi:=bf hn
   have ht:((l.take i).map (fun n=>IntKind.u8.wrap n)).length≤1048576:=by rw [List.length_map,List.length_take]; omega
   show mW l ((l.take i).map (fun n=>IntKind.u8.wrap n)) (i:Int)=_
   unfold mW
   rw [aw (by omega),cond_true,bn,hn,aA,dR (by omega) (by omega),aA,bB (by omega),p8 hn,List.map_append]; rfl
  ·show mW l _ _=_
   unfold mW
   rw [aX (by omega),cond_false,List.take_length]
  ·have ht:(l.map (fun n=>IntKind.u8.wrap n)).length≤1048576:=by rw [List.length_map]; omega
   show (fits 1 ((l.map (fun n=>IntKind.u8.wrap n)).length+1)>>=_)=_
   rw [dR (by omega) (by omega),aA,bB (by omega)]; rfl
 ·show mV [l] _ _=_
  unfold mV
  rw [aX (by simp),cond_false]; rfl
theorem aah {n:Int} (h0:0≤n) (h1:n < 256):IntKind.u8.wrap n=n:=by
 unfold IntKind.wrap
 have:n % (2 ^ IntKind.u8.bits:Int)=n:=by
  show n % 256=n
  omega
 rw [this]
 rfl
theorem aai {m n:Int} (m0:0≤m) (m1:m < 256) (n0:0≤n) (n1:n < 256) (h:UInt8.ofNat m.toNat=UInt8.ofNat n.toNat):m=n:=by
 have h2:=congrArg UInt8.toNat h
 rw [UInt8.toNat_ofNat',UInt8.toNat_ofNat',Nat.mod_eq_of_lt (by omega),Nat.mod_eq_of_lt (by omega)] at h2
 omega
def Gr (l:List Int):Prop:=∀ y∈l,0≤y∧y < 256
theorem acD:∀ {l k:List Int},Gr l→Gr k→l.map (fun n=>UInt8.ofNat n.toNat)=k.map (fun n=>UInt8.ofNat n.toNat)→l=k:=by
 intro l
 induction l with
 | nil=>intro k _ _ h; cases k with | nil=>rfl | cons b k=>simp at h
 | cons a l ih=>
  intro k h1 h2 h
  cases k with
  | nil=>simp at h
  | cons b k=>
   rw [List.map_cons,List.map_cons] at h
   injection h with h3 h4
   have ha:=h1 a (by simp)
   have hb:=h2 b (by simp)
   rw [aai ha.1 ha.2 hb.1 hb.2 h3,ih (fun y hy=>h1 y (by simp [hy])) (fun y hy=>h2 y (by simp [hy])) h4]
theorem QZ {l k:List Int} (h1:Gr l) (h2:Gr k) (h:x6 l=x6 k):l=k:=by
 have wr:∀ {l:List Int},Gr l→l.map (fun n=>IntKind.u8.wrap n)=l:=by
  intro l hl
  have:l.map (fun n=>IntKind.u8.wrap n)=l.map id:=List.map_congr_left fun y hy=>aah (hl y hy).1 (hl y hy).2
  rw [this,List.map_id]
 unfold x6 at h
 rw [wr h1,wr h2] at h
 have h3:=congrArg (fun b:ByteArray=>b.data.toList) h
 simp only [strOfNums_data,List.map_append] at h3
 exact acD h1 h2 (List.append_cancel_right h3)
theorem Q0:∀ {l:List (ByteArray×Int)} {k:ByteArray} {v:Int},(∀ p∈l,p.1≠k)→xD l k v=l++[(k,v)]:=by
 intro l
 induction l with
 | nil=>intro k v _; rfl
 | cons p l ih=>
  intro k v h
  have h1:(p.1 == k)=false:=by
   cases e:(p.1 == k) with
   | false=>rfl
   | true=>exact absurd ((MapKept.bytes_beq _ _).1 e) (h p (by simp))
  unfold xD
  rw [h1,cond_false,ih fun q hq=>h q (by simp [hq])]; rfl
theorem Q1 {K:Int→ByteArray}:∀ {l:List Int} {j:Int},j∈l→(∀ i∈l,K i=K j→i=j)→qf (l.map fun i=>(K i,i)) (K j)=some j:=by
 intro l
 induction l with
 | nil=>intro j h; cases h
 | cons a l ih=>
  intro j hj hi
  rw [List.map_cons]
  unfold qf
  cases e:(K a == K j) with
  | true=>
   have:=hi a (by simp) ((MapKept.bytes_beq _ _).1 e)
   rw [cond_true]
   show some a=some j
   rw [this]
  | false=>
   have mc:j≠a:=fun h=>by rw [h] at e; rw [(MapKept.bytes_beq _ _).2 rfl] at e; cases e
   rw [cond_false]
   exact ih ((List.mem_cons.1 hj).resolve_left mc) fun i h=>hi i (by simp [h])
structure QS (A:List (List Int)):Prop where
 n:A.length≤300000
 nd:A.Nodup
 l:∀ r∈A,r.length≤1000
 b:∀ r∈A,Gr r
theorem IZ {A:List (List Int)} (nd:A.Nodup) {i j:Int} (i0:0≤i) (i1:i < A.length) (j0:0≤j) (j1:j < A.length) (h:gr A i=gr A j):i=j:=by
 unfold gr at h
 rw [List.getD_eq_getElem?_getD,List.getD_eq_getElem?_getD,List.getElem?_eq_getElem (by omega),List.getElem?_eq_getElem (by omega)] at h
 have h':A[i.toNat]'(by omega)=A[j.toNat]'(by omega):=h
 have k:=List.pairwise_iff_getElem.1 nd
 rcases Nat.lt_trichotomy i.toNat j.toNat with hl | hl | hl
 ·exact absurd h' (k _ _ (by omega) (by omega) hl)
 ·omega
 ·exact absurd h'.symm (k _ _ (by omega) (by omega) hl)
def y4 (A:List (List Int)):List (ByteArray×Int):=cj A.length fun i=>(x6 (gr A i),i)
theorem WV {A:List (List Int)} {i:Int} (i0:0≤i) (i1:i < A.length):A[i.toNat]? = some (gr A i):=by
 have:=cb i0 i1
 rwa [wD i0] at this
theorem E7 {A:List (List Int)} {r:List Int} (h:r∈A):(0≤bd A r∧bd A r < A.length)∧gr A (bd A r)=r:=by
 obtain ⟨j,h1,h2⟩:=AO h
 have hj:=bf h2
 refine ⟨by omega,?_⟩
 have:=WV (A:=A) (i:=bd A r) (by omega) (by omega)
 rw [h1,Int.toNat_natCast,h2] at this
 rw [h1]
 exact (Option.some.inj this).symm
theorem Ov {A:List (List Int)} (nd:A.Nodup) {j:Int} (j0:0≤j) (j1:j < A.length):bd A (gr A j)=j:=by
 obtain ⟨⟨k0,k1⟩,e⟩:=E7 (j6 j0 j1)
 exact IZ nd k0 k1 j0 j1 e
section
variable {A:List (List Int)} (H:QS A)
include H
theorem WW {i j:Int} (i0:0≤i) (i1:i < A.length) (j0:0≤j) (j1:j < A.length) (h:x6 (gr A i)=x6 (gr A j)):i=j:=
 IZ H.nd i0 i1 j0 j1 (QZ (H.b _ (j6 i0 i1)) (H.b _ (j6 j0 j1)) h)
theorem KY:mX A=some (y4 A):=by
 have hn:=H.n
 unfold mX
 refine (congrArg ao (du (ns A.length) (fun i=>(cj i (fun i=>(x6 (gr A i),i)),(i:Int))) (e:=(y4 A,(A.length:Int))) rfl ?_ ?_)).trans rfl
 ·intro i x hx
  obtain ⟨rfl,hi⟩:=c8 hx
  have hr:=H.l _ (j6 (l:=A) (j:=(i:Int)) (by omega) (by omega))
  show kC A (cj i _,(i:Int))=_
  unfold kC
  dsimp only
  rw [aw (by omega),cond_true,cb (by omega) (by omega),aA,x5 (by omega),aA,bB (by omega),Q0,km]
  intro p hp e
  obtain ⟨j,⟨j0,j1⟩,rfl⟩:=uk.1 hp
  have:=WW H j0 (by omega) (by omega) (by omega) e
  omega
 ·show kC A (cj _ _,_)=_
  unfold kC
  dsimp only
  rw [cH,aX (by omega),cond_false]; rfl
theorem E8 {r:List Int} (hr:r∈A):(qf (y4 A) (x6 r)).getD 0=bd A r:=by
 obtain ⟨⟨j0,j1⟩,e⟩:=E7 hr
 have h:qf (y4 A) (x6 (gr A (bd A r)))=some (bd A r):=Q1 (K:=fun i=>x6 (gr A i)) (dv.2 ⟨j0,j1⟩) fun i hi h=>by
  have:=dv.1 hi
  exact WW H this.1 this.2 j0 j1 h
 rw [e] at h
 rw [h]; rfl
end
def ij (A:List (List Int)) (k:Int):List Int:=cj A.length fun i=>gi (gr A i) k
theorem tY {A:List (List Int)} {k i:Int} (i0:0≤i) (i1:i < A.length):gi (ij A k) i=gi (gr A i) k:=uP i0 i1
theorem AN {A:List (List Int)} (hn:A.length≤300000) {k:Int} (k0:0≤k) (hk:∀ r∈A,k < (r.length:Int)):jT A k=some (ij A k):=by
 unfold jT
 refine (congrArg ao (x7 A.length (fun i=>gi (gr A i) k) (fun acc i=>(acc,(i:Int))) rfl ?_ ?_)).trans rfl
 ·intro i acc hi ha
  have hr:=hk _ (j6 (l:=A) (j:=(i:Int)) (by omega) (by omega))
  show kD A k acc i=_
  unfold kD
  rw [aw (by omega),cond_true,cb (by omega) (by omega),aA,bQ k0 (by omega),aA,dR (by omega) (by omega),aA,bB (by omega)]
 ·intro acc ha
  show kD A k acc _=_
  unfold kD
  rw [aX (by omega),cond_false]
def sR (c:aH) (G:Int→Int→Int) (f h:Int):Int:=bif gi c.To f == gi c.aG h then G f h else -1
def qh (c:aH) (G:Int→Int→Int):List (List Int):=cj c.aG.length fun f=>cj c.aG.length fun h=>sR c G f h
theorem set_set {α:Type} (l:List α) (i:Nat) (a b:α):(l.set i a).set i b=l.set i b:=by simp
theorem C4 {α:Type} {l:List α} {i:Nat} (h:i < l.length) (a:α):idx (l.set i a) (i:Int)=some a:=by rw [bn,List.getElem?_set_self h]
theorem OB {c:aH} {g:Int→Int→Option Int} {G:Int→Int→Int} (hn:c.aG.length≤1000) (ht:c.To.length=c.aG.length)
  (hg:∀ f h:Int,0≤f→f < c.aG.length→0≤h→h < c.aG.length→gi c.To f=gi c.aG h→g f h=some (G f h)) :
  jD c g=some (aH.mk c.aD c.aG c.To c.aI (qh c G)):=by
 have tl:(qh c G).length=c.aG.length:=bI _ _
 unfold jD
 rw [show dE c=some (c.aG.length:Int) from rfl,aA,C5 (by omega) (by omega),aA]
 refine (congrArg Gh (du (qh c G) (fun i=>((i:Int),(qh c G).take i++List.replicate ((qh c G).length - i) ([]:List Int))) (e:=((c.aG.length:Int),qh c G)) (by simp [tl]) ?_ ?_)).trans rfl
 ·intro i row av
  have hi:=bf av
  rw [tl] at hi
  have hr:row=cj c.aG.length fun h=>sR c G i h:=by
   have:=vR (fun f=>cj c.aG.length fun h=>sR c G f h) hi
   rw [show (qh c G)[i]? = _ from this] at av
   exact (Option.some.inj av).symm
  have rl:row.length=c.aG.length:=by rw [hr,bI]
  have fv:((qh c G).take i++List.replicate ((qh c G).length - i) ([]:List Int)).length=c.aG.length:=by simp [tl]; omega
  have pr:=D6 (qh c G) ([]:List Int) av
  have WX:=get_copy (qh c G) ([]:List Int) av
  generalize (qh c G).take i++List.replicate ((qh c G).length - i) ([]:List Int)=o at fv pr WX
  show fG c g (c.aG.length:Int) c.aG.length (i:Int) o=_
  unfold fG
  rw [List.length_replicate,aw (by omega),cond_true,C5 (by omega) (by omega),aA,bn,WX,aA,Int.toNat_natCast,C4 (by omega),aA]
  refine (du row (fun j=>((j:Int),o.set i (row.take j++List.replicate (row.length - j) (0:Int)))) (e:=((c.aG.length:Int),o.set i row)) (by simp [rl]) ?_ ?_).trans ?_
  ·intro j v hv
   have hj:=bf hv
   rw [rl] at hj
   have kh:v=sR c G i j:=by
    have:=vR (fun h=>sR c G i h) hj
    rw [hr,show (cj c.aG.length fun h=>sR c G i h)[j]? = _ from this] at hv
    exact (Option.some.inj hv).symm
   have H8:(row.take j++List.replicate (row.length - j) (0:Int)).length=c.aG.length:=by simp; omega
   have Mr:=D6 row (0:Int) hv
   have Tl:=get_copy row (0:Int) hv
   generalize row.take j++List.replicate (row.length - j) (0:Int)=e at H8 Mr Tl
   show fH c g (i:Int) (List.replicate c.aG.length (0:Int)) (j:Int) (o.set i e)=_
   unfold fH
   rw [List.length_replicate,aw (by omega),cond_true,C4 (by omega),aA,bn,Tl,aA,bQ (by omega) (by omega),aA,bQ (by omega) (by omega),aA,Int.toNat_natCast,Int.toNat_natCast,set_set,C4 (by omega)]
   unfold sR at kh
   by_cases ec:gi c.To i=gi c.aG j
   ·rw [sk ec] at kh ⊢
    rw [cond_true,aA,hg i j (by omega) (by omega) (by omega) (by omega) ec,aA,C4 (by omega),aA,set_set,set_set,bB (by omega)]
    rw [cond_true] at kh
    rw [← kh,Mr]
   ·rw [rz ec] at kh ⊢
    rw [cond_false] at kh
    rw [cond_false,bB (by omega),← kh,Mr]
  ·show fH c g _ _ _ _=_
   unfold fH
   rw [List.length_replicate,aX (by omega),cond_false]
   simp [List.take_of_length_le (Nat.le_of_eq rl),rl]
  ·dsimp only
   rw [pr,bB (by omega)]
 ·show fG c g _ _ _ _=_
  unfold fG
  rw [List.length_replicate,aX (by omega),cond_false]
  simp [List.take_of_length_le (Nat.le_of_eq tl),tl]
theorem QV {c:aH} {n k:Nat} {G:Int→Int→Int→Prop} {F:Int→Int→Int→Int} {I:Int→Int} {J:Int→Int→Int}
  (n8:n≤8) (k40:k≤40) (ho:c.aD=(n:Int)) (hl:c.aG.length=k) (lT:c.To.length=k) (lI:c.aI.length=n) (lK:c.aB.length=k) (av:∀ f:Int,0≤f→f < k→(gr c.aB f).length=k)
  (hi:∀ i:Int,0≤i→i < n→gi c.aI i=F i i (I i)) (WY:∀ i:Int,0≤i→i < n→G i i (I i))
  (gb:∀ i j f:Int,G i j f→(0≤i∧i < n)∧(0≤j∧j < n)) (nw:∀ i j f:Int,G i j f→tW c i j (F i j f)) (hr:∀ v:Int,0≤v→v < k→∃ i j f:Int,G i j f∧v=F i j f)
  (WZ:∀ i j l f g:Int,G i j f→G j l g→G i l (J f g)) (I0:∀ i j l f g:Int,G i j f→G j l g→gk c.aB (F i j f) (F j l g)=F i l (J f g)) (hn:∀ f g:Int,0≤f→f < k→0≤g→g < k→gi c.To f≠gi c.aG g→gk c.aB f g = -1)
  (uL:∀ i j f:Int,G i j f→J (I i) f=f) (uR:∀ i j f:Int,G i j f→J f (I j)=f) (hA:∀ i j l o f g h:Int,G i j f→G j l g→G l o h→J (J f g) h=J f (J g h)):lg c:=by
 have W0:∀ x:Int,0≤x→x < n→tW c x x (gi c.aI x):=fun x x0 x1=>by rw [hi x x0 x1]; exact nw _ _ _ (WY x x0 x1)
 refine { o0:=by omega,o8:=by omega,m:=by omega,f:=fun x hx=>?_,tl:=by omega,t:=fun x hx=>?_,kl:=by omega,il:=by omega,i:=fun x hx=>?_,zb:=fun x x0 x1=>(W0 x x0 (by omega)).2.1,G5:=fun x x0 x1=>(W0 x x0 (by omega)).2.2,row:=fun f f0 f1=>?_,cell:=fun f g f0 f1 g0 g1 e=>?_,none:=fun f g f0 f1 g0 g1 e=>?_,HC:=fun f f0 f1=>?_,C3:=fun f f0 f1=>?_,assoc:=fun p q r p0 p1 q0 q1 r0 r1 e1 e2=>?_ }
 ·obtain ⟨v,v0,v1,rfl⟩:=zY hx
  obtain ⟨i,j,f,h,rfl⟩:=hr v v0 (by omega)
  rw [(nw _ _ _ h).2.1,ho]; exact (gb _ _ _ h).1
 ·obtain ⟨v,v0,v1,rfl⟩:=zY hx
  obtain ⟨i,j,f,h,rfl⟩:=hr v v0 (by omega)
  rw [(nw _ _ _ h).2.2,ho]; exact (gb _ _ _ h).2
 ·obtain ⟨v,v0,v1,rfl⟩:=zY hx
  exact (W0 v v0 (by omega)).1
 ·rw [av f f0 (by omega),hl]
 ·obtain ⟨i,j,u,h,rfl⟩:=hr f f0 (by omega)
  obtain ⟨j',l,v,h',rfl⟩:=hr g g0 (by omega)
  rw [(nw _ _ _ h).2.2,(nw _ _ _ h').2.1] at e
  subst e
  have:=nw _ _ _ (WZ _ _ _ _ _ h h')
  rw [I0 _ _ _ _ _ h h',(nw _ _ _ h).2.1,(nw _ _ _ h').2.2]
  exact ⟨this.1.1,this.1.2,this.2.1,this.2.2⟩
 ·exact hn f g f0 (by omega) g0 (by omega) e
 ·obtain ⟨i,j,u,h,rfl⟩:=hr f f0 (by omega)
  have b:=(gb _ _ _ h).1
  rw [(nw _ _ _ h).2.1,hi _ b.1 b.2,I0 _ _ _ _ _ (WY _ b.1 b.2) h,uL _ _ _ h]
 ·obtain ⟨i,j,u,h,rfl⟩:=hr f f0 (by omega)
  have b:=(gb _ _ _ h).2
  rw [(nw _ _ _ h).2.2,hi _ b.1 b.2,I0 _ _ _ _ _ h (WY _ b.1 b.2),uR _ _ _ h]
 ·obtain ⟨i,j,u,h,rfl⟩:=hr p p0 (by omega)
  obtain ⟨j',l,v,h',rfl⟩:=hr q q0 (by omega)
  obtain ⟨l',o,w,h2,rfl⟩:=hr r r0 (by omega)
  rw [(nw _ _ _ h).2.2,(nw _ _ _ h').2.1] at e1
  rw [(nw _ _ _ h').2.2,(nw _ _ _ h2).2.1] at e2
  subst e1 e2
  rw [I0 _ _ _ _ _ h h',I0 _ _ _ _ _ h' h2,I0 _ _ _ _ _ (WZ _ _ _ _ _ h h') h2,I0 _ _ _ _ _ h (WZ _ _ _ _ _ h' h2),hA _ _ _ _ _ _ _ h h' h2]
end Go.Proofs.YtcnehblmgfbfoaaGreat
