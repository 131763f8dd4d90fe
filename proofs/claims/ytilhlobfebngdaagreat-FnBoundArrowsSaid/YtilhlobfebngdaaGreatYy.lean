/- Models that compute: their loops with fuel; what they give the models give. No condition beside those that each theorem names. -/
import Derived.Test.YtilhlobfebngdaaGreatYt
import Derived.KernelRfl
import Derived.Test.YtilhlobfebngdaaGreatYw
namespace Go.Proofs.YtilhlobfebngdaaGreat
open Go Go.Li
set_option linter.unusedVariables false
def ba {α:Type} (m m':Option α):Prop:=∀ o,m=some o→m'=some o
theorem ba.refl {α:Type} (m:Option α):ba m m:=fun _ h=>h
theorem ba.ak {S R:Type} {m m':Option (Out S R)} (h:ba m m'):ba (ak m) (ak m'):=fun o ho=>by
 have h1:=Ik ho
 rw [h _ h1]; rfl
theorem ba.bind {α β:Type} {m m':Option α} {f f':α→Option β} (h:ba m m') (k:∀ x,ba (f x) (f' x)):ba (m>>=f) (m'>>=f'):=fun o ho=>by
 cases hm:m with
 | none=>rw [hm] at ho; cases ho
 | some x=>rw [hm] at ho; rw [h x hm]; exact k x o ho
theorem ba.cond {α:Type} {b:Bool} {x x' y y':Option α} (h:ba x x') (k:ba y y'):ba (bif b then x else y) (bif b then x' else y'):=by
 cases b with
 | true=>exact h
 | false=>exact k
theorem ba.af {S S1 R:Type} {m m':Option (Out S1 R)} {f f':S1→Option (Out S R)} (h:ba m m') (k:∀ x,ba (f x) (f' x)):ba (af m f) (af m' f'):=fun o ho=>by
 unfold Go.Li.af at ho ⊢
 cases hm:m with
 | none=>rw [hm] at ho; cases ho
 | some x=>
  rw [hm] at ho
  rw [h x hm]
  cases x with
  | norm s=>exact k s o ho
  | _=>exact ho
theorem ba.ae {S R:Type} {n:Nat} {m m':Option (Out S R)} (h:ba m m'):ba (ae n m) (ae n m'):=fun o ho=>by
 unfold Go.Li.ae at ho ⊢
 cases hm:m with
 | none=>rw [hm] at ho; cases ho
 | some x=>rw [hm] at ho; rw [h x hm]; exact ho
def vS {S R:Type} (body:S→Option (Out S R)) (s:S):Option (Out S R):=p5 body 300 s
theorem UJ {S R:Type} {b b':S→Option (Out S R)} (h:∀ s,ba (b s) (b' s)):∀ k s,ba (p5 b k s) (p5 b' k s):=by
 intro k
 induction k with
 | zero=>intro s o ho; cases ho
 | succ k ih=>
  intro s o ho
  unfold p5 at ho ⊢
  cases hm:b s with
  | none=>rw [hm] at ho; cases ho
  | some x=>
   rw [hm] at ho
   rw [h s x hm]
   cases x with
   | norm s'=>exact ih s' o ho
   | _=>exact ho
theorem ba.loop {S R:Type} {b b':S→Option (Out S R)} {s:S} (h:∀ s,ba (b s) (b' s)):ba (vS b s) (ah b' s):=fun o ho=>yj.2 ⟨300,UJ h 300 s o ho⟩
def qC (x0:(List Int)):Option ((List Int)):=
 ak (S:=Unit) ((fits 8 ((([]:(List Int))).length+x0.length))>>=fun n15=>(some (Out.ret ((([]:(List Int))++x0)))))
theorem uE:∀ a0,ba (qC a0) (dN a0):=by
 intros; unfold qC dN
 repeat' first
  | with_reducible exact ba.refl _
  | refine ba.ak ?_
  | refine ba.af ?_ (fun _=>?_)
  | refine ba.ae ?_
  | refine ba.loop (fun _=>?_)
  | refine ba.bind ?_ (fun _=>?_)
  | refine ba.cond ?_ ?_
  | split
def pQ (x0:(List Int)) (x1:(List Int)) (ao:Int):Option (Out (Int) (Bool)):=
 (((bif decide (ao < (x0.length:Int)) then (some (decide (ao < (x1.length:Int)))) else (some (false))))>>=fun g6=>(bif g6 then ((idx x0 (ao))>>=fun Qk=>((idx x1 (ao))>>=fun ur=>(bif (Qk) != (ur) then ((idx x0 (ao))>>=fun IE=>((idx x1 (ao))>>=fun zV=>(some (Out.ret ((decide (IE < zV))))))) else (some (Out.norm (aj (ao+(1:Int)))))))) else (some (Out.exit 0 (ao)))))
theorem uO:∀ a0 a1 a2,ba (pQ a0 a1 a2) (fX a0 a1 a2):=by
 intros; unfold pQ fX
 repeat' first
  | with_reducible exact ba.refl _
  | refine ba.ak ?_
  | refine ba.af ?_ (fun _=>?_)
  | refine ba.ae ?_
  | refine ba.loop (fun _=>?_)
  | refine ba.bind ?_ (fun _=>?_)
  | refine ba.cond ?_ ?_
  | split
def sU (x0:(List Int)) (x1:(List Int)):Option (Bool):=
 ak (S:=Unit) (af (ae 0 (vS (pQ x0 x1) ((0:Int)))) (fun ao=>(some (Out.ret ((decide ((x0.length:Int) < (x1.length:Int))))))))
theorem vB:∀ a0 a1,ba (sU a0 a1) (oB a0 a1):=by
 intros; unfold sU oB
 repeat' first
  | with_reducible exact ba.refl _
  | exact uO _ _ _
  | refine ba.ak ?_
  | refine ba.af ?_ (fun _=>?_)
  | refine ba.ae ?_
  | refine ba.loop (fun _=>?_)
  | refine ba.bind ?_ (fun _=>?_)
  | refine ba.cond ?_ ?_
  | split
def qQ (x0:bZ) (x1:bZ):Option (Bool):=
 ak (S:=Unit) (bif (x0.aE) != (x1.aE) then (some (Out.ret ((decide (x0.aE < x1.aE))))) else (bif (x0.To) != (x1.To) then (some (Out.ret ((decide (x0.To < x1.To))))) else ((sU x0.mh x1.mh)>>=fun BN=>(some (Out.ret (BN))))))
theorem uQ:∀ a0 a1,ba (qQ a0 a1) (kS a0 a1):=by
 intros; unfold qQ kS
 repeat' first
  | with_reducible exact ba.refl _
  | exact vB _ _
  | refine ba.ak ?_
  | refine ba.af ?_ (fun _=>?_)
  | refine ba.ae ?_
  | refine ba.loop (fun _=>?_)
  | refine ba.bind ?_ (fun _=>?_)
  | refine ba.cond ?_ ?_
  | split
def qR (x0:Int) (s0:(List bZ)) (s1:Int):Option (Out ((List bZ)×Int) ((List bZ))):=
 (bif decide (s1 < x0) then ((fits 40 (s0.length+1))>>=fun n26=>(some (Out.norm (s0++[bZ.mk s1 s1 []],aj (s1+(1:Int)))))) else (some (Out.exit 0 (s0,s1))))
theorem uR:∀ a0 a1 a2,ba (qR a0 a1 a2) (mN a0 a1 a2):=by
 intros; unfold qR mN
 repeat' first
  | with_reducible exact ba.refl _
  | refine ba.ak ?_
  | refine ba.af ?_ (fun _=>?_)
  | refine ba.ae ?_
  | refine ba.loop (fun _=>?_)
  | refine ba.bind ?_ (fun _=>?_)
  | refine ba.cond ?_ ?_
  | split
def qS (x1:(List Int)) (x2:(List Int)) (s1:Int) (s0:(List bZ)) (s2:Int):Option (Out ((List bZ)×Int) ((List bZ))):=
 (bif decide (s2 < (x1.length:Int)) then ((idx x1 (s2))>>=fun BO=>((idx s0 (s1))>>=fun Ql=>(bif (BO) == (Ql.To) then ((idx s0 (s1))>>=fun GC=>((idx x2 (s2))>>=fun Dc=>((idx s0 (s1))>>=fun Zo=>((qC Zo.mh)>>=fun KK=>((fits 8 (KK.length+1))>>=fun n72=>((fits 40 (s0.length+1))>>=fun n75=>(some (Out.norm (s0++[bZ.mk GC.aE Dc (KK++[s2])],aj (s2+(1:Int))))))))))) else (some (Out.norm (s0,aj (s2+(1:Int)))))))) else (some (Out.exit 4 (s0,s2))))
theorem uS:∀ a0 a1 a2 a3 a4,ba (qS a0 a1 a2 a3 a4) (kV a0 a1 a2 a3 a4):=by
 intros; unfold qS kV
 repeat' first
  | with_reducible exact ba.refl _
  | exact uE _
  | refine ba.ak ?_
  | refine ba.af ?_ (fun _=>?_)
  | refine ba.ae ?_
  | refine ba.loop (fun _=>?_)
  | refine ba.bind ?_ (fun _=>?_)
  | refine ba.cond ?_ ?_
  | split
def qT (x1:(List Int)) (x2:(List Int)) (s0:(List bZ)) (s1:Int):Option (Out ((List bZ)×Int) ((List bZ))):=
 (((bif decide (s1 < (s0.length:Int)) then (some (decide ((s0.length:Int)≤(40:Int)))) else (some (false))))>>=fun Qm=>(bif Qm then (af (ae 4 (vS (fun s=>qS x1 x2 s1 s.1 s.2) (s0,(0:Int)))) (fun (s0,s2)=>(some (Out.norm (s0,aj (s1+(1:Int))))))) else (some (Out.exit 2 (s0,s1)))))
theorem uT:∀ a0 a1 a2 a3,ba (qT a0 a1 a2 a3) (mO a0 a1 a2 a3):=by
 intros; unfold qT mO
 repeat' first
  | with_reducible exact ba.refl _
  | exact uS _ _ _ _ _
  | refine ba.ak ?_
  | refine ba.af ?_ (fun _=>?_)
  | refine ba.ae ?_
  | refine ba.loop (fun _=>?_)
  | refine ba.bind ?_ (fun _=>?_)
  | refine ba.cond ?_ ?_
  | split
def qU (s0:(List bZ)) (s1:Int):Option (Out ((List bZ)×Int) ((List bZ))):=
 (((bif decide ((0:Int) < s1) then ((idx s0 (s1))>>=fun Fc=>((idx s0 (aj (s1 - (1:Int))))>>=fun GD=>((qQ Fc GD)>>=fun Qn=>(some (Qn))))) else (some (false))))>>=fun Zp=>(bif Zp then ((idx s0 (s1))>>=fun Tb=>((idx s0 (aj (s1 - (1:Int))))>>=fun wW=>((idx s0 (s1))>>=fun Fy=>((idx (s0.set (s1).toNat wW) (aj (s1 - (1:Int))))>>=fun Tc=>(some (Out.norm ((s0.set (s1).toNat wW).set (aj (s1 - (1:Int))).toNat Tb,aj (s1 - (1:Int))))))))) else (some (Out.exit 8 (s0,s1)))))
theorem uU:∀ a0 a1,ba (qU a0 a1) (mP a0 a1):=by
 intros; unfold qU mP
 repeat' first
  | with_reducible exact ba.refl _
  | exact uQ _ _
  | refine ba.ak ?_
  | refine ba.af ?_ (fun _=>?_)
  | refine ba.ae ?_
  | refine ba.loop (fun _=>?_)
  | refine ba.bind ?_ (fun _=>?_)
  | refine ba.cond ?_ ?_
  | split
def qV (s0:(List bZ)) (s1:Int):Option (Out ((List bZ)×Int) ((List bZ))):=
 (bif decide (s1 < (s0.length:Int)) then (af (ae 8 (vS (fun s=>qU s.1 s.2) (s0,s1))) (fun (s0,s2)=>(some (Out.norm (s0,aj (s1+(1:Int))))))) else (some (Out.exit 6 (s0,s1))))
theorem uV:∀ a0 a1,ba (qV a0 a1) (mQ a0 a1):=by
 intros; unfold qV mQ
 repeat' first
  | with_reducible exact ba.refl _
  | exact uU _ _
  | refine ba.ak ?_
  | refine ba.af ?_ (fun _=>?_)
  | refine ba.ae ?_
  | refine ba.loop (fun _=>?_)
  | refine ba.bind ?_ (fun _=>?_)
  | refine ba.cond ?_ ?_
  | split
def tL (x0:Int) (x1:(List Int)) (x2:(List Int)):Option ((List bZ)):=
 ak (S:=Unit) (af (ae 0 (vS (fun s=>qR x0 s.1 s.2) (([]:(List bZ)),(0:Int)))) (fun (s0,s1)=>(af (ae 2 (vS (fun s=>qT x1 x2 s.1 s.2) (s0,(0:Int)))) (fun (s0,s1)=>(af (ae 6 (vS (fun s=>qV s.1 s.2) (s0,(1:Int)))) (fun (s0,s1)=>(some (Out.ret (s0)))))))))
theorem vH:∀ a0 a1 a2,ba (tL a0 a1 a2) (nN a0 a1 a2):=by
 intros; unfold tL nN
 repeat' first
  | with_reducible exact ba.refl _
  | exact uR _ _ _
  | exact uT _ _ _ _
  | exact uV _ _
  | refine ba.ak ?_
  | refine ba.af ?_ (fun _=>?_)
  | refine ba.ae ?_
  | refine ba.loop (fun _=>?_)
  | refine ba.bind ?_ (fun _=>?_)
  | refine ba.cond ?_ ?_
  | split
def sW (x0:aF):Option (Bool):=
 ak (S:=Unit) (((bif decide (x0.aA≤(8:Int)) then (some (decide ((x0.aE.length:Int)≤(40:Int)))) else (some (false))))>>=fun g8=>(some (Out.ret (g8))))
theorem vC:∀ a0,ba (sW a0) (dT a0):=by
 intros; unfold sW dT
 repeat' first
  | with_reducible exact ba.refl _
  | refine ba.ak ?_
  | refine ba.af ?_ (fun _=>?_)
  | refine ba.ae ?_
  | refine ba.loop (fun _=>?_)
  | refine ba.bind ?_ (fun _=>?_)
  | refine ba.cond ?_ ?_
  | split
def pR (x0:(List Int)) (x1:(List Int)) (ao:Int):Option (Out (Int) (Bool)):=
 (bif decide (ao < (x0.length:Int)) then ((idx x0 (ao))>>=fun ur=>((idx x1 (ao))>>=fun GF=>(bif (ur) != (GF) then (some (Out.ret (false))) else (some (Out.norm (aj (ao+(1:Int)))))))) else (some (Out.exit 0 (ao))))
theorem uP:∀ a0 a1 a2,ba (pR a0 a1 a2) (nS a0 a1 a2):=by
 intros; unfold pR nS
 repeat' first
  | with_reducible exact ba.refl _
  | refine ba.ak ?_
  | refine ba.af ?_ (fun _=>?_)
  | refine ba.ae ?_
  | refine ba.loop (fun _=>?_)
  | refine ba.bind ?_ (fun _=>?_)
  | refine ba.cond ?_ ?_
  | split
def sX (x0:(List Int)) (x1:(List Int)):Option (Bool):=
 ak (S:=Unit) (bif ((x0.length:Int)) != ((x1.length:Int)) then (some (Out.ret (false))) else (af (ae 0 (vS (pR x0 x1) ((0:Int)))) (fun ao=>(some (Out.ret (true))))))
theorem vD:∀ a0 a1,ba (sX a0 a1) (fQ a0 a1):=by
 intros; unfold sX fQ
 repeat' first
  | with_reducible exact ba.refl _
  | exact uP _ _ _
  | refine ba.ak ?_
  | refine ba.af ?_ (fun _=>?_)
  | refine ba.ae ?_
  | refine ba.loop (fun _=>?_)
  | refine ba.bind ?_ (fun _=>?_)
  | refine ba.cond ?_ ?_
  | split
def oW (y8:(List bZ)) (dn:Int) (j4:(List Int)) (j5:(List Int)) (nw:(List Int)):Option (Out (Int×(List Int)×(List Int)×(List Int)) (aF)):=
 (bif decide (dn < (y8.length:Int)) then ((idx y8 (dn))>>=fun Fz=>((fits 8 (j4.length+1))>>=fun n134=>((idx y8 (dn))>>=fun KL=>((fits 8 (j5.length+1))>>=fun n173=>((idx y8 (dn))>>=fun Td=>(bif ((Td.mh.length:Int)) == ((0:Int)) then ((idx y8 (dn))>>=fun KM=>((idx nw (KM.aE))>>=fun afD=>(some (Out.norm (aj (dn+(1:Int)),j4++[Fz.aE],j5++[KL.To],nw.set (KM.aE).toNat (dn)))))) else (some (Out.norm (aj (dn+(1:Int)),j4++[Fz.aE],j5++[KL.To],nw))))))))) else (some (Out.exit 0 (dn,j4,j5,nw))))
theorem uJ:∀ a0 a1 a2 a3 a4,ba (oW a0 a1 a2 a3 a4) (lA a0 a1 a2 a3 a4):=by
 intros; unfold oW lA
 repeat' first
  | with_reducible exact ba.refl _
  | refine ba.ak ?_
  | refine ba.af ?_ (fun _=>?_)
  | refine ba.ae ?_
  | refine ba.loop (fun _=>?_)
  | refine ba.bind ?_ (fun _=>?_)
  | refine ba.cond ?_ ?_
  | split
def oX (y8:(List bZ)) (ee:Int) (xQ:(List Int)) (zW:bZ) (za:Int) (qo:Int):Option (Out (Int×Int) (aF)):=
 (bif decide (qo < (y8.length:Int)) then ((((idx y8 (qo))>>=fun Te=>((idx y8 (ee))>>=fun Tf=>(bif (Te.aE) == (Tf.aE) then ((idx y8 (qo))>>=fun Tg=>((sX Tg.mh (xQ++zW.mh))>>=fun Th=>(some (Th)))) else (some (false))))))>>=fun Ti=>(bif Ti then (some (Out.norm (qo,aj (qo+(1:Int))))) else (some (Out.norm (za,aj (qo+(1:Int))))))) else (some (Out.exit 6 (za,qo))))
theorem uK:∀ a0 a1 a2 a3 a4 a5,ba (oX a0 a1 a2 a3 a4 a5) (lB a0 a1 a2 a3 a4 a5):=by
 intros; unfold oX lB
 repeat' first
  | with_reducible exact ba.refl _
  | exact vD _ _
  | refine ba.ak ?_
  | refine ba.af ?_ (fun _=>?_)
  | refine ba.ae ?_
  | refine ba.loop (fun _=>?_)
  | refine ba.bind ?_ (fun _=>?_)
  | refine ba.cond ?_ ?_
  | split
def oY (y8:(List bZ)) (ee:Int) (jy:(List Int)) (sz:Int):Option (Out ((List Int)×Int) (aF)):=
 (bif decide (sz < (y8.length:Int)) then ((idx y8 (ee))>>=fun Tj=>((idx y8 (sz))>>=fun Tk=>(bif (Tj.To) == (Tk.aE) then ((idx y8 (ee))>>=fun Tl=>((qC Tl.mh)>>=fun xQ=>((idx y8 (sz))>>=fun zW=>((fits 8 (xQ.length+zW.mh.length))>>=fun afE=>(af (ae 6 (vS (fun s=>oX y8 ee xQ zW s.1 s.2) ((-1:Int),(0:Int)))) (fun (za,qo)=>((fits 8 (jy.length+1))>>=fun afF=>(some (Out.norm (jy++[za],aj (sz+(1:Int)))))))))))) else ((fits 8 (jy.length+1))>>=fun afG=>(some (Out.norm (jy++[(-1:Int)],aj (sz+(1:Int))))))))) else (some (Out.exit 4 (jy,sz))))
theorem uL:∀ a0 a1 a2 a3,ba (oY a0 a1 a2 a3) (lC a0 a1 a2 a3):=by
 intros; unfold oY lC
 repeat' first
  | with_reducible exact ba.refl _
  | exact uE _
  | exact uK _ _ _ _ _ _
  | refine ba.ak ?_
  | refine ba.af ?_ (fun _=>?_)
  | refine ba.ae ?_
  | refine ba.loop (fun _=>?_)
  | refine ba.bind ?_ (fun _=>?_)
  | refine ba.cond ?_ ?_
  | split
def oZ (y8:(List bZ)) (ee:Int) (pw:(List (List Int))):Option (Out (Int×(List (List Int))) (aF)):=
 (bif decide (ee < (y8.length:Int)) then (af (ae 4 (vS (fun s=>oY y8 ee s.1 s.2) (([]:(List Int)),(0:Int)))) (fun (jy,sz)=>((fits 24 (pw.length+1))>>=fun afH=>(some (Out.norm (aj (ee+(1:Int)),pw++[jy])))))) else (some (Out.exit 2 (ee,pw))))
theorem uM:∀ a0 a1 a2,ba (oZ a0 a1 a2) (jD a0 a1 a2):=by
 intros; unfold oZ jD
 repeat' first
  | with_reducible exact ba.refl _
  | exact uL _ _ _ _
  | refine ba.ak ?_
  | refine ba.af ?_ (fun _=>?_)
  | refine ba.ae ?_
  | refine ba.loop (fun _=>?_)
  | refine ba.bind ?_ (fun _=>?_)
  | refine ba.cond ?_ ?_
  | split
def nY (x0:Int) (x1:(List Int)) (x2:(List Int)):Option (aF):=
 ak (S:=Unit) ((tL (x0) x1 x2)>>=fun y8=>((mk 8 (x0))>>=fun n36=>(af (ae 0 (vS (fun s=>oW y8 s.1 s.2.1 s.2.2.1 s.2.2.2) ((0:Int),([]:(List Int)),([]:(List Int)),List.replicate n36 (0:Int)))) (fun (dn,j4,j5,nw)=>((sW (aF.mk x0 j4 j5 nw (([]:(List (List Int))))))>>=fun Tn=>(bif !(Tn) then (some (Out.ret ((aF.mk x0 j4 j5 nw (([]:(List (List Int)))))))) else (af (ae 2 (vS (fun s=>oZ y8 s.1 s.2) ((0:Int),([]:(List (List Int)))))) (fun (ee,pw)=>(some (Out.ret ((aF.mk x0 j4 j5 nw pw))))))))))))
theorem vA:∀ a0 a1 a2,ba (nY a0 a1 a2) (gJ a0 a1 a2):=by
 intros; unfold nY gJ
 repeat' first
  | with_reducible exact ba.refl _
  | exact vH _ _ _
  | exact vC _
  | exact uJ _ _ _ _ _
  | exact uM _ _ _
  | refine ba.ak ?_
  | refine ba.af ?_ (fun _=>?_)
  | refine ba.ae ?_
  | refine ba.loop (fun _=>?_)
  | refine ba.bind ?_ (fun _=>?_)
  | refine ba.cond ?_ ?_
  | split
end Go.Proofs.YtilhlobfebngdaaGreat
set_option linter.unusedVariables false
set_option linter.unusedSimpArgs false
namespace Go.Proofs.YtilhlobfebngdaaGreat
open Go Go.Li
def NO (n:Nat):List (Int×Int):=(List.range n).flatMap fun (u:Nat)=>((List.range n).filter fun (v:Nat)=>Nat.blt u v).map fun (v:Nat)=>(Int.ofNat u,Int.ofNat v)
def yU (n:Nat):Nat→List (List (Int×Int))
 | 0=>[[]]
 | k+1=>(yU n k).flatMap fun l=>(NO n).map fun p=>p :: l
def H9 (n:Nat) (l:List (Int×Int)):Bool:=match nY n (l.map (·.1)) (l.map (·.2)) with
 | some c=>tyB c
 | none=>false
theorem abO:((yU 2 0++yU 2 1++yU 2 2++yU 2 3).all (H9 2))=true:=by kernel_rfl
theorem abP:((yU 3 0++yU 3 1++yU 3 2++yU 3 3).all (H9 3))=true:=by kernel_rfl
theorem Xn:((yU 4 0++yU 4 1++yU 4 2).all (H9 4))=true:=by kernel_rfl
theorem Xo:((yU 4 3).all (H9 4))=true:=by kernel_rfl
theorem Xp {n:Nat} {u v:Int} (u0:0≤u) (uv:u < v) (v1:v < n):(u,v)∈NO n:=by
 unfold NO
 rw [List.mem_flatMap]
 refine ⟨u.toNat,by rw [List.mem_range]; omega,List.mem_map.2 ⟨v.toNat,List.mem_filter.2 ⟨by rw [List.mem_range]; omega,?_⟩,?_⟩⟩
 ·rw [Nat.blt_eq]; omega
 ·rw [show Int.ofNat u.toNat=u by show ((u.toNat:Nat):Int)=u; omega,show Int.ofNat v.toNat=v by show ((v.toNat:Nat):Int)=v; omega]
theorem Xq {n:Nat}:∀ {l:List (Int×Int)},(∀ p∈l,p∈NO n)→l∈yU n l.length:=by
 intro l
 induction l with
 | nil=>intro _; exact List.mem_singleton.2 rfl
 | cons p l ih=>
  intro h
  show p :: l∈(yU n l.length).flatMap fun l=>(NO n).map fun p=>p :: l
  exact List.mem_flatMap.2 ⟨l,ih fun q hq=>h q (List.mem_cons_of_mem _ hq),List.mem_map.2 ⟨p,h p (by simp),rfl⟩⟩
theorem H0 {n:Nat} {f t:List Int} (hn:n=2∨n=3∨n=4) (hl:t.length=f.length) (hk:f.length≤3) (h:∀ (i:Nat) u v,f[i]? = some u→t[i]? = some v→0≤u∧u < v∧v < n):Ok (gJ n f t) Ty:=by
 have hm:f.zip t∈yU n f.length:=by
  have h1:∀ p∈f.zip t,p∈NO n:=fun p hp=>by
   obtain ⟨i,hi⟩:=List.getElem?_of_mem hp
   obtain ⟨e1,e2⟩:=BX hi
   obtain ⟨a,b,c⟩:=h i _ _ e1 e2
   exact Xp a b c
  have:=Xq h1
  rwa [List.length_zip,hl,Nat.min_self] at this
 have hc:H9 n (f.zip t)=true:=by
  have two:=List.all_eq_true.1 abO
  have three:=List.all_eq_true.1 abP
  have four:=List.all_eq_true.1 Xn
  have acJ:=List.all_eq_true.1 Xo
  simp only [List.mem_append] at two three four
  have zG:f.length=0∨f.length=1∨f.length=2∨f.length=3:=by omega
  rcases hn with rfl | rfl | rfl <;> rcases zG with e | e | e | e <;> rw [e] at hm
  ·exact two _ (.inl (.inl (.inl hm)))
  ·exact two _ (.inl (.inl (.inr hm)))
  ·exact two _ (.inl (.inr hm))
  ·exact two _ (.inr hm)
  ·exact three _ (.inl (.inl (.inl hm)))
  ·exact three _ (.inl (.inl (.inr hm)))
  ·exact three _ (.inl (.inr hm))
  ·exact three _ (.inr hm)
  ·exact four _ (.inl (.inl hm))
  ·exact four _ (.inl (.inr hm))
  ·exact four _ (.inr hm)
  ·exact acJ _ hm
 unfold H9 at hc
 rw [List.map_fst_zip (by omega),List.map_snd_zip (by omega)] at hc
 cases hp:nY n f t with
 | none=>rw [hp] at hc; cases hc
 | some c=>rw [hp] at hc; exact ⟨c,vA _ _ _ _ hp,Wh hc⟩
end Go.Proofs.YtilhlobfebngdaaGreat
