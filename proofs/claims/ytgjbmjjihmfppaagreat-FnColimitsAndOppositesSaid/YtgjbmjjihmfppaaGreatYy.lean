/- Models that compute: their loops with fuel; what they give the models give. No condition beside those that each theorem names. -/
import Derived.Test.YtgjbmjjihmfppaaGreatYt
import Derived.KernelRfl
import Derived.Test.YtgjbmjjihmfppaaGreatYw
namespace Go.Proofs.YtgjbmjjihmfppaaGreat
open Go Go.Li
set_option linter.unusedVariables false
def bc {α:Type} (m m':Option α):Prop:=∀ o,m=some o→m'=some o
theorem bc.refl {α:Type} (m:Option α):bc m m:=fun _ h=>h
theorem bc.ak {S R:Type} {m m':Option (Out S R)} (h:bc m m'):bc (ak m) (ak m'):=fun o ho=>by
 have h1:=F7 ho
 rw [h _ h1]; rfl
theorem bc.bind {α β:Type} {m m':Option α} {f f':α→Option β} (h:bc m m') (k:∀ x,bc (f x) (f' x)):bc (m>>=f) (m'>>=f'):=fun o ho=>by
 cases hm:m with
 | none=>rw [hm] at ho; cases ho
 | some x=>rw [hm] at ho; rw [h x hm]; exact k x o ho
theorem bc.cond {α:Type} {b:Bool} {x x' y y':Option α} (h:bc x x') (k:bc y y'):bc (bif b then x else y) (bif b then x' else y'):=by
 cases b with
 | true=>exact h
 | false=>exact k
theorem bc.ah {S S1 R:Type} {m m':Option (Out S1 R)} {f f':S1→Option (Out S R)} (h:bc m m') (k:∀ x,bc (f x) (f' x)):bc (ah m f) (ah m' f'):=fun o ho=>by
 unfold Go.Li.ah at ho ⊢
 cases hm:m with
 | none=>rw [hm] at ho; cases ho
 | some x=>
  rw [hm] at ho
  rw [h x hm]
  cases x with
  | norm s=>exact k s o ho
  | _=>exact ho
theorem bc.ae {S R:Type} {n:Nat} {m m':Option (Out S R)} (h:bc m m'):bc (ae n m) (ae n m'):=fun o ho=>by
 unfold Go.Li.ae at ho ⊢
 cases hm:m with
 | none=>rw [hm] at ho; cases ho
 | some x=>rw [hm] at ho; rw [h x hm]; exact ho
def ur {S R:Type} (body:S→Option (Out S R)) (s:S):Option (Out S R):=qc body 300 s
theorem RQ {S R:Type} {b b':S→Option (Out S R)} (h:∀ s,bc (b s) (b' s)):∀ k s,bc (qc b k s) (qc b' k s):=by
 intro k
 induction k with
 | zero=>intro s o ho; cases ho
 | succ k ih=>
  intro s o ho
  unfold qc at ho ⊢
  cases hm:b s with
  | none=>rw [hm] at ho; cases ho
  | some x=>
   rw [hm] at ho
   rw [h s x hm]
   cases x with
   | norm s'=>exact ih s' o ho
   | _=>exact ho
theorem bc.loop {S R:Type} {b b':S→Option (Out S R)} {s:S} (h:∀ s,bc (b s) (b' s)):bc (ur b s) (ai b' s):=fun o ho=>wQ.2 ⟨300,RQ h 300 s o ho⟩
def nZ (x0:(List Int)):Option ((List Int)):=
 ak (S:=Unit) ((fits 8 ((([]:(List Int))).length+x0.length))>>=fun n15=>(some (Out.ret ((([]:(List Int))++x0)))))
theorem rD:∀ a0,bc (nZ a0) (dU a0):=by
 intros; unfold nZ dU
 repeat' first
  | with_reducible exact bc.refl _
  | refine bc.ak ?_
  | refine bc.ah ?_ (fun _=>?_)
  | refine bc.ae ?_
  | refine bc.loop (fun _=>?_)
  | refine bc.bind ?_ (fun _=>?_)
  | refine bc.cond ?_ ?_
  | split
def nL (x0:(List Int)) (x1:(List Int)) (ba:Int):Option (Out (Int) (Bool)):=
 (((bif decide (ba < (x0.length:Int)) then (some (decide (ba < (x1.length:Int)))) else (some (false))))>>=fun g6=>(bif g6 then ((idx x0 (ba))>>=fun Oa=>((idx x1 (ba))>>=fun uT=>(bif (Oa) != (uT) then ((idx x0 (ba))>>=fun WK=>((idx x1 (ba))>>=fun Cb=>(some (Out.ret ((decide (WK < Cb))))))) else (some (Out.norm (aj (ba+(1:Int)))))))) else (some (Out.exit 0 (ba)))))
theorem rO:∀ a0 a1 a2,bc (nL a0 a1 a2) (eN a0 a1 a2):=by
 intros; unfold nL eN
 repeat' first
  | with_reducible exact bc.refl _
  | refine bc.ak ?_
  | refine bc.ah ?_ (fun _=>?_)
  | refine bc.ae ?_
  | refine bc.loop (fun _=>?_)
  | refine bc.bind ?_ (fun _=>?_)
  | refine bc.cond ?_ ?_
  | split
def qE (x0:(List Int)) (x1:(List Int)):Option (Bool):=
 ak (S:=Unit) (ah (ae 0 (ur (nL x0 x1) ((0:Int)))) (fun ba=>(some (Out.ret ((decide ((x0.length:Int) < (x1.length:Int))))))))
theorem sC:∀ a0 a1,bc (qE a0 a1) (mH a0 a1):=by
 intros; unfold qE mH
 repeat' first
  | with_reducible exact bc.refl _
  | exact rO _ _ _
  | refine bc.ak ?_
  | refine bc.ah ?_ (fun _=>?_)
  | refine bc.ae ?_
  | refine bc.loop (fun _=>?_)
  | refine bc.bind ?_ (fun _=>?_)
  | refine bc.cond ?_ ?_
  | split
def oP (x0:bQ) (x1:bQ):Option (Bool):=
 ak (S:=Unit) (bif (x0.aD) != (x1.aD) then (some (Out.ret ((decide (x0.aD < x1.aD))))) else (bif (x0.To) != (x1.To) then (some (Out.ret ((decide (x0.To < x1.To))))) else ((qE x0.mh x1.mh)>>=fun zW=>(some (Out.ret (zW))))))
theorem rR:∀ a0 a1,bc (oP a0 a1) (iY a0 a1):=by
 intros; unfold oP iY
 repeat' first
  | with_reducible exact bc.refl _
  | exact sC _ _
  | refine bc.ak ?_
  | refine bc.ah ?_ (fun _=>?_)
  | refine bc.ae ?_
  | refine bc.loop (fun _=>?_)
  | refine bc.bind ?_ (fun _=>?_)
  | refine bc.cond ?_ ?_
  | split
def oQ (x0:Int) (s0:(List bQ)) (s1:Int):Option (Out ((List bQ)×Int) ((List bQ))):=
 (bif decide (s1 < x0) then ((fits 40 (s0.length+1))>>=fun n26=>(some (Out.norm (s0++[bQ.mk s1 s1 []],aj (s1+(1:Int)))))) else (some (Out.exit 0 (s0,s1))))
theorem rS:∀ a0 a1 a2,bc (oQ a0 a1 a2) (kP a0 a1 a2):=by
 intros; unfold oQ kP
 repeat' first
  | with_reducible exact bc.refl _
  | refine bc.ak ?_
  | refine bc.ah ?_ (fun _=>?_)
  | refine bc.ae ?_
  | refine bc.loop (fun _=>?_)
  | refine bc.bind ?_ (fun _=>?_)
  | refine bc.cond ?_ ?_
  | split
def oR (x1:(List Int)) (x2:(List Int)) (s1:Int) (s0:(List bQ)) (s2:Int):Option (Out ((List bQ)×Int) ((List bQ))):=
 (bif decide (s2 < (x1.length:Int)) then ((idx x1 (s2))>>=fun Ev=>((idx s0 (s1))>>=fun Ob=>(bif (Ev) == (Ob.To) then ((idx s0 (s1))>>=fun WM=>((idx x2 (s2))>>=fun BE=>((idx s0 (s1))>>=fun WN=>((nZ WN.mh)>>=fun Iz=>((fits 8 (Iz.length+1))>>=fun n72=>((fits 40 (s0.length+1))>>=fun n75=>(some (Out.norm (s0++[bQ.mk WM.aD BE (Iz++[s2])],aj (s2+(1:Int))))))))))) else (some (Out.norm (s0,aj (s2+(1:Int)))))))) else (some (Out.exit 4 (s0,s2))))
theorem rT:∀ a0 a1 a2 a3 a4,bc (oR a0 a1 a2 a3 a4) (iZ a0 a1 a2 a3 a4):=by
 intros; unfold oR iZ
 repeat' first
  | with_reducible exact bc.refl _
  | exact rD _
  | refine bc.ak ?_
  | refine bc.ah ?_ (fun _=>?_)
  | refine bc.ae ?_
  | refine bc.loop (fun _=>?_)
  | refine bc.bind ?_ (fun _=>?_)
  | refine bc.cond ?_ ?_
  | split
def oS (x1:(List Int)) (x2:(List Int)) (s0:(List bQ)) (s1:Int):Option (Out ((List bQ)×Int) ((List bQ))):=
 (((bif decide (s1 < (s0.length:Int)) then (some (decide ((s0.length:Int)≤(40:Int)))) else (some (false))))>>=fun WO=>(bif WO then (ah (ae 4 (ur (fun s=>oR x1 x2 s1 s.1 s.2) (s0,(0:Int)))) (fun (s0,s2)=>(some (Out.norm (s0,aj (s1+(1:Int))))))) else (some (Out.exit 2 (s0,s1)))))
theorem rU:∀ a0 a1 a2 a3,bc (oS a0 a1 a2 a3) (kQ a0 a1 a2 a3):=by
 intros; unfold oS kQ
 repeat' first
  | with_reducible exact bc.refl _
  | exact rT _ _ _ _ _
  | refine bc.ak ?_
  | refine bc.ah ?_ (fun _=>?_)
  | refine bc.ae ?_
  | refine bc.loop (fun _=>?_)
  | refine bc.bind ?_ (fun _=>?_)
  | refine bc.cond ?_ ?_
  | split
def oT (s0:(List bQ)) (s1:Int):Option (Out ((List bQ)×Int) ((List bQ))):=
 (((bif decide ((0:Int) < s1) then ((idx s0 (s1))>>=fun BF=>((idx s0 (aj (s1 - (1:Int))))>>=fun Ew=>((oP BF Ew)>>=fun IB=>(some (IB))))) else (some (false))))>>=fun WQ=>(bif WQ then ((idx s0 (s1))>>=fun Qh=>((idx s0 (aj (s1 - (1:Int))))>>=fun xk=>((idx s0 (s1))>>=fun IC=>((idx (s0.set (s1).toNat xk) (aj (s1 - (1:Int))))>>=fun Qi=>(some (Out.norm ((s0.set (s1).toNat xk).set (aj (s1 - (1:Int))).toNat Qh,aj (s1 - (1:Int))))))))) else (some (Out.exit 8 (s0,s1)))))
theorem rV:∀ a0 a1,bc (oT a0 a1) (kR a0 a1):=by
 intros; unfold oT kR
 repeat' first
  | with_reducible exact bc.refl _
  | exact rR _ _
  | refine bc.ak ?_
  | refine bc.ah ?_ (fun _=>?_)
  | refine bc.ae ?_
  | refine bc.loop (fun _=>?_)
  | refine bc.bind ?_ (fun _=>?_)
  | refine bc.cond ?_ ?_
  | split
def oU (s0:(List bQ)) (s1:Int):Option (Out ((List bQ)×Int) ((List bQ))):=
 (bif decide (s1 < (s0.length:Int)) then (ah (ae 8 (ur (fun s=>oT s.1 s.2) (s0,s1))) (fun (s0,s2)=>(some (Out.norm (s0,aj (s1+(1:Int))))))) else (some (Out.exit 6 (s0,s1))))
theorem rW:∀ a0 a1,bc (oU a0 a1) (kS a0 a1):=by
 intros; unfold oU kS
 repeat' first
  | with_reducible exact bc.refl _
  | exact rV _ _
  | refine bc.ak ?_
  | refine bc.ah ?_ (fun _=>?_)
  | refine bc.ae ?_
  | refine bc.loop (fun _=>?_)
  | refine bc.bind ?_ (fun _=>?_)
  | refine bc.cond ?_ ?_
  | split
def qP (x0:Int) (x1:(List Int)) (x2:(List Int)):Option ((List bQ)):=
 ak (S:=Unit) (ah (ae 0 (ur (fun s=>oQ x0 s.1 s.2) (([]:(List bQ)),(0:Int)))) (fun (s0,s1)=>(ah (ae 2 (ur (fun s=>oS x1 x2 s.1 s.2) (s0,(0:Int)))) (fun (s0,s1)=>(ah (ae 6 (ur (fun s=>oU s.1 s.2) (s0,(1:Int)))) (fun (s0,s1)=>(some (Out.ret (s0)))))))))
theorem sH:∀ a0 a1 a2,bc (qP a0 a1 a2) (lV a0 a1 a2):=by
 intros; unfold qP lV
 repeat' first
  | with_reducible exact bc.refl _
  | exact rS _ _ _
  | exact rU _ _ _ _
  | exact rW _ _
  | refine bc.ak ?_
  | refine bc.ah ?_ (fun _=>?_)
  | refine bc.ae ?_
  | refine bc.loop (fun _=>?_)
  | refine bc.bind ?_ (fun _=>?_)
  | refine bc.cond ?_ ?_
  | split
def qF (x0:aG):Option (Bool):=
 ak (S:=Unit) (((bif decide (x0.aA≤(8:Int)) then (some (decide ((x0.aD.length:Int)≤(40:Int)))) else (some (false))))>>=fun g8=>(some (Out.ret (g8))))
theorem sD:∀ a0,bc (qF a0) (eI a0):=by
 intros; unfold qF eI
 repeat' first
  | with_reducible exact bc.refl _
  | refine bc.ak ?_
  | refine bc.ah ?_ (fun _=>?_)
  | refine bc.ae ?_
  | refine bc.loop (fun _=>?_)
  | refine bc.bind ?_ (fun _=>?_)
  | refine bc.cond ?_ ?_
  | split
def nM (x0:(List Int)) (x1:(List Int)) (ba:Int):Option (Out (Int) (Bool)):=
 (bif decide (ba < (x0.length:Int)) then ((idx x0 (ba))>>=fun uT=>((idx x1 (ba))>>=fun Ey=>(bif (uT) != (Ey) then (some (Out.ret (false))) else (some (Out.norm (aj (ba+(1:Int)))))))) else (some (Out.exit 0 (ba))))
theorem rP:∀ a0 a1 a2,bc (nM a0 a1 a2) (lZ a0 a1 a2):=by
 intros; unfold nM lZ
 repeat' first
  | with_reducible exact bc.refl _
  | refine bc.ak ?_
  | refine bc.ah ?_ (fun _=>?_)
  | refine bc.ae ?_
  | refine bc.loop (fun _=>?_)
  | refine bc.bind ?_ (fun _=>?_)
  | refine bc.cond ?_ ?_
  | split
def qG (x0:(List Int)) (x1:(List Int)):Option (Bool):=
 ak (S:=Unit) (bif ((x0.length:Int)) != ((x1.length:Int)) then (some (Out.ret (false))) else (ah (ae 0 (ur (nM x0 x1) ((0:Int)))) (fun ba=>(some (Out.ret (true))))))
theorem sE:∀ a0 a1,bc (qG a0 a1) (eS a0 a1):=by
 intros; unfold qG eS
 repeat' first
  | with_reducible exact bc.refl _
  | exact rP _ _ _
  | refine bc.ak ?_
  | refine bc.ah ?_ (fun _=>?_)
  | refine bc.ae ?_
  | refine bc.loop (fun _=>?_)
  | refine bc.bind ?_ (fun _=>?_)
  | refine bc.cond ?_ ?_
  | split
def mS (y8:(List bQ)) (gp:Int) (kh:(List Int)) (kj:(List Int)) (nv:(List Int)):Option (Out (Int×(List Int)×(List Int)×(List Int)) (aG)):=
 (bif decide (gp < (y8.length:Int)) then ((idx y8 (gp))>>=fun DF=>((fits 8 (kh.length+1))>>=fun n134=>((idx y8 (gp))>>=fun ID=>((fits 8 (kj.length+1))>>=fun n173=>((idx y8 (gp))>>=fun Qj=>(bif ((Qj.mh.length:Int)) == ((0:Int)) then ((idx y8 (gp))>>=fun IE=>((idx nv (IE.aD))>>=fun acx=>(some (Out.norm (aj (gp+(1:Int)),kh++[DF.aD],kj++[ID.To],nv.set (IE.aD).toNat (gp)))))) else (some (Out.norm (aj (gp+(1:Int)),kh++[DF.aD],kj++[ID.To],nv))))))))) else (some (Out.exit 0 (gp,kh,kj,nv))))
theorem rK:∀ a0 a1 a2 a3 a4,bc (mS a0 a1 a2 a3 a4) (jD a0 a1 a2 a3 a4):=by
 intros; unfold mS jD
 repeat' first
  | with_reducible exact bc.refl _
  | refine bc.ak ?_
  | refine bc.ah ?_ (fun _=>?_)
  | refine bc.ae ?_
  | refine bc.loop (fun _=>?_)
  | refine bc.bind ?_ (fun _=>?_)
  | refine bc.cond ?_ ?_
  | split
def mT (y8:(List bQ)) (jb:Int) (v8:(List Int)) (yi:bQ) (xJ:Int) (q9:Int):Option (Out (Int×Int) (aG)):=
 (bif decide (q9 < (y8.length:Int)) then ((((idx y8 (q9))>>=fun Qk=>((idx y8 (jb))>>=fun Ql=>(bif (Qk.aD) == (Ql.aD) then ((idx y8 (q9))>>=fun Qm=>((qG Qm.mh (v8++yi.mh))>>=fun Qn=>(some (Qn)))) else (some (false))))))>>=fun Qo=>(bif Qo then (some (Out.norm (q9,aj (q9+(1:Int))))) else (some (Out.norm (xJ,aj (q9+(1:Int))))))) else (some (Out.exit 6 (xJ,q9))))
theorem rL:∀ a0 a1 a2 a3 a4 a5,bc (mT a0 a1 a2 a3 a4 a5) (jE a0 a1 a2 a3 a4 a5):=by
 intros; unfold mT jE
 repeat' first
  | with_reducible exact bc.refl _
  | exact sE _ _
  | refine bc.ak ?_
  | refine bc.ah ?_ (fun _=>?_)
  | refine bc.ae ?_
  | refine bc.loop (fun _=>?_)
  | refine bc.bind ?_ (fun _=>?_)
  | refine bc.cond ?_ ?_
  | split
def mU (y8:(List bQ)) (jb:Int) (n8:(List Int)) (sw:Int):Option (Out ((List Int)×Int) (aG)):=
 (bif decide (sw < (y8.length:Int)) then ((idx y8 (jb))>>=fun Qp=>((idx y8 (sw))>>=fun Qq=>(bif (Qp.To) == (Qq.aD) then ((idx y8 (jb))>>=fun Qr=>((nZ Qr.mh)>>=fun v8=>((idx y8 (sw))>>=fun yi=>((fits 8 (v8.length+yi.mh.length))>>=fun acy=>(ah (ae 6 (ur (fun s=>mT y8 jb v8 yi s.1 s.2) ((-1:Int),(0:Int)))) (fun (xJ,q9)=>((fits 8 (n8.length+1))>>=fun acz=>(some (Out.norm (n8++[xJ],aj (sw+(1:Int)))))))))))) else ((fits 8 (n8.length+1))>>=fun acA=>(some (Out.norm (n8++[(-1:Int)],aj (sw+(1:Int))))))))) else (some (Out.exit 4 (n8,sw))))
theorem rM:∀ a0 a1 a2 a3,bc (mU a0 a1 a2 a3) (jF a0 a1 a2 a3):=by
 intros; unfold mU jF
 repeat' first
  | with_reducible exact bc.refl _
  | exact rD _
  | exact rL _ _ _ _ _ _
  | refine bc.ak ?_
  | refine bc.ah ?_ (fun _=>?_)
  | refine bc.ae ?_
  | refine bc.loop (fun _=>?_)
  | refine bc.bind ?_ (fun _=>?_)
  | refine bc.cond ?_ ?_
  | split
def mV (y8:(List bQ)) (jb:Int) (p7:(List (List Int))):Option (Out (Int×(List (List Int))) (aG)):=
 (bif decide (jb < (y8.length:Int)) then (ah (ae 4 (ur (fun s=>mU y8 jb s.1 s.2) (([]:(List Int)),(0:Int)))) (fun (n8,sw)=>((fits 24 (p7.length+1))>>=fun acB=>(some (Out.norm (aj (jb+(1:Int)),p7++[n8])))))) else (some (Out.exit 2 (jb,p7))))
theorem rN:∀ a0 a1 a2,bc (mV a0 a1 a2) (gJ a0 a1 a2):=by
 intros; unfold mV gJ
 repeat' first
  | with_reducible exact bc.refl _
  | exact rM _ _ _ _
  | refine bc.ak ?_
  | refine bc.ah ?_ (fun _=>?_)
  | refine bc.ae ?_
  | refine bc.loop (fun _=>?_)
  | refine bc.bind ?_ (fun _=>?_)
  | refine bc.cond ?_ ?_
  | split
def mG (x0:Int) (x1:(List Int)) (x2:(List Int)):Option (aG):=
 ak (S:=Unit) ((qP (x0) x1 x2)>>=fun y8=>((mk 8 (x0))>>=fun n36=>(ah (ae 0 (ur (fun s=>mS y8 s.1 s.2.1 s.2.2.1 s.2.2.2) ((0:Int),([]:(List Int)),([]:(List Int)),List.replicate n36 (0:Int)))) (fun (gp,kh,kj,nv)=>((qF (aG.mk x0 kh kj nv (([]:(List (List Int))))))>>=fun Qs=>(bif !(Qs) then (some (Out.ret ((aG.mk x0 kh kj nv (([]:(List (List Int)))))))) else (ah (ae 2 (ur (fun s=>mV y8 s.1 s.2) ((0:Int),([]:(List (List Int)))))) (fun (jb,p7)=>(some (Out.ret ((aG.mk x0 kh kj nv p7))))))))))))
theorem sB:∀ a0 a1 a2,bc (mG a0 a1 a2) (eL a0 a1 a2):=by
 intros; unfold mG eL
 repeat' first
  | with_reducible exact bc.refl _
  | exact sH _ _ _
  | exact sD _
  | exact rK _ _ _ _ _
  | exact rN _ _ _
  | refine bc.ak ?_
  | refine bc.ah ?_ (fun _=>?_)
  | refine bc.ae ?_
  | refine bc.loop (fun _=>?_)
  | refine bc.bind ?_ (fun _=>?_)
  | refine bc.cond ?_ ?_
  | split
end Go.Proofs.YtgjbmjjihmfppaaGreat
set_option linter.unusedVariables false
set_option linter.unusedSimpArgs false
namespace Go.Proofs.YtgjbmjjihmfppaaGreat
open Go Go.Li
def Lc (n:Nat):List (Int×Int):=(List.range n).flatMap fun (u:Nat)=>((List.range n).filter fun (v:Nat)=>Nat.blt u v).map fun (v:Nat)=>(Int.ofNat u,Int.ofNat v)
def xB (n:Nat):Nat→List (List (Int×Int))
 | 0=>[[]]
 | k+1=>(xB n k).flatMap fun l=>(Lc n).map fun p=>p :: l
def FW (n:Nat) (l:List (Int×Int)):Bool:=match mG n (l.map (·.1)) (l.map (·.2)) with
 | some c=>YG c
 | none=>false
theorem YL:((xB 2 0++xB 2 1++xB 2 2++xB 2 3).all (FW 2))=true:=by kernel_rfl
theorem YM:((xB 3 0++xB 3 1++xB 3 2++xB 3 3).all (FW 3))=true:=by kernel_rfl
theorem Us:((xB 4 0++xB 4 1++xB 4 2).all (FW 4))=true:=by kernel_rfl
theorem Ut:((xB 4 3).all (FW 4))=true:=by kernel_rfl
theorem Uu {n:Nat} {u v:Int} (u0:0≤u) (uv:u < v) (v1:v < n):(u,v)∈Lc n:=by
 unfold Lc
 rw [List.mem_flatMap]
 refine ⟨u.toNat,by rw [List.mem_range]; omega,List.mem_map.2 ⟨v.toNat,List.mem_filter.2 ⟨by rw [List.mem_range]; omega,?_⟩,?_⟩⟩
 ·rw [Nat.blt_eq]; omega
 ·rw [show Int.ofNat u.toNat=u by show ((u.toNat:Nat):Int)=u; omega,show Int.ofNat v.toNat=v by show ((v.toNat:Nat):Int)=v; omega]
theorem Uv {n:Nat}:∀ {l:List (Int×Int)},(∀ p∈l,p∈Lc n)→l∈xB n l.length:=by
 intro l
 induction l with
 | nil=>intro _; exact List.mem_singleton.2 rfl
 | cons p l ih=>
  intro h
  show p :: l∈(xB n l.length).flatMap fun l=>(Lc n).map fun p=>p :: l
  exact List.mem_flatMap.2 ⟨l,ih fun q hq=>h q (List.mem_cons_of_mem _ hq),List.mem_map.2 ⟨p,h p (by simp),rfl⟩⟩
theorem CX {n:Nat} {f t:List Int} (hn:n=2∨n=3∨n=4) (hl:t.length=f.length) (hk:f.length≤3) (h:∀ (i:Nat) u v,f[i]? = some u→t[i]? = some v→0≤u∧u < v∧v < n):Ok (eL n f t) Ty:=by
 have hm:f.zip t∈xB n f.length:=by
  have h1:∀ p∈f.zip t,p∈Lc n:=fun p hp=>by
   obtain ⟨i,hi⟩:=List.getElem?_of_mem hp
   obtain ⟨e1,e2⟩:=Ab hi
   obtain ⟨a,b,c⟩:=h i _ _ e1 e2
   exact Uu a b c
  have:=Uv h1
  rwa [List.length_zip,hl,Nat.min_self] at this
 have hc:FW n (f.zip t)=true:=by
  have two:=List.all_eq_true.1 YL
  have three:=List.all_eq_true.1 YM
  have four:=List.all_eq_true.1 Us
  have Zy:=List.all_eq_true.1 Ut
  simp only [List.mem_append] at two three four
  have x6:f.length=0∨f.length=1∨f.length=2∨f.length=3:=by omega
  rcases hn with rfl | rfl | rfl <;> rcases x6 with e | e | e | e <;> rw [e] at hm
  ·exact two _ (.inl (.inl (.inl hm)))
  ·exact two _ (.inl (.inl (.inr hm)))
  ·exact two _ (.inl (.inr hm))
  ·exact two _ (.inr hm)
  ·exact three _ (.inl (.inl (.inl hm)))
  ·exact three _ (.inl (.inl (.inr hm)))
  ·exact three _ (.inl (.inr hm))
  ·exact three _ (.inr hm)
  ·exact four _ (.inl (.inl hm))
  ·exact four _ (.inl (.inr hm))
  ·exact four _ (.inr hm)
  ·exact Zy _ hm
 unfold FW at hc
 rw [List.map_fst_zip (by omega),List.map_snd_zip (by omega)] at hc
 cases hp:mG n f t with
 | none=>rw [hp] at hc; cases hc
 | some c=>rw [hp] at hc; exact ⟨c,sB _ _ _ _ hp,Ti hc⟩
end Go.Proofs.YtgjbmjjihmfppaaGreat
