/- Models that compute: their loops with fuel; what they give the models give. No condition beside those that each theorem names. -/
import Derived.Test.YtgjbmjjihmfppaaGreatYt
import Derived.KernelRfl
import Derived.Test.YtgjbmjjihmfppaaGreatYw
namespace Go.Proofs.YtgjbmjjihmfppaaGreat
open Go Go.Li
set_option linter.unusedVariables false
def bj {α:Type} (m m':Option α):Prop:=∀ o,m=some o→m'=some o
theorem bj.refl {α:Type} (m:Option α):bj m m:=fun _ h=>h
theorem bj.an {S R:Type} {m m':Option (Out S R)} (h:bj m m'):bj (an m) (an m'):=fun o ho=>by
 have h1:=Eh ho
 rw [h _ h1]; rfl
theorem bj.bind {α β:Type} {m m':Option α} {f f':α→Option β} (h:bj m m') (k:∀ x,bj (f x) (f' x)):bj (m>>=f) (m'>>=f'):=fun o ho=>by
 cases hm:m with
 | none=>rw [hm] at ho; cases ho
 | some x=>rw [hm] at ho; rw [h x hm]; exact k x o ho
theorem bj.cond {α:Type} {b:Bool} {x x' y y':Option α} (h:bj x x') (k:bj y y'):bj (bif b then x else y) (bif b then x' else y'):=by
 cases b with
 | true=>exact h
 | false=>exact k
theorem bj.ag {S S1 R:Type} {m m':Option (Out S1 R)} {f f':S1→Option (Out S R)} (h:bj m m') (k:∀ x,bj (f x) (f' x)):bj (ag m f) (ag m' f'):=fun o ho=>by
 unfold Go.Li.ag at ho ⊢
 cases hm:m with
 | none=>rw [hm] at ho; cases ho
 | some x=>
  rw [hm] at ho
  rw [h x hm]
  cases x with
  | norm s=>exact k s o ho
  | _=>exact ho
theorem bj.ae {S R:Type} {n:Nat} {m m':Option (Out S R)} (h:bj m m'):bj (ae n m) (ae n m'):=fun o ho=>by
 unfold Go.Li.ae at ho ⊢
 cases hm:m with
 | none=>rw [hm] at ho; cases ho
 | some x=>rw [hm] at ho; rw [h x hm]; exact ho
def sQ {S R:Type} (body:S→Option (Out S R)) (s:S):Option (Out S R):=qn body 300 s
theorem PJ {S R:Type} {b b':S→Option (Out S R)} (h:∀ s,bj (b s) (b' s)):∀ k s,bj (qn b k s) (qn b' k s):=by
 intro k
 induction k with
 | zero=>intro s o ho; cases ho
 | succ k ih=>
  intro s o ho
  unfold qn at ho ⊢
  cases hm:b s with
  | none=>rw [hm] at ho; cases ho
  | some x=>
   rw [hm] at ho
   rw [h s x hm]
   cases x with
   | norm s'=>exact ih s' o ho
   | _=>exact ho
theorem bj.loop {S R:Type} {b b':S→Option (Out S R)} {s:S} (h:∀ s,bj (b s) (b' s)):bj (sQ b s) (ah b' s):=fun o ho=>ve.2 ⟨300,PJ h 300 s o ho⟩
def mG (x0:(List Int)):Option ((List Int)):=
 an (S:=Unit) ((fits 8 ((([]:(List Int))).length+x0.length))>>=fun n15=>(some (Out.ret ((([]:(List Int))++x0)))))
theorem pL:∀ a0,bj (mG a0) (cX a0):=by
 intros; unfold mG cX
 repeat' first
  | with_reducible exact bj.refl _
  | refine bj.an ?_
  | refine bj.ag ?_ (fun _=>?_)
  | refine bj.ae ?_
  | refine bj.loop (fun _=>?_)
  | refine bj.bind ?_ (fun _=>?_)
  | refine bj.cond ?_ ?_
  | split
def lV (x0:(List Int)) (x1:(List Int)) (bh:Int):Option (Out (Int) (Bool)):=
 (((bif decide (bh < (x0.length:Int)) then (some (decide (bh < (x1.length:Int)))) else (some (false))))>>=fun g6=>(bif g6 then ((idx x0 (bh))>>=fun LZ=>((idx x1 (bh))>>=fun wU=>(bif (LZ) != (wU) then ((idx x0 (bh))>>=fun UO=>((idx x1 (bh))>>=fun LW=>(some (Out.ret ((decide (UO < LW))))))) else (some (Out.norm (ai (bh+(1:Int)))))))) else (some (Out.exit 0 (bh)))))
theorem pT:∀ a0 a1 a2,bj (lV a0 a1 a2) (dS a0 a1 a2):=by
 intros; unfold lV dS
 repeat' first
  | with_reducible exact bj.refl _
  | refine bj.an ?_
  | refine bj.ag ?_ (fun _=>?_)
  | refine bj.ae ?_
  | refine bj.loop (fun _=>?_)
  | refine bj.bind ?_ (fun _=>?_)
  | refine bj.cond ?_ ?_
  | split
def oO (x0:(List Int)) (x1:(List Int)):Option (Bool):=
 an (S:=Unit) (ag (ae 0 (sQ (lV x0 x1) ((0:Int)))) (fun bh=>(some (Out.ret ((decide ((x0.length:Int) < (x1.length:Int))))))))
theorem qE:∀ a0 a1,bj (oO a0 a1) (kN a0 a1):=by
 intros; unfold oO kN
 repeat' first
  | with_reducible exact bj.refl _
  | exact pT _ _ _
  | refine bj.an ?_
  | refine bj.ag ?_ (fun _=>?_)
  | refine bj.ae ?_
  | refine bj.loop (fun _=>?_)
  | refine bj.bind ?_ (fun _=>?_)
  | refine bj.cond ?_ ?_
  | split
def mW (x0:bG) (x1:bG):Option (Bool):=
 an (S:=Unit) (bif (x0.aD) != (x1.aD) then (some (Out.ret ((decide (x0.aD < x1.aD))))) else (bif (x0.To) != (x1.To) then (some (Out.ret ((decide (x0.To < x1.To))))) else ((oO x0.l7 x1.l7)>>=fun yF=>(some (Out.ret (yF))))))
theorem pV:∀ a0 a1,bj (mW a0 a1) (gO a0 a1):=by
 intros; unfold mW gO
 repeat' first
  | with_reducible exact bj.refl _
  | exact qE _ _
  | refine bj.an ?_
  | refine bj.ag ?_ (fun _=>?_)
  | refine bj.ae ?_
  | refine bj.loop (fun _=>?_)
  | refine bj.bind ?_ (fun _=>?_)
  | refine bj.cond ?_ ?_
  | split
def mX (x0:Int) (s0:(List bG)) (s1:Int):Option (Out ((List bG)×Int) ((List bG))):=
 (bif decide (s1 < x0) then ((fits 40 (s0.length+1))>>=fun n26=>(some (Out.norm (s0++[bG.mk s1 s1 []],ai (s1+(1:Int)))))) else (some (Out.exit 0 (s0,s1))))
theorem pW:∀ a0 a1 a2,bj (mX a0 a1 a2) (jA a0 a1 a2):=by
 intros; unfold mX jA
 repeat' first
  | with_reducible exact bj.refl _
  | refine bj.an ?_
  | refine bj.ag ?_ (fun _=>?_)
  | refine bj.ae ?_
  | refine bj.loop (fun _=>?_)
  | refine bj.bind ?_ (fun _=>?_)
  | refine bj.cond ?_ ?_
  | split
def mY (x1:(List Int)) (x2:(List Int)) (s1:Int) (s0:(List bG)) (s2:Int):Option (Out ((List bG)×Int) ((List bG))):=
 (bif decide (s2 < (x1.length:Int)) then ((idx x1 (s2))>>=fun C5=>((idx s0 (s1))>>=fun L5=>(bif (C5) == (L5.To) then ((idx s0 (s1))>>=fun UP=>((idx x2 (s2))>>=fun Ac=>((idx s0 (s1))>>=fun L6=>((mG L6.l7)>>=fun GC=>((fits 8 (GC.length+1))>>=fun n72=>((fits 40 (s0.length+1))>>=fun n75=>(some (Out.norm (s0++[bG.mk UP.aD Ac (GC++[s2])],ai (s2+(1:Int))))))))))) else (some (Out.norm (s0,ai (s2+(1:Int)))))))) else (some (Out.exit 4 (s0,s2))))
theorem pX:∀ a0 a1 a2 a3 a4,bj (mY a0 a1 a2 a3 a4) (gP a0 a1 a2 a3 a4):=by
 intros; unfold mY gP
 repeat' first
  | with_reducible exact bj.refl _
  | exact pL _
  | refine bj.an ?_
  | refine bj.ag ?_ (fun _=>?_)
  | refine bj.ae ?_
  | refine bj.loop (fun _=>?_)
  | refine bj.bind ?_ (fun _=>?_)
  | refine bj.cond ?_ ?_
  | split
def mZ (x1:(List Int)) (x2:(List Int)) (s0:(List bG)) (s1:Int):Option (Out ((List bG)×Int) ((List bG))):=
 (((bif decide (s1 < (s0.length:Int)) then (some (decide ((s0.length:Int)≤(40:Int)))) else (some (false))))>>=fun UQ=>(bif UQ then (ag (ae 4 (sQ (fun s=>mY x1 x2 s1 s.1 s.2) (s0,(0:Int)))) (fun (s0,s2)=>(some (Out.norm (s0,ai (s1+(1:Int))))))) else (some (Out.exit 2 (s0,s1)))))
theorem pY:∀ a0 a1 a2 a3,bj (mZ a0 a1 a2 a3) (jB a0 a1 a2 a3):=by
 intros; unfold mZ jB
 repeat' first
  | with_reducible exact bj.refl _
  | exact pX _ _ _ _ _
  | refine bj.an ?_
  | refine bj.ag ?_ (fun _=>?_)
  | refine bj.ae ?_
  | refine bj.loop (fun _=>?_)
  | refine bj.bind ?_ (fun _=>?_)
  | refine bj.cond ?_ ?_
  | split
def nA (s0:(List bG)) (s1:Int):Option (Out ((List bG)×Int) ((List bG))):=
 (((bif decide ((0:Int) < s1) then ((idx s0 (s1))>>=fun Ae=>((idx s0 (ai (s1 - (1:Int))))>>=fun C6=>((mW Ae C6)>>=fun GD=>(some (GD))))) else (some (false))))>>=fun UR=>(bif UR then ((idx s0 (s1))>>=fun Oj=>((idx s0 (ai (s1 - (1:Int))))>>=fun vB=>((idx s0 (s1))>>=fun GF=>((idx (s0.set (s1).toNat vB) (ai (s1 - (1:Int))))>>=fun Ol=>(some (Out.norm ((s0.set (s1).toNat vB).set (ai (s1 - (1:Int))).toNat Oj,ai (s1 - (1:Int))))))))) else (some (Out.exit 8 (s0,s1)))))
theorem pZ:∀ a0 a1,bj (nA a0 a1) (jC a0 a1):=by
 intros; unfold nA jC
 repeat' first
  | with_reducible exact bj.refl _
  | exact pV _ _
  | refine bj.an ?_
  | refine bj.ag ?_ (fun _=>?_)
  | refine bj.ae ?_
  | refine bj.loop (fun _=>?_)
  | refine bj.bind ?_ (fun _=>?_)
  | refine bj.cond ?_ ?_
  | split
def nB (s0:(List bG)) (s1:Int):Option (Out ((List bG)×Int) ((List bG))):=
 (bif decide (s1 < (s0.length:Int)) then (ag (ae 8 (sQ (fun s=>nA s.1 s.2) (s0,s1))) (fun (s0,s2)=>(some (Out.norm (s0,ai (s1+(1:Int))))))) else (some (Out.exit 6 (s0,s1))))
theorem qA:∀ a0 a1,bj (nB a0 a1) (jD a0 a1):=by
 intros; unfold nB jD
 repeat' first
  | with_reducible exact bj.refl _
  | exact pZ _ _
  | refine bj.an ?_
  | refine bj.ag ?_ (fun _=>?_)
  | refine bj.ae ?_
  | refine bj.loop (fun _=>?_)
  | refine bj.bind ?_ (fun _=>?_)
  | refine bj.cond ?_ ?_
  | split
def pA (x0:Int) (x1:(List Int)) (x2:(List Int)):Option ((List bG)):=
 an (S:=Unit) (ag (ae 0 (sQ (fun s=>mX x0 s.1 s.2) (([]:(List bG)),(0:Int)))) (fun (s0,s1)=>(ag (ae 2 (sQ (fun s=>mZ x1 x2 s.1 s.2) (s0,(0:Int)))) (fun (s0,s1)=>(ag (ae 6 (sQ (fun s=>nB s.1 s.2) (s0,(1:Int)))) (fun (s0,s1)=>(some (Out.ret (s0)))))))))
theorem qJ:∀ a0 a1 a2,bj (pA a0 a1 a2) (kC a0 a1 a2):=by
 intros; unfold pA kC
 repeat' first
  | with_reducible exact bj.refl _
  | exact pW _ _ _
  | exact pY _ _ _ _
  | exact qA _ _
  | refine bj.an ?_
  | refine bj.ag ?_ (fun _=>?_)
  | refine bj.ae ?_
  | refine bj.loop (fun _=>?_)
  | refine bj.bind ?_ (fun _=>?_)
  | refine bj.cond ?_ ?_
  | split
def oP (x0:aG):Option (Bool):=
 an (S:=Unit) (((bif decide (x0.aA≤(8:Int)) then (some (decide ((x0.aD.length:Int)≤(40:Int)))) else (some (false))))>>=fun g8=>(some (Out.ret (g8))))
theorem qF:∀ a0,bj (oP a0) (dM a0):=by
 intros; unfold oP dM
 repeat' first
  | with_reducible exact bj.refl _
  | refine bj.an ?_
  | refine bj.ag ?_ (fun _=>?_)
  | refine bj.ae ?_
  | refine bj.loop (fun _=>?_)
  | refine bj.bind ?_ (fun _=>?_)
  | refine bj.cond ?_ ?_
  | split
def lW (x0:(List Int)) (x1:(List Int)) (bh:Int):Option (Out (Int) (Bool)):=
 (bif decide (bh < (x0.length:Int)) then ((idx x0 (bh))>>=fun wU=>((idx x1 (bh))>>=fun GG=>(bif (wU) != (GG) then (some (Out.ret (false))) else (some (Out.norm (ai (bh+(1:Int)))))))) else (some (Out.exit 0 (bh))))
theorem pU:∀ a0 a1 a2,bj (lW a0 a1 a2) (kH a0 a1 a2):=by
 intros; unfold lW kH
 repeat' first
  | with_reducible exact bj.refl _
  | refine bj.an ?_
  | refine bj.ag ?_ (fun _=>?_)
  | refine bj.ae ?_
  | refine bj.loop (fun _=>?_)
  | refine bj.bind ?_ (fun _=>?_)
  | refine bj.cond ?_ ?_
  | split
def oQ (x0:(List Int)) (x1:(List Int)):Option (Bool):=
 an (S:=Unit) (bif ((x0.length:Int)) != ((x1.length:Int)) then (some (Out.ret (false))) else (ag (ae 0 (sQ (lW x0 x1) ((0:Int)))) (fun bh=>(some (Out.ret (true))))))
theorem qG:∀ a0 a1,bj (oQ a0 a1) (jE a0 a1):=by
 intros; unfold oQ jE
 repeat' first
  | with_reducible exact bj.refl _
  | exact pU _ _ _
  | refine bj.an ?_
  | refine bj.ag ?_ (fun _=>?_)
  | refine bj.ae ?_
  | refine bj.loop (fun _=>?_)
  | refine bj.bind ?_ (fun _=>?_)
  | refine bj.cond ?_ ?_
  | split
def kV (y8:(List bG)) (ez:Int) (j7:(List Int)) (j8:(List Int)) (np:(List Int)):Option (Out (Int×(List Int)×(List Int)×(List Int)) (aG)):=
 (bif decide (ez < (y8.length:Int)) then ((idx y8 (ez))>>=fun Cb=>((fits 8 (j7.length+1))>>=fun n134=>((idx y8 (ez))>>=fun GH=>((fits 8 (j8.length+1))>>=fun n173=>((idx y8 (ez))>>=fun Om=>(bif ((Om.l7.length:Int)) == ((0:Int)) then ((idx y8 (ez))>>=fun GI=>((idx np (GI.aD))>>=fun Z8=>(some (Out.norm (ai (ez+(1:Int)),j7++[Cb.aD],j8++[GH.To],np.set (GI.aD).toNat (ez)))))) else (some (Out.norm (ai (ez+(1:Int)),j7++[Cb.aD],j8++[GH.To],np))))))))) else (some (Out.exit 0 (ez,j7,j8,np))))
theorem pO:∀ a0 a1 a2 a3 a4,bj (kV a0 a1 a2 a3 a4) (gT a0 a1 a2 a3 a4):=by
 intros; unfold kV gT
 repeat' first
  | with_reducible exact bj.refl _
  | refine bj.an ?_
  | refine bj.ag ?_ (fun _=>?_)
  | refine bj.ae ?_
  | refine bj.loop (fun _=>?_)
  | refine bj.bind ?_ (fun _=>?_)
  | refine bj.cond ?_ ?_
  | split
def kW (y8:(List bG)) (ir:Int) (uR:(List Int)) (wR:bG) (v8:Int) (qU:Int):Option (Out (Int×Int) (aG)):=
 (bif decide (qU < (y8.length:Int)) then ((((idx y8 (qU))>>=fun On=>((idx y8 (ir))>>=fun Oo=>(bif (On.aD) == (Oo.aD) then ((idx y8 (qU))>>=fun Oq=>((oQ Oq.l7 (uR++wR.l7))>>=fun Ot=>(some (Ot)))) else (some (false))))))>>=fun Ou=>(bif Ou then (some (Out.norm (qU,ai (qU+(1:Int))))) else (some (Out.norm (v8,ai (qU+(1:Int))))))) else (some (Out.exit 6 (v8,qU))))
theorem pP:∀ a0 a1 a2 a3 a4 a5,bj (kW a0 a1 a2 a3 a4 a5) (gU a0 a1 a2 a3 a4 a5):=by
 intros; unfold kW gU
 repeat' first
  | with_reducible exact bj.refl _
  | exact qG _ _
  | refine bj.an ?_
  | refine bj.ag ?_ (fun _=>?_)
  | refine bj.ae ?_
  | refine bj.loop (fun _=>?_)
  | refine bj.bind ?_ (fun _=>?_)
  | refine bj.cond ?_ ?_
  | split
def kX (y8:(List bG)) (ir:Int) (n4:(List Int)) (rI:Int):Option (Out ((List Int)×Int) (aG)):=
 (bif decide (rI < (y8.length:Int)) then ((idx y8 (ir))>>=fun Ov=>((idx y8 (rI))>>=fun Ow=>(bif (Ov.To) == (Ow.aD) then ((idx y8 (ir))>>=fun Ox=>((mG Ox.l7)>>=fun uR=>((idx y8 (rI))>>=fun wR=>((fits 8 (uR.length+wR.l7.length))>>=fun Z9=>(ag (ae 6 (sQ (fun s=>kW y8 ir uR wR s.1 s.2) ((-1:Int),(0:Int)))) (fun (v8,qU)=>((fits 8 (n4.length+1))>>=fun aaa=>(some (Out.norm (n4++[v8],ai (rI+(1:Int)))))))))))) else ((fits 8 (n4.length+1))>>=fun aab=>(some (Out.norm (n4++[(-1:Int)],ai (rI+(1:Int))))))))) else (some (Out.exit 4 (n4,rI))))
theorem pQ:∀ a0 a1 a2 a3,bj (kX a0 a1 a2 a3) (gV a0 a1 a2 a3):=by
 intros; unfold kX gV
 repeat' first
  | with_reducible exact bj.refl _
  | exact pL _
  | exact pP _ _ _ _ _ _
  | refine bj.an ?_
  | refine bj.ag ?_ (fun _=>?_)
  | refine bj.ae ?_
  | refine bj.loop (fun _=>?_)
  | refine bj.bind ?_ (fun _=>?_)
  | refine bj.cond ?_ ?_
  | split
def kY (y8:(List bG)) (ir:Int) (qg:(List (List Int))):Option (Out (Int×(List (List Int))) (aG)):=
 (bif decide (ir < (y8.length:Int)) then (ag (ae 4 (sQ (fun s=>kX y8 ir s.1 s.2) (([]:(List Int)),(0:Int)))) (fun (n4,rI)=>((fits 24 (qg.length+1))>>=fun aac=>(some (Out.norm (ai (ir+(1:Int)),qg++[n4])))))) else (some (Out.exit 2 (ir,qg))))
theorem pR:∀ a0 a1 a2,bj (kY a0 a1 a2) (fH a0 a1 a2):=by
 intros; unfold kY fH
 repeat' first
  | with_reducible exact bj.refl _
  | exact pQ _ _ _ _
  | refine bj.an ?_
  | refine bj.ag ?_ (fun _=>?_)
  | refine bj.ae ?_
  | refine bj.loop (fun _=>?_)
  | refine bj.bind ?_ (fun _=>?_)
  | refine bj.cond ?_ ?_
  | split
def kM (x0:Int) (x1:(List Int)) (x2:(List Int)):Option (aG):=
 an (S:=Unit) ((pA (x0) x1 x2)>>=fun y8=>((mk 8 (x0))>>=fun n36=>(ag (ae 0 (sQ (fun s=>kV y8 s.1 s.2.1 s.2.2.1 s.2.2.2) ((0:Int),([]:(List Int)),([]:(List Int)),List.replicate n36 (0:Int)))) (fun (ez,j7,j8,np)=>((oP (aG.mk x0 j7 j8 np (([]:(List (List Int))))))>>=fun Oy=>(bif !(Oy) then (some (Out.ret ((aG.mk x0 j7 j8 np (([]:(List (List Int)))))))) else (ag (ae 2 (sQ (fun s=>kY y8 s.1 s.2) ((0:Int),([]:(List (List Int)))))) (fun (ir,qg)=>(some (Out.ret ((aG.mk x0 j7 j8 np qg))))))))))))
theorem qD:∀ a0 a1 a2,bj (kM a0 a1 a2) (dR a0 a1 a2):=by
 intros; unfold kM dR
 repeat' first
  | with_reducible exact bj.refl _
  | exact qJ _ _ _
  | exact qF _
  | exact pO _ _ _ _ _
  | exact pR _ _ _
  | refine bj.an ?_
  | refine bj.ag ?_ (fun _=>?_)
  | refine bj.ae ?_
  | refine bj.loop (fun _=>?_)
  | refine bj.bind ?_ (fun _=>?_)
  | refine bj.cond ?_ ?_
  | split
end Go.Proofs.YtgjbmjjihmfppaaGreat
set_option linter.unusedVariables false
set_option linter.unusedSimpArgs false
namespace Go.Proofs.YtgjbmjjihmfppaaGreat
open Go Go.Li
def I6 (n:Nat):List (Int×Int):=(List.range n).flatMap fun (u:Nat)=>((List.range n).filter fun (v:Nat)=>Nat.blt u v).map fun (v:Nat)=>(Int.ofNat u,Int.ofNat v)
def vR (n:Nat):Nat→List (List (Int×Int))
 | 0=>[[]]
 | k+1=>(vR n k).flatMap fun l=>(I6 n).map fun p=>p :: l
def D6 (n:Nat) (l:List (Int×Int)):Bool:=match kM n (l.map (·.1)) (l.map (·.2)) with
 | some c=>WK c
 | none=>false
theorem WR:((vR 2 0++vR 2 1++vR 2 2++vR 2 3).all (D6 2))=true:=by kernel_rfl
theorem WS:((vR 3 0++vR 3 1++vR 3 2++vR 3 3).all (D6 3))=true:=by kernel_rfl
theorem Sj:((vR 4 0++vR 4 1++vR 4 2).all (D6 4))=true:=by kernel_rfl
theorem Sk:((vR 4 3).all (D6 4))=true:=by kernel_rfl
theorem Sl {n:Nat} {u v:Int} (u0:0≤u) (uv:u < v) (v1:v < n):(u,v)∈I6 n:=by
 unfold I6
 rw [List.mem_flatMap]
 refine ⟨u.toNat,by rw [List.mem_range]; omega,List.mem_map.2 ⟨v.toNat,List.mem_filter.2 ⟨by rw [List.mem_range]; omega,?_⟩,?_⟩⟩
 ·rw [Nat.blt_eq]; omega
 ·rw [show Int.ofNat u.toNat=u by show ((u.toNat:Nat):Int)=u; omega,show Int.ofNat v.toNat=v by show ((v.toNat:Nat):Int)=v; omega]
theorem Sm {n:Nat}:∀ {l:List (Int×Int)},(∀ p∈l,p∈I6 n)→l∈vR n l.length:=by
 intro l
 induction l with
 | nil=>intro _; exact List.mem_singleton.2 rfl
 | cons p l ih=>
  intro h
  show p :: l∈(vR n l.length).flatMap fun l=>(I6 n).map fun p=>p :: l
  exact List.mem_flatMap.2 ⟨l,ih fun q hq=>h q (List.mem_cons_of_mem _ hq),List.mem_map.2 ⟨p,h p (by simp),rfl⟩⟩
theorem BF {n:Nat} {f t:List Int} (hn:n=2∨n=3∨n=4) (hl:t.length=f.length) (hk:f.length≤3) (h:∀ (i:Nat) u v,f[i]? = some u→t[i]? = some v→0≤u∧u < v∧v < n):Ok (dR n f t) Ty:=by
 have hm:f.zip t∈vR n f.length:=by
  have h1:∀ p∈f.zip t,p∈I6 n:=fun p hp=>by
   obtain ⟨i,hi⟩:=List.getElem?_of_mem hp
   obtain ⟨e1,e2⟩:=DQ hi
   obtain ⟨a,b,c⟩:=h i _ _ e1 e2
   exact Sl a b c
  have:=Sm h1
  rwa [List.length_zip,hl,Nat.min_self] at this
 have hc:D6 n (f.zip t)=true:=by
  have two:=List.all_eq_true.1 WR
  have three:=List.all_eq_true.1 WS
  have four:=List.all_eq_true.1 Sj
  have Xx:=List.all_eq_true.1 Sk
  simp only [List.mem_append] at two three four
  have wz:f.length=0∨f.length=1∨f.length=2∨f.length=3:=by omega
  rcases hn with rfl | rfl | rfl <;> rcases wz with e | e | e | e <;> rw [e] at hm
  ·exact two _ (.inl (.inl (.inl hm)))
  ·exact two _ (.inl (.inl (.inr hm)))
  ·exact two _ (.inl (.inr hm))
  ·exact two _ (.inr hm)
  ·exact three _ (.inl (.inl (.inl hm)))
  ·exact three _ (.inl (.inl (.inr hm)))
  ·exact three _ (.inl (.inr hm))
  ·exact three _ (.inr hm)
  ·exact four _ (.inl (.inl hm))
  ·exact four _ (.inl (.inr hm))
  ·exact four _ (.inr hm)
  ·exact Xx _ hm
 unfold D6 at hc
 rw [List.map_fst_zip (by omega),List.map_snd_zip (by omega)] at hc
 cases hp:kM n f t with
 | none=>rw [hp] at hc; cases hc
 | some c=>rw [hp] at hc; exact ⟨c,qD _ _ _ _ hp,Q2 hc⟩
end Go.Proofs.YtgjbmjjihmfppaaGreat
