/- Models that compute: their loops with fuel; what they give the models give. No condition beside those that each theorem names. -/
import Derived.Test.YtkcpiblgpnjanaaGreatYt
import Derived.KernelRfl
import Derived.Test.YtkcpiblgpnjanaaGreatYw
namespace Go.Proofs.YtkcpiblgpnjanaaGreat
open Go Go.Li
set_option linter.unusedVariables false
def bh {α:Type} (m m':Option α):Prop:=∀ o,m=some o→m'=some o
theorem bh.refl {α:Type} (m:Option α):bh m m:=fun _ h=>h
theorem bh.ao {S R:Type} {m m':Option (Out S R)} (h:bh m m'):bh (ao m) (ao m'):=fun o ho=>by
 have h1:=E8 ho
 rw [h _ h1]; rfl
theorem bh.bind {α β:Type} {m m':Option α} {f f':α→Option β} (h:bh m m') (k:∀ x,bh (f x) (f' x)):bh (m>>=f) (m'>>=f'):=fun o ho=>by
 cases hm:m with
 | none=>rw [hm] at ho; cases ho
 | some x=>rw [hm] at ho; rw [h x hm]; exact k x o ho
theorem bh.cond {α:Type} {b:Bool} {x x' y y':Option α} (h:bh x x') (k:bh y y'):bh (bif b then x else y) (bif b then x' else y'):=by
 cases b with
 | true=>exact h
 | false=>exact k
theorem bh.ai {S S1 R:Type} {m m':Option (Out S1 R)} {f f':S1→Option (Out S R)} (h:bh m m') (k:∀ x,bh (f x) (f' x)):bh (ai m f) (ai m' f'):=fun o ho=>by
 unfold Go.Li.ai at ho ⊢
 cases hm:m with
 | none=>rw [hm] at ho; cases ho
 | some x=>
  rw [hm] at ho
  rw [h x hm]
  cases x with
  | norm s=>exact k s o ho
  | _=>exact ho
theorem bh.af {S R:Type} {n:Nat} {m m':Option (Out S R)} (h:bh m m'):bh (af n m) (af n m'):=fun o ho=>by
 unfold Go.Li.af at ho ⊢
 cases hm:m with
 | none=>rw [hm] at ho; cases ho
 | some x=>rw [hm] at ho; rw [h x hm]; exact ho
def tc {S R:Type} (body:S→Option (Out S R)) (s:S):Option (Out S R):=o9 body 300 s
theorem QW {S R:Type} {b b':S→Option (Out S R)} (h:∀ s,bh (b s) (b' s)):∀ k s,bh (o9 b k s) (o9 b' k s):=by
 intro k
 induction k with
 | zero=>intro s o ho; cases ho
 | succ k ih=>
  intro s o ho
  unfold o9 at ho ⊢
  cases hm:b s with
  | none=>rw [hm] at ho; cases ho
  | some x=>
   rw [hm] at ho
   rw [h s x hm]
   cases x with
   | norm s'=>exact ih s' o ho
   | _=>exact ho
theorem bh.loop {S R:Type} {b b':S→Option (Out S R)} {s:S} (h:∀ s,bh (b s) (b' s)):bh (tc b s) (aj b' s):=fun o ho=>vI.2 ⟨300,QW h 300 s o ho⟩
def nG (x0:(List Int)):Option ((List Int)):=
 ao (S:=Unit) ((fits 8 ((([]:(List Int))).length+x0.length))>>=fun n15=>(some (Out.ret ((([]:(List Int))++x0)))))
theorem qL:∀ a0,bh (nG a0) (dR a0):=by
 intros; unfold nG dR
 repeat' first
  | with_reducible exact bh.refl _
  | refine bh.ao ?_
  | refine bh.ai ?_ (fun _=>?_)
  | refine bh.af ?_
  | refine bh.loop (fun _=>?_)
  | refine bh.bind ?_ (fun _=>?_)
  | refine bh.cond ?_ ?_
  | split
def mV (x0:(List Int)) (x1:(List Int)) (aX:Int):Option (Out (Int) (Bool)):=
 (((bif decide (aX < (x0.length:Int)) then (some (decide (aX < (x1.length:Int)))) else (some (false))))>>=fun g6=>(bif g6 then ((idx x0 (aX))>>=fun Nh=>((idx x1 (aX))>>=fun uB=>(bif (Nh) != (uB) then ((idx x0 (aX))>>=fun Hy=>((idx x1 (aX))>>=fun w9=>(some (Out.ret ((decide (Hy < w9))))))) else (some (Out.norm (ak (aX+(1:Int)))))))) else (some (Out.exit 0 (aX)))))
theorem qT:∀ a0 a1 a2,bh (mV a0 a1 a2) (fL a0 a1 a2):=by
 intros; unfold mV fL
 repeat' first
  | with_reducible exact bh.refl _
  | refine bh.ao ?_
  | refine bh.ai ?_ (fun _=>?_)
  | refine bh.af ?_
  | refine bh.loop (fun _=>?_)
  | refine bh.bind ?_ (fun _=>?_)
  | refine bh.cond ?_ ?_
  | split
def pK (x0:(List Int)) (x1:(List Int)):Option (Bool):=
 ao (S:=Unit) (ai (af 0 (tc (mV x0 x1) ((0:Int)))) (fun aX=>(some (Out.ret ((decide ((x0.length:Int) < (x1.length:Int))))))))
theorem rG:∀ a0 a1,bh (pK a0 a1) (lT a0 a1):=by
 intros; unfold pK lT
 repeat' first
  | with_reducible exact bh.refl _
  | exact qT _ _ _
  | refine bh.ao ?_
  | refine bh.ai ?_ (fun _=>?_)
  | refine bh.af ?_
  | refine bh.loop (fun _=>?_)
  | refine bh.bind ?_ (fun _=>?_)
  | refine bh.cond ?_ ?_
  | split
def nR (x0:bY) (x1:bY):Option (Bool):=
 ao (S:=Unit) (bif (x0.aG) != (x1.aG) then (some (Out.ret ((decide (x0.aG < x1.aG))))) else (bif (x0.To) != (x1.To) then (some (Out.ret ((decide (x0.To < x1.To))))) else ((pK x0.lu x1.lu)>>=fun xY=>(some (Out.ret (xY))))))
theorem qV:∀ a0 a1,bh (nR a0 a1) (jA a0 a1):=by
 intros; unfold nR jA
 repeat' first
  | with_reducible exact bh.refl _
  | exact rG _ _
  | refine bh.ao ?_
  | refine bh.ai ?_ (fun _=>?_)
  | refine bh.af ?_
  | refine bh.loop (fun _=>?_)
  | refine bh.bind ?_ (fun _=>?_)
  | refine bh.cond ?_ ?_
  | split
def nS (x0:Int) (s0:(List bY)) (s1:Int):Option (Out ((List bY)×Int) ((List bY))):=
 (bif decide (s1 < x0) then ((fits 40 (s0.length+1))>>=fun n26=>(some (Out.norm (s0++[bY.mk s1 s1 []],ak (s1+(1:Int)))))) else (some (Out.exit 0 (s0,s1))))
theorem qW:∀ a0 a1 a2,bh (nS a0 a1 a2) (kM a0 a1 a2):=by
 intros; unfold nS kM
 repeat' first
  | with_reducible exact bh.refl _
  | refine bh.ao ?_
  | refine bh.ai ?_ (fun _=>?_)
  | refine bh.af ?_
  | refine bh.loop (fun _=>?_)
  | refine bh.bind ?_ (fun _=>?_)
  | refine bh.cond ?_ ?_
  | split
def nT (x1:(List Int)) (x2:(List Int)) (s1:Int) (s0:(List bY)) (s2:Int):Option (Out ((List bY)×Int) ((List bY))):=
 (bif decide (s2 < (x1.length:Int)) then ((idx x1 (s2))>>=fun By=>((idx s0 (s1))>>=fun Ni=>(bif (By) == (Ni.To) then ((idx s0 (s1))>>=fun Vx=>((idx x2 (s2))>>=fun AH=>((idx s0 (s1))>>=fun JE=>((nG JE.lu)>>=fun Nj=>((fits 8 (Nj.length+1))>>=fun n72=>((fits 40 (s0.length+1))>>=fun n75=>(some (Out.norm (s0++[bY.mk Vx.aG AH (Nj++[s2])],ak (s2+(1:Int))))))))))) else (some (Out.norm (s0,ak (s2+(1:Int)))))))) else (some (Out.exit 4 (s0,s2))))
theorem qX:∀ a0 a1 a2 a3 a4,bh (nT a0 a1 a2 a3 a4) (jB a0 a1 a2 a3 a4):=by
 intros; unfold nT jB
 repeat' first
  | with_reducible exact bh.refl _
  | exact qL _
  | refine bh.ao ?_
  | refine bh.ai ?_ (fun _=>?_)
  | refine bh.af ?_
  | refine bh.loop (fun _=>?_)
  | refine bh.bind ?_ (fun _=>?_)
  | refine bh.cond ?_ ?_
  | split
def nU (x1:(List Int)) (x2:(List Int)) (s0:(List bY)) (s1:Int):Option (Out ((List bY)×Int) ((List bY))):=
 (((bif decide (s1 < (s0.length:Int)) then (some (decide ((s0.length:Int)≤(40:Int)))) else (some (false))))>>=fun Vy=>(bif Vy then (ai (af 4 (tc (fun s=>nT x1 x2 s1 s.1 s.2) (s0,(0:Int)))) (fun (s0,s2)=>(some (Out.norm (s0,ak (s1+(1:Int))))))) else (some (Out.exit 2 (s0,s1)))))
theorem qY:∀ a0 a1 a2 a3,bh (nU a0 a1 a2 a3) (kN a0 a1 a2 a3):=by
 intros; unfold nU kN
 repeat' first
  | with_reducible exact bh.refl _
  | exact qX _ _ _ _ _
  | refine bh.ao ?_
  | refine bh.ai ?_ (fun _=>?_)
  | refine bh.af ?_
  | refine bh.loop (fun _=>?_)
  | refine bh.bind ?_ (fun _=>?_)
  | refine bh.cond ?_ ?_
  | split
def nV (s0:(List bY)) (s1:Int):Option (Out ((List bY)×Int) ((List bY))):=
 (((bif decide ((0:Int) < s1) then ((idx s0 (s1))>>=fun CA=>((idx s0 (ak (s1 - (1:Int))))>>=fun DU=>((nR CA DU)>>=fun Nl=>(some (Nl))))) else (some (false))))>>=fun Vz=>(bif Vz then ((idx s0 (s1))>>=fun PL=>((idx s0 (ak (s1 - (1:Int))))>>=fun vX=>((idx s0 (s1))>>=fun Hz=>((idx (s0.set (s1).toNat vX) (ak (s1 - (1:Int))))>>=fun PM=>(some (Out.norm ((s0.set (s1).toNat vX).set (ak (s1 - (1:Int))).toNat PL,ak (s1 - (1:Int))))))))) else (some (Out.exit 8 (s0,s1)))))
theorem qZ:∀ a0 a1,bh (nV a0 a1) (kO a0 a1):=by
 intros; unfold nV kO
 repeat' first
  | with_reducible exact bh.refl _
  | exact qV _ _
  | refine bh.ao ?_
  | refine bh.ai ?_ (fun _=>?_)
  | refine bh.af ?_
  | refine bh.loop (fun _=>?_)
  | refine bh.bind ?_ (fun _=>?_)
  | refine bh.cond ?_ ?_
  | split
def nW (s0:(List bY)) (s1:Int):Option (Out ((List bY)×Int) ((List bY))):=
 (bif decide (s1 < (s0.length:Int)) then (ai (af 8 (tc (fun s=>nV s.1 s.2) (s0,s1))) (fun (s0,s2)=>(some (Out.norm (s0,ak (s1+(1:Int))))))) else (some (Out.exit 6 (s0,s1))))
theorem rA:∀ a0 a1,bh (nW a0 a1) (kP a0 a1):=by
 intros; unfold nW kP
 repeat' first
  | with_reducible exact bh.refl _
  | exact qZ _ _
  | refine bh.ao ?_
  | refine bh.ai ?_ (fun _=>?_)
  | refine bh.af ?_
  | refine bh.loop (fun _=>?_)
  | refine bh.bind ?_ (fun _=>?_)
  | refine bh.cond ?_ ?_
  | split
def pX (x0:Int) (x1:(List Int)) (x2:(List Int)):Option ((List bY)):=
 ao (S:=Unit) (ai (af 0 (tc (fun s=>nS x0 s.1 s.2) (([]:(List bY)),(0:Int)))) (fun (s0,s1)=>(ai (af 2 (tc (fun s=>nU x1 x2 s.1 s.2) (s0,(0:Int)))) (fun (s0,s1)=>(ai (af 6 (tc (fun s=>nW s.1 s.2) (s0,(1:Int)))) (fun (s0,s1)=>(some (Out.ret (s0)))))))))
theorem rN:∀ a0 a1 a2,bh (pX a0 a1 a2) (lE a0 a1 a2):=by
 intros; unfold pX lE
 repeat' first
  | with_reducible exact bh.refl _
  | exact qW _ _ _
  | exact qY _ _ _ _
  | exact rA _ _
  | refine bh.ao ?_
  | refine bh.ai ?_ (fun _=>?_)
  | refine bh.af ?_
  | refine bh.loop (fun _=>?_)
  | refine bh.bind ?_ (fun _=>?_)
  | refine bh.cond ?_ ?_
  | split
def pL (x0:aI):Option (Bool):=
 ao (S:=Unit) (((bif decide (x0.aE≤(8:Int)) then (some (decide ((x0.aG.length:Int)≤(40:Int)))) else (some (false))))>>=fun g8=>(some (Out.ret (g8))))
theorem rH:∀ a0,bh (pL a0) (fF a0):=by
 intros; unfold pL fF
 repeat' first
  | with_reducible exact bh.refl _
  | refine bh.ao ?_
  | refine bh.ai ?_ (fun _=>?_)
  | refine bh.af ?_
  | refine bh.loop (fun _=>?_)
  | refine bh.bind ?_ (fun _=>?_)
  | refine bh.cond ?_ ?_
  | split
def mW (x0:(List Int)) (x1:(List Int)) (aX:Int):Option (Out (Int) (Bool)):=
 (bif decide (aX < (x0.length:Int)) then ((idx x0 (aX))>>=fun uB=>((idx x1 (aX))>>=fun DV=>(bif (uB) != (DV) then (some (Out.ret (false))) else (some (Out.norm (ak (aX+(1:Int)))))))) else (some (Out.exit 0 (aX))))
theorem qU:∀ a0 a1 a2,bh (mW a0 a1 a2) (lL a0 a1 a2):=by
 intros; unfold mW lL
 repeat' first
  | with_reducible exact bh.refl _
  | refine bh.ao ?_
  | refine bh.ai ?_ (fun _=>?_)
  | refine bh.af ?_
  | refine bh.loop (fun _=>?_)
  | refine bh.bind ?_ (fun _=>?_)
  | refine bh.cond ?_ ?_
  | split
def pM (x0:(List Int)) (x1:(List Int)):Option (Bool):=
 ao (S:=Unit) (bif ((x0.length:Int)) != ((x1.length:Int)) then (some (Out.ret (false))) else (ai (af 0 (tc (mW x0 x1) ((0:Int)))) (fun aX=>(some (Out.ret (true))))))
theorem rI:∀ a0 a1,bh (pM a0 a1) (fG a0 a1):=by
 intros; unfold pM fG
 repeat' first
  | with_reducible exact bh.refl _
  | exact qU _ _ _
  | refine bh.ao ?_
  | refine bh.ai ?_ (fun _=>?_)
  | refine bh.af ?_
  | refine bh.loop (fun _=>?_)
  | refine bh.bind ?_ (fun _=>?_)
  | refine bh.cond ?_ ?_
  | split
def mD (y8:(List bY)) (jb:Int) (jr:(List Int)) (js:(List Int)) (nb:(List Int)):Option (Out (Int×(List Int)×(List Int)×(List Int)) (aI)):=
 (bif decide (jb < (y8.length:Int)) then ((idx y8 (jb))>>=fun CX=>((fits 8 (jr.length+1))>>=fun n134=>((idx y8 (jb))>>=fun HA=>((fits 8 (js.length+1))>>=fun n173=>((idx y8 (jb))>>=fun PN=>(bif ((PN.lu.length:Int)) == ((0:Int)) then ((idx y8 (jb))>>=fun HB=>((idx nb (HB.aG))>>=fun aaP=>(some (Out.norm (ak (jb+(1:Int)),jr++[CX.aG],js++[HA.To],nb.set (HB.aG).toNat (jb)))))) else (some (Out.norm (ak (jb+(1:Int)),jr++[CX.aG],js++[HA.To],nb))))))))) else (some (Out.exit 0 (jb,jr,js,nb))))
theorem qO:∀ a0 a1 a2 a3 a4,bh (mD a0 a1 a2 a3 a4) (jF a0 a1 a2 a3 a4):=by
 intros; unfold mD jF
 repeat' first
  | with_reducible exact bh.refl _
  | refine bh.ao ?_
  | refine bh.ai ?_ (fun _=>?_)
  | refine bh.af ?_
  | refine bh.loop (fun _=>?_)
  | refine bh.bind ?_ (fun _=>?_)
  | refine bh.cond ?_ ?_
  | split
def mE (y8:(List bY)) (jk:Int) (u9:(List Int)) (xa:bY) (wB:Int) (qh:Int):Option (Out (Int×Int) (aI)):=
 (bif decide (qh < (y8.length:Int)) then ((((idx y8 (qh))>>=fun PO=>((idx y8 (jk))>>=fun PQ=>(bif (PO.aG) == (PQ.aG) then ((idx y8 (qh))>>=fun PR=>((pM PR.lu (u9++xa.lu))>>=fun HC=>(some (HC)))) else (some (false))))))>>=fun PS=>(bif PS then (some (Out.norm (qh,ak (qh+(1:Int))))) else (some (Out.norm (wB,ak (qh+(1:Int))))))) else (some (Out.exit 6 (wB,qh))))
theorem qP:∀ a0 a1 a2 a3 a4 a5,bh (mE a0 a1 a2 a3 a4 a5) (jG a0 a1 a2 a3 a4 a5):=by
 intros; unfold mE jG
 repeat' first
  | with_reducible exact bh.refl _
  | exact rI _ _
  | refine bh.ao ?_
  | refine bh.ai ?_ (fun _=>?_)
  | refine bh.af ?_
  | refine bh.loop (fun _=>?_)
  | refine bh.bind ?_ (fun _=>?_)
  | refine bh.cond ?_ ?_
  | split
def mG (y8:(List bY)) (jk:Int) (nj:(List Int)) (rS:Int):Option (Out ((List Int)×Int) (aI)):=
 (bif decide (rS < (y8.length:Int)) then ((idx y8 (jk))>>=fun PT=>((idx y8 (rS))>>=fun PU=>(bif (PT.To) == (PU.aG) then ((idx y8 (jk))>>=fun PV=>((nG PV.lu)>>=fun u9=>((idx y8 (rS))>>=fun xa=>((fits 8 (u9.length+xa.lu.length))>>=fun aaQ=>(ai (af 6 (tc (fun s=>mE y8 jk u9 xa s.1 s.2) ((-1:Int),(0:Int)))) (fun (wB,qh)=>((fits 8 (nj.length+1))>>=fun aaR=>(some (Out.norm (nj++[wB],ak (rS+(1:Int)))))))))))) else ((fits 8 (nj.length+1))>>=fun aaS=>(some (Out.norm (nj++[(-1:Int)],ak (rS+(1:Int))))))))) else (some (Out.exit 4 (nj,rS))))
theorem qQ:∀ a0 a1 a2 a3,bh (mG a0 a1 a2 a3) (jH a0 a1 a2 a3):=by
 intros; unfold mG jH
 repeat' first
  | with_reducible exact bh.refl _
  | exact qL _
  | exact qP _ _ _ _ _ _
  | refine bh.ao ?_
  | refine bh.ai ?_ (fun _=>?_)
  | refine bh.af ?_
  | refine bh.loop (fun _=>?_)
  | refine bh.bind ?_ (fun _=>?_)
  | refine bh.cond ?_ ?_
  | split
def mH (y8:(List bY)) (jk:Int) (oK:(List (List Int))):Option (Out (Int×(List (List Int))) (aI)):=
 (bif decide (jk < (y8.length:Int)) then (ai (af 4 (tc (fun s=>mG y8 jk s.1 s.2) (([]:(List Int)),(0:Int)))) (fun (nj,rS)=>((fits 24 (oK.length+1))>>=fun aaT=>(some (Out.norm (ak (jk+(1:Int)),oK++[nj])))))) else (some (Out.exit 2 (jk,oK))))
theorem qR:∀ a0 a1 a2,bh (mH a0 a1 a2) (gY a0 a1 a2):=by
 intros; unfold mH gY
 repeat' first
  | with_reducible exact bh.refl _
  | exact qQ _ _ _ _
  | refine bh.ao ?_
  | refine bh.ai ?_ (fun _=>?_)
  | refine bh.af ?_
  | refine bh.loop (fun _=>?_)
  | refine bh.bind ?_ (fun _=>?_)
  | refine bh.cond ?_ ?_
  | split
def lS (x0:Int) (x1:(List Int)) (x2:(List Int)):Option (aI):=
 ao (S:=Unit) ((pX (x0) x1 x2)>>=fun y8=>((mk 8 (x0))>>=fun n36=>(ai (af 0 (tc (fun s=>mD y8 s.1 s.2.1 s.2.2.1 s.2.2.2) ((0:Int),([]:(List Int)),([]:(List Int)),List.replicate n36 (0:Int)))) (fun (jb,jr,js,nb)=>((pL (aI.mk x0 jr js nb (([]:(List (List Int))))))>>=fun PW=>(bif !(PW) then (some (Out.ret ((aI.mk x0 jr js nb (([]:(List (List Int)))))))) else (ai (af 2 (tc (fun s=>mH y8 s.1 s.2) ((0:Int),([]:(List (List Int)))))) (fun (jk,oK)=>(some (Out.ret ((aI.mk x0 jr js nb oK))))))))))))
theorem rF:∀ a0 a1 a2,bh (lS a0 a1 a2) (fT a0 a1 a2):=by
 intros; unfold lS fT
 repeat' first
  | with_reducible exact bh.refl _
  | exact rN _ _ _
  | exact rH _
  | exact qO _ _ _ _ _
  | exact qR _ _ _
  | refine bh.ao ?_
  | refine bh.ai ?_ (fun _=>?_)
  | refine bh.af ?_
  | refine bh.loop (fun _=>?_)
  | refine bh.bind ?_ (fun _=>?_)
  | refine bh.cond ?_ ?_
  | split
end Go.Proofs.YtkcpiblgpnjanaaGreat
set_option linter.unusedVariables false
set_option linter.unusedSimpArgs false
namespace Go.Proofs.YtkcpiblgpnjanaaGreat
open Go Go.Li
def J3 (n:Nat):List (Int×Int):=(List.range n).flatMap fun (u:Nat)=>((List.range n).filter fun (v:Nat)=>Nat.blt u v).map fun (v:Nat)=>(Int.ofNat u,Int.ofNat v)
def wm (n:Nat):Nat→List (List (Int×Int))
 | 0=>[[]]
 | k+1=>(wm n k).flatMap fun l=>(J3 n).map fun p=>p :: l
def EY (n:Nat) (l:List (Int×Int)):Bool:=match lS n (l.map (·.1)) (l.map (·.2)) with
 | some c=>Xb c
 | none=>false
theorem Xg:((wm 2 0++wm 2 1++wm 2 2++wm 2 3).all (EY 2))=true:=by kernel_rfl
theorem Xh:((wm 3 0++wm 3 1++wm 3 2++wm 3 3).all (EY 3))=true:=by kernel_rfl
theorem Tu:((wm 4 0++wm 4 1++wm 4 2).all (EY 4))=true:=by kernel_rfl
theorem Tv:((wm 4 3).all (EY 4))=true:=by kernel_rfl
theorem Tw {n:Nat} {u v:Int} (u0:0≤u) (uv:u < v) (v1:v < n):(u,v)∈J3 n:=by
 unfold J3
 rw [List.mem_flatMap]
 refine ⟨u.toNat,by rw [List.mem_range]; omega,List.mem_map.2 ⟨v.toNat,List.mem_filter.2 ⟨by rw [List.mem_range]; omega,?_⟩,?_⟩⟩
 ·rw [Nat.blt_eq]; omega
 ·rw [show Int.ofNat u.toNat=u by show ((u.toNat:Nat):Int)=u; omega,show Int.ofNat v.toNat=v by show ((v.toNat:Nat):Int)=v; omega]
theorem Tx {n:Nat}:∀ {l:List (Int×Int)},(∀ p∈l,p∈J3 n)→l∈wm n l.length:=by
 intro l
 induction l with
 | nil=>intro _; exact List.mem_singleton.2 rfl
 | cons p l ih=>
  intro h
  show p :: l∈(wm n l.length).flatMap fun l=>(J3 n).map fun p=>p :: l
  exact List.mem_flatMap.2 ⟨l,ih fun q hq=>h q (List.mem_cons_of_mem _ hq),List.mem_map.2 ⟨p,h p (by simp),rfl⟩⟩
theorem EM {n:Nat} {f t:List Int} (hn:n=2∨n=3∨n=4) (hl:t.length=f.length) (hk:f.length≤3) (h:∀ (i:Nat) u v,f[i]? = some u→t[i]? = some v→0≤u∧u < v∧v < n):Ok (fT n f t) Ty:=by
 have hm:f.zip t∈wm n f.length:=by
  have h1:∀ p∈f.zip t,p∈J3 n:=fun p hp=>by
   obtain ⟨i,hi⟩:=List.getElem?_of_mem hp
   obtain ⟨e1,e2⟩:=zh hi
   obtain ⟨a,b,c⟩:=h i _ _ e1 e2
   exact Tw a b c
  have:=Tx h1
  rwa [List.length_zip,hl,Nat.min_self] at this
 have hc:EY n (f.zip t)=true:=by
  have two:=List.all_eq_true.1 Xg
  have three:=List.all_eq_true.1 Xh
  have four:=List.all_eq_true.1 Tu
  have Yc:=List.all_eq_true.1 Tv
  simp only [List.mem_append] at two three four
  have wR:f.length=0∨f.length=1∨f.length=2∨f.length=3:=by omega
  rcases hn with rfl | rfl | rfl <;> rcases wR with e | e | e | e <;> rw [e] at hm
  ·exact two _ (.inl (.inl (.inl hm)))
  ·exact two _ (.inl (.inl (.inr hm)))
  ·exact two _ (.inl (.inr hm))
  ·exact two _ (.inr hm)
  ·exact three _ (.inl (.inl (.inl hm)))
  ·exact three _ (.inl (.inl (.inr hm)))
  ·exact three _ (.inl (.inr hm))
  ·exact three _ (.inr hm)
  ·exact four _ (.inl (.inl hm))
  ·exact four _ (.inl (.inr hm))
  ·exact four _ (.inr hm)
  ·exact Yc _ hm
 unfold EY at hc
 rw [List.map_fst_zip (by omega),List.map_snd_zip (by omega)] at hc
 cases hp:lS n f t with
 | none=>rw [hp] at hc; cases hc
 | some c=>rw [hp] at hc; exact ⟨c,rF _ _ _ _ hp,Se hc⟩
end Go.Proofs.YtkcpiblgpnjanaaGreat
