/- Models that compute: their loops with fuel; what they give the models give. No condition beside those that each theorem names. -/
import Derived.Test.YtkcpiblgpnjanaaGreatYt
import Derived.KernelRfl
import Derived.Test.YtkcpiblgpnjanaaGreatYw
namespace Go.Proofs.YtkcpiblgpnjanaaGreat
open Go Go.Li
set_option linter.unusedVariables false
def bj {α:Type} (m m':Option α):Prop:=∀ o,m=some o→m'=some o
theorem bj.refl {α:Type} (m:Option α):bj m m:=fun _ h=>h
theorem bj.ao {S R:Type} {m m':Option (Out S R)} (h:bj m m'):bj (ao m) (ao m'):=fun o ho=>by
 have h1:=E0 ho
 rw [h _ h1]; rfl
theorem bj.bind {α β:Type} {m m':Option α} {f f':α→Option β} (h:bj m m') (k:∀ x,bj (f x) (f' x)):bj (m>>=f) (m'>>=f'):=fun o ho=>by
 cases hm:m with
 | none=>rw [hm] at ho; cases ho
 | some x=>rw [hm] at ho; rw [h x hm]; exact k x o ho
theorem bj.cond {α:Type} {b:Bool} {x x' y y':Option α} (h:bj x x') (k:bj y y'):bj (bif b then x else y) (bif b then x' else y'):=by
 cases b with
 | true=>exact h
 | false=>exact k
theorem bj.ah {S S1 R:Type} {m m':Option (Out S1 R)} {f f':S1→Option (Out S R)} (h:bj m m') (k:∀ x,bj (f x) (f' x)):bj (ah m f) (ah m' f'):=fun o ho=>by
 unfold Go.Li.ah at ho ⊢
 cases hm:m with
 | none=>rw [hm] at ho; cases ho
 | some x=>
  rw [hm] at ho
  rw [h x hm]
  cases x with
  | norm s=>exact k s o ho
  | _=>exact ho
theorem bj.ae {S R:Type} {n:Nat} {m m':Option (Out S R)} (h:bj m m'):bj (ae n m) (ae n m'):=fun o ho=>by
 unfold Go.Li.ae at ho ⊢
 cases hm:m with
 | none=>rw [hm] at ho; cases ho
 | some x=>rw [hm] at ho; rw [h x hm]; exact ho
def tE {S R:Type} (body:S→Option (Out S R)) (s:S):Option (Out S R):=qd body 300 s
theorem QF {S R:Type} {b b':S→Option (Out S R)} (h:∀ s,bj (b s) (b' s)):∀ k s,bj (qd b k s) (qd b' k s):=by
 intro k
 induction k with
 | zero=>intro s o ho; cases ho
 | succ k ih=>
  intro s o ho
  unfold qd at ho ⊢
  cases hm:b s with
  | none=>rw [hm] at ho; cases ho
  | some x=>
   rw [hm] at ho
   rw [h s x hm]
   cases x with
   | norm s'=>exact ih s' o ho
   | _=>exact ho
theorem bj.loop {S R:Type} {b b':S→Option (Out S R)} {s:S} (h:∀ s,bj (b s) (b' s)):bj (tE b s) (ai b' s):=fun o ho=>vO.2 ⟨300,QF h 300 s o ho⟩
def nO (x0:(List Int)):Option ((List Int)):=
 ao (S:=Unit) ((fits 8 ((([]:(List Int))).length+x0.length))>>=fun n15=>(some (Out.ret ((([]:(List Int))++x0)))))
theorem qI:∀ a0,bj (nO a0) (dW a0):=by
 intros; unfold nO dW
 repeat' first
  | with_reducible exact bj.refl _
  | refine bj.ao ?_
  | refine bj.ah ?_ (fun _=>?_)
  | refine bj.ae ?_
  | refine bj.loop (fun _=>?_)
  | refine bj.bind ?_ (fun _=>?_)
  | refine bj.cond ?_ ?_
  | split
def nH (x0:(List Int)) (x1:(List Int)) (ba:Int):Option (Out (Int) (Bool)):=
 (((bif decide (ba < (x0.length:Int)) then (some (decide (ba < (x1.length:Int)))) else (some (false))))>>=fun g6=>(bif g6 then ((idx x0 (ba))>>=fun MU=>((idx x1 (ba))>>=fun uN=>(bif (MU) != (uN) then ((idx x0 (ba))>>=fun Hm=>((idx x1 (ba))>>=fun uM=>(some (Out.ret ((decide (Hm < uM))))))) else (some (Out.norm (aj (ba+(1:Int)))))))) else (some (Out.exit 0 (ba)))))
theorem qO:∀ a0 a1 a2,bj (nH a0 a1 a2) (fE a0 a1 a2):=by
 intros; unfold nH fE
 repeat' first
  | with_reducible exact bj.refl _
  | refine bj.ao ?_
  | refine bj.ah ?_ (fun _=>?_)
  | refine bj.ae ?_
  | refine bj.loop (fun _=>?_)
  | refine bj.bind ?_ (fun _=>?_)
  | refine bj.cond ?_ ?_
  | split
def pL (x0:(List Int)) (x1:(List Int)):Option (Bool):=
 ao (S:=Unit) (ah (ae 0 (tE (nH x0 x1) ((0:Int)))) (fun ba=>(some (Out.ret ((decide ((x0.length:Int) < (x1.length:Int))))))))
theorem rA:∀ a0 a1,bj (pL a0 a1) (mE a0 a1):=by
 intros; unfold pL mE
 repeat' first
  | with_reducible exact bj.refl _
  | exact qO _ _ _
  | refine bj.ao ?_
  | refine bj.ah ?_ (fun _=>?_)
  | refine bj.ae ?_
  | refine bj.loop (fun _=>?_)
  | refine bj.bind ?_ (fun _=>?_)
  | refine bj.cond ?_ ?_
  | split
def nY (x0:bS) (x1:bS):Option (Bool):=
 ao (S:=Unit) (bif (x0.aG) != (x1.aG) then (some (Out.ret ((decide (x0.aG < x1.aG))))) else (bif (x0.To) != (x1.To) then (some (Out.ret ((decide (x0.To < x1.To))))) else ((pL x0.l3 x1.l3)>>=fun x8=>(some (Out.ret (x8))))))
theorem qQ:∀ a0 a1,bj (nY a0 a1) (jO a0 a1):=by
 intros; unfold nY jO
 repeat' first
  | with_reducible exact bj.refl _
  | exact rA _ _
  | refine bj.ao ?_
  | refine bj.ah ?_ (fun _=>?_)
  | refine bj.ae ?_
  | refine bj.loop (fun _=>?_)
  | refine bj.bind ?_ (fun _=>?_)
  | refine bj.cond ?_ ?_
  | split
def nZ (x0:Int) (s0:(List bS)) (s1:Int):Option (Out ((List bS)×Int) ((List bS))):=
 (bif decide (s1 < x0) then ((fits 40 (s0.length+1))>>=fun n26=>(some (Out.norm (s0++[bS.mk s1 s1 []],aj (s1+(1:Int)))))) else (some (Out.exit 0 (s0,s1))))
theorem qR:∀ a0 a1 a2,bj (nZ a0 a1 a2) (kT a0 a1 a2):=by
 intros; unfold nZ kT
 repeat' first
  | with_reducible exact bj.refl _
  | refine bj.ao ?_
  | refine bj.ah ?_ (fun _=>?_)
  | refine bj.ae ?_
  | refine bj.loop (fun _=>?_)
  | refine bj.bind ?_ (fun _=>?_)
  | refine bj.cond ?_ ?_
  | split
def oA (x1:(List Int)) (x2:(List Int)) (s1:Int) (s0:(List bS)) (s2:Int):Option (Out ((List bS)×Int) ((List bS))):=
 (bif decide (s2 < (x1.length:Int)) then ((idx x1 (s2))>>=fun DU=>((idx s0 (s1))>>=fun MW=>(bif (DU) == (MW.To) then ((idx s0 (s1))>>=fun Vk=>((idx x2 (s2))>>=fun AF=>((idx s0 (s1))>>=fun Ju=>((nO Ju.l3)>>=fun MX=>((fits 8 (MX.length+1))>>=fun n72=>((fits 40 (s0.length+1))>>=fun n75=>(some (Out.norm (s0++[bS.mk Vk.aG AF (MX++[s2])],aj (s2+(1:Int))))))))))) else (some (Out.norm (s0,aj (s2+(1:Int)))))))) else (some (Out.exit 4 (s0,s2))))
theorem qS:∀ a0 a1 a2 a3 a4,bj (oA a0 a1 a2 a3 a4) (jP a0 a1 a2 a3 a4):=by
 intros; unfold oA jP
 repeat' first
  | with_reducible exact bj.refl _
  | exact qI _
  | refine bj.ao ?_
  | refine bj.ah ?_ (fun _=>?_)
  | refine bj.ae ?_
  | refine bj.loop (fun _=>?_)
  | refine bj.bind ?_ (fun _=>?_)
  | refine bj.cond ?_ ?_
  | split
def oB (x1:(List Int)) (x2:(List Int)) (s0:(List bS)) (s1:Int):Option (Out ((List bS)×Int) ((List bS))):=
 (((bif decide (s1 < (s0.length:Int)) then (some (decide ((s0.length:Int)≤(40:Int)))) else (some (false))))>>=fun Vl=>(bif Vl then (ah (ae 4 (tE (fun s=>oA x1 x2 s1 s.1 s.2) (s0,(0:Int)))) (fun (s0,s2)=>(some (Out.norm (s0,aj (s1+(1:Int))))))) else (some (Out.exit 2 (s0,s1)))))
theorem qT:∀ a0 a1 a2 a3,bj (oB a0 a1 a2 a3) (kU a0 a1 a2 a3):=by
 intros; unfold oB kU
 repeat' first
  | with_reducible exact bj.refl _
  | exact qS _ _ _ _ _
  | refine bj.ao ?_
  | refine bj.ah ?_ (fun _=>?_)
  | refine bj.ae ?_
  | refine bj.loop (fun _=>?_)
  | refine bj.bind ?_ (fun _=>?_)
  | refine bj.cond ?_ ?_
  | split
def oC (s0:(List bS)) (s1:Int):Option (Out ((List bS)×Int) ((List bS))):=
 (((bif decide ((0:Int) < s1) then ((idx s0 (s1))>>=fun Cw=>((idx s0 (aj (s1 - (1:Int))))>>=fun DV=>((nY Cw DV)>>=fun MY=>(some (MY))))) else (some (false))))>>=fun Vm=>(bif Vm then ((idx s0 (s1))>>=fun Pk=>((idx s0 (aj (s1 - (1:Int))))>>=fun we=>((idx s0 (s1))>>=fun Hn=>((idx (s0.set (s1).toNat we) (aj (s1 - (1:Int))))>>=fun Pl=>(some (Out.norm ((s0.set (s1).toNat we).set (aj (s1 - (1:Int))).toNat Pk,aj (s1 - (1:Int))))))))) else (some (Out.exit 8 (s0,s1)))))
theorem qU:∀ a0 a1,bj (oC a0 a1) (kV a0 a1):=by
 intros; unfold oC kV
 repeat' first
  | with_reducible exact bj.refl _
  | exact qQ _ _
  | refine bj.ao ?_
  | refine bj.ah ?_ (fun _=>?_)
  | refine bj.ae ?_
  | refine bj.loop (fun _=>?_)
  | refine bj.bind ?_ (fun _=>?_)
  | refine bj.cond ?_ ?_
  | split
def oD (s0:(List bS)) (s1:Int):Option (Out ((List bS)×Int) ((List bS))):=
 (bif decide (s1 < (s0.length:Int)) then (ah (ae 8 (tE (fun s=>oC s.1 s.2) (s0,s1))) (fun (s0,s2)=>(some (Out.norm (s0,aj (s1+(1:Int))))))) else (some (Out.exit 6 (s0,s1))))
theorem qV:∀ a0 a1,bj (oD a0 a1) (kW a0 a1):=by
 intros; unfold oD kW
 repeat' first
  | with_reducible exact bj.refl _
  | exact qU _ _
  | refine bj.ao ?_
  | refine bj.ah ?_ (fun _=>?_)
  | refine bj.ae ?_
  | refine bj.loop (fun _=>?_)
  | refine bj.bind ?_ (fun _=>?_)
  | refine bj.cond ?_ ?_
  | split
def pX (x0:Int) (x1:(List Int)) (x2:(List Int)):Option ((List bS)):=
 ao (S:=Unit) (ah (ae 0 (tE (fun s=>nZ x0 s.1 s.2) (([]:(List bS)),(0:Int)))) (fun (s0,s1)=>(ah (ae 2 (tE (fun s=>oB x1 x2 s.1 s.2) (s0,(0:Int)))) (fun (s0,s1)=>(ah (ae 6 (tE (fun s=>oD s.1 s.2) (s0,(1:Int)))) (fun (s0,s1)=>(some (Out.ret (s0)))))))))
theorem rG:∀ a0 a1 a2,bj (pX a0 a1 a2) (lP a0 a1 a2):=by
 intros; unfold pX lP
 repeat' first
  | with_reducible exact bj.refl _
  | exact qR _ _ _
  | exact qT _ _ _ _
  | exact qV _ _
  | refine bj.ao ?_
  | refine bj.ah ?_ (fun _=>?_)
  | refine bj.ae ?_
  | refine bj.loop (fun _=>?_)
  | refine bj.bind ?_ (fun _=>?_)
  | refine bj.cond ?_ ?_
  | split
def pM (x0:aI):Option (Bool):=
 ao (S:=Unit) (((bif decide (x0.aC≤(8:Int)) then (some (decide ((x0.aG.length:Int)≤(40:Int)))) else (some (false))))>>=fun g8=>(some (Out.ret (g8))))
theorem rB:∀ a0,bj (pM a0) (eW a0):=by
 intros; unfold pM eW
 repeat' first
  | with_reducible exact bj.refl _
  | refine bj.ao ?_
  | refine bj.ah ?_ (fun _=>?_)
  | refine bj.ae ?_
  | refine bj.loop (fun _=>?_)
  | refine bj.bind ?_ (fun _=>?_)
  | refine bj.cond ?_ ?_
  | split
def nI (x0:(List Int)) (x1:(List Int)) (ba:Int):Option (Out (Int) (Bool)):=
 (bif decide (ba < (x0.length:Int)) then ((idx x0 (ba))>>=fun uN=>((idx x1 (ba))>>=fun DW=>(bif (uN) != (DW) then (some (Out.ret (false))) else (some (Out.norm (aj (ba+(1:Int)))))))) else (some (Out.exit 0 (ba))))
theorem qP:∀ a0 a1 a2,bj (nI a0 a1 a2) (lV a0 a1 a2):=by
 intros; unfold nI lV
 repeat' first
  | with_reducible exact bj.refl _
  | refine bj.ao ?_
  | refine bj.ah ?_ (fun _=>?_)
  | refine bj.ae ?_
  | refine bj.loop (fun _=>?_)
  | refine bj.bind ?_ (fun _=>?_)
  | refine bj.cond ?_ ?_
  | split
def pN (x0:(List Int)) (x1:(List Int)):Option (Bool):=
 ao (S:=Unit) (bif ((x0.length:Int)) != ((x1.length:Int)) then (some (Out.ret (false))) else (ah (ae 0 (tE (nI x0 x1) ((0:Int)))) (fun ba=>(some (Out.ret (true))))))
theorem rC:∀ a0 a1,bj (pN a0 a1) (fH a0 a1):=by
 intros; unfold pN fH
 repeat' first
  | with_reducible exact bj.refl _
  | exact qP _ _ _
  | refine bj.ao ?_
  | refine bj.ah ?_ (fun _=>?_)
  | refine bj.ae ?_
  | refine bj.loop (fun _=>?_)
  | refine bj.bind ?_ (fun _=>?_)
  | refine bj.cond ?_ ?_
  | split
def mP (y8:(List bS)) (jb:Int) (jw:(List Int)) (jx:(List Int)) (nh:(List Int)):Option (Out (Int×(List Int)×(List Int)×(List Int)) (aI)):=
 (bif decide (jb < (y8.length:Int)) then ((idx y8 (jb))>>=fun CT=>((fits 8 (jw.length+1))>>=fun n134=>((idx y8 (jb))>>=fun Ho=>((fits 8 (jx.length+1))>>=fun n173=>((idx y8 (jb))>>=fun Pm=>(bif ((Pm.l3.length:Int)) == ((0:Int)) then ((idx y8 (jb))>>=fun Hp=>((idx nh (Hp.aG))>>=fun aaN=>(some (Out.norm (aj (jb+(1:Int)),jw++[CT.aG],jx++[Ho.To],nh.set (Hp.aG).toNat (jb)))))) else (some (Out.norm (aj (jb+(1:Int)),jw++[CT.aG],jx++[Ho.To],nh))))))))) else (some (Out.exit 0 (jb,jw,jx,nh))))
theorem qK:∀ a0 a1 a2 a3 a4,bj (mP a0 a1 a2 a3 a4) (jU a0 a1 a2 a3 a4):=by
 intros; unfold mP jU
 repeat' first
  | with_reducible exact bj.refl _
  | refine bj.ao ?_
  | refine bj.ah ?_ (fun _=>?_)
  | refine bj.ae ?_
  | refine bj.loop (fun _=>?_)
  | refine bj.bind ?_ (fun _=>?_)
  | refine bj.cond ?_ ?_
  | split
def mQ (y8:(List bS)) (jr:Int) (vh:(List Int)) (xh:bS) (wI:Int) (qw:Int):Option (Out (Int×Int) (aI)):=
 (bif decide (qw < (y8.length:Int)) then ((((idx y8 (qw))>>=fun Pn=>((idx y8 (jr))>>=fun Po=>(bif (Pn.aG) == (Po.aG) then ((idx y8 (qw))>>=fun Pp=>((pN Pp.l3 (vh++xh.l3))>>=fun Hq=>(some (Hq)))) else (some (false))))))>>=fun Pq=>(bif Pq then (some (Out.norm (qw,aj (qw+(1:Int))))) else (some (Out.norm (wI,aj (qw+(1:Int))))))) else (some (Out.exit 6 (wI,qw))))
theorem qL:∀ a0 a1 a2 a3 a4 a5,bj (mQ a0 a1 a2 a3 a4 a5) (jV a0 a1 a2 a3 a4 a5):=by
 intros; unfold mQ jV
 repeat' first
  | with_reducible exact bj.refl _
  | exact rC _ _
  | refine bj.ao ?_
  | refine bj.ah ?_ (fun _=>?_)
  | refine bj.ae ?_
  | refine bj.loop (fun _=>?_)
  | refine bj.bind ?_ (fun _=>?_)
  | refine bj.cond ?_ ?_
  | split
def mR (y8:(List bS)) (jr:Int) (np:(List Int)) (r6:Int):Option (Out ((List Int)×Int) (aI)):=
 (bif decide (r6 < (y8.length:Int)) then ((idx y8 (jr))>>=fun Pr=>((idx y8 (r6))>>=fun Ps=>(bif (Pr.To) == (Ps.aG) then ((idx y8 (jr))>>=fun Pt=>((nO Pt.l3)>>=fun vh=>((idx y8 (r6))>>=fun xh=>((fits 8 (vh.length+xh.l3.length))>>=fun aaO=>(ah (ae 6 (tE (fun s=>mQ y8 jr vh xh s.1 s.2) ((-1:Int),(0:Int)))) (fun (wI,qw)=>((fits 8 (np.length+1))>>=fun aaP=>(some (Out.norm (np++[wI],aj (r6+(1:Int)))))))))))) else ((fits 8 (np.length+1))>>=fun aaQ=>(some (Out.norm (np++[(-1:Int)],aj (r6+(1:Int))))))))) else (some (Out.exit 4 (np,r6))))
theorem qM:∀ a0 a1 a2 a3,bj (mR a0 a1 a2 a3) (jW a0 a1 a2 a3):=by
 intros; unfold mR jW
 repeat' first
  | with_reducible exact bj.refl _
  | exact qI _
  | exact qL _ _ _ _ _ _
  | refine bj.ao ?_
  | refine bj.ah ?_ (fun _=>?_)
  | refine bj.ae ?_
  | refine bj.loop (fun _=>?_)
  | refine bj.bind ?_ (fun _=>?_)
  | refine bj.cond ?_ ?_
  | split
def mS (y8:(List bS)) (jr:Int) (p7:(List (List Int))):Option (Out (Int×(List (List Int))) (aI)):=
 (bif decide (jr < (y8.length:Int)) then (ah (ae 4 (tE (fun s=>mR y8 jr s.1 s.2) (([]:(List Int)),(0:Int)))) (fun (np,r6)=>((fits 24 (p7.length+1))>>=fun aaR=>(some (Out.norm (aj (jr+(1:Int)),p7++[np])))))) else (some (Out.exit 2 (jr,p7))))
theorem qN:∀ a0 a1 a2,bj (mS a0 a1 a2) (iG a0 a1 a2):=by
 intros; unfold mS iG
 repeat' first
  | with_reducible exact bj.refl _
  | exact qM _ _ _ _
  | refine bj.ao ?_
  | refine bj.ah ?_ (fun _=>?_)
  | refine bj.ae ?_
  | refine bj.loop (fun _=>?_)
  | refine bj.bind ?_ (fun _=>?_)
  | refine bj.cond ?_ ?_
  | split
def mD (x0:Int) (x1:(List Int)) (x2:(List Int)):Option (aI):=
 ao (S:=Unit) ((pX (x0) x1 x2)>>=fun y8=>((mk 8 (x0))>>=fun n36=>(ah (ae 0 (tE (fun s=>mP y8 s.1 s.2.1 s.2.2.1 s.2.2.2) ((0:Int),([]:(List Int)),([]:(List Int)),List.replicate n36 (0:Int)))) (fun (jb,jw,jx,nh)=>((pM (aI.mk x0 jw jx nh (([]:(List (List Int))))))>>=fun Pu=>(bif !(Pu) then (some (Out.ret ((aI.mk x0 jw jx nh (([]:(List (List Int)))))))) else (ah (ae 2 (tE (fun s=>mS y8 s.1 s.2) ((0:Int),([]:(List (List Int)))))) (fun (jr,p7)=>(some (Out.ret ((aI.mk x0 jw jx nh p7))))))))))))
theorem qZ:∀ a0 a1 a2,bj (mD a0 a1 a2) (fP a0 a1 a2):=by
 intros; unfold mD fP
 repeat' first
  | with_reducible exact bj.refl _
  | exact rG _ _ _
  | exact rB _
  | exact qK _ _ _ _ _
  | exact qN _ _ _
  | refine bj.ao ?_
  | refine bj.ah ?_ (fun _=>?_)
  | refine bj.ae ?_
  | refine bj.loop (fun _=>?_)
  | refine bj.bind ?_ (fun _=>?_)
  | refine bj.cond ?_ ?_
  | split
end Go.Proofs.YtkcpiblgpnjanaaGreat
set_option linter.unusedVariables false
set_option linter.unusedSimpArgs false
namespace Go.Proofs.YtkcpiblgpnjanaaGreat
open Go Go.Li
def JX (n:Nat):List (Int×Int):=(List.range n).flatMap fun (u:Nat)=>((List.range n).filter fun (v:Nat)=>Nat.blt u v).map fun (v:Nat)=>(Int.ofNat u,Int.ofNat v)
def wB (n:Nat):Nat→List (List (Int×Int))
 | 0=>[[]]
 | k+1=>(wB n k).flatMap fun l=>(JX n).map fun p=>p :: l
def EN (n:Nat) (l:List (Int×Int)):Bool:=match mD n (l.map (·.1)) (l.map (·.2)) with
 | some c=>Xd c
 | none=>false
theorem Xi:((wB 2 0++wB 2 1++wB 2 2++wB 2 3).all (EN 2))=true:=by kernel_rfl
theorem Xj:((wB 3 0++wB 3 1++wB 3 2++wB 3 3).all (EN 3))=true:=by kernel_rfl
theorem S8:((wB 4 0++wB 4 1++wB 4 2).all (EN 4))=true:=by kernel_rfl
theorem S9:((wB 4 3).all (EN 4))=true:=by kernel_rfl
theorem Tb {n:Nat} {u v:Int} (u0:0≤u) (uv:u < v) (v1:v < n):(u,v)∈JX n:=by
 unfold JX
 rw [List.mem_flatMap]
 refine ⟨u.toNat,by rw [List.mem_range]; omega,List.mem_map.2 ⟨v.toNat,List.mem_filter.2 ⟨by rw [List.mem_range]; omega,?_⟩,?_⟩⟩
 ·rw [Nat.blt_eq]; omega
 ·rw [show Int.ofNat u.toNat=u by show ((u.toNat:Nat):Int)=u; omega,show Int.ofNat v.toNat=v by show ((v.toNat:Nat):Int)=v; omega]
theorem Tc {n:Nat}:∀ {l:List (Int×Int)},(∀ p∈l,p∈JX n)→l∈wB n l.length:=by
 intro l
 induction l with
 | nil=>intro _; exact List.mem_singleton.2 rfl
 | cons p l ih=>
  intro h
  show p :: l∈(wB n l.length).flatMap fun l=>(JX n).map fun p=>p :: l
  exact List.mem_flatMap.2 ⟨l,ih fun q hq=>h q (List.mem_cons_of_mem _ hq),List.mem_map.2 ⟨p,h p (by simp),rfl⟩⟩
theorem EH {n:Nat} {f t:List Int} (hn:n=2∨n=3∨n=4) (hl:t.length=f.length) (hk:f.length≤3) (h:∀ (i:Nat) u v,f[i]? = some u→t[i]? = some v→0≤u∧u < v∧v < n):Ok (fP n f t) Ty:=by
 have hm:f.zip t∈wB n f.length:=by
  have h1:∀ p∈f.zip t,p∈JX n:=fun p hp=>by
   obtain ⟨i,hi⟩:=List.getElem?_of_mem hp
   obtain ⟨e1,e2⟩:=za hi
   obtain ⟨a,b,c⟩:=h i _ _ e1 e2
   exact Tb a b c
  have:=Tc h1
  rwa [List.length_zip,hl,Nat.min_self] at this
 have hc:EN n (f.zip t)=true:=by
  have two:=List.all_eq_true.1 Xi
  have three:=List.all_eq_true.1 Xj
  have four:=List.all_eq_true.1 S8
  have X5:=List.all_eq_true.1 S9
  simp only [List.mem_append] at two three four
  have wX:f.length=0∨f.length=1∨f.length=2∨f.length=3:=by omega
  rcases hn with rfl | rfl | rfl <;> rcases wX with e | e | e | e <;> rw [e] at hm
  ·exact two _ (.inl (.inl (.inl hm)))
  ·exact two _ (.inl (.inl (.inr hm)))
  ·exact two _ (.inl (.inr hm))
  ·exact two _ (.inr hm)
  ·exact three _ (.inl (.inl (.inl hm)))
  ·exact three _ (.inl (.inl (.inr hm)))
  ·exact three _ (.inl (.inr hm))
  ·exact three _ (.inr hm)
  ·exact four _ (.inl (.inl hm))
  ·exact four _ (.inl (.inr hm))
  ·exact four _ (.inr hm)
  ·exact X5 _ hm
 unfold EN at hc
 rw [List.map_fst_zip (by omega),List.map_snd_zip (by omega)] at hc
 cases hp:mD n f t with
 | none=>rw [hp] at hc; cases hc
 | some c=>rw [hp] at hc; exact ⟨c,qZ _ _ _ _ hp,RQ hc⟩
end Go.Proofs.YtkcpiblgpnjanaaGreat
