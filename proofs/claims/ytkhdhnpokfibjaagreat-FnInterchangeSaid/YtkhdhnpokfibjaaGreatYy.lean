/- Models that compute: their loops with fuel; what they give the models give. No condition beside those that each theorem names. -/
import Derived.Test.YtkhdhnpokfibjaaGreatYt
import Derived.KernelRfl
import Derived.Test.YtkhdhnpokfibjaaGreatYw
set_option linter.unusedVariables false
set_option linter.unusedSimpArgs false
namespace Go.Proofs.YtkhdhnpokfibjaaGreat
open Go Go.Li
set_option linter.unusedVariables false
def LeM {α:Type} (m m':Option α):Prop:=∀ o,m=some o→m'=some o
theorem LeM.refl {α:Type} (m:Option α):LeM m m:=fun _ h=>h
theorem LeM.retM {S R:Type} {m m':Option (Out S R)} (h:LeM m m'):LeM (retM m) (retM m'):=fun o ho=>by
 have h1:=retM_some ho
 rw [h _ h1]; rfl
theorem LeM.bind {α β:Type} {m m':Option α} {f f':α→Option β} (h:LeM m m') (k:∀ x,LeM (f x) (f' x)):LeM (m>>=f) (m'>>=f'):=fun o ho=>by
 cases hm:m with
 | none=>rw [hm] at ho; cases ho
 | some x=>rw [hm] at ho; rw [h x hm]; exact k x o ho
theorem LeM.cond {α:Type} {b:Bool} {x x' y y':Option α} (h:LeM x x') (k:LeM y y'):LeM (bif b then x else y) (bif b then x' else y'):=by
 cases b with
 | true=>exact h
 | false=>exact k
theorem LeM.lbind {S S1 R:Type} {m m':Option (Out S1 R)} {f f':S1→Option (Out S R)} (h:LeM m m') (k:∀ x,LeM (f x) (f' x)):LeM (lbind m f) (lbind m' f'):=fun o ho=>by
 unfold Go.Li.lbind at ho ⊢
 cases hm:m with
 | none=>rw [hm] at ho; cases ho
 | some x=>
  rw [hm] at ho
  rw [h x hm]
  cases x with
  | norm s=>exact k s o ho
  | _=>exact ho
theorem LeM.blockM {S R:Type} {n:Nat} {m m':Option (Out S R)} (h:LeM m m'):LeM (blockM n m) (blockM n m'):=fun o ho=>by
 unfold Go.Li.blockM at ho ⊢
 cases hm:m with
 | none=>rw [hm] at ho; cases ho
 | some x=>rw [hm] at ho; rw [h x hm]; exact ho
def loopQ {S R:Type} (body:S→Option (Out S R)) (s:S):Option (Out S R):=loopN body 300 s
theorem loopN_le {S R:Type} {b b':S→Option (Out S R)} (h:∀ s,LeM (b s) (b' s)):∀ k s,LeM (loopN b k s) (loopN b' k s):=by
 intro k
 induction k with
 | zero=>intro s o ho; cases ho
 | succ k ih=>
  intro s o ho
  unfold loopN at ho ⊢
  cases hm:b s with
  | none=>rw [hm] at ho; cases ho
  | some x=>
   rw [hm] at ho
   rw [h s x hm]
   cases x with
   | norm s'=>exact ih s' o ho
   | _=>exact ho
theorem LeM.loop {S R:Type} {b b':S→Option (Out S R)} {s:S} (h:∀ s,LeM (b s) (b' s)):LeM (loopQ b s) (loopM b' s):=fun o ho=>loopM_iff.2 ⟨300,loopN_le h 300 s o ho⟩
def nC (x0:(List Int)):Option ((List Int)):=
 retM (S:=Unit) ((fits 8 ((([]:(List Int))).length+x0.length))>>=fun n15=>(some (Out.ret ((([]:(List Int))++x0)))))
theorem qC:∀ a0,LeM (nC a0) (eK a0):=by
 intros; unfold nC eK
 repeat' first
  | with_reducible exact LeM.refl _
  | refine LeM.retM ?_
  | refine LeM.lbind ?_ (fun _=>?_)
  | refine LeM.blockM ?_
  | refine LeM.loop (fun _=>?_)
  | refine LeM.bind ?_ (fun _=>?_)
  | refine LeM.cond ?_ ?_
  | split
def mS (x0:(List Int)) (x1:(List Int)) (s0_5:Int):Option (Out (Int) (Bool)):=
 (((bif decide (s0_5 < (x0.length:Int)) then (some (decide (s0_5 < (x1.length:Int)))) else (some (false))))>>=fun g6=>(bif g6 then ((idx x0 (s0_5))>>=fun e12=>((idx x1 (s0_5))>>=fun e14=>(bif (e12) != (e14) then ((idx x0 (s0_5))>>=fun e19=>((idx x1 (s0_5))>>=fun e21=>(some (Out.ret ((decide (e19 < e21))))))) else (some (Out.norm (w64 (s0_5+(1:Int)))))))) else (some (Out.exit 0 (s0_5)))))
theorem qK:∀ a0 a1 a2,LeM (mS a0 a1 a2) (fK a0 a1 a2):=by
 intros; unfold mS fK
 repeat' first
  | with_reducible exact LeM.refl _
  | refine LeM.retM ?_
  | refine LeM.lbind ?_ (fun _=>?_)
  | refine LeM.blockM ?_
  | refine LeM.loop (fun _=>?_)
  | refine LeM.bind ?_ (fun _=>?_)
  | refine LeM.cond ?_ ?_
  | split
def pC (x0:(List Int)) (x1:(List Int)):Option (Bool):=
 retM (S:=Unit) (lbind (blockM 0 (loopQ (mS x0 x1) ((0:Int)))) (fun s0_5=>(some (Out.ret ((decide ((x0.length:Int) < (x1.length:Int))))))))
theorem qX:∀ a0 a1,LeM (pC a0 a1) (lM a0 a1):=by
 intros; unfold pC lM
 repeat' first
  | with_reducible exact LeM.refl _
  | exact qK _ _ _
  | refine LeM.retM ?_
  | refine LeM.lbind ?_ (fun _=>?_)
  | refine LeM.blockM ?_
  | refine LeM.loop (fun _=>?_)
  | refine LeM.bind ?_ (fun _=>?_)
  | refine LeM.cond ?_ ?_
  | split
def nN (x0:cG) (x1:cG):Option (Bool):=
 retM (S:=Unit) (bif (x0.aG) != (x1.aG) then (some (Out.ret ((decide (x0.aG < x1.aG))))) else (bif (x0.To) != (x1.To) then (some (Out.ret ((decide (x0.To < x1.To))))) else ((pC x0.Edges x1.Edges)>>=fun y26=>(some (Out.ret (y26))))))
theorem qM:∀ a0 a1,LeM (nN a0 a1) (iW a0 a1):=by
 intros; unfold nN iW
 repeat' first
  | with_reducible exact LeM.refl _
  | exact qX _ _
  | refine LeM.retM ?_
  | refine LeM.lbind ?_ (fun _=>?_)
  | refine LeM.blockM ?_
  | refine LeM.loop (fun _=>?_)
  | refine LeM.bind ?_ (fun _=>?_)
  | refine LeM.cond ?_ ?_
  | split
def nO (x0:Int) (s0:(List cG)) (s1:Int):Option (Out ((List cG)×Int) ((List cG))):=
 (bif decide (s1 < x0) then ((fits 40 (s0.length+1))>>=fun n26=>(some (Out.norm (s0++[cG.mk s1 s1 []],w64 (s1+(1:Int)))))) else (some (Out.exit 0 (s0,s1))))
theorem qN:∀ a0 a1 a2,LeM (nO a0 a1 a2) (kD a0 a1 a2):=by
 intros; unfold nO kD
 repeat' first
  | with_reducible exact LeM.refl _
  | refine LeM.retM ?_
  | refine LeM.lbind ?_ (fun _=>?_)
  | refine LeM.blockM ?_
  | refine LeM.loop (fun _=>?_)
  | refine LeM.bind ?_ (fun _=>?_)
  | refine LeM.cond ?_ ?_
  | split
def nP (x1:(List Int)) (x2:(List Int)) (s1:Int) (s0:(List cG)) (s2:Int):Option (Out ((List cG)×Int) ((List cG))):=
 (bif decide (s2 < (x1.length:Int)) then ((idx x1 (s2))>>=fun e46=>((idx s0 (s1))>>=fun e50=>(bif (e46) == (e50.To) then ((idx s0 (s1))>>=fun e57=>((idx x2 (s2))>>=fun e62=>((idx s0 (s1))>>=fun e66=>((nC e66.Edges)>>=fun y69=>((fits 8 (y69.length+1))>>=fun n72=>((fits 40 (s0.length+1))>>=fun n75=>(some (Out.norm (s0++[cG.mk e57.aG e62 (y69++[s2])],w64 (s2+(1:Int))))))))))) else (some (Out.norm (s0,w64 (s2+(1:Int)))))))) else (some (Out.exit 4 (s0,s2))))
theorem qO:∀ a0 a1 a2 a3 a4,LeM (nP a0 a1 a2 a3 a4) (iX a0 a1 a2 a3 a4):=by
 intros; unfold nP iX
 repeat' first
  | with_reducible exact LeM.refl _
  | exact qC _
  | refine LeM.retM ?_
  | refine LeM.lbind ?_ (fun _=>?_)
  | refine LeM.blockM ?_
  | refine LeM.loop (fun _=>?_)
  | refine LeM.bind ?_ (fun _=>?_)
  | refine LeM.cond ?_ ?_
  | split
def nQ (x1:(List Int)) (x2:(List Int)) (s0:(List cG)) (s1:Int):Option (Out ((List cG)×Int) ((List cG))):=
 (((bif decide (s1 < (s0.length:Int)) then (some (decide ((s0.length:Int)≤(40:Int)))) else (some (false))))>>=fun g31=>(bif g31 then (lbind (blockM 4 (loopQ (fun s=>nP x1 x2 s1 s.1 s.2) (s0,(0:Int)))) (fun (s0,s2)=>(some (Out.norm (s0,w64 (s1+(1:Int))))))) else (some (Out.exit 2 (s0,s1)))))
theorem qP:∀ a0 a1 a2 a3,LeM (nQ a0 a1 a2 a3) (kE a0 a1 a2 a3):=by
 intros; unfold nQ kE
 repeat' first
  | with_reducible exact LeM.refl _
  | exact qO _ _ _ _ _
  | refine LeM.retM ?_
  | refine LeM.lbind ?_ (fun _=>?_)
  | refine LeM.blockM ?_
  | refine LeM.loop (fun _=>?_)
  | refine LeM.bind ?_ (fun _=>?_)
  | refine LeM.cond ?_ ?_
  | split
def nR (s0:(List cG)) (s1:Int):Option (Out ((List cG)×Int) ((List cG))):=
 (((bif decide ((0:Int) < s1) then ((idx s0 (s1))>>=fun e88=>((idx s0 (w64 (s1 - (1:Int))))>>=fun e93=>((nN e88 e93)>>=fun y95=>(some (y95))))) else (some (false))))>>=fun g85=>(bif g85 then ((idx s0 (s1))>>=fun e101=>((idx s0 (w64 (s1 - (1:Int))))>>=fun e108=>((idx s0 (s1))>>=fun e110=>((idx (s0.set (s1).toNat e108) (w64 (s1 - (1:Int))))>>=fun e115=>(some (Out.norm ((s0.set (s1).toNat e108).set (w64 (s1 - (1:Int))).toNat e101,w64 (s1 - (1:Int))))))))) else (some (Out.exit 8 (s0,s1)))))
theorem qQ:∀ a0 a1,LeM (nR a0 a1) (kF a0 a1):=by
 intros; unfold nR kF
 repeat' first
  | with_reducible exact LeM.refl _
  | exact qM _ _
  | refine LeM.retM ?_
  | refine LeM.lbind ?_ (fun _=>?_)
  | refine LeM.blockM ?_
  | refine LeM.loop (fun _=>?_)
  | refine LeM.bind ?_ (fun _=>?_)
  | refine LeM.cond ?_ ?_
  | split
def nS (s0:(List cG)) (s1:Int):Option (Out ((List cG)×Int) ((List cG))):=
 (bif decide (s1 < (s0.length:Int)) then (lbind (blockM 8 (loopQ (fun s=>nR s.1 s.2) (s0,s1))) (fun (s0,s2)=>(some (Out.norm (s0,w64 (s1+(1:Int))))))) else (some (Out.exit 6 (s0,s1))))
theorem qR:∀ a0 a1,LeM (nS a0 a1) (kG a0 a1):=by
 intros; unfold nS kG
 repeat' first
  | with_reducible exact LeM.refl _
  | exact qQ _ _
  | refine LeM.retM ?_
  | refine LeM.lbind ?_ (fun _=>?_)
  | refine LeM.blockM ?_
  | refine LeM.loop (fun _=>?_)
  | refine LeM.bind ?_ (fun _=>?_)
  | refine LeM.cond ?_ ?_
  | split
def pP (x0:Int) (x1:(List Int)) (x2:(List Int)):Option ((List cG)):=
 retM (S:=Unit) (lbind (blockM 0 (loopQ (fun s=>nO x0 s.1 s.2) (([]:(List cG)),(0:Int)))) (fun (s0,s1)=>(lbind (blockM 2 (loopQ (fun s=>nQ x1 x2 s.1 s.2) (s0,(0:Int)))) (fun (s0,s1)=>(lbind (blockM 6 (loopQ (fun s=>nS s.1 s.2) (s0,(1:Int)))) (fun (s0,s1)=>(some (Out.ret (s0)))))))))
theorem rE:∀ a0 a1 a2,LeM (pP a0 a1 a2) (kZ a0 a1 a2):=by
 intros; unfold pP kZ
 repeat' first
  | with_reducible exact LeM.refl _
  | exact qN _ _ _
  | exact qP _ _ _ _
  | exact qR _ _
  | refine LeM.retM ?_
  | refine LeM.lbind ?_ (fun _=>?_)
  | refine LeM.blockM ?_
  | refine LeM.loop (fun _=>?_)
  | refine LeM.bind ?_ (fun _=>?_)
  | refine LeM.cond ?_ ?_
  | split
def pD (x0:aI):Option (Bool):=
 retM (S:=Unit) (((bif decide (x0.aD≤(8:Int)) then (some (decide ((x0.aG.length:Int)≤(40:Int)))) else (some (false))))>>=fun g8=>(some (Out.ret (g8))))
theorem qY:∀ a0,LeM (pD a0) (fH a0):=by
 intros; unfold pD fH
 repeat' first
  | with_reducible exact LeM.refl _
  | refine LeM.retM ?_
  | refine LeM.lbind ?_ (fun _=>?_)
  | refine LeM.blockM ?_
  | refine LeM.loop (fun _=>?_)
  | refine LeM.bind ?_ (fun _=>?_)
  | refine LeM.cond ?_ ?_
  | split
def mT (x0:(List Int)) (x1:(List Int)) (s0_5:Int):Option (Out (Int) (Bool)):=
 (bif decide (s0_5 < (x0.length:Int)) then ((idx x0 (s0_5))>>=fun e14=>((idx x1 (s0_5))>>=fun e16=>(bif (e14) != (e16) then (some (Out.ret (false))) else (some (Out.norm (w64 (s0_5+(1:Int)))))))) else (some (Out.exit 0 (s0_5))))
theorem qL:∀ a0 a1 a2,LeM (mT a0 a1 a2) (lG a0 a1 a2):=by
 intros; unfold mT lG
 repeat' first
  | with_reducible exact LeM.refl _
  | refine LeM.retM ?_
  | refine LeM.lbind ?_ (fun _=>?_)
  | refine LeM.blockM ?_
  | refine LeM.loop (fun _=>?_)
  | refine LeM.bind ?_ (fun _=>?_)
  | refine LeM.cond ?_ ?_
  | split
def pE (x0:(List Int)) (x1:(List Int)):Option (Bool):=
 retM (S:=Unit) (bif ((x0.length:Int)) != ((x1.length:Int)) then (some (Out.ret (false))) else (lbind (blockM 0 (loopQ (mT x0 x1) ((0:Int)))) (fun s0_5=>(some (Out.ret (true))))))
theorem qZ:∀ a0 a1,LeM (pE a0 a1) (fM a0 a1):=by
 intros; unfold pE fM
 repeat' first
  | with_reducible exact LeM.refl _
  | exact qL _ _ _
  | refine LeM.retM ?_
  | refine LeM.lbind ?_ (fun _=>?_)
  | refine LeM.blockM ?_
  | refine LeM.loop (fun _=>?_)
  | refine LeM.bind ?_ (fun _=>?_)
  | refine LeM.cond ?_ ?_
  | split
def lY (y8:(List cG)) (s0_9:Int) (s0_b59_1:(List Int)) (s0_b59_2:(List Int)) (s0_o42:(List Int)):Option (Out (Int×(List Int)×(List Int)×(List Int)) (aI)):=
 (bif decide (s0_9 < (y8.length:Int)) then ((idx y8 (s0_9))>>=fun e109=>((fits 8 (s0_b59_1.length+1))>>=fun n134=>((idx y8 (s0_9))>>=fun e148=>((fits 8 (s0_b59_2.length+1))>>=fun n173=>((idx y8 (s0_9))>>=fun e187=>(bif ((e187.Edges.length:Int)) == ((0:Int)) then ((idx y8 (s0_9))>>=fun e195=>((idx s0_o42 (e195.aG))>>=fun e200=>(some (Out.norm (w64 (s0_9+(1:Int)),s0_b59_1++[e109.aG],s0_b59_2++[e148.To],s0_o42.set (e195.aG).toNat (s0_9)))))) else (some (Out.norm (w64 (s0_9+(1:Int)),s0_b59_1++[e109.aG],s0_b59_2++[e148.To],s0_o42))))))))) else (some (Out.exit 0 (s0_9,s0_b59_1,s0_b59_2,s0_o42))))
theorem qF:∀ a0 a1 a2 a3 a4,LeM (lY a0 a1 a2 a3 a4) (jB a0 a1 a2 a3 a4):=by
 intros; unfold lY jB
 repeat' first
  | with_reducible exact LeM.refl _
  | refine LeM.retM ?_
  | refine LeM.lbind ?_ (fun _=>?_)
  | refine LeM.blockM ?_
  | refine LeM.loop (fun _=>?_)
  | refine LeM.bind ?_ (fun _=>?_)
  | refine LeM.cond ?_ ?_
  | split
def lZ (y8:(List cG)) (s1_10:Int) (y320:(List Int)) (e325:cG) (s3_13:Int) (s3_15:Int):Option (Out (Int×Int) (aI)):=
 (bif decide (s3_15 < (y8.length:Int)) then ((((idx y8 (s3_15))>>=fun e402=>((idx y8 (s1_10))>>=fun e407=>(bif (e402.aG) == (e407.aG) then ((idx y8 (s3_15))>>=fun e413=>((pE e413.Edges (y320++e325.Edges))>>=fun y418=>(some (y418)))) else (some (false))))))>>=fun g400=>(bif g400 then (some (Out.norm (s3_15,w64 (s3_15+(1:Int))))) else (some (Out.norm (s3_13,w64 (s3_15+(1:Int))))))) else (some (Out.exit 6 (s3_13,s3_15))))
theorem qG:∀ a0 a1 a2 a3 a4 a5,LeM (lZ a0 a1 a2 a3 a4 a5) (jC a0 a1 a2 a3 a4 a5):=by
 intros; unfold lZ jC
 repeat' first
  | with_reducible exact LeM.refl _
  | exact qZ _ _
  | refine LeM.retM ?_
  | refine LeM.lbind ?_ (fun _=>?_)
  | refine LeM.blockM ?_
  | refine LeM.loop (fun _=>?_)
  | refine LeM.bind ?_ (fun _=>?_)
  | refine LeM.cond ?_ ?_
  | split
def mA (y8:(List cG)) (s1_10:Int) (s2_11:(List Int)) (s2_12:Int):Option (Out ((List Int)×Int) (aI)):=
 (bif decide (s2_12 < (y8.length:Int)) then ((idx y8 (s1_10))>>=fun e302=>((idx y8 (s2_12))>>=fun e307=>(bif (e302.To) == (e307.aG) then ((idx y8 (s1_10))>>=fun e315=>((nC e315.Edges)>>=fun y320=>((idx y8 (s2_12))>>=fun e325=>((fits 8 (y320.length+e325.Edges.length))>>=fun n347=>(lbind (blockM 6 (loopQ (fun s=>lZ y8 s1_10 y320 e325 s.1 s.2) ((-1:Int),(0:Int)))) (fun (s3_13,s3_15)=>((fits 8 (s2_11.length+1))>>=fun n451=>(some (Out.norm (s2_11++[s3_13],w64 (s2_12+(1:Int)))))))))))) else ((fits 8 (s2_11.length+1))>>=fun n485=>(some (Out.norm (s2_11++[(-1:Int)],w64 (s2_12+(1:Int))))))))) else (some (Out.exit 4 (s2_11,s2_12))))
theorem qH:∀ a0 a1 a2 a3,LeM (mA a0 a1 a2 a3) (jD a0 a1 a2 a3):=by
 intros; unfold mA jD
 repeat' first
  | with_reducible exact LeM.refl _
  | exact qC _
  | exact qG _ _ _ _ _ _
  | refine LeM.retM ?_
  | refine LeM.lbind ?_ (fun _=>?_)
  | refine LeM.blockM ?_
  | refine LeM.loop (fun _=>?_)
  | refine LeM.bind ?_ (fun _=>?_)
  | refine LeM.cond ?_ ?_
  | split
def mB (y8:(List cG)) (s1_10:Int) (s1_b59_4:(List (List Int))):Option (Out (Int×(List (List Int))) (aI)):=
 (bif decide (s1_10 < (y8.length:Int)) then (lbind (blockM 4 (loopQ (fun s=>mA y8 s1_10 s.1 s.2) (([]:(List Int)),(0:Int)))) (fun (s2_11,s2_12)=>((fits 24 (s1_b59_4.length+1))>>=fun n520=>(some (Out.norm (w64 (s1_10+(1:Int)),s1_b59_4++[s2_11])))))) else (some (Out.exit 2 (s1_10,s1_b59_4))))
theorem qI:∀ a0 a1 a2,LeM (mB a0 a1 a2) (gT a0 a1 a2):=by
 intros; unfold mB gT
 repeat' first
  | with_reducible exact LeM.refl _
  | exact qH _ _ _ _
  | refine LeM.retM ?_
  | refine LeM.lbind ?_ (fun _=>?_)
  | refine LeM.blockM ?_
  | refine LeM.loop (fun _=>?_)
  | refine LeM.bind ?_ (fun _=>?_)
  | refine LeM.cond ?_ ?_
  | split
def lL (x0:Int) (x1:(List Int)) (x2:(List Int)):Option (aI):=
 retM (S:=Unit) ((pP (x0) x1 x2)>>=fun y8=>((mk 8 (x0))>>=fun n36=>(lbind (blockM 0 (loopQ (fun s=>lY y8 s.1 s.2.1 s.2.2.1 s.2.2.2) ((0:Int),([]:(List Int)),([]:(List Int)),List.replicate n36 (0:Int)))) (fun (s0_9,s0_b59_1,s0_b59_2,s0_o42)=>((pD (aI.mk x0 s0_b59_1 s0_b59_2 s0_o42 (([]:(List (List Int))))))>>=fun y211=>(bif !(y211) then (some (Out.ret ((aI.mk x0 s0_b59_1 s0_b59_2 s0_o42 (([]:(List (List Int)))))))) else (lbind (blockM 2 (loopQ (fun s=>mB y8 s.1 s.2) ((0:Int),([]:(List (List Int)))))) (fun (s1_10,s1_b59_4)=>(some (Out.ret ((aI.mk x0 s0_b59_1 s0_b59_2 s0_o42 s1_b59_4))))))))))))
theorem qW:∀ a0 a1 a2,LeM (lL a0 a1 a2) (fW a0 a1 a2):=by
 intros; unfold lL fW
 repeat' first
  | with_reducible exact LeM.refl _
  | exact rE _ _ _
  | exact qY _
  | exact qF _ _ _ _ _
  | exact qI _ _ _
  | refine LeM.retM ?_
  | refine LeM.lbind ?_ (fun _=>?_)
  | refine LeM.blockM ?_
  | refine LeM.loop (fun _=>?_)
  | refine LeM.bind ?_ (fun _=>?_)
  | refine LeM.cond ?_ ?_
  | split
end Go.Proofs.YtkhdhnpokfibjaaGreat
namespace Go.Proofs.YtkhdhnpokfibjaaGreat
open Go Go.Li
def upE (n:Nat):List (Int×Int):=(List.range n).flatMap fun (u:Nat)=>((List.range n).filter fun (v:Nat)=>Nat.blt u v).map fun (v:Nat)=>(Int.ofNat u,Int.ofNat v)
def lsE (n:Nat):Nat→List (List (Int×Int))
 | 0=>[[]]
 | k+1=>(lsE n k).flatMap fun l=>(upE n).map fun p=>p :: l
def chkP (n:Nat) (l:List (Int×Int)):Bool:=match lL n (l.map (·.1)) (l.map (·.2)) with
 | some c=>tyB c
 | none=>false
theorem paths2:((lsE 2 0++lsE 2 1++lsE 2 2++lsE 2 3).all (chkP 2))=true:=by kernel_rfl
theorem paths3:((lsE 3 0++lsE 3 1++lsE 3 2++lsE 3 3).all (chkP 3))=true:=by kernel_rfl
theorem paths4a:((lsE 4 0++lsE 4 1++lsE 4 2).all (chkP 4))=true:=by kernel_rfl
theorem paths4b:((lsE 4 3).all (chkP 4))=true:=by kernel_rfl
theorem mem_upE {n:Nat} {u v:Int} (u0:0≤u) (uv:u < v) (v1:v < n):(u,v)∈upE n:=by
 unfold upE
 rw [List.mem_flatMap]
 refine ⟨u.toNat,by rw [List.mem_range]; omega,List.mem_map.2 ⟨v.toNat,List.mem_filter.2 ⟨by rw [List.mem_range]; omega,?_⟩,?_⟩⟩
 ·rw [Nat.blt_eq]; omega
 ·rw [show Int.ofNat u.toNat=u by show ((u.toNat:Nat):Int)=u; omega,show Int.ofNat v.toNat=v by show ((v.toNat:Nat):Int)=v; omega]
theorem mem_lsE {n:Nat}:∀ {l:List (Int×Int)},(∀ p∈l,p∈upE n)→l∈lsE n l.length:=by
 intro l
 induction l with
 | nil=>intro _; exact List.mem_singleton.2 rfl
 | cons p l ih=>
  intro h
  show p :: l∈(lsE n l.length).flatMap fun l=>(upE n).map fun p=>p :: l
  exact List.mem_flatMap.2 ⟨l,ih fun q hq=>h q (List.mem_cons_of_mem _ hq),List.mem_map.2 ⟨p,h p (by simp),rfl⟩⟩
theorem pathsTy {n:Nat} {f t:List Int} (hn:n=2∨n=3∨n=4) (hl:t.length=f.length) (hk:f.length≤3) (h:∀ (i:Nat) u v,f[i]? = some u→t[i]? = some v→0≤u∧u < v∧v < n):Ok (fW n f t) Ty:=by
 have hm:f.zip t∈lsE n f.length:=by
  have h1:∀ p∈f.zip t,p∈upE n:=fun p hp=>by
   obtain ⟨i,hi⟩:=List.getElem?_of_mem hp
   obtain ⟨e1,e2⟩:=zip_get hi
   obtain ⟨a,b,c⟩:=h i _ _ e1 e2
   exact mem_upE a b c
  have:=mem_lsE h1
  rwa [List.length_zip,hl,Nat.min_self] at this
 have hc:chkP n (f.zip t)=true:=by
  have two:=List.all_eq_true.1 paths2
  have three:=List.all_eq_true.1 paths3
  have four:=List.all_eq_true.1 paths4a
  have four':=List.all_eq_true.1 paths4b
  simp only [List.mem_append] at two three four
  have hk':f.length=0∨f.length=1∨f.length=2∨f.length=3:=by omega
  rcases hn with rfl | rfl | rfl <;> rcases hk' with e | e | e | e <;> rw [e] at hm
  ·exact two _ (.inl (.inl (.inl hm)))
  ·exact two _ (.inl (.inl (.inr hm)))
  ·exact two _ (.inl (.inr hm))
  ·exact two _ (.inr hm)
  ·exact three _ (.inl (.inl (.inl hm)))
  ·exact three _ (.inl (.inl (.inr hm)))
  ·exact three _ (.inl (.inr hm))
  ·exact three _ (.inr hm)
  ·exact four _ (.inl (.inl hm))
  ·exact four _ (.inl (.inr hm))
  ·exact four _ (.inr hm)
  ·exact four' _ hm
 unfold chkP at hc
 rw [List.map_fst_zip (by omega),List.map_snd_zip (by omega)] at hc
 cases hp:lL n f t with
 | none=>rw [hp] at hc; cases hc
 | some c=>rw [hp] at hc; exact ⟨c,qW _ _ _ _ hp,ty_of hc⟩
end Go.Proofs.YtkhdhnpokfibjaaGreat
