/- Models that compute: their loops with fuel; what they give the models give. No condition beside those that each theorem names. -/
import Derived.Test.YtilhlobfebngdaaGreatYt
import Derived.KernelRfl
import Derived.Test.YtilhlobfebngdaaGreatYw
namespace Go.Proofs.YtilhlobfebngdaaGreat
open Go Go.Li
set_option linter.unusedVariables false
def bc {α:Type} (m m':Option α):Prop:=∀ o,m=some o→m'=some o
theorem bc.refl {α:Type} (m:Option α):bc m m:=fun _ h=>h
theorem bc.aq {S R:Type} {m m':Option (Out S R)} (h:bc m m'):bc (aq m) (aq m'):=fun o ho=>by
 have h1:=GP ho
 rw [h _ h1]; rfl
theorem bc.bind {α β:Type} {m m':Option α} {f f':α→Option β} (h:bc m m') (k:∀ x,bc (f x) (f' x)):bc (m>>=f) (m'>>=f'):=fun o ho=>by
 cases hm:m with
 | none=>rw [hm] at ho; cases ho
 | some x=>rw [hm] at ho; rw [h x hm]; exact k x o ho
theorem bc.cond {α:Type} {b:Bool} {x x' y y':Option α} (h:bc x x') (k:bc y y'):bc (bif b then x else y) (bif b then x' else y'):=by
 cases b with
 | true=>exact h
 | false=>exact k
theorem bc.ah {S S1 R:Type} {m m':Option (Out S1 R)} {f f':S1→Option (Out S R)} (h:bc m m') (k:∀ x,bc (f x) (f' x)):bc (ah m f) (ah m' f'):=fun o ho=>by
 unfold Go.Li.ah at ho ⊢
 cases hm:m with
 | none=>rw [hm] at ho; cases ho
 | some x=>
  rw [hm] at ho
  rw [h x hm]
  cases x with
  | norm s=>exact k s o ho
  | _=>exact ho
theorem bc.ae {S R:Type} {n:Nat} {m m':Option (Out S R)} (h:bc m m'):bc (ae n m) (ae n m'):=fun o ho=>by
 unfold Go.Li.ae at ho ⊢
 cases hm:m with
 | none=>rw [hm] at ho; cases ho
 | some x=>rw [hm] at ho; rw [h x hm]; exact ho
def u4 {S R:Type} (body:S→Option (Out S R)) (s:S):Option (Out S R):=pg body 300 s
theorem Su {S R:Type} {b b':S→Option (Out S R)} (h:∀ s,bc (b s) (b' s)):∀ k s,bc (pg b k s) (pg b' k s):=by
 intro k
 induction k with
 | zero=>intro s o ho; cases ho
 | succ k ih=>
  intro s o ho
  unfold pg at ho ⊢
  cases hm:b s with
  | none=>rw [hm] at ho; cases ho
  | some x=>
   rw [hm] at ho
   rw [h s x hm]
   cases x with
   | norm s'=>exact ih s' o ho
   | _=>exact ho
theorem bc.loop {S R:Type} {b b':S→Option (Out S R)} {s:S} (h:∀ s,bc (b s) (b' s)):bc (u4 b s) (aj b' s):=fun o ho=>xk.2 ⟨300,Su h 300 s o ho⟩
def pI (x0:(List Int)):Option ((List Int)):=
 aq (S:=Unit) ((fits 8 ((([]:(List Int))).length+x0.length))>>=fun n15=>(some (Out.ret ((([]:(List Int))++x0)))))
theorem tO:∀ a0,bc (pI a0) (dM a0):=by
 intros; unfold pI dM
 repeat' first
  | with_reducible exact bc.refl _
  | refine bc.aq ?_
  | refine bc.ah ?_ (fun _=>?_)
  | refine bc.ae ?_
  | refine bc.loop (fun _=>?_)
  | refine bc.bind ?_ (fun _=>?_)
  | refine bc.cond ?_ ?_
  | split
def oX (x0:(List Int)) (x1:(List Int)) (aw:Int):Option (Out (Int) (Bool)):=
 (((bif decide (aw < (x0.length:Int)) then (some (decide (aw < (x1.length:Int)))) else (some (false))))>>=fun g6=>(bif g6 then ((idx x0 (aw))>>=fun OF=>((idx x1 (aw))>>=fun tc=>(bif (OF) != (tc) then ((idx x0 (aw))>>=fun Hc=>((idx x1 (aw))>>=fun CJ=>(some (Out.ret ((decide (Hc < CJ))))))) else (some (Out.norm (ao (aw+(1:Int)))))))) else (some (Out.exit 0 (aw)))))
theorem tX:∀ a0 a1 a2,bc (oX a0 a1 a2) (fU a0 a1 a2):=by
 intros; unfold oX fU
 repeat' first
  | with_reducible exact bc.refl _
  | refine bc.aq ?_
  | refine bc.ah ?_ (fun _=>?_)
  | refine bc.ae ?_
  | refine bc.loop (fun _=>?_)
  | refine bc.bind ?_ (fun _=>?_)
  | refine bc.cond ?_ ?_
  | split
def sC (x0:(List Int)) (x1:(List Int)):Option (Bool):=
 aq (S:=Unit) (ah (ae 0 (u4 (oX x0 x1) ((0:Int)))) (fun aw=>(some (Out.ret ((decide ((x0.length:Int) < (x1.length:Int))))))))
theorem uK:∀ a0 a1,bc (sC a0 a1) (nJ a0 a1):=by
 intros; unfold sC nJ
 repeat' first
  | with_reducible exact bc.refl _
  | exact tX _ _ _
  | refine bc.aq ?_
  | refine bc.ah ?_ (fun _=>?_)
  | refine bc.ae ?_
  | refine bc.loop (fun _=>?_)
  | refine bc.bind ?_ (fun _=>?_)
  | refine bc.cond ?_ ?_
  | split
def pW (x0:bX) (x1:bX):Option (Bool):=
 aq (S:=Unit) (bif (x0.aG) != (x1.aG) then (some (Out.ret ((decide (x0.aG < x1.aG))))) else (bif (x0.To) != (x1.To) then (some (Out.ret ((decide (x0.To < x1.To))))) else ((sC x0.l8 x1.l8)>>=fun yR=>(some (Out.ret (yR))))))
theorem tZ:∀ a0 a1,bc (pW a0 a1) (kA a0 a1):=by
 intros; unfold pW kA
 repeat' first
  | with_reducible exact bc.refl _
  | exact uK _ _
  | refine bc.aq ?_
  | refine bc.ah ?_ (fun _=>?_)
  | refine bc.ae ?_
  | refine bc.loop (fun _=>?_)
  | refine bc.bind ?_ (fun _=>?_)
  | refine bc.cond ?_ ?_
  | split
def pX (x0:Int) (s0:(List bX)) (s1:Int):Option (Out ((List bX)×Int) ((List bX))):=
 (bif decide (s1 < x0) then ((fits 40 (s0.length+1))>>=fun n26=>(some (Out.norm (s0++[bX.mk s1 s1 []],ao (s1+(1:Int)))))) else (some (Out.exit 0 (s0,s1))))
theorem uA:∀ a0 a1 a2,bc (pX a0 a1 a2) (lU a0 a1 a2):=by
 intros; unfold pX lU
 repeat' first
  | with_reducible exact bc.refl _
  | refine bc.aq ?_
  | refine bc.ah ?_ (fun _=>?_)
  | refine bc.ae ?_
  | refine bc.loop (fun _=>?_)
  | refine bc.bind ?_ (fun _=>?_)
  | refine bc.cond ?_ ?_
  | split
def pY (x1:(List Int)) (x2:(List Int)) (s1:Int) (s0:(List bX)) (s2:Int):Option (Out ((List bX)×Int) ((List bX))):=
 (bif decide (s2 < (x1.length:Int)) then ((idx x1 (s2))>>=fun AA=>((idx s0 (s1))>>=fun OG=>(bif (AA) == (OG.To) then ((idx s0 (s1))>>=fun OH=>((idx x2 (s2))>>=fun B9=>((idx s0 (s1))>>=fun W5=>((pI W5.l8)>>=fun Ji=>((fits 8 (Ji.length+1))>>=fun n72=>((fits 40 (s0.length+1))>>=fun n75=>(some (Out.norm (s0++[bX.mk OH.aG B9 (Ji++[s2])],ao (s2+(1:Int))))))))))) else (some (Out.norm (s0,ao (s2+(1:Int)))))))) else (some (Out.exit 4 (s0,s2))))
theorem uB:∀ a0 a1 a2 a3 a4,bc (pY a0 a1 a2 a3 a4) (kB a0 a1 a2 a3 a4):=by
 intros; unfold pY kB
 repeat' first
  | with_reducible exact bc.refl _
  | exact tO _
  | refine bc.aq ?_
  | refine bc.ah ?_ (fun _=>?_)
  | refine bc.ae ?_
  | refine bc.loop (fun _=>?_)
  | refine bc.bind ?_ (fun _=>?_)
  | refine bc.cond ?_ ?_
  | split
def pZ (x1:(List Int)) (x2:(List Int)) (s0:(List bX)) (s1:Int):Option (Out ((List bX)×Int) ((List bX))):=
 (((bif decide (s1 < (s0.length:Int)) then (some (decide ((s0.length:Int)≤(40:Int)))) else (some (false))))>>=fun OI=>(bif OI then (ah (ae 4 (u4 (fun s=>pY x1 x2 s1 s.1 s.2) (s0,(0:Int)))) (fun (s0,s2)=>(some (Out.norm (s0,ao (s1+(1:Int))))))) else (some (Out.exit 2 (s0,s1)))))
theorem uC:∀ a0 a1 a2 a3,bc (pZ a0 a1 a2 a3) (lV a0 a1 a2 a3):=by
 intros; unfold pZ lV
 repeat' first
  | with_reducible exact bc.refl _
  | exact uB _ _ _ _ _
  | refine bc.aq ?_
  | refine bc.ah ?_ (fun _=>?_)
  | refine bc.ae ?_
  | refine bc.loop (fun _=>?_)
  | refine bc.bind ?_ (fun _=>?_)
  | refine bc.cond ?_ ?_
  | split
def qA (s0:(List bX)) (s1:Int):Option (Out ((List bX)×Int) ((List bX))):=
 (((bif decide ((0:Int) < s1) then ((idx s0 (s1))>>=fun DY=>((idx s0 (ao (s1 - (1:Int))))>>=fun Ff=>((pW DY Ff)>>=fun Fg=>(some (Fg))))) else (some (false))))>>=fun W6=>(bif W6 then ((idx s0 (s1))>>=fun QN=>((idx s0 (ao (s1 - (1:Int))))>>=fun vQ=>((idx s0 (s1))>>=fun Ei=>((idx (s0.set (s1).toNat vQ) (ao (s1 - (1:Int))))>>=fun QO=>(some (Out.norm ((s0.set (s1).toNat vQ).set (ao (s1 - (1:Int))).toNat QN,ao (s1 - (1:Int))))))))) else (some (Out.exit 8 (s0,s1)))))
theorem uD:∀ a0 a1,bc (qA a0 a1) (lW a0 a1):=by
 intros; unfold qA lW
 repeat' first
  | with_reducible exact bc.refl _
  | exact tZ _ _
  | refine bc.aq ?_
  | refine bc.ah ?_ (fun _=>?_)
  | refine bc.ae ?_
  | refine bc.loop (fun _=>?_)
  | refine bc.bind ?_ (fun _=>?_)
  | refine bc.cond ?_ ?_
  | split
def qB (s0:(List bX)) (s1:Int):Option (Out ((List bX)×Int) ((List bX))):=
 (bif decide (s1 < (s0.length:Int)) then (ah (ae 8 (u4 (fun s=>qA s.1 s.2) (s0,s1))) (fun (s0,s2)=>(some (Out.norm (s0,ao (s1+(1:Int))))))) else (some (Out.exit 6 (s0,s1))))
theorem uE:∀ a0 a1,bc (qB a0 a1) (lX a0 a1):=by
 intros; unfold qB lX
 repeat' first
  | with_reducible exact bc.refl _
  | exact uD _ _
  | refine bc.aq ?_
  | refine bc.ah ?_ (fun _=>?_)
  | refine bc.ae ?_
  | refine bc.loop (fun _=>?_)
  | refine bc.bind ?_ (fun _=>?_)
  | refine bc.cond ?_ ?_
  | split
def sW (x0:Int) (x1:(List Int)) (x2:(List Int)):Option ((List bX)):=
 aq (S:=Unit) (ah (ae 0 (u4 (fun s=>pX x0 s.1 s.2) (([]:(List bX)),(0:Int)))) (fun (s0,s1)=>(ah (ae 2 (u4 (fun s=>pZ x1 x2 s.1 s.2) (s0,(0:Int)))) (fun (s0,s1)=>(ah (ae 6 (u4 (fun s=>qB s.1 s.2) (s0,(1:Int)))) (fun (s0,s1)=>(some (Out.ret (s0)))))))))
theorem uQ:∀ a0 a1 a2,bc (sW a0 a1 a2) (mW a0 a1 a2):=by
 intros; unfold sW mW
 repeat' first
  | with_reducible exact bc.refl _
  | exact uA _ _ _
  | exact uC _ _ _ _
  | exact uE _ _
  | refine bc.aq ?_
  | refine bc.ah ?_ (fun _=>?_)
  | refine bc.ae ?_
  | refine bc.loop (fun _=>?_)
  | refine bc.bind ?_ (fun _=>?_)
  | refine bc.cond ?_ ?_
  | split
def sD (x0:aI):Option (Bool):=
 aq (S:=Unit) (((bif decide (x0.aA≤(8:Int)) then (some (decide ((x0.aG.length:Int)≤(40:Int)))) else (some (false))))>>=fun g8=>(some (Out.ret (g8))))
theorem uL:∀ a0,bc (sD a0) (eJ a0):=by
 intros; unfold sD eJ
 repeat' first
  | with_reducible exact bc.refl _
  | refine bc.aq ?_
  | refine bc.ah ?_ (fun _=>?_)
  | refine bc.ae ?_
  | refine bc.loop (fun _=>?_)
  | refine bc.bind ?_ (fun _=>?_)
  | refine bc.cond ?_ ?_
  | split
def oY (x0:(List Int)) (x1:(List Int)) (aw:Int):Option (Out (Int) (Bool)):=
 (bif decide (aw < (x0.length:Int)) then ((idx x0 (aw))>>=fun tc=>((idx x1 (aw))>>=fun Fh=>(bif (tc) != (Fh) then (some (Out.ret (false))) else (some (Out.norm (ao (aw+(1:Int)))))))) else (some (Out.exit 0 (aw))))
theorem tY:∀ a0 a1 a2,bc (oY a0 a1 a2) (nB a0 a1 a2):=by
 intros; unfold oY nB
 repeat' first
  | with_reducible exact bc.refl _
  | refine bc.aq ?_
  | refine bc.ah ?_ (fun _=>?_)
  | refine bc.ae ?_
  | refine bc.loop (fun _=>?_)
  | refine bc.bind ?_ (fun _=>?_)
  | refine bc.cond ?_ ?_
  | split
def sE (x0:(List Int)) (x1:(List Int)):Option (Bool):=
 aq (S:=Unit) (bif ((x0.length:Int)) != ((x1.length:Int)) then (some (Out.ret (false))) else (ah (ae 0 (u4 (oY x0 x1) ((0:Int)))) (fun aw=>(some (Out.ret (true))))))
theorem uM:∀ a0 a1,bc (sE a0 a1) (fP a0 a1):=by
 intros; unfold sE fP
 repeat' first
  | with_reducible exact bc.refl _
  | exact tY _ _ _
  | refine bc.aq ?_
  | refine bc.ah ?_ (fun _=>?_)
  | refine bc.ae ?_
  | refine bc.loop (fun _=>?_)
  | refine bc.bind ?_ (fun _=>?_)
  | refine bc.cond ?_ ?_
  | split
def nZ (y8:(List bX)) (db:Int) (jw:(List Int)) (jx:(List Int)) (na:(List Int)):Option (Out (Int×(List Int)×(List Int)×(List Int)) (aI)):=
 (bif decide (db < (y8.length:Int)) then ((idx y8 (db))>>=fun Ej=>((fits 8 (jw.length+1))>>=fun n134=>((idx y8 (db))>>=fun Jj=>((fits 8 (jx.length+1))>>=fun n173=>((idx y8 (db))>>=fun QP=>(bif ((QP.l8.length:Int)) == ((0:Int)) then ((idx y8 (db))>>=fun Jk=>((idx na (Jk.aG))>>=fun acE=>(some (Out.norm (ao (db+(1:Int)),jw++[Ej.aG],jx++[Jj.To],na.set (Jk.aG).toNat (db)))))) else (some (Out.norm (ao (db+(1:Int)),jw++[Ej.aG],jx++[Jj.To],na))))))))) else (some (Out.exit 0 (db,jw,jx,na))))
theorem tS:∀ a0 a1 a2 a3 a4,bc (nZ a0 a1 a2 a3 a4) (kK a0 a1 a2 a3 a4):=by
 intros; unfold nZ kK
 repeat' first
  | with_reducible exact bc.refl _
  | refine bc.aq ?_
  | refine bc.ah ?_ (fun _=>?_)
  | refine bc.ae ?_
  | refine bc.loop (fun _=>?_)
  | refine bc.bind ?_ (fun _=>?_)
  | refine bc.cond ?_ ?_
  | split
def oA (y8:(List bX)) (dy:Int) (wP:(List Int)) (yO:bX) (ya:Int) (p7:Int):Option (Out (Int×Int) (aI)):=
 (bif decide (p7 < (y8.length:Int)) then ((((idx y8 (p7))>>=fun QQ=>((idx y8 (dy))>>=fun QR=>(bif (QQ.aG) == (QR.aG) then ((idx y8 (p7))>>=fun QS=>((sE QS.l8 (wP++yO.l8))>>=fun QT=>(some (QT)))) else (some (false))))))>>=fun QU=>(bif QU then (some (Out.norm (p7,ao (p7+(1:Int))))) else (some (Out.norm (ya,ao (p7+(1:Int))))))) else (some (Out.exit 6 (ya,p7))))
theorem tT:∀ a0 a1 a2 a3 a4 a5,bc (oA a0 a1 a2 a3 a4 a5) (kL a0 a1 a2 a3 a4 a5):=by
 intros; unfold oA kL
 repeat' first
  | with_reducible exact bc.refl _
  | exact uM _ _
  | refine bc.aq ?_
  | refine bc.ah ?_ (fun _=>?_)
  | refine bc.ae ?_
  | refine bc.loop (fun _=>?_)
  | refine bc.bind ?_ (fun _=>?_)
  | refine bc.cond ?_ ?_
  | split
def oB (y8:(List bX)) (dy:Int) (jq:(List Int)) (rv:Int):Option (Out ((List Int)×Int) (aI)):=
 (bif decide (rv < (y8.length:Int)) then ((idx y8 (dy))>>=fun QV=>((idx y8 (rv))>>=fun QW=>(bif (QV.To) == (QW.aG) then ((idx y8 (dy))>>=fun QY=>((pI QY.l8)>>=fun wP=>((idx y8 (rv))>>=fun yO=>((fits 8 (wP.length+yO.l8.length))>>=fun acF=>(ah (ae 6 (u4 (fun s=>oA y8 dy wP yO s.1 s.2) ((-1:Int),(0:Int)))) (fun (ya,p7)=>((fits 8 (jq.length+1))>>=fun acG=>(some (Out.norm (jq++[ya],ao (rv+(1:Int)))))))))))) else ((fits 8 (jq.length+1))>>=fun acH=>(some (Out.norm (jq++[(-1:Int)],ao (rv+(1:Int))))))))) else (some (Out.exit 4 (jq,rv))))
theorem tU:∀ a0 a1 a2 a3,bc (oB a0 a1 a2 a3) (kN a0 a1 a2 a3):=by
 intros; unfold oB kN
 repeat' first
  | with_reducible exact bc.refl _
  | exact tO _
  | exact tT _ _ _ _ _ _
  | refine bc.aq ?_
  | refine bc.ah ?_ (fun _=>?_)
  | refine bc.ae ?_
  | refine bc.loop (fun _=>?_)
  | refine bc.bind ?_ (fun _=>?_)
  | refine bc.cond ?_ ?_
  | split
def oC (y8:(List bX)) (dy:Int) (o4:(List (List Int))):Option (Out (Int×(List (List Int))) (aI)):=
 (bif decide (dy < (y8.length:Int)) then (ah (ae 4 (u4 (fun s=>oB y8 dy s.1 s.2) (([]:(List Int)),(0:Int)))) (fun (jq,rv)=>((fits 24 (o4.length+1))>>=fun acI=>(some (Out.norm (ao (dy+(1:Int)),o4++[jq])))))) else (some (Out.exit 2 (dy,o4))))
theorem tV:∀ a0 a1 a2,bc (oC a0 a1 a2) (iP a0 a1 a2):=by
 intros; unfold oC iP
 repeat' first
  | with_reducible exact bc.refl _
  | exact tU _ _ _ _
  | refine bc.aq ?_
  | refine bc.ah ?_ (fun _=>?_)
  | refine bc.ae ?_
  | refine bc.loop (fun _=>?_)
  | refine bc.bind ?_ (fun _=>?_)
  | refine bc.cond ?_ ?_
  | split
def nG (x0:Int) (x1:(List Int)) (x2:(List Int)):Option (aI):=
 aq (S:=Unit) ((sW (x0) x1 x2)>>=fun y8=>((mk 8 (x0))>>=fun n36=>(ah (ae 0 (u4 (fun s=>nZ y8 s.1 s.2.1 s.2.2.1 s.2.2.2) ((0:Int),([]:(List Int)),([]:(List Int)),List.replicate n36 (0:Int)))) (fun (db,jw,jx,na)=>((sD (aI.mk x0 jw jx na (([]:(List (List Int))))))>>=fun QZ=>(bif !(QZ) then (some (Out.ret ((aI.mk x0 jw jx na (([]:(List (List Int)))))))) else (ah (ae 2 (u4 (fun s=>oC y8 s.1 s.2) ((0:Int),([]:(List (List Int)))))) (fun (dy,o4)=>(some (Out.ret ((aI.mk x0 jw jx na o4))))))))))))
theorem uJ:∀ a0 a1 a2,bc (nG a0 a1 a2) (gJ a0 a1 a2):=by
 intros; unfold nG gJ
 repeat' first
  | with_reducible exact bc.refl _
  | exact uQ _ _ _
  | exact uL _
  | exact tS _ _ _ _ _
  | exact tV _ _ _
  | refine bc.aq ?_
  | refine bc.ah ?_ (fun _=>?_)
  | refine bc.ae ?_
  | refine bc.loop (fun _=>?_)
  | refine bc.bind ?_ (fun _=>?_)
  | refine bc.cond ?_ ?_
  | split
end Go.Proofs.YtilhlobfebngdaaGreat
set_option linter.unusedVariables false
set_option linter.unusedSimpArgs false
namespace Go.Proofs.YtilhlobfebngdaaGreat
open Go Go.Li
def L6 (n:Nat):List (Int×Int):=(List.range n).flatMap fun (u:Nat)=>((List.range n).filter fun (v:Nat)=>Nat.blt u v).map fun (v:Nat)=>(Int.ofNat u,Int.ofNat v)
def xW (n:Nat):Nat→List (List (Int×Int))
 | 0=>[[]]
 | k+1=>(xW n k).flatMap fun l=>(L6 n).map fun p=>p :: l
def GG (n:Nat) (l:List (Int×Int)):Bool:=match nG n (l.map (·.1)) (l.map (·.2)) with
 | some c=>Y2 c
 | none=>false
theorem Y6:((xW 2 0++xW 2 1++xW 2 2++xW 2 3).all (GG 2))=true:=by kernel_rfl
theorem Y7:((xW 3 0++xW 3 1++xW 3 2++xW 3 3).all (GG 3))=true:=by kernel_rfl
theorem U4:((xW 4 0++xW 4 1++xW 4 2).all (GG 4))=true:=by kernel_rfl
theorem U5:((xW 4 3).all (GG 4))=true:=by kernel_rfl
theorem U6 {n:Nat} {u v:Int} (u0:0≤u) (uv:u < v) (v1:v < n):(u,v)∈L6 n:=by
 unfold L6
 rw [List.mem_flatMap]
 refine ⟨u.toNat,by rw [List.mem_range]; omega,List.mem_map.2 ⟨v.toNat,List.mem_filter.2 ⟨by rw [List.mem_range]; omega,?_⟩,?_⟩⟩
 ·rw [Nat.blt_eq]; omega
 ·rw [show Int.ofNat u.toNat=u by show ((u.toNat:Nat):Int)=u; omega,show Int.ofNat v.toNat=v by show ((v.toNat:Nat):Int)=v; omega]
theorem U7 {n:Nat}:∀ {l:List (Int×Int)},(∀ p∈l,p∈L6 n)→l∈xW n l.length:=by
 intro l
 induction l with
 | nil=>intro _; exact List.mem_singleton.2 rfl
 | cons p l ih=>
  intro h
  show p :: l∈(xW n l.length).flatMap fun l=>(L6 n).map fun p=>p :: l
  exact List.mem_flatMap.2 ⟨l,ih fun q hq=>h q (List.mem_cons_of_mem _ hq),List.mem_map.2 ⟨p,h p (by simp),rfl⟩⟩
theorem Gz {n:Nat} {f t:List Int} (hn:n=2∨n=3∨n=4) (hl:t.length=f.length) (hk:f.length≤3) (h:∀ (i:Nat) u v,f[i]? = some u→t[i]? = some v→0≤u∧u < v∧v < n):Ok (gJ n f t) Ty:=by
 have hm:f.zip t∈xW n f.length:=by
  have h1:∀ p∈f.zip t,p∈L6 n:=fun p hp=>by
   obtain ⟨i,hi⟩:=List.getElem?_of_mem hp
   obtain ⟨e1,e2⟩:=AN hi
   obtain ⟨a,b,c⟩:=h i _ _ e1 e2
   exact U6 a b c
  have:=U7 h1
  rwa [List.length_zip,hl,Nat.min_self] at this
 have hc:GG n (f.zip t)=true:=by
  have two:=List.all_eq_true.1 Y6
  have three:=List.all_eq_true.1 Y7
  have four:=List.all_eq_true.1 U4
  have ZY:=List.all_eq_true.1 U5
  simp only [List.mem_append] at two three four
  have yC:f.length=0∨f.length=1∨f.length=2∨f.length=3:=by omega
  rcases hn with rfl | rfl | rfl <;> rcases yC with e | e | e | e <;> rw [e] at hm
  ·exact two _ (.inl (.inl (.inl hm)))
  ·exact two _ (.inl (.inl (.inr hm)))
  ·exact two _ (.inl (.inr hm))
  ·exact two _ (.inr hm)
  ·exact three _ (.inl (.inl (.inl hm)))
  ·exact three _ (.inl (.inl (.inr hm)))
  ·exact three _ (.inl (.inr hm))
  ·exact three _ (.inr hm)
  ·exact four _ (.inl (.inl hm))
  ·exact four _ (.inl (.inr hm))
  ·exact four _ (.inr hm)
  ·exact ZY _ hm
 unfold GG at hc
 rw [List.map_fst_zip (by omega),List.map_snd_zip (by omega)] at hc
 cases hp:nG n f t with
 | none=>rw [hp] at hc; cases hc
 | some c=>rw [hp] at hc; exact ⟨c,uJ _ _ _ _ hp,TX hc⟩
end Go.Proofs.YtilhlobfebngdaaGreat
