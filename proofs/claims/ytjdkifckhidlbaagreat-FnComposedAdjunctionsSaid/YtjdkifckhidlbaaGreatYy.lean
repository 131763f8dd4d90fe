/- Models that compute: their loops with fuel; what they give the models give. No condition beside those that each theorem names. -/
import Derived.Test.YtjdkifckhidlbaaGreatYt
import Derived.KernelRfl
import Derived.Test.YtjdkifckhidlbaaGreatYw
namespace Go.Proofs.YtjdkifckhidlbaaGreat
open Go Go.Li
set_option linter.unusedVariables false
def bh {α:Type} (m m':Option α):Prop:=∀ o,m=some o→m'=some o
theorem bh.refl {α:Type} (m:Option α):bh m m:=fun _ h=>h
theorem bh.aq {S R:Type} {m m':Option (Out S R)} (h:bh m m'):bh (aq m) (aq m'):=fun o ho=>by
 have h1:=Gl ho
 rw [h _ h1]; rfl
theorem bh.bind {α β:Type} {m m':Option α} {f f':α→Option β} (h:bh m m') (k:∀ x,bh (f x) (f' x)):bh (m>>=f) (m'>>=f'):=fun o ho=>by
 cases hm:m with
 | none=>rw [hm] at ho; cases ho
 | some x=>rw [hm] at ho; rw [h x hm]; exact k x o ho
theorem bh.cond {α:Type} {b:Bool} {x x' y y':Option α} (h:bh x x') (k:bh y y'):bh (bif b then x else y) (bif b then x' else y'):=by
 cases b with
 | true=>exact h
 | false=>exact k
theorem bh.ai {S S1 R:Type} {m m':Option (Out S1 R)} {f f':S1→Option (Out S R)} (h:bh m m') (k:∀ x,bh (f x) (f' x)):bh (ai m f) (ai m' f'):=fun o ho=>by
 unfold Go.Li.ai at ho ⊢
 cases hm:m with
 | none=>rw [hm] at ho; cases ho
 | some x=>
  rw [hm] at ho
  rw [h x hm]
  cases x with
  | norm s=>exact k s o ho
  | _=>exact ho
theorem bh.af {S R:Type} {n:Nat} {m m':Option (Out S R)} (h:bh m m'):bh (af n m) (af n m'):=fun o ho=>by
 unfold Go.Li.af at ho ⊢
 cases hm:m with
 | none=>rw [hm] at ho; cases ho
 | some x=>rw [hm] at ho; rw [h x hm]; exact ho
def uL {S R:Type} (body:S→Option (Out S R)) (s:S):Option (Out S R):=q9 body 300 s
theorem RU {S R:Type} {b b':S→Option (Out S R)} (h:∀ s,bh (b s) (b' s)):∀ k s,bh (q9 b k s) (q9 b' k s):=by
 intro k
 induction k with
 | zero=>intro s o ho; cases ho
 | succ k ih=>
  intro s o ho
  unfold q9 at ho ⊢
  cases hm:b s with
  | none=>rw [hm] at ho; cases ho
  | some x=>
   rw [hm] at ho
   rw [h s x hm]
   cases x with
   | norm s'=>exact ih s' o ho
   | _=>exact ho
theorem bh.loop {S R:Type} {b b':S→Option (Out S R)} {s:S} (h:∀ s,bh (b s) (b' s)):bh (uL b s) (aj b' s):=fun o ho=>wT.2 ⟨300,RU h 300 s o ho⟩
def oD (x0:(List Int)):Option ((List Int)):=
 aq (S:=Unit) ((fits 8 ((([]:(List Int))).length+x0.length))>>=fun n15=>(some (Out.ret ((([]:(List Int))++x0)))))
theorem rH:∀ a0,bh (oD a0) (dE a0):=by
 intros; unfold oD dE
 repeat' first
  | with_reducible exact bh.refl _
  | refine bh.aq ?_
  | refine bh.ai ?_ (fun _=>?_)
  | refine bh.af ?_
  | refine bh.loop (fun _=>?_)
  | refine bh.bind ?_ (fun _=>?_)
  | refine bh.cond ?_ ?_
  | split
def nR (x0:(List Int)) (x1:(List Int)) (bo:Int):Option (Out (Int) (Bool)):=
 (((bif decide (bo < (x0.length:Int)) then (some (decide (bo < (x1.length:Int)))) else (some (false))))>>=fun g6=>(bif g6 then ((idx x0 (bo))>>=fun Oc=>((idx x1 (bo))>>=fun tZ=>(bif (Oc) != (tZ) then ((idx x0 (bo))>>=fun GF=>((idx x1 (bo))>>=fun zX=>(some (Out.ret ((decide (GF < zX))))))) else (some (Out.norm (ao (bo+(1:Int)))))))) else (some (Out.exit 0 (bo)))))
theorem rR:∀ a0 a1 a2,bh (nR a0 a1 a2) (fQ a0 a1 a2):=by
 intros; unfold nR fQ
 repeat' first
  | with_reducible exact bh.refl _
  | refine bh.aq ?_
  | refine bh.ai ?_ (fun _=>?_)
  | refine bh.af ?_
  | refine bh.loop (fun _=>?_)
  | refine bh.bind ?_ (fun _=>?_)
  | refine bh.cond ?_ ?_
  | split
def qF (x0:(List Int)) (x1:(List Int)):Option (Bool):=
 aq (S:=Unit) (ai (af 0 (uL (nR x0 x1) ((0:Int)))) (fun bo=>(some (Out.ret ((decide ((x0.length:Int) < (x1.length:Int))))))))
theorem sD:∀ a0 a1,bh (qF a0 a1) (mN a0 a1):=by
 intros; unfold qF mN
 repeat' first
  | with_reducible exact bh.refl _
  | exact rR _ _ _
  | refine bh.aq ?_
  | refine bh.ai ?_ (fun _=>?_)
  | refine bh.af ?_
  | refine bh.loop (fun _=>?_)
  | refine bh.bind ?_ (fun _=>?_)
  | refine bh.cond ?_ ?_
  | split
def oT (x0:cE) (x1:cE):Option (Bool):=
 aq (S:=Unit) (bif (x0.aH) != (x1.aH) then (some (Out.ret ((decide (x0.aH < x1.aH))))) else (bif (x0.To) != (x1.To) then (some (Out.ret ((decide (x0.To < x1.To))))) else ((qF x0.nk x1.nk)>>=fun B9=>(some (Out.ret (B9))))))
theorem rT:∀ a0 a1,bh (oT a0 a1) (jW a0 a1):=by
 intros; unfold oT jW
 repeat' first
  | with_reducible exact bh.refl _
  | exact sD _ _
  | refine bh.aq ?_
  | refine bh.ai ?_ (fun _=>?_)
  | refine bh.af ?_
  | refine bh.loop (fun _=>?_)
  | refine bh.bind ?_ (fun _=>?_)
  | refine bh.cond ?_ ?_
  | split
def oU (x0:Int) (s0:(List cE)) (s1:Int):Option (Out ((List cE)×Int) ((List cE))):=
 (bif decide (s1 < x0) then ((fits 40 (s0.length+1))>>=fun n26=>(some (Out.norm (s0++[cE.mk s1 s1 []],ao (s1+(1:Int)))))) else (some (Out.exit 0 (s0,s1))))
theorem rU:∀ a0 a1 a2,bh (oU a0 a1 a2) (lF a0 a1 a2):=by
 intros; unfold oU lF
 repeat' first
  | with_reducible exact bh.refl _
  | refine bh.aq ?_
  | refine bh.ai ?_ (fun _=>?_)
  | refine bh.af ?_
  | refine bh.loop (fun _=>?_)
  | refine bh.bind ?_ (fun _=>?_)
  | refine bh.cond ?_ ?_
  | split
def oV (x1:(List Int)) (x2:(List Int)) (s1:Int) (s0:(List cE)) (s2:Int):Option (Out ((List cE)×Int) ((List cE))):=
 (bif decide (s2 < (x1.length:Int)) then ((idx x1 (s2))>>=fun IE=>((idx s0 (s1))>>=fun Od=>(bif (IE) == (Od.To) then ((idx s0 (s1))>>=fun WK=>((idx x2 (s2))>>=fun Dl=>((idx s0 (s1))>>=fun WM=>((oD WM.nk)>>=fun Oe=>((fits 8 (Oe.length+1))>>=fun n72=>((fits 40 (s0.length+1))>>=fun n75=>(some (Out.norm (s0++[cE.mk WK.aH Dl (Oe++[s2])],ao (s2+(1:Int))))))))))) else (some (Out.norm (s0,ao (s2+(1:Int)))))))) else (some (Out.exit 4 (s0,s2))))
theorem rV:∀ a0 a1 a2 a3 a4,bh (oV a0 a1 a2 a3 a4) (jX a0 a1 a2 a3 a4):=by
 intros; unfold oV jX
 repeat' first
  | with_reducible exact bh.refl _
  | exact rH _
  | refine bh.aq ?_
  | refine bh.ai ?_ (fun _=>?_)
  | refine bh.af ?_
  | refine bh.loop (fun _=>?_)
  | refine bh.bind ?_ (fun _=>?_)
  | refine bh.cond ?_ ?_
  | split
def oW (x1:(List Int)) (x2:(List Int)) (s0:(List cE)) (s1:Int):Option (Out ((List cE)×Int) ((List cE))):=
 (((bif decide (s1 < (s0.length:Int)) then (some (decide ((s0.length:Int)≤(40:Int)))) else (some (false))))>>=fun WN=>(bif WN then (ai (af 4 (uL (fun s=>oV x1 x2 s1 s.1 s.2) (s0,(0:Int)))) (fun (s0,s2)=>(some (Out.norm (s0,ao (s1+(1:Int))))))) else (some (Out.exit 2 (s0,s1)))))
theorem rW:∀ a0 a1 a2 a3,bh (oW a0 a1 a2 a3) (lG a0 a1 a2 a3):=by
 intros; unfold oW lG
 repeat' first
  | with_reducible exact bh.refl _
  | exact rV _ _ _ _ _
  | refine bh.aq ?_
  | refine bh.ai ?_ (fun _=>?_)
  | refine bh.af ?_
  | refine bh.loop (fun _=>?_)
  | refine bh.bind ?_ (fun _=>?_)
  | refine bh.cond ?_ ?_
  | split
def oX (s0:(List cE)) (s1:Int):Option (Out ((List cE)×Int) ((List cE))):=
 (((bif decide ((0:Int) < s1) then ((idx s0 (s1))>>=fun BG=>((idx s0 (ao (s1 - (1:Int))))>>=fun EH=>((oT BG EH)>>=fun Of=>(some (Of))))) else (some (false))))>>=fun WO=>(bif WO then ((idx s0 (s1))>>=fun Qu=>((idx s0 (ao (s1 - (1:Int))))>>=fun vJ=>((idx s0 (s1))>>=fun DF=>((idx (s0.set (s1).toNat vJ) (ao (s1 - (1:Int))))>>=fun Qv=>(some (Out.norm ((s0.set (s1).toNat vJ).set (ao (s1 - (1:Int))).toNat Qu,ao (s1 - (1:Int))))))))) else (some (Out.exit 8 (s0,s1)))))
theorem rX:∀ a0 a1,bh (oX a0 a1) (lH a0 a1):=by
 intros; unfold oX lH
 repeat' first
  | with_reducible exact bh.refl _
  | exact rT _ _
  | refine bh.aq ?_
  | refine bh.ai ?_ (fun _=>?_)
  | refine bh.af ?_
  | refine bh.loop (fun _=>?_)
  | refine bh.bind ?_ (fun _=>?_)
  | refine bh.cond ?_ ?_
  | split
def oY (s0:(List cE)) (s1:Int):Option (Out ((List cE)×Int) ((List cE))):=
 (bif decide (s1 < (s0.length:Int)) then (ai (af 8 (uL (fun s=>oX s.1 s.2) (s0,s1))) (fun (s0,s2)=>(some (Out.norm (s0,ao (s1+(1:Int))))))) else (some (Out.exit 6 (s0,s1))))
theorem rY:∀ a0 a1,bh (oY a0 a1) (lJ a0 a1):=by
 intros; unfold oY lJ
 repeat' first
  | with_reducible exact bh.refl _
  | exact rX _ _
  | refine bh.aq ?_
  | refine bh.ai ?_ (fun _=>?_)
  | refine bh.af ?_
  | refine bh.loop (fun _=>?_)
  | refine bh.bind ?_ (fun _=>?_)
  | refine bh.cond ?_ ?_
  | split
def qT (x0:Int) (x1:(List Int)) (x2:(List Int)):Option ((List cE)):=
 aq (S:=Unit) (ai (af 0 (uL (fun s=>oU x0 s.1 s.2) (([]:(List cE)),(0:Int)))) (fun (s0,s1)=>(ai (af 2 (uL (fun s=>oW x1 x2 s.1 s.2) (s0,(0:Int)))) (fun (s0,s1)=>(ai (af 6 (uL (fun s=>oY s.1 s.2) (s0,(1:Int)))) (fun (s0,s1)=>(some (Out.ret (s0)))))))))
theorem sI:∀ a0 a1 a2,bh (qT a0 a1 a2) (mC a0 a1 a2):=by
 intros; unfold qT mC
 repeat' first
  | with_reducible exact bh.refl _
  | exact rU _ _ _
  | exact rW _ _ _ _
  | exact rY _ _
  | refine bh.aq ?_
  | refine bh.ai ?_ (fun _=>?_)
  | refine bh.af ?_
  | refine bh.loop (fun _=>?_)
  | refine bh.bind ?_ (fun _=>?_)
  | refine bh.cond ?_ ?_
  | split
def qG (x0:aI):Option (Bool):=
 aq (S:=Unit) (((bif decide (x0.aA≤(8:Int)) then (some (decide ((x0.aH.length:Int)≤(40:Int)))) else (some (false))))>>=fun g8=>(some (Out.ret (g8))))
theorem sE:∀ a0,bh (qG a0) (eC a0):=by
 intros; unfold qG eC
 repeat' first
  | with_reducible exact bh.refl _
  | refine bh.aq ?_
  | refine bh.ai ?_ (fun _=>?_)
  | refine bh.af ?_
  | refine bh.loop (fun _=>?_)
  | refine bh.bind ?_ (fun _=>?_)
  | refine bh.cond ?_ ?_
  | split
def nS (x0:(List Int)) (x1:(List Int)) (bo:Int):Option (Out (Int) (Bool)):=
 (bif decide (bo < (x0.length:Int)) then ((idx x0 (bo))>>=fun tZ=>((idx x1 (bo))>>=fun EI=>(bif (tZ) != (EI) then (some (Out.ret (false))) else (some (Out.norm (ao (bo+(1:Int)))))))) else (some (Out.exit 0 (bo))))
theorem rS:∀ a0 a1 a2,bh (nS a0 a1 a2) (mI a0 a1 a2):=by
 intros; unfold nS mI
 repeat' first
  | with_reducible exact bh.refl _
  | refine bh.aq ?_
  | refine bh.ai ?_ (fun _=>?_)
  | refine bh.af ?_
  | refine bh.loop (fun _=>?_)
  | refine bh.bind ?_ (fun _=>?_)
  | refine bh.cond ?_ ?_
  | split
def qH (x0:(List Int)) (x1:(List Int)):Option (Bool):=
 aq (S:=Unit) (bif ((x0.length:Int)) != ((x1.length:Int)) then (some (Out.ret (false))) else (ai (af 0 (uL (nS x0 x1) ((0:Int)))) (fun bo=>(some (Out.ret (true))))))
theorem sF:∀ a0 a1,bh (qH a0 a1) (fL a0 a1):=by
 intros; unfold qH fL
 repeat' first
  | with_reducible exact bh.refl _
  | exact rS _ _ _
  | refine bh.aq ?_
  | refine bh.ai ?_ (fun _=>?_)
  | refine bh.af ?_
  | refine bh.loop (fun _=>?_)
  | refine bh.bind ?_ (fun _=>?_)
  | refine bh.cond ?_ ?_
  | split
def mX (y8:(List cE)) (dw:Int) (ks:(List Int)) (kv:(List Int)) (ox:(List Int)):Option (Out (Int×(List Int)×(List Int)×(List Int)) (aI)):=
 (bif decide (dw < (y8.length:Int)) then ((idx y8 (dw))>>=fun DG=>((fits 8 (ks.length+1))>>=fun n134=>((idx y8 (dw))>>=fun DH=>((fits 8 (kv.length+1))>>=fun n173=>((idx y8 (dw))>>=fun Qw=>(bif ((Qw.nk.length:Int)) == ((0:Int)) then ((idx y8 (dw))>>=fun IF=>((idx ox (IF.aH))>>=fun acx=>(some (Out.norm (ao (dw+(1:Int)),ks++[DG.aH],kv++[DH.To],ox.set (IF.aH).toNat (dw)))))) else (some (Out.norm (ao (dw+(1:Int)),ks++[DG.aH],kv++[DH.To],ox))))))))) else (some (Out.exit 0 (dw,ks,kv,ox))))
theorem rN:∀ a0 a1 a2 a3 a4,bh (mX a0 a1 a2 a3 a4) (kC a0 a1 a2 a3 a4):=by
 intros; unfold mX kC
 repeat' first
  | with_reducible exact bh.refl _
  | refine bh.aq ?_
  | refine bh.ai ?_ (fun _=>?_)
  | refine bh.af ?_
  | refine bh.loop (fun _=>?_)
  | refine bh.bind ?_ (fun _=>?_)
  | refine bh.cond ?_ ?_
  | split
def mY (y8:(List cE)) (ic:Int) (wu:(List Int)) (yh:cE) (xB:Int) (r5:Int):Option (Out (Int×Int) (aI)):=
 (bif decide (r5 < (y8.length:Int)) then ((((idx y8 (r5))>>=fun Qx=>((idx y8 (ic))>>=fun Qy=>(bif (Qx.aH) == (Qy.aH) then ((idx y8 (r5))>>=fun Qz=>((qH Qz.nk (wu++yh.nk))>>=fun QB=>(some (QB)))) else (some (false))))))>>=fun QC=>(bif QC then (some (Out.norm (r5,ao (r5+(1:Int))))) else (some (Out.norm (xB,ao (r5+(1:Int))))))) else (some (Out.exit 6 (xB,r5))))
theorem rO:∀ a0 a1 a2 a3 a4 a5,bh (mY a0 a1 a2 a3 a4 a5) (kD a0 a1 a2 a3 a4 a5):=by
 intros; unfold mY kD
 repeat' first
  | with_reducible exact bh.refl _
  | exact sF _ _
  | refine bh.aq ?_
  | refine bh.ai ?_ (fun _=>?_)
  | refine bh.af ?_
  | refine bh.loop (fun _=>?_)
  | refine bh.bind ?_ (fun _=>?_)
  | refine bh.cond ?_ ?_
  | split
def mZ (y8:(List cE)) (ic:Int) (ph:(List Int)) (td:Int):Option (Out ((List Int)×Int) (aI)):=
 (bif decide (td < (y8.length:Int)) then ((idx y8 (ic))>>=fun QD=>((idx y8 (td))>>=fun QF=>(bif (QD.To) == (QF.aH) then ((idx y8 (ic))>>=fun QG=>((oD QG.nk)>>=fun wu=>((idx y8 (td))>>=fun yh=>((fits 8 (wu.length+yh.nk.length))>>=fun acy=>(ai (af 6 (uL (fun s=>mY y8 ic wu yh s.1 s.2) ((-1:Int),(0:Int)))) (fun (xB,r5)=>((fits 8 (ph.length+1))>>=fun acz=>(some (Out.norm (ph++[xB],ao (td+(1:Int)))))))))))) else ((fits 8 (ph.length+1))>>=fun acA=>(some (Out.norm (ph++[(-1:Int)],ao (td+(1:Int))))))))) else (some (Out.exit 4 (ph,td))))
theorem rP:∀ a0 a1 a2 a3,bh (mZ a0 a1 a2 a3) (kE a0 a1 a2 a3):=by
 intros; unfold mZ kE
 repeat' first
  | with_reducible exact bh.refl _
  | exact rH _
  | exact rO _ _ _ _ _ _
  | refine bh.aq ?_
  | refine bh.ai ?_ (fun _=>?_)
  | refine bh.af ?_
  | refine bh.loop (fun _=>?_)
  | refine bh.bind ?_ (fun _=>?_)
  | refine bh.cond ?_ ?_
  | split
def nA (y8:(List cE)) (ic:Int) (qv:(List (List Int))):Option (Out (Int×(List (List Int))) (aI)):=
 (bif decide (ic < (y8.length:Int)) then (ai (af 4 (uL (fun s=>mZ y8 ic s.1 s.2) (([]:(List Int)),(0:Int)))) (fun (ph,td)=>((fits 24 (qv.length+1))>>=fun acB=>(some (Out.norm (ao (ic+(1:Int)),qv++[ph])))))) else (some (Out.exit 2 (ic,qv))))
theorem rQ:∀ a0 a1 a2,bh (nA a0 a1 a2) (iM a0 a1 a2):=by
 intros; unfold nA iM
 repeat' first
  | with_reducible exact bh.refl _
  | exact rP _ _ _ _
  | refine bh.aq ?_
  | refine bh.ai ?_ (fun _=>?_)
  | refine bh.af ?_
  | refine bh.loop (fun _=>?_)
  | refine bh.bind ?_ (fun _=>?_)
  | refine bh.cond ?_ ?_
  | split
def mM (x0:Int) (x1:(List Int)) (x2:(List Int)):Option (aI):=
 aq (S:=Unit) ((qT (x0) x1 x2)>>=fun y8=>((mk 8 (x0))>>=fun n36=>(ai (af 0 (uL (fun s=>mX y8 s.1 s.2.1 s.2.2.1 s.2.2.2) ((0:Int),([]:(List Int)),([]:(List Int)),List.replicate n36 (0:Int)))) (fun (dw,ks,kv,ox)=>((qG (aI.mk x0 ks kv ox (([]:(List (List Int))))))>>=fun QH=>(bif !(QH) then (some (Out.ret ((aI.mk x0 ks kv ox (([]:(List (List Int)))))))) else (ai (af 2 (uL (fun s=>nA y8 s.1 s.2) ((0:Int),([]:(List (List Int)))))) (fun (ic,qv)=>(some (Out.ret ((aI.mk x0 ks kv ox qv))))))))))))
theorem sC:∀ a0 a1 a2,bh (mM a0 a1 a2) (gA a0 a1 a2):=by
 intros; unfold mM gA
 repeat' first
  | with_reducible exact bh.refl _
  | exact sI _ _ _
  | exact sE _
  | exact rN _ _ _ _ _
  | exact rQ _ _ _
  | refine bh.aq ?_
  | refine bh.ai ?_ (fun _=>?_)
  | refine bh.af ?_
  | refine bh.loop (fun _=>?_)
  | refine bh.bind ?_ (fun _=>?_)
  | refine bh.cond ?_ ?_
  | split
end Go.Proofs.YtjdkifckhidlbaaGreat
set_option linter.unusedVariables false
set_option linter.unusedSimpArgs false
namespace Go.Proofs.YtjdkifckhidlbaaGreat
open Go Go.Li
def K7 (n:Nat):List (Int×Int):=(List.range n).flatMap fun (u:Nat)=>((List.range n).filter fun (v:Nat)=>Nat.blt u v).map fun (v:Nat)=>(Int.ofNat u,Int.ofNat v)
def xr (n:Nat):Nat→List (List (Int×Int))
 | 0=>[[]]
 | k+1=>(xr n k).flatMap fun l=>(K7 n).map fun p=>p :: l
def F9 (n:Nat) (l:List (Int×Int)):Bool:=match mM n (l.map (·.1)) (l.map (·.2)) with
 | some c=>YD c
 | none=>false
theorem YH:((xr 2 0++xr 2 1++xr 2 2++xr 2 3).all (F9 2))=true:=by kernel_rfl
theorem YI:((xr 3 0++xr 3 1++xr 3 2++xr 3 3).all (F9 3))=true:=by kernel_rfl
theorem UD:((xr 4 0++xr 4 1++xr 4 2).all (F9 4))=true:=by kernel_rfl
theorem UE:((xr 4 3).all (F9 4))=true:=by kernel_rfl
theorem UF {n:Nat} {u v:Int} (u0:0≤u) (uv:u < v) (v1:v < n):(u,v)∈K7 n:=by
 unfold K7
 rw [List.mem_flatMap]
 refine ⟨u.toNat,by rw [List.mem_range]; omega,List.mem_map.2 ⟨v.toNat,List.mem_filter.2 ⟨by rw [List.mem_range]; omega,?_⟩,?_⟩⟩
 ·rw [Nat.blt_eq]; omega
 ·rw [show Int.ofNat u.toNat=u by show ((u.toNat:Nat):Int)=u; omega,show Int.ofNat v.toNat=v by show ((v.toNat:Nat):Int)=v; omega]
theorem UG {n:Nat}:∀ {l:List (Int×Int)},(∀ p∈l,p∈K7 n)→l∈xr n l.length:=by
 intro l
 induction l with
 | nil=>intro _; exact List.mem_singleton.2 rfl
 | cons p l ih=>
  intro h
  show p :: l∈(xr n l.length).flatMap fun l=>(K7 n).map fun p=>p :: l
  exact List.mem_flatMap.2 ⟨l,ih fun q hq=>h q (List.mem_cons_of_mem _ hq),List.mem_map.2 ⟨p,h p (by simp),rfl⟩⟩
theorem FY {n:Nat} {f t:List Int} (hn:n=2∨n=3∨n=4) (hl:t.length=f.length) (hk:f.length≤3) (h:∀ (i:Nat) u v,f[i]? = some u→t[i]? = some v→0≤u∧u < v∧v < n):Ok (gA n f t) Ty:=by
 have hm:f.zip t∈xr n f.length:=by
  have h1:∀ p∈f.zip t,p∈K7 n:=fun p hp=>by
   obtain ⟨i,hi⟩:=List.getElem?_of_mem hp
   obtain ⟨e1,e2⟩:=Ae hi
   obtain ⟨a,b,c⟩:=h i _ _ e1 e2
   exact UF a b c
  have:=UG h1
  rwa [List.length_zip,hl,Nat.min_self] at this
 have hc:F9 n (f.zip t)=true:=by
  have two:=List.all_eq_true.1 YH
  have three:=List.all_eq_true.1 YI
  have four:=List.all_eq_true.1 UD
  have aap:=List.all_eq_true.1 UE
  simp only [List.mem_append] at two three four
  have BM:f.length=0∨f.length=1∨f.length=2∨f.length=3:=by omega
  rcases hn with rfl | rfl | rfl <;> rcases BM with e | e | e | e <;> rw [e] at hm
  ·exact two _ (.inl (.inl (.inl hm)))
  ·exact two _ (.inl (.inl (.inr hm)))
  ·exact two _ (.inl (.inr hm))
  ·exact two _ (.inr hm)
  ·exact three _ (.inl (.inl (.inl hm)))
  ·exact three _ (.inl (.inl (.inr hm)))
  ·exact three _ (.inl (.inr hm))
  ·exact three _ (.inr hm)
  ·exact four _ (.inl (.inl hm))
  ·exact four _ (.inl (.inr hm))
  ·exact four _ (.inr hm)
  ·exact aap _ hm
 unfold F9 at hc
 rw [List.map_fst_zip (by omega),List.map_snd_zip (by omega)] at hc
 cases hp:mM n f t with
 | none=>rw [hp] at hc; cases hc
 | some c=>rw [hp] at hc; exact ⟨c,sC _ _ _ _ hp,Ts hc⟩
end Go.Proofs.YtjdkifckhidlbaaGreat
