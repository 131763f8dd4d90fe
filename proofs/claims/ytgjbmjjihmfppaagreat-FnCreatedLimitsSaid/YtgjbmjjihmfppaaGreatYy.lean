/- Models that compute: their loops with fuel; what they give the models give. No condition beside those that each theorem names. -/
import Derived.Test.YtgjbmjjihmfppaaGreatYt
import Derived.KernelRfl
import Derived.Test.YtgjbmjjihmfppaaGreatYw
namespace Go.Proofs.YtgjbmjjihmfppaaGreat
open Go Go.Li
set_option linter.unusedVariables false
def bj {α:Type} (m m':Option α):Prop:=∀ o,m=some o→m'=some o
theorem bj.refl {α:Type} (m:Option α):bj m m:=fun _ h=>h
theorem bj.ao {S R:Type} {m m':Option (Out S R)} (h:bj m m'):bj (ao m) (ao m'):=fun o ho=>by
 have h1:=Gx ho
 rw [h _ h1]; rfl
theorem bj.bind {α β:Type} {m m':Option α} {f f':α→Option β} (h:bj m m') (k:∀ x,bj (f x) (f' x)):bj (m>>=f) (m'>>=f'):=fun o ho=>by
 cases hm:m with
 | none=>rw [hm] at ho; cases ho
 | some x=>rw [hm] at ho; rw [h x hm]; exact k x o ho
theorem bj.cond {α:Type} {b:Bool} {x x' y y':Option α} (h:bj x x') (k:bj y y'):bj (bif b then x else y) (bif b then x' else y'):=by
 cases b with
 | true=>exact h
 | false=>exact k
theorem bj.ag {S S1 R:Type} {m m':Option (Out S1 R)} {f f':S1→Option (Out S R)} (h:bj m m') (k:∀ x,bj (f x) (f' x)):bj (ag m f) (ag m' f'):=fun o ho=>by
 unfold Go.Li.ag at ho ⊢
 cases hm:m with
 | none=>rw [hm] at ho; cases ho
 | some x=>
  rw [hm] at ho
  rw [h x hm]
  cases x with
  | norm s=>exact k s o ho
  | _=>exact ho
theorem bj.ae {S R:Type} {n:Nat} {m m':Option (Out S R)} (h:bj m m'):bj (ae n m) (ae n m'):=fun o ho=>by
 unfold Go.Li.ae at ho ⊢
 cases hm:m with
 | none=>rw [hm] at ho; cases ho
 | some x=>rw [hm] at ho; rw [h x hm]; exact ho
def uN {S R:Type} (body:S→Option (Out S R)) (s:S):Option (Out S R):=qc body 300 s
theorem Sm {S R:Type} {b b':S→Option (Out S R)} (h:∀ s,bj (b s) (b' s)):∀ k s,bj (qc b k s) (qc b' k s):=by
 intro k
 induction k with
 | zero=>intro s o ho; cases ho
 | succ k ih=>
  intro s o ho
  unfold qc at ho ⊢
  cases hm:b s with
  | none=>rw [hm] at ho; cases ho
  | some x=>
   rw [hm] at ho
   rw [h s x hm]
   cases x with
   | norm s'=>exact ih s' o ho
   | _=>exact ho
theorem bj.loop {S R:Type} {b b':S→Option (Out S R)} {s:S} (h:∀ s,bj (b s) (b' s)):bj (uN b s) (aj b' s):=fun o ho=>xh.2 ⟨300,Sm h 300 s o ho⟩
def nT (x0:(List Int)):Option ((List Int)):=
 ao (S:=Unit) ((fits 8 ((([]:(List Int))).length+x0.length))>>=fun n15=>(some (Out.ret ((([]:(List Int))++x0)))))
theorem rM:∀ a0,bj (nT a0) (dV a0):=by
 intros; unfold nT dV
 repeat' first
  | with_reducible exact bj.refl _
  | refine bj.ao ?_
  | refine bj.ag ?_ (fun _=>?_)
  | refine bj.ae ?_
  | refine bj.loop (fun _=>?_)
  | refine bj.bind ?_ (fun _=>?_)
  | refine bj.cond ?_ ?_
  | split
def nG (x0:(List Int)) (x1:(List Int)) (bh:Int):Option (Out (Int) (Bool)):=
 (((bif decide (bh < (x0.length:Int)) then (some (decide (bh < (x1.length:Int)))) else (some (false))))>>=fun g6=>(bif g6 then ((idx x0 (bh))>>=fun OA=>((idx x1 (bh))>>=fun vj=>(bif (OA) != (vj) then ((idx x0 (bh))>>=fun Xt=>((idx x1 (bh))>>=fun BY=>(some (Out.ret ((decide (Xt < BY))))))) else (some (Out.norm (an (bh+(1:Int)))))))) else (some (Out.exit 0 (bh)))))
theorem rW:∀ a0 a1 a2,bj (nG a0 a1 a2) (eR a0 a1 a2):=by
 intros; unfold nG eR
 repeat' first
  | with_reducible exact bj.refl _
  | refine bj.ao ?_
  | refine bj.ag ?_ (fun _=>?_)
  | refine bj.ae ?_
  | refine bj.loop (fun _=>?_)
  | refine bj.bind ?_ (fun _=>?_)
  | refine bj.cond ?_ ?_
  | split
def qC (x0:(List Int)) (x1:(List Int)):Option (Bool):=
 ao (S:=Unit) (ag (ae 0 (uN (nG x0 x1) ((0:Int)))) (fun bh=>(some (Out.ret ((decide ((x0.length:Int) < (x1.length:Int))))))))
theorem sK:∀ a0 a1,bj (qC a0 a1) (lZ a0 a1):=by
 intros; unfold qC lZ
 repeat' first
  | with_reducible exact bj.refl _
  | exact rW _ _ _
  | refine bj.ao ?_
  | refine bj.ag ?_ (fun _=>?_)
  | refine bj.ae ?_
  | refine bj.loop (fun _=>?_)
  | refine bj.bind ?_ (fun _=>?_)
  | refine bj.cond ?_ ?_
  | split
def oH (x0:bR) (x1:bR):Option (Bool):=
 ao (S:=Unit) (bif (x0.aE) != (x1.aE) then (some (Out.ret ((decide (x0.aE < x1.aE))))) else (bif (x0.To) != (x1.To) then (some (Out.ret ((decide (x0.To < x1.To))))) else ((qC x0.mf x1.mf)>>=fun Aq=>(some (Out.ret (Aq))))))
theorem rZ:∀ a0 a1,bj (oH a0 a1) (iR a0 a1):=by
 intros; unfold oH iR
 repeat' first
  | with_reducible exact bj.refl _
  | exact sK _ _
  | refine bj.ao ?_
  | refine bj.ag ?_ (fun _=>?_)
  | refine bj.ae ?_
  | refine bj.loop (fun _=>?_)
  | refine bj.bind ?_ (fun _=>?_)
  | refine bj.cond ?_ ?_
  | split
def oI (x0:Int) (s0:(List bR)) (s1:Int):Option (Out ((List bR)×Int) ((List bR))):=
 (bif decide (s1 < x0) then ((fits 40 (s0.length+1))>>=fun n26=>(some (Out.norm (s0++[bR.mk s1 s1 []],an (s1+(1:Int)))))) else (some (Out.exit 0 (s0,s1))))
theorem sA:∀ a0 a1 a2,bj (oI a0 a1 a2) (kE a0 a1 a2):=by
 intros; unfold oI kE
 repeat' first
  | with_reducible exact bj.refl _
  | refine bj.ao ?_
  | refine bj.ag ?_ (fun _=>?_)
  | refine bj.ae ?_
  | refine bj.loop (fun _=>?_)
  | refine bj.bind ?_ (fun _=>?_)
  | refine bj.cond ?_ ?_
  | split
def oJ (x1:(List Int)) (x2:(List Int)) (s1:Int) (s0:(List bR)) (s2:Int):Option (Out ((List bR)×Int) ((List bR))):=
 (bif decide (s2 < (x1.length:Int)) then ((idx x1 (s2))>>=fun EY=>((idx s0 (s1))>>=fun OB=>(bif (EY) == (OB.To) then ((idx s0 (s1))>>=fun Xu=>((idx x2 (s2))>>=fun BZ=>((idx s0 (s1))>>=fun Xv=>((nT Xv.mf)>>=fun IY=>((fits 8 (IY.length+1))>>=fun n72=>((fits 40 (s0.length+1))>>=fun n75=>(some (Out.norm (s0++[bR.mk Xu.aE BZ (IY++[s2])],an (s2+(1:Int))))))))))) else (some (Out.norm (s0,an (s2+(1:Int)))))))) else (some (Out.exit 4 (s0,s2))))
theorem sB:∀ a0 a1 a2 a3 a4,bj (oJ a0 a1 a2 a3 a4) (iS a0 a1 a2 a3 a4):=by
 intros; unfold oJ iS
 repeat' first
  | with_reducible exact bj.refl _
  | exact rM _
  | refine bj.ao ?_
  | refine bj.ag ?_ (fun _=>?_)
  | refine bj.ae ?_
  | refine bj.loop (fun _=>?_)
  | refine bj.bind ?_ (fun _=>?_)
  | refine bj.cond ?_ ?_
  | split
def oL (x1:(List Int)) (x2:(List Int)) (s0:(List bR)) (s1:Int):Option (Out ((List bR)×Int) ((List bR))):=
 (((bif decide (s1 < (s0.length:Int)) then (some (decide ((s0.length:Int)≤(40:Int)))) else (some (false))))>>=fun Xw=>(bif Xw then (ag (ae 4 (uN (fun s=>oJ x1 x2 s1 s.1 s.2) (s0,(0:Int)))) (fun (s0,s2)=>(some (Out.norm (s0,an (s1+(1:Int))))))) else (some (Out.exit 2 (s0,s1)))))
theorem sC:∀ a0 a1 a2 a3,bj (oL a0 a1 a2 a3) (kG a0 a1 a2 a3):=by
 intros; unfold oL kG
 repeat' first
  | with_reducible exact bj.refl _
  | exact sB _ _ _ _ _
  | refine bj.ao ?_
  | refine bj.ag ?_ (fun _=>?_)
  | refine bj.ae ?_
  | refine bj.loop (fun _=>?_)
  | refine bj.bind ?_ (fun _=>?_)
  | refine bj.cond ?_ ?_
  | split
def oM (s0:(List bR)) (s1:Int):Option (Out ((List bR)×Int) ((List bR))):=
 (((bif decide ((0:Int) < s1) then ((idx s0 (s1))>>=fun B0=>((idx s0 (an (s1 - (1:Int))))>>=fun EZ=>((oH B0 EZ)>>=fun IZ=>(some (IZ))))) else (some (false))))>>=fun Xx=>(bif Xx then ((idx s0 (s1))>>=fun QM=>((idx s0 (an (s1 - (1:Int))))>>=fun xG=>((idx s0 (s1))>>=fun I0=>((idx (s0.set (s1).toNat xG) (an (s1 - (1:Int))))>>=fun QN=>(some (Out.norm ((s0.set (s1).toNat xG).set (an (s1 - (1:Int))).toNat QM,an (s1 - (1:Int))))))))) else (some (Out.exit 8 (s0,s1)))))
theorem sD:∀ a0 a1,bj (oM a0 a1) (kH a0 a1):=by
 intros; unfold oM kH
 repeat' first
  | with_reducible exact bj.refl _
  | exact rZ _ _
  | refine bj.ao ?_
  | refine bj.ag ?_ (fun _=>?_)
  | refine bj.ae ?_
  | refine bj.loop (fun _=>?_)
  | refine bj.bind ?_ (fun _=>?_)
  | refine bj.cond ?_ ?_
  | split
def oN (s0:(List bR)) (s1:Int):Option (Out ((List bR)×Int) ((List bR))):=
 (bif decide (s1 < (s0.length:Int)) then (ag (ae 8 (uN (fun s=>oM s.1 s.2) (s0,s1))) (fun (s0,s2)=>(some (Out.norm (s0,an (s1+(1:Int))))))) else (some (Out.exit 6 (s0,s1))))
theorem sE:∀ a0 a1,bj (oN a0 a1) (kI a0 a1):=by
 intros; unfold oN kI
 repeat' first
  | with_reducible exact bj.refl _
  | exact sD _ _
  | refine bj.ao ?_
  | refine bj.ag ?_ (fun _=>?_)
  | refine bj.ae ?_
  | refine bj.loop (fun _=>?_)
  | refine bj.bind ?_ (fun _=>?_)
  | refine bj.cond ?_ ?_
  | split
def qT (x0:Int) (x1:(List Int)) (x2:(List Int)):Option ((List bR)):=
 ao (S:=Unit) (ag (ae 0 (uN (fun s=>oI x0 s.1 s.2) (([]:(List bR)),(0:Int)))) (fun (s0,s1)=>(ag (ae 2 (uN (fun s=>oL x1 x2 s.1 s.2) (s0,(0:Int)))) (fun (s0,s1)=>(ag (ae 6 (uN (fun s=>oN s.1 s.2) (s0,(1:Int)))) (fun (s0,s1)=>(some (Out.ret (s0)))))))))
theorem sP:∀ a0 a1 a2,bj (qT a0 a1 a2) (lN a0 a1 a2):=by
 intros; unfold qT lN
 repeat' first
  | with_reducible exact bj.refl _
  | exact sA _ _ _
  | exact sC _ _ _ _
  | exact sE _ _
  | refine bj.ao ?_
  | refine bj.ag ?_ (fun _=>?_)
  | refine bj.ae ?_
  | refine bj.loop (fun _=>?_)
  | refine bj.bind ?_ (fun _=>?_)
  | refine bj.cond ?_ ?_
  | split
def qD (x0:aG):Option (Bool):=
 ao (S:=Unit) (((bif decide (x0.aA≤(8:Int)) then (some (decide ((x0.aE.length:Int)≤(40:Int)))) else (some (false))))>>=fun g8=>(some (Out.ret (g8))))
theorem sL:∀ a0,bj (qD a0) (eI a0):=by
 intros; unfold qD eI
 repeat' first
  | with_reducible exact bj.refl _
  | refine bj.ao ?_
  | refine bj.ag ?_ (fun _=>?_)
  | refine bj.ae ?_
  | refine bj.loop (fun _=>?_)
  | refine bj.bind ?_ (fun _=>?_)
  | refine bj.cond ?_ ?_
  | split
def nH (x0:(List Int)) (x1:(List Int)) (bh:Int):Option (Out (Int) (Bool)):=
 (bif decide (bh < (x0.length:Int)) then ((idx x0 (bh))>>=fun vj=>((idx x1 (bh))>>=fun E0=>(bif (vj) != (E0) then (some (Out.ret (false))) else (some (Out.norm (an (bh+(1:Int)))))))) else (some (Out.exit 0 (bh))))
theorem rX:∀ a0 a1 a2,bj (nH a0 a1 a2) (lS a0 a1 a2):=by
 intros; unfold nH lS
 repeat' first
  | with_reducible exact bj.refl _
  | refine bj.ao ?_
  | refine bj.ag ?_ (fun _=>?_)
  | refine bj.ae ?_
  | refine bj.loop (fun _=>?_)
  | refine bj.bind ?_ (fun _=>?_)
  | refine bj.cond ?_ ?_
  | split
def qE (x0:(List Int)) (x1:(List Int)):Option (Bool):=
 ao (S:=Unit) (bif ((x0.length:Int)) != ((x1.length:Int)) then (some (Out.ret (false))) else (ag (ae 0 (uN (nH x0 x1) ((0:Int)))) (fun bh=>(some (Out.ret (true))))))
theorem sM:∀ a0 a1,bj (qE a0 a1) (eM a0 a1):=by
 intros; unfold qE eM
 repeat' first
  | with_reducible exact bj.refl _
  | exact rX _ _ _
  | refine bj.ao ?_
  | refine bj.ag ?_ (fun _=>?_)
  | refine bj.ae ?_
  | refine bj.loop (fun _=>?_)
  | refine bj.bind ?_ (fun _=>?_)
  | refine bj.cond ?_ ?_
  | split
def mN (y8:(List bR)) (fc:Int) (ko:(List Int)) (ks:(List Int)) (nt:(List Int)):Option (Out (Int×(List Int)×(List Int)×(List Int)) (aG)):=
 (bif decide (fc < (y8.length:Int)) then ((idx y8 (fc))>>=fun D1=>((fits 8 (ko.length+1))>>=fun n134=>((idx y8 (fc))>>=fun I1=>((fits 8 (ks.length+1))>>=fun n173=>((idx y8 (fc))>>=fun QO=>(bif ((QO.mf.length:Int)) == ((0:Int)) then ((idx y8 (fc))>>=fun I2=>((idx nt (I2.aE))>>=fun ac4=>(some (Out.norm (an (fc+(1:Int)),ko++[D1.aE],ks++[I1.To],nt.set (I2.aE).toNat (fc)))))) else (some (Out.norm (an (fc+(1:Int)),ko++[D1.aE],ks++[I1.To],nt))))))))) else (some (Out.exit 0 (fc,ko,ks,nt))))
theorem rS:∀ a0 a1 a2 a3 a4,bj (mN a0 a1 a2 a3 a4) (iW a0 a1 a2 a3 a4):=by
 intros; unfold mN iW
 repeat' first
  | with_reducible exact bj.refl _
  | refine bj.ao ?_
  | refine bj.ag ?_ (fun _=>?_)
  | refine bj.ae ?_
  | refine bj.loop (fun _=>?_)
  | refine bj.bind ?_ (fun _=>?_)
  | refine bj.cond ?_ ?_
  | split
def mO (y8:(List bR)) (iw:Int) (wH:(List Int)) (yF:bR) (x9:Int) (ra:Int):Option (Out (Int×Int) (aG)):=
 (bif decide (ra < (y8.length:Int)) then ((((idx y8 (ra))>>=fun QP=>((idx y8 (iw))>>=fun QQ=>(bif (QP.aE) == (QQ.aE) then ((idx y8 (ra))>>=fun QR=>((qE QR.mf (wH++yF.mf))>>=fun QS=>(some (QS)))) else (some (false))))))>>=fun QT=>(bif QT then (some (Out.norm (ra,an (ra+(1:Int))))) else (some (Out.norm (x9,an (ra+(1:Int))))))) else (some (Out.exit 6 (x9,ra))))
theorem rT:∀ a0 a1 a2 a3 a4 a5,bj (mO a0 a1 a2 a3 a4 a5) (iX a0 a1 a2 a3 a4 a5):=by
 intros; unfold mO iX
 repeat' first
  | with_reducible exact bj.refl _
  | exact sM _ _
  | refine bj.ao ?_
  | refine bj.ag ?_ (fun _=>?_)
  | refine bj.ae ?_
  | refine bj.loop (fun _=>?_)
  | refine bj.bind ?_ (fun _=>?_)
  | refine bj.cond ?_ ?_
  | split
def mP (y8:(List bR)) (iw:Int) (nz:(List Int)) (sy:Int):Option (Out ((List Int)×Int) (aG)):=
 (bif decide (sy < (y8.length:Int)) then ((idx y8 (iw))>>=fun QU=>((idx y8 (sy))>>=fun QV=>(bif (QU.To) == (QV.aE) then ((idx y8 (iw))>>=fun QW=>((nT QW.mf)>>=fun wH=>((idx y8 (sy))>>=fun yF=>((fits 8 (wH.length+yF.mf.length))>>=fun ac5=>(ag (ae 6 (uN (fun s=>mO y8 iw wH yF s.1 s.2) ((-1:Int),(0:Int)))) (fun (x9,ra)=>((fits 8 (nz.length+1))>>=fun ac6=>(some (Out.norm (nz++[x9],an (sy+(1:Int)))))))))))) else ((fits 8 (nz.length+1))>>=fun ac7=>(some (Out.norm (nz++[(-1:Int)],an (sy+(1:Int))))))))) else (some (Out.exit 4 (nz,sy))))
theorem rU:∀ a0 a1 a2 a3,bj (mP a0 a1 a2 a3) (iY a0 a1 a2 a3):=by
 intros; unfold mP iY
 repeat' first
  | with_reducible exact bj.refl _
  | exact rM _
  | exact rT _ _ _ _ _ _
  | refine bj.ao ?_
  | refine bj.ag ?_ (fun _=>?_)
  | refine bj.ae ?_
  | refine bj.loop (fun _=>?_)
  | refine bj.bind ?_ (fun _=>?_)
  | refine bj.cond ?_ ?_
  | split
def mQ (y8:(List bR)) (iw:Int) (py:(List (List Int))):Option (Out (Int×(List (List Int))) (aG)):=
 (bif decide (iw < (y8.length:Int)) then (ag (ae 4 (uN (fun s=>mP y8 iw s.1 s.2) (([]:(List Int)),(0:Int)))) (fun (nz,sy)=>((fits 24 (py.length+1))>>=fun ac8=>(some (Out.norm (an (iw+(1:Int)),py++[nz])))))) else (some (Out.exit 2 (iw,py))))
theorem rV:∀ a0 a1 a2,bj (mQ a0 a1 a2) (gE a0 a1 a2):=by
 intros; unfold mQ gE
 repeat' first
  | with_reducible exact bj.refl _
  | exact rU _ _ _ _
  | refine bj.ao ?_
  | refine bj.ag ?_ (fun _=>?_)
  | refine bj.ae ?_
  | refine bj.loop (fun _=>?_)
  | refine bj.bind ?_ (fun _=>?_)
  | refine bj.cond ?_ ?_
  | split
def lY (x0:Int) (x1:(List Int)) (x2:(List Int)):Option (aG):=
 ao (S:=Unit) ((qT (x0) x1 x2)>>=fun y8=>((mk 8 (x0))>>=fun n36=>(ag (ae 0 (uN (fun s=>mN y8 s.1 s.2.1 s.2.2.1 s.2.2.2) ((0:Int),([]:(List Int)),([]:(List Int)),List.replicate n36 (0:Int)))) (fun (fc,ko,ks,nt)=>((qD (aG.mk x0 ko ks nt (([]:(List (List Int))))))>>=fun QY=>(bif !(QY) then (some (Out.ret ((aG.mk x0 ko ks nt (([]:(List (List Int)))))))) else (ag (ae 2 (uN (fun s=>mQ y8 s.1 s.2) ((0:Int),([]:(List (List Int)))))) (fun (iw,py)=>(some (Out.ret ((aG.mk x0 ko ks nt py))))))))))))
theorem sJ:∀ a0 a1 a2,bj (lY a0 a1 a2) (eN a0 a1 a2):=by
 intros; unfold lY eN
 repeat' first
  | with_reducible exact bj.refl _
  | exact sP _ _ _
  | exact sL _
  | exact rS _ _ _ _ _
  | exact rV _ _ _
  | refine bj.ao ?_
  | refine bj.ag ?_ (fun _=>?_)
  | refine bj.ae ?_
  | refine bj.loop (fun _=>?_)
  | refine bj.bind ?_ (fun _=>?_)
  | refine bj.cond ?_ ?_
  | split
end Go.Proofs.YtgjbmjjihmfppaaGreat
set_option linter.unusedVariables false
set_option linter.unusedSimpArgs false
namespace Go.Proofs.YtgjbmjjihmfppaaGreat
open Go Go.Li
def LF (n:Nat):List (Int×Int):=(List.range n).flatMap fun (u:Nat)=>((List.range n).filter fun (v:Nat)=>Nat.blt u v).map fun (v:Nat)=>(Int.ofNat u,Int.ofNat v)
def xU (n:Nat):Nat→List (List (Int×Int))
 | 0=>[[]]
 | k+1=>(xU n k).flatMap fun l=>(LF n).map fun p=>p :: l
def Gq (n:Nat) (l:List (Int×Int)):Bool:=match lY n (l.map (·.1)) (l.map (·.2)) with
 | some c=>Zi c
 | none=>false
theorem Zp:((xU 2 0++xU 2 1++xU 2 2++xU 2 3).all (Gq 2))=true:=by kernel_rfl
theorem Zq:((xU 3 0++xU 3 1++xU 3 2++xU 3 3).all (Gq 3))=true:=by kernel_rfl
theorem Vc:((xU 4 0++xU 4 1++xU 4 2).all (Gq 4))=true:=by kernel_rfl
theorem Vd:((xU 4 3).all (Gq 4))=true:=by kernel_rfl
theorem Ve {n:Nat} {u v:Int} (u0:0≤u) (uv:u < v) (v1:v < n):(u,v)∈LF n:=by
 unfold LF
 rw [List.mem_flatMap]
 refine ⟨u.toNat,by rw [List.mem_range]; omega,List.mem_map.2 ⟨v.toNat,List.mem_filter.2 ⟨by rw [List.mem_range]; omega,?_⟩,?_⟩⟩
 ·rw [Nat.blt_eq]; omega
 ·rw [show Int.ofNat u.toNat=u by show ((u.toNat:Nat):Int)=u; omega,show Int.ofNat v.toNat=v by show ((v.toNat:Nat):Int)=v; omega]
theorem Vf {n:Nat}:∀ {l:List (Int×Int)},(∀ p∈l,p∈LF n)→l∈xU n l.length:=by
 intro l
 induction l with
 | nil=>intro _; exact List.mem_singleton.2 rfl
 | cons p l ih=>
  intro h
  show p :: l∈(xU n l.length).flatMap fun l=>(LF n).map fun p=>p :: l
  exact List.mem_flatMap.2 ⟨l,ih fun q hq=>h q (List.mem_cons_of_mem _ hq),List.mem_map.2 ⟨p,h p (by simp),rfl⟩⟩
theorem Dm {n:Nat} {f t:List Int} (hn:n=2∨n=3∨n=4) (hl:t.length=f.length) (hk:f.length≤3) (h:∀ (i:Nat) u v,f[i]? = some u→t[i]? = some v→0≤u∧u < v∧v < n):Ok (eN n f t) Ty:=by
 have hm:f.zip t∈xU n f.length:=by
  have h1:∀ p∈f.zip t,p∈LF n:=fun p hp=>by
   obtain ⟨i,hi⟩:=List.getElem?_of_mem hp
   obtain ⟨e1,e2⟩:=AA hi
   obtain ⟨a,b,c⟩:=h i _ _ e1 e2
   exact Ve a b c
  have:=Vf h1
  rwa [List.length_zip,hl,Nat.min_self] at this
 have hc:Gq n (f.zip t)=true:=by
  have two:=List.all_eq_true.1 Zp
  have three:=List.all_eq_true.1 Zq
  have four:=List.all_eq_true.1 Vc
  have aad:=List.all_eq_true.1 Vd
  simp only [List.mem_append] at two three four
  have w7:f.length=0∨f.length=1∨f.length=2∨f.length=3:=by omega
  rcases hn with rfl | rfl | rfl <;> rcases w7 with e | e | e | e <;> rw [e] at hm
  ·exact two _ (.inl (.inl (.inl hm)))
  ·exact two _ (.inl (.inl (.inr hm)))
  ·exact two _ (.inl (.inr hm))
  ·exact two _ (.inr hm)
  ·exact three _ (.inl (.inl (.inl hm)))
  ·exact three _ (.inl (.inl (.inr hm)))
  ·exact three _ (.inl (.inr hm))
  ·exact three _ (.inr hm)
  ·exact four _ (.inl (.inl hm))
  ·exact four _ (.inl (.inr hm))
  ·exact four _ (.inr hm)
  ·exact aad _ hm
 unfold Gq at hc
 rw [List.map_fst_zip (by omega),List.map_snd_zip (by omega)] at hc
 cases hp:lY n f t with
 | none=>rw [hp] at hc; cases hc
 | some c=>rw [hp] at hc; exact ⟨c,sJ _ _ _ _ hp,TP hc⟩
end Go.Proofs.YtgjbmjjihmfppaaGreat
