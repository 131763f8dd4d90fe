/- Models that compute: their loops with fuel; what they give the models give. No condition beside those that each theorem names. -/
import Derived.Test.YtbmchcnkbonmkaaGreatYt
import Derived.KernelRfl
import Derived.Test.YtbmchcnkbonmkaaGreatYw
namespace Go.Proofs.YtbmchcnkbonmkaaGreat
open Go Go.Li
set_option linter.unusedVariables false
def ao {α:Type} (m m':Option α):Prop:=∀ o,m=some o→m'=some o
theorem ao.refl {α:Type} (m:Option α):ao m m:=fun _ h=>h
theorem ao.ak {S R:Type} {m m':Option (Out S R)} (h:ao m m'):ao (ak m) (ak m'):=fun o ho=>by
 have h1:=Gv ho
 rw [h _ h1]; rfl
theorem ao.bind {α β:Type} {m m':Option α} {f f':α→Option β} (h:ao m m') (k:∀ x,ao (f x) (f' x)):ao (m>>=f) (m'>>=f'):=fun o ho=>by
 cases hm:m with
 | none=>rw [hm] at ho; cases ho
 | some x=>rw [hm] at ho; rw [h x hm]; exact k x o ho
theorem ao.cond {α:Type} {b:Bool} {x x' y y':Option α} (h:ao x x') (k:ao y y'):ao (bif b then x else y) (bif b then x' else y'):=by
 cases b with
 | true=>exact h
 | false=>exact k
theorem ao.ae {S S1 R:Type} {m m':Option (Out S1 R)} {f f':S1→Option (Out S R)} (h:ao m m') (k:∀ x,ao (f x) (f' x)):ao (ae m f) (ae m' f'):=fun o ho=>by
 unfold Go.Li.ae at ho ⊢
 cases hm:m with
 | none=>rw [hm] at ho; cases ho
 | some x=>
  rw [hm] at ho
  rw [h x hm]
  cases x with
  | norm s=>exact k s o ho
  | _=>exact ho
theorem ao.ab {S R:Type} {n:Nat} {m m':Option (Out S R)} (h:ao m m'):ao (ab n m) (ab n m'):=fun o ho=>by
 unfold Go.Li.ab at ho ⊢
 cases hm:m with
 | none=>rw [hm] at ho; cases ho
 | some x=>rw [hm] at ho; rw [h x hm]; exact ho
def r6 {S R:Type} (body:S→Option (Out S R)) (s:S):Option (Out S R):=qy body 300 s
theorem Ss {S R:Type} {b b':S→Option (Out S R)} (h:∀ s,ao (b s) (b' s)):∀ k s,ao (qy b k s) (qy b' k s):=by
 intro k
 induction k with
 | zero=>intro s o ho; cases ho
 | succ k ih=>
  intro s o ho
  unfold qy at ho ⊢
  cases hm:b s with
  | none=>rw [hm] at ho; cases ho
  | some x=>
   rw [hm] at ho
   rw [h s x hm]
   cases x with
   | norm s'=>exact ih s' o ho
   | _=>exact ho
theorem ao.loop {S R:Type} {b b':S→Option (Out S R)} {s:S} (h:∀ s,ao (b s) (b' s)):ao (r6 b s) (af b' s):=fun o ho=>wQ.2 ⟨300,Ss h 300 s o ho⟩
def oD (x0:(List Int)):Option ((List Int)):=
 ak (S:=Unit) ((fits 8 ((([]:(List Int))).length+x0.length))>>=fun n15=>(some (Out.ret ((([]:(List Int))++x0)))))
theorem rE:∀ a0,ao (oD a0) (cW a0):=by
 intros; unfold oD cW
 repeat' first
  | with_reducible exact ao.refl _
  | refine ao.ak ?_
  | refine ao.ae ?_ (fun _=>?_)
  | refine ao.ab ?_
  | refine ao.loop (fun _=>?_)
  | refine ao.bind ?_ (fun _=>?_)
  | refine ao.cond ?_ ?_
  | split
def nO (x0:(List Int)) (x1:(List Int)) (aX:Int):Option (Out (Int) (Bool)):=
 (((bif decide (aX < (x0.length:Int)) then (some (decide (aX < (x1.length:Int)))) else (some (false))))>>=fun g6=>(bif g6 then ((idx x0 (aX))>>=fun Oq=>((idx x1 (aX))>>=fun yB=>(bif (Oq) != (yB) then ((idx x0 (aX))>>=fun K1=>((idx x1 (aX))>>=fun On=>(some (Out.ret ((decide (K1 < On))))))) else (some (Out.norm (aj (aX+(1:Int)))))))) else (some (Out.exit 0 (aX)))))
theorem rS:∀ a0 a1 a2,ao (nO a0 a1 a2) (dZ a0 a1 a2):=by
 intros; unfold nO dZ
 repeat' first
  | with_reducible exact ao.refl _
  | refine ao.ak ?_
  | refine ao.ae ?_ (fun _=>?_)
  | refine ao.ab ?_
  | refine ao.loop (fun _=>?_)
  | refine ao.bind ?_ (fun _=>?_)
  | refine ao.cond ?_ ?_
  | split
def qA (x0:(List Int)) (x1:(List Int)):Option (Bool):=
 ak (S:=Unit) (ae (ab 0 (r6 (nO x0 x1) ((0:Int)))) (fun aX=>(some (Out.ret ((decide ((x0.length:Int) < (x1.length:Int))))))))
theorem sE:∀ a0 a1,ao (qA a0 a1) (lY a0 a1):=by
 intros; unfold qA lY
 repeat' first
  | with_reducible exact ao.refl _
  | exact rS _ _ _
  | refine ao.ak ?_
  | refine ao.ae ?_ (fun _=>?_)
  | refine ao.ab ?_
  | refine ao.loop (fun _=>?_)
  | refine ao.bind ?_ (fun _=>?_)
  | refine ao.cond ?_ ?_
  | split
def oP (x0:bJ) (x1:bJ):Option (Bool):=
 ak (S:=Unit) (bif (x0.aC) != (x1.aC) then (some (Out.ret ((decide (x0.aC < x1.aC))))) else (bif (x0.To) != (x1.To) then (some (Out.ret ((decide (x0.To < x1.To))))) else ((qA x0.mh x1.mh)>>=fun Ap=>(some (Out.ret (Ap))))))
theorem rU:∀ a0 a1,ao (oP a0 a1) (iJ a0 a1):=by
 intros; unfold oP iJ
 repeat' first
  | with_reducible exact ao.refl _
  | exact sE _ _
  | refine ao.ak ?_
  | refine ao.ae ?_ (fun _=>?_)
  | refine ao.ab ?_
  | refine ao.loop (fun _=>?_)
  | refine ao.bind ?_ (fun _=>?_)
  | refine ao.cond ?_ ?_
  | split
def oQ (x0:Int) (s0:(List bJ)) (s1:Int):Option (Out ((List bJ)×Int) ((List bJ))):=
 (bif decide (s1 < x0) then ((fits 40 (s0.length+1))>>=fun n26=>(some (Out.norm (s0++[bJ.mk s1 s1 []],aj (s1+(1:Int)))))) else (some (Out.exit 0 (s0,s1))))
theorem rV:∀ a0 a1 a2,ao (oQ a0 a1 a2) (kH a0 a1 a2):=by
 intros; unfold oQ kH
 repeat' first
  | with_reducible exact ao.refl _
  | refine ao.ak ?_
  | refine ao.ae ?_ (fun _=>?_)
  | refine ao.ab ?_
  | refine ao.loop (fun _=>?_)
  | refine ao.bind ?_ (fun _=>?_)
  | refine ao.cond ?_ ?_
  | split
def oR (x1:(List Int)) (x2:(List Int)) (s1:Int) (s0:(List bJ)) (s2:Int):Option (Out ((List bJ)×Int) ((List bJ))):=
 (bif decide (s2 < (x1.length:Int)) then ((idx x1 (s2))>>=fun EH=>((idx s0 (s1))>>=fun IU=>(bif (EH) == (IU.To) then ((idx s0 (s1))>>=fun Xv=>((idx x2 (s2))>>=fun BT=>((idx s0 (s1))>>=fun IV=>((oD IV.mh)>>=fun Ot=>((fits 8 (Ot.length+1))>>=fun n72=>((fits 40 (s0.length+1))>>=fun n75=>(some (Out.norm (s0++[bJ.mk Xv.aC BT (Ot++[s2])],aj (s2+(1:Int))))))))))) else (some (Out.norm (s0,aj (s2+(1:Int)))))))) else (some (Out.exit 4 (s0,s2))))
theorem rW:∀ a0 a1 a2 a3 a4,ao (oR a0 a1 a2 a3 a4) (iK a0 a1 a2 a3 a4):=by
 intros; unfold oR iK
 repeat' first
  | with_reducible exact ao.refl _
  | exact rE _
  | refine ao.ak ?_
  | refine ao.ae ?_ (fun _=>?_)
  | refine ao.ab ?_
  | refine ao.loop (fun _=>?_)
  | refine ao.bind ?_ (fun _=>?_)
  | refine ao.cond ?_ ?_
  | split
def oS (x1:(List Int)) (x2:(List Int)) (s0:(List bJ)) (s1:Int):Option (Out ((List bJ)×Int) ((List bJ))):=
 (((bif decide (s1 < (s0.length:Int)) then (some (decide ((s0.length:Int)≤(40:Int)))) else (some (false))))>>=fun Xw=>(bif Xw then (ae (ab 4 (r6 (fun s=>oR x1 x2 s1 s.1 s.2) (s0,(0:Int)))) (fun (s0,s2)=>(some (Out.norm (s0,aj (s1+(1:Int))))))) else (some (Out.exit 2 (s0,s1)))))
theorem rX:∀ a0 a1 a2 a3,ao (oS a0 a1 a2 a3) (kI a0 a1 a2 a3):=by
 intros; unfold oS kI
 repeat' first
  | with_reducible exact ao.refl _
  | exact rW _ _ _ _ _
  | refine ao.ak ?_
  | refine ao.ae ?_ (fun _=>?_)
  | refine ao.ab ?_
  | refine ao.loop (fun _=>?_)
  | refine ao.bind ?_ (fun _=>?_)
  | refine ao.cond ?_ ?_
  | split
def oT (s0:(List bJ)) (s1:Int):Option (Out ((List bJ)×Int) ((List bJ))):=
 (((bif decide ((0:Int) < s1) then ((idx s0 (s1))>>=fun BU=>((idx s0 (aj (s1 - (1:Int))))>>=fun EI=>((oP BU EI)>>=fun Ou=>(some (Ou))))) else (some (false))))>>=fun Xx=>(bif Xx then ((idx s0 (s1))>>=fun QU=>((idx s0 (aj (s1 - (1:Int))))>>=fun xn=>((idx s0 (s1))>>=fun IW=>((idx (s0.set (s1).toNat xn) (aj (s1 - (1:Int))))>>=fun QV=>(some (Out.norm ((s0.set (s1).toNat xn).set (aj (s1 - (1:Int))).toNat QU,aj (s1 - (1:Int))))))))) else (some (Out.exit 8 (s0,s1)))))
theorem rY:∀ a0 a1,ao (oT a0 a1) (kJ a0 a1):=by
 intros; unfold oT kJ
 repeat' first
  | with_reducible exact ao.refl _
  | exact rU _ _
  | refine ao.ak ?_
  | refine ao.ae ?_ (fun _=>?_)
  | refine ao.ab ?_
  | refine ao.loop (fun _=>?_)
  | refine ao.bind ?_ (fun _=>?_)
  | refine ao.cond ?_ ?_
  | split
def oU (s0:(List bJ)) (s1:Int):Option (Out ((List bJ)×Int) ((List bJ))):=
 (bif decide (s1 < (s0.length:Int)) then (ae (ab 8 (r6 (fun s=>oT s.1 s.2) (s0,s1))) (fun (s0,s2)=>(some (Out.norm (s0,aj (s1+(1:Int))))))) else (some (Out.exit 6 (s0,s1))))
theorem rZ:∀ a0 a1,ao (oU a0 a1) (kK a0 a1):=by
 intros; unfold oU kK
 repeat' first
  | with_reducible exact ao.refl _
  | exact rY _ _
  | refine ao.ak ?_
  | refine ao.ae ?_ (fun _=>?_)
  | refine ao.ab ?_
  | refine ao.loop (fun _=>?_)
  | refine ao.bind ?_ (fun _=>?_)
  | refine ao.cond ?_ ?_
  | split
def qP (x0:Int) (x1:(List Int)) (x2:(List Int)):Option ((List bJ)):=
 ak (S:=Unit) (ae (ab 0 (r6 (fun s=>oQ x0 s.1 s.2) (([]:(List bJ)),(0:Int)))) (fun (s0,s1)=>(ae (ab 2 (r6 (fun s=>oS x1 x2 s.1 s.2) (s0,(0:Int)))) (fun (s0,s1)=>(ae (ab 6 (r6 (fun s=>oU s.1 s.2) (s0,(1:Int)))) (fun (s0,s1)=>(some (Out.ret (s0)))))))))
theorem sJ:∀ a0 a1 a2,ao (qP a0 a1 a2) (lO a0 a1 a2):=by
 intros; unfold qP lO
 repeat' first
  | with_reducible exact ao.refl _
  | exact rV _ _ _
  | exact rX _ _ _ _
  | exact rZ _ _
  | refine ao.ak ?_
  | refine ao.ae ?_ (fun _=>?_)
  | refine ao.ab ?_
  | refine ao.loop (fun _=>?_)
  | refine ao.bind ?_ (fun _=>?_)
  | refine ao.cond ?_ ?_
  | split
def qB (x0:aG):Option (Bool):=
 ak (S:=Unit) (((bif decide (x0.aA≤(8:Int)) then (some (decide ((x0.aC.length:Int)≤(40:Int)))) else (some (false))))>>=fun g8=>(some (Out.ret (g8))))
theorem sF:∀ a0,ao (qB a0) (dP a0):=by
 intros; unfold qB dP
 repeat' first
  | with_reducible exact ao.refl _
  | refine ao.ak ?_
  | refine ao.ae ?_ (fun _=>?_)
  | refine ao.ab ?_
  | refine ao.loop (fun _=>?_)
  | refine ao.bind ?_ (fun _=>?_)
  | refine ao.cond ?_ ?_
  | split
def nP (x0:(List Int)) (x1:(List Int)) (aX:Int):Option (Out (Int) (Bool)):=
 (bif decide (aX < (x0.length:Int)) then ((idx x0 (aX))>>=fun yB=>((idx x1 (aX))>>=fun Dv=>(bif (yB) != (Dv) then (some (Out.ret (false))) else (some (Out.norm (aj (aX+(1:Int)))))))) else (some (Out.exit 0 (aX))))
theorem rT:∀ a0 a1 a2,ao (nP a0 a1 a2) (lS a0 a1 a2):=by
 intros; unfold nP lS
 repeat' first
  | with_reducible exact ao.refl _
  | refine ao.ak ?_
  | refine ao.ae ?_ (fun _=>?_)
  | refine ao.ab ?_
  | refine ao.loop (fun _=>?_)
  | refine ao.bind ?_ (fun _=>?_)
  | refine ao.cond ?_ ?_
  | split
def qC (x0:(List Int)) (x1:(List Int)):Option (Bool):=
 ak (S:=Unit) (bif ((x0.length:Int)) != ((x1.length:Int)) then (some (Out.ret (false))) else (ae (ab 0 (r6 (nP x0 x1) ((0:Int)))) (fun aX=>(some (Out.ret (true))))))
theorem sG:∀ a0 a1,ao (qC a0 a1) (kL a0 a1):=by
 intros; unfold qC kL
 repeat' first
  | with_reducible exact ao.refl _
  | exact rT _ _ _
  | refine ao.ak ?_
  | refine ao.ae ?_ (fun _=>?_)
  | refine ao.ab ?_
  | refine ao.loop (fun _=>?_)
  | refine ao.bind ?_ (fun _=>?_)
  | refine ao.cond ?_ ?_
  | split
def mM (y8:(List bJ)) (dp:Int) (j5:(List Int)) (j6:(List Int)) (n5:(List Int)):Option (Out (Int×(List Int)×(List Int)×(List Int)) (aG)):=
 (bif decide (dp < (y8.length:Int)) then ((idx y8 (dp))>>=fun DV=>((fits 8 (j5.length+1))>>=fun n134=>((idx y8 (dp))>>=fun IX=>((fits 8 (j6.length+1))>>=fun n173=>((idx y8 (dp))>>=fun QW=>(bif ((QW.mh.length:Int)) == ((0:Int)) then ((idx y8 (dp))>>=fun IY=>((idx n5 (IY.aC))>>=fun QY=>(some (Out.norm (aj (dp+(1:Int)),j5++[DV.aC],j6++[IX.To],n5.set (IY.aC).toNat (dp)))))) else (some (Out.norm (aj (dp+(1:Int)),j5++[DV.aC],j6++[IX.To],n5))))))))) else (some (Out.exit 0 (dp,j5,j6,n5))))
theorem rO:∀ a0 a1 a2 a3 a4,ao (mM a0 a1 a2 a3 a4) (iZ a0 a1 a2 a3 a4):=by
 intros; unfold mM iZ
 repeat' first
  | with_reducible exact ao.refl _
  | refine ao.ak ?_
  | refine ao.ae ?_ (fun _=>?_)
  | refine ao.ab ?_
  | refine ao.loop (fun _=>?_)
  | refine ao.bind ?_ (fun _=>?_)
  | refine ao.cond ?_ ?_
  | split
def mN (y8:(List bJ)) (jd:Int) (wy:(List Int)) (yA:bJ) (xN:Int) (lz:Int):Option (Out (Int×Int) (aG)):=
 (bif decide (lz < (y8.length:Int)) then ((((idx y8 (lz))>>=fun QZ=>((idx y8 (jd))>>=fun Q0=>(bif (QZ.aC) == (Q0.aC) then ((idx y8 (lz))>>=fun Q1=>((qC Q1.mh (wy++yA.mh))>>=fun Q2=>(some (Q2)))) else (some (false))))))>>=fun Q3=>(bif Q3 then (some (Out.norm (lz,aj (lz+(1:Int))))) else (some (Out.norm (xN,aj (lz+(1:Int))))))) else (some (Out.exit 6 (xN,lz))))
theorem rP:∀ a0 a1 a2 a3 a4 a5,ao (mN a0 a1 a2 a3 a4 a5) (jA a0 a1 a2 a3 a4 a5):=by
 intros; unfold mN jA
 repeat' first
  | with_reducible exact ao.refl _
  | exact sG _ _
  | refine ao.ak ?_
  | refine ao.ae ?_ (fun _=>?_)
  | refine ao.ab ?_
  | refine ao.loop (fun _=>?_)
  | refine ao.bind ?_ (fun _=>?_)
  | refine ao.cond ?_ ?_
  | split
def mO (y8:(List bJ)) (jd:Int) (ot:(List Int)) (th:Int):Option (Out ((List Int)×Int) (aG)):=
 (bif decide (th < (y8.length:Int)) then ((idx y8 (jd))>>=fun Q4=>((idx y8 (th))>>=fun Q5=>(bif (Q4.To) == (Q5.aC) then ((idx y8 (jd))>>=fun Q6=>((oD Q6.mh)>>=fun wy=>((idx y8 (th))>>=fun yA=>((fits 8 (wy.length+yA.mh.length))>>=fun ac7=>(ae (ab 6 (r6 (fun s=>mN y8 jd wy yA s.1 s.2) ((-1:Int),(0:Int)))) (fun (xN,lz)=>((fits 8 (ot.length+1))>>=fun ac8=>(some (Out.norm (ot++[xN],aj (th+(1:Int)))))))))))) else ((fits 8 (ot.length+1))>>=fun ac9=>(some (Out.norm (ot++[(-1:Int)],aj (th+(1:Int))))))))) else (some (Out.exit 4 (ot,th))))
theorem rQ:∀ a0 a1 a2 a3,ao (mO a0 a1 a2 a3) (jB a0 a1 a2 a3):=by
 intros; unfold mO jB
 repeat' first
  | with_reducible exact ao.refl _
  | exact rE _
  | exact rP _ _ _ _ _ _
  | refine ao.ak ?_
  | refine ao.ae ?_ (fun _=>?_)
  | refine ao.ab ?_
  | refine ao.loop (fun _=>?_)
  | refine ao.bind ?_ (fun _=>?_)
  | refine ao.cond ?_ ?_
  | split
def mP (y8:(List bJ)) (jd:Int) (qu:(List (List Int))):Option (Out (Int×(List (List Int))) (aG)):=
 (bif decide (jd < (y8.length:Int)) then (ae (ab 4 (r6 (fun s=>mO y8 jd s.1 s.2) (([]:(List Int)),(0:Int)))) (fun (ot,th)=>((fits 24 (qu.length+1))>>=fun ada=>(some (Out.norm (aj (jd+(1:Int)),qu++[ot])))))) else (some (Out.exit 2 (jd,qu))))
theorem rR:∀ a0 a1 a2,ao (mP a0 a1 a2) (fW a0 a1 a2):=by
 intros; unfold mP fW
 repeat' first
  | with_reducible exact ao.refl _
  | exact rQ _ _ _ _
  | refine ao.ak ?_
  | refine ao.ae ?_ (fun _=>?_)
  | refine ao.ab ?_
  | refine ao.loop (fun _=>?_)
  | refine ao.bind ?_ (fun _=>?_)
  | refine ao.cond ?_ ?_
  | split
def lX (x0:Int) (x1:(List Int)) (x2:(List Int)):Option (aG):=
 ak (S:=Unit) ((qP (x0) x1 x2)>>=fun y8=>((mk 8 (x0))>>=fun n36=>(ae (ab 0 (r6 (fun s=>mM y8 s.1 s.2.1 s.2.2.1 s.2.2.2) ((0:Int),([]:(List Int)),([]:(List Int)),List.replicate n36 (0:Int)))) (fun (dp,j5,j6,n5)=>((qB (aG.mk x0 j5 j6 n5 (([]:(List (List Int))))))>>=fun Q7=>(bif !(Q7) then (some (Out.ret ((aG.mk x0 j5 j6 n5 (([]:(List (List Int)))))))) else (ae (ab 2 (r6 (fun s=>mP y8 s.1 s.2) ((0:Int),([]:(List (List Int)))))) (fun (jd,qu)=>(some (Out.ret ((aG.mk x0 j5 j6 n5 qu))))))))))))
theorem sD:∀ a0 a1 a2,ao (lX a0 a1 a2) (eQ a0 a1 a2):=by
 intros; unfold lX eQ
 repeat' first
  | with_reducible exact ao.refl _
  | exact sJ _ _ _
  | exact sF _
  | exact rO _ _ _ _ _
  | exact rR _ _ _
  | refine ao.ak ?_
  | refine ao.ae ?_ (fun _=>?_)
  | refine ao.ab ?_
  | refine ao.loop (fun _=>?_)
  | refine ao.bind ?_ (fun _=>?_)
  | refine ao.cond ?_ ?_
  | split
end Go.Proofs.YtbmchcnkbonmkaaGreat
set_option linter.unusedVariables false
set_option linter.unusedSimpArgs false
namespace Go.Proofs.YtbmchcnkbonmkaaGreat
open Go Go.Li
def LF (n:Nat):List (Int×Int):=(List.range n).flatMap fun (u:Nat)=>((List.range n).filter fun (v:Nat)=>Nat.blt u v).map fun (v:Nat)=>(Int.ofNat u,Int.ofNat v)
def xF (n:Nat):Nat→List (List (Int×Int))
 | 0=>[[]]
 | k+1=>(xF n k).flatMap fun l=>(LF n).map fun p=>p :: l
def Gj (n:Nat) (l:List (Int×Int)):Bool:=match lX n (l.map (·.1)) (l.map (·.2)) with
 | some c=>Y7 c
 | none=>false
theorem Zc:((xF 2 0++xF 2 1++xF 2 2++xF 2 3).all (Gj 2))=true:=by kernel_rfl
theorem Zd:((xF 3 0++xF 3 1++xF 3 2++xF 3 3).all (Gj 3))=true:=by kernel_rfl
theorem Vh:((xF 4 0++xF 4 1++xF 4 2).all (Gj 4))=true:=by kernel_rfl
theorem Vi:((xF 4 3).all (Gj 4))=true:=by kernel_rfl
theorem Vj {n:Nat} {u v:Int} (u0:0≤u) (uv:u < v) (v1:v < n):(u,v)∈LF n:=by
 unfold LF
 rw [List.mem_flatMap]
 refine ⟨u.toNat,by rw [List.mem_range]; omega,List.mem_map.2 ⟨v.toNat,List.mem_filter.2 ⟨by rw [List.mem_range]; omega,?_⟩,?_⟩⟩
 ·rw [Nat.blt_eq]; omega
 ·rw [show Int.ofNat u.toNat=u by show ((u.toNat:Nat):Int)=u; omega,show Int.ofNat v.toNat=v by show ((v.toNat:Nat):Int)=v; omega]
theorem Vk {n:Nat}:∀ {l:List (Int×Int)},(∀ p∈l,p∈LF n)→l∈xF n l.length:=by
 intro l
 induction l with
 | nil=>intro _; exact List.mem_singleton.2 rfl
 | cons p l ih=>
  intro h
  show p :: l∈(xF n l.length).flatMap fun l=>(LF n).map fun p=>p :: l
  exact List.mem_flatMap.2 ⟨l,ih fun q hq=>h q (List.mem_cons_of_mem _ hq),List.mem_map.2 ⟨p,h p (by simp),rfl⟩⟩
theorem Gc {n:Nat} {f t:List Int} (hn:n=2∨n=3∨n=4) (hl:t.length=f.length) (hk:f.length≤3) (h:∀ (i:Nat) u v,f[i]? = some u→t[i]? = some v→0≤u∧u < v∧v < n):Ok (eQ n f t) Ty:=by
 have hm:f.zip t∈xF n f.length:=by
  have h1:∀ p∈f.zip t,p∈LF n:=fun p hp=>by
   obtain ⟨i,hi⟩:=List.getElem?_of_mem hp
   obtain ⟨e1,e2⟩:=FU hi
   obtain ⟨a,b,c⟩:=h i _ _ e1 e2
   exact Vj a b c
  have:=Vk h1
  rwa [List.length_zip,hl,Nat.min_self] at this
 have hc:Gj n (f.zip t)=true:=by
  have two:=List.all_eq_true.1 Zc
  have three:=List.all_eq_true.1 Zd
  have four:=List.all_eq_true.1 Vh
  have Z1:=List.all_eq_true.1 Vi
  simp only [List.mem_append] at two three four
  have sZ:f.length=0∨f.length=1∨f.length=2∨f.length=3:=by omega
  rcases hn with rfl | rfl | rfl <;> rcases sZ with e | e | e | e <;> rw [e] at hm
  ·exact two _ (.inl (.inl (.inl hm)))
  ·exact two _ (.inl (.inl (.inr hm)))
  ·exact two _ (.inl (.inr hm))
  ·exact two _ (.inr hm)
  ·exact three _ (.inl (.inl (.inl hm)))
  ·exact three _ (.inl (.inl (.inr hm)))
  ·exact three _ (.inl (.inr hm))
  ·exact three _ (.inr hm)
  ·exact four _ (.inl (.inl hm))
  ·exact four _ (.inl (.inr hm))
  ·exact four _ (.inr hm)
  ·exact Z1 _ hm
 unfold Gj at hc
 rw [List.map_fst_zip (by omega),List.map_snd_zip (by omega)] at hc
 cases hp:lX n f t with
 | none=>rw [hp] at hc; cases hc
 | some c=>rw [hp] at hc; exact ⟨c,sD _ _ _ _ hp,TQ hc⟩
end Go.Proofs.YtbmchcnkbonmkaaGreat
