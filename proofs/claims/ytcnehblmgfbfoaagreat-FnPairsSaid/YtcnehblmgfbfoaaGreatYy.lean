/- Models that compute: their loops with fuel; what they give the models give. No condition beside those that each theorem names. -/
import Derived.Test.YtcnehblmgfbfoaaGreatYt
import Derived.KernelRfl
import Derived.Test.YtcnehblmgfbfoaaGreatYw
set_option linter.unusedVariables false
set_option linter.unusedSectionVars false
set_option linter.unusedSimpArgs false
namespace Go.Proofs.YtcnehblmgfbfoaaGreat
open Go Go.Li
set_option linter.unusedVariables false
def aX {α:Type} (m m':Option α):Prop:=∀ o,m=some o→m'=some o
theorem aX.refl {α:Type} (m:Option α):aX m m:=fun _ h=>h
theorem aX.an {S R:Type} {m m':Option (Out S R)} (h:aX m m'):aX (an m) (an m'):=fun o ho=>by
 have h1:=Dr ho
 rw [h _ h1]; rfl
theorem aX.bind {α β:Type} {m m':Option α} {f f':α→Option β} (h:aX m m') (k:∀ x,aX (f x) (f' x)):aX (m>>=f) (m'>>=f'):=fun o ho=>by
 cases hm:m with
 | none=>rw [hm] at ho; cases ho
 | some x=>rw [hm] at ho; rw [h x hm]; exact k x o ho
theorem aX.cond {α:Type} {b:Bool} {x x' y y':Option α} (h:aX x x') (k:aX y y'):aX (bif b then x else y) (bif b then x' else y'):=by
 cases b with
 | true=>exact h
 | false=>exact k
theorem aX.ah {S S1 R:Type} {m m':Option (Out S1 R)} {f f':S1→Option (Out S R)} (h:aX m m') (k:∀ x,aX (f x) (f' x)):aX (ah m f) (ah m' f'):=fun o ho=>by
 unfold Go.Li.ah at ho ⊢
 cases hm:m with
 | none=>rw [hm] at ho; cases ho
 | some x=>
  rw [hm] at ho
  rw [h x hm]
  cases x with
  | norm s=>exact k s o ho
  | _=>exact ho
theorem aX.ab {S R:Type} {n:Nat} {m m':Option (Out S R)} (h:aX m m'):aX (ab n m) (ab n m'):=fun o ho=>by
 unfold Go.Li.ab at ho ⊢
 cases hm:m with
 | none=>rw [hm] at ho; cases ho
 | some x=>rw [hm] at ho; rw [h x hm]; exact ho
def rE {S R:Type} (body:S→Option (Out S R)) (s:S):Option (Out S R):=nz body 300 s
theorem N5 {S R:Type} {b b':S→Option (Out S R)} (h:∀ s,aX (b s) (b' s)):∀ k s,aX (nz b k s) (nz b' k s):=by
 intro k
 induction k with
 | zero=>intro s o ho; cases ho
 | succ k ih=>
  intro s o ho
  unfold nz at ho ⊢
  cases hm:b s with
  | none=>rw [hm] at ho; cases ho
  | some x=>
   rw [hm] at ho
   rw [h s x hm]
   cases x with
   | norm s'=>exact ih s' o ho
   | _=>exact ho
theorem aX.loop {S R:Type} {b b':S→Option (Out S R)} {s:S} (h:∀ s,aX (b s) (b' s)):aX (rE b s) (aj b' s):=fun o ho=>tX.2 ⟨300,N5 h 300 s o ho⟩
def kV (x0:(List Int)):Option ((List Int)):=
 an (S:=Unit) ((fits 8 ((([]:(List Int))).length+x0.length))>>=fun n15=>(some (Out.ret ((([]:(List Int))++x0)))))
theorem nJ:∀ a0,aX (kV a0) (cF a0):=by
 intros; unfold kV cF
 repeat' first
  | with_reducible exact aX.refl _
  | refine aX.an ?_
  | refine aX.ah ?_ (fun _=>?_)
  | refine aX.ab ?_
  | refine aX.loop (fun _=>?_)
  | refine aX.bind ?_ (fun _=>?_)
  | refine aX.cond ?_ ?_
  | split
def kL (x0:(List Int)) (x1:(List Int)) (bm:Int):Option (Out (Int) (Bool)):=
 (((bif decide (bm < (x0.length:Int)) then (some (decide (bm < (x1.length:Int)))) else (some (false))))>>=fun g6=>(bif g6 then ((idx x0 (bm))>>=fun KS=>((idx x1 (bm))>>=fun sP=>(bif (KS) != (sP) then ((idx x0 (bm))>>=fun OU=>((idx x1 (bm))>>=fun ux=>(some (Out.ret ((decide (OU < ux))))))) else (some (Out.norm (ai (bm+(1:Int)))))))) else (some (Out.exit 0 (bm)))))
theorem nU:∀ a0 a1 a2,aX (kL a0 a1 a2) (cR a0 a1 a2):=by
 intros; unfold kL cR
 repeat' first
  | with_reducible exact aX.refl _
  | refine aX.an ?_
  | refine aX.ah ?_ (fun _=>?_)
  | refine aX.ab ?_
  | refine aX.loop (fun _=>?_)
  | refine aX.bind ?_ (fun _=>?_)
  | refine aX.cond ?_ ?_
  | split
def mK (x0:(List Int)) (x1:(List Int)):Option (Bool):=
 an (S:=Unit) (ah (ab 0 (rE (kL x0 x1) ((0:Int)))) (fun bm=>(some (Out.ret ((decide ((x0.length:Int) < (x1.length:Int))))))))
theorem oG:∀ a0 a1,aX (mK a0 a1) (jL a0 a1):=by
 intros; unfold mK jL
 repeat' first
  | with_reducible exact aX.refl _
  | exact nU _ _ _
  | refine aX.an ?_
  | refine aX.ah ?_ (fun _=>?_)
  | refine aX.ab ?_
  | refine aX.loop (fun _=>?_)
  | refine aX.bind ?_ (fun _=>?_)
  | refine aX.cond ?_ ?_
  | split
def lF (x0:bA) (x1:bA):Option (Bool):=
 an (S:=Unit) (bif (x0.aB) != (x1.aB) then (some (Out.ret ((decide (x0.aB < x1.aB))))) else (bif (x0.To) != (x1.To) then (some (Out.ret ((decide (x0.To < x1.To))))) else ((mK x0.ko x1.ko)>>=fun zC=>(some (Out.ret (zC))))))
theorem nW:∀ a0 a1,aX (lF a0 a1) (fV a0 a1):=by
 intros; unfold lF fV
 repeat' first
  | with_reducible exact aX.refl _
  | exact oG _ _
  | refine aX.an ?_
  | refine aX.ah ?_ (fun _=>?_)
  | refine aX.ab ?_
  | refine aX.loop (fun _=>?_)
  | refine aX.bind ?_ (fun _=>?_)
  | refine aX.cond ?_ ?_
  | split
def lG (x0:Int) (s0:(List bA)) (s1:Int):Option (Out ((List bA)×Int) ((List bA))):=
 (bif decide (s1 < x0) then ((fits 40 (s0.length+1))>>=fun n26=>(some (Out.norm (s0++[bA.mk s1 s1 []],ai (s1+(1:Int)))))) else (some (Out.exit 0 (s0,s1))))
theorem nX:∀ a0 a1 a2,aX (lG a0 a1 a2) (iF a0 a1 a2):=by
 intros; unfold lG iF
 repeat' first
  | with_reducible exact aX.refl _
  | refine aX.an ?_
  | refine aX.ah ?_ (fun _=>?_)
  | refine aX.ab ?_
  | refine aX.loop (fun _=>?_)
  | refine aX.bind ?_ (fun _=>?_)
  | refine aX.cond ?_ ?_
  | split
def lH (x1:(List Int)) (x2:(List Int)) (s1:Int) (s0:(List bA)) (s2:Int):Option (Out ((List bA)×Int) ((List bA))):=
 (bif decide (s2 < (x1.length:Int)) then ((idx x1 (s2))>>=fun KT=>((idx s0 (s1))>>=fun KU=>(bif (KT) == (KU.To) then ((idx s0 (s1))>>=fun SK=>((idx x2 (s2))>>=fun AU=>((idx s0 (s1))>>=fun SM=>((kV SM.ko)>>=fun zD=>((fits 8 (zD.length+1))>>=fun n72=>((fits 40 (s0.length+1))>>=fun n75=>(some (Out.norm (s0++[bA.mk SK.aB AU (zD++[s2])],ai (s2+(1:Int))))))))))) else (some (Out.norm (s0,ai (s2+(1:Int)))))))) else (some (Out.exit 4 (s0,s2))))
theorem nY:∀ a0 a1 a2 a3 a4,aX (lH a0 a1 a2 a3 a4) (fW a0 a1 a2 a3 a4):=by
 intros; unfold lH fW
 repeat' first
  | with_reducible exact aX.refl _
  | exact nJ _
  | refine aX.an ?_
  | refine aX.ah ?_ (fun _=>?_)
  | refine aX.ab ?_
  | refine aX.loop (fun _=>?_)
  | refine aX.bind ?_ (fun _=>?_)
  | refine aX.cond ?_ ?_
  | split
def lJ (x1:(List Int)) (x2:(List Int)) (s0:(List bA)) (s1:Int):Option (Out ((List bA)×Int) ((List bA))):=
 (((bif decide (s1 < (s0.length:Int)) then (some (decide ((s0.length:Int)≤(40:Int)))) else (some (false))))>>=fun SN=>(bif SN then (ah (ab 4 (rE (fun s=>lH x1 x2 s1 s.1 s.2) (s0,(0:Int)))) (fun (s0,s2)=>(some (Out.norm (s0,ai (s1+(1:Int))))))) else (some (Out.exit 2 (s0,s1)))))
theorem nZ:∀ a0 a1 a2 a3,aX (lJ a0 a1 a2 a3) (iG a0 a1 a2 a3):=by
 intros; unfold lJ iG
 repeat' first
  | with_reducible exact aX.refl _
  | exact nY _ _ _ _ _
  | refine aX.an ?_
  | refine aX.ah ?_ (fun _=>?_)
  | refine aX.ab ?_
  | refine aX.loop (fun _=>?_)
  | refine aX.bind ?_ (fun _=>?_)
  | refine aX.cond ?_ ?_
  | split
def lK (s0:(List bA)) (s1:Int):Option (Out ((List bA)×Int) ((List bA))):=
 (((bif decide ((0:Int) < s1) then ((idx s0 (s1))>>=fun AV=>((idx s0 (ai (s1 - (1:Int))))>>=fun Cq=>((lF AV Cq)>>=fun KV=>(some (KV))))) else (some (false))))>>=fun SP=>(bif SP then ((idx s0 (s1))>>=fun MX=>((idx s0 (ai (s1 - (1:Int))))>>=fun um=>((idx s0 (s1))>>=fun FP=>((idx (s0.set (s1).toNat um) (ai (s1 - (1:Int))))>>=fun MY=>(some (Out.norm ((s0.set (s1).toNat um).set (ai (s1 - (1:Int))).toNat MX,ai (s1 - (1:Int))))))))) else (some (Out.exit 8 (s0,s1)))))
theorem oA:∀ a0 a1,aX (lK a0 a1) (iI a0 a1):=by
 intros; unfold lK iI
 repeat' first
  | with_reducible exact aX.refl _
  | exact nW _ _
  | refine aX.an ?_
  | refine aX.ah ?_ (fun _=>?_)
  | refine aX.ab ?_
  | refine aX.loop (fun _=>?_)
  | refine aX.bind ?_ (fun _=>?_)
  | refine aX.cond ?_ ?_
  | split
def lL (s0:(List bA)) (s1:Int):Option (Out ((List bA)×Int) ((List bA))):=
 (bif decide (s1 < (s0.length:Int)) then (ah (ab 8 (rE (fun s=>lK s.1 s.2) (s0,s1))) (fun (s0,s2)=>(some (Out.norm (s0,ai (s1+(1:Int))))))) else (some (Out.exit 6 (s0,s1))))
theorem oB:∀ a0 a1,aX (lL a0 a1) (iJ a0 a1):=by
 intros; unfold lL iJ
 repeat' first
  | with_reducible exact aX.refl _
  | exact oA _ _
  | refine aX.an ?_
  | refine aX.ah ?_ (fun _=>?_)
  | refine aX.ab ?_
  | refine aX.loop (fun _=>?_)
  | refine aX.bind ?_ (fun _=>?_)
  | refine aX.cond ?_ ?_
  | split
def mX (x0:Int) (x1:(List Int)) (x2:(List Int)):Option ((List bA)):=
 an (S:=Unit) (ah (ab 0 (rE (fun s=>lG x0 s.1 s.2) (([]:(List bA)),(0:Int)))) (fun (s0,s1)=>(ah (ab 2 (rE (fun s=>lJ x1 x2 s.1 s.2) (s0,(0:Int)))) (fun (s0,s1)=>(ah (ab 6 (rE (fun s=>lL s.1 s.2) (s0,(1:Int)))) (fun (s0,s1)=>(some (Out.ret (s0)))))))))
theorem oN:∀ a0 a1 a2,aX (mX a0 a1 a2) (iY a0 a1 a2):=by
 intros; unfold mX iY
 repeat' first
  | with_reducible exact aX.refl _
  | exact nX _ _ _
  | exact nZ _ _ _ _
  | exact oB _ _
  | refine aX.an ?_
  | refine aX.ah ?_ (fun _=>?_)
  | refine aX.ab ?_
  | refine aX.loop (fun _=>?_)
  | refine aX.bind ?_ (fun _=>?_)
  | refine aX.cond ?_ ?_
  | split
def mL (x0:aD):Option (Bool):=
 an (S:=Unit) (((bif decide (x0.aA≤(8:Int)) then (some (decide ((x0.aB.length:Int)≤(40:Int)))) else (some (false))))>>=fun g8=>(some (Out.ret (g8))))
theorem oH:∀ a0,aX (mL a0) (cI a0):=by
 intros; unfold mL cI
 repeat' first
  | with_reducible exact aX.refl _
  | refine aX.an ?_
  | refine aX.ah ?_ (fun _=>?_)
  | refine aX.ab ?_
  | refine aX.loop (fun _=>?_)
  | refine aX.bind ?_ (fun _=>?_)
  | refine aX.cond ?_ ?_
  | split
def kM (x0:(List Int)) (x1:(List Int)) (bm:Int):Option (Out (Int) (Bool)):=
 (bif decide (bm < (x0.length:Int)) then ((idx x0 (bm))>>=fun sP=>((idx x1 (bm))>>=fun Cr=>(bif (sP) != (Cr) then (some (Out.ret (false))) else (some (Out.norm (ai (bm+(1:Int)))))))) else (some (Out.exit 0 (bm))))
theorem nV:∀ a0 a1 a2,aX (kM a0 a1 a2) (jD a0 a1 a2):=by
 intros; unfold kM jD
 repeat' first
  | with_reducible exact aX.refl _
  | refine aX.an ?_
  | refine aX.ah ?_ (fun _=>?_)
  | refine aX.ab ?_
  | refine aX.loop (fun _=>?_)
  | refine aX.bind ?_ (fun _=>?_)
  | refine aX.cond ?_ ?_
  | split
def mM (x0:(List Int)) (x1:(List Int)):Option (Bool):=
 an (S:=Unit) (bif ((x0.length:Int)) != ((x1.length:Int)) then (some (Out.ret (false))) else (ah (ab 0 (rE (kM x0 x1) ((0:Int)))) (fun bm=>(some (Out.ret (true))))))
theorem oI:∀ a0 a1,aX (mM a0 a1) (cT a0 a1):=by
 intros; unfold mM cT
 repeat' first
  | with_reducible exact aX.refl _
  | exact nV _ _ _
  | refine aX.an ?_
  | refine aX.ah ?_ (fun _=>?_)
  | refine aX.ab ?_
  | refine aX.loop (fun _=>?_)
  | refine aX.bind ?_ (fun _=>?_)
  | refine aX.cond ?_ ?_
  | split
def jS (y8:(List bA)) (ep:Int) (jd:(List Int)) (je:(List Int)) (l9:(List Int)):Option (Out (Int×(List Int)×(List Int)×(List Int)) (aD)):=
 (bif decide (ep < (y8.length:Int)) then ((idx y8 (ep))>>=fun Bo=>((fits 8 (jd.length+1))>>=fun n134=>((idx y8 (ep))>>=fun FR=>((fits 8 (je.length+1))>>=fun n173=>((idx y8 (ep))>>=fun MZ=>(bif ((MZ.ko.length:Int)) == ((0:Int)) then ((idx y8 (ep))>>=fun FU=>((idx l9 (FU.aB))>>=fun X0=>(some (Out.norm (ai (ep+(1:Int)),jd++[Bo.aB],je++[FR.To],l9.set (FU.aB).toNat (ep)))))) else (some (Out.norm (ai (ep+(1:Int)),jd++[Bo.aB],je++[FR.To],l9))))))))) else (some (Out.exit 0 (ep,jd,je,l9))))
theorem nP:∀ a0 a1 a2 a3 a4,aX (jS a0 a1 a2 a3 a4) (gA a0 a1 a2 a3 a4):=by
 intros; unfold jS gA
 repeat' first
  | with_reducible exact aX.refl _
  | refine aX.an ?_
  | refine aX.ah ?_ (fun _=>?_)
  | refine aX.ab ?_
  | refine aX.loop (fun _=>?_)
  | refine aX.bind ?_ (fun _=>?_)
  | refine aX.cond ?_ ?_
  | split
def jT (y8:(List bA)) (eh:Int) (tu:(List Int)) (vB:bA) (uO:Int) (ph:Int):Option (Out (Int×Int) (aD)):=
 (bif decide (ph < (y8.length:Int)) then ((((idx y8 (ph))>>=fun M0=>((idx y8 (eh))>>=fun M1=>(bif (M0.aB) == (M1.aB) then ((idx y8 (ph))>>=fun M3=>((mM M3.ko (tu++vB.ko))>>=fun M4=>(some (M4)))) else (some (false))))))>>=fun M5=>(bif M5 then (some (Out.norm (ph,ai (ph+(1:Int))))) else (some (Out.norm (uO,ai (ph+(1:Int))))))) else (some (Out.exit 6 (uO,ph))))
theorem nQ:∀ a0 a1 a2 a3 a4 a5,aX (jT a0 a1 a2 a3 a4 a5) (gB a0 a1 a2 a3 a4 a5):=by
 intros; unfold jT gB
 repeat' first
  | with_reducible exact aX.refl _
  | exact oI _ _
  | refine aX.an ?_
  | refine aX.ah ?_ (fun _=>?_)
  | refine aX.ab ?_
  | refine aX.loop (fun _=>?_)
  | refine aX.bind ?_ (fun _=>?_)
  | refine aX.cond ?_ ?_
  | split
def jU (y8:(List bA)) (eh:Int) (me:(List Int)) (qh:Int):Option (Out ((List Int)×Int) (aD)):=
 (bif decide (qh < (y8.length:Int)) then ((idx y8 (eh))>>=fun M6=>((idx y8 (qh))>>=fun M7=>(bif (M6.To) == (M7.aB) then ((idx y8 (eh))>>=fun M8=>((kV M8.ko)>>=fun tu=>((idx y8 (qh))>>=fun vB=>((fits 8 (tu.length+vB.ko.length))>>=fun X1=>(ah (ab 6 (rE (fun s=>jT y8 eh tu vB s.1 s.2) ((-1:Int),(0:Int)))) (fun (uO,ph)=>((fits 8 (me.length+1))>>=fun X2=>(some (Out.norm (me++[uO],ai (qh+(1:Int)))))))))))) else ((fits 8 (me.length+1))>>=fun X3=>(some (Out.norm (me++[(-1:Int)],ai (qh+(1:Int))))))))) else (some (Out.exit 4 (me,qh))))
theorem nR:∀ a0 a1 a2 a3,aX (jU a0 a1 a2 a3) (gC a0 a1 a2 a3):=by
 intros; unfold jU gC
 repeat' first
  | with_reducible exact aX.refl _
  | exact nJ _
  | exact nQ _ _ _ _ _ _
  | refine aX.an ?_
  | refine aX.ah ?_ (fun _=>?_)
  | refine aX.ab ?_
  | refine aX.loop (fun _=>?_)
  | refine aX.bind ?_ (fun _=>?_)
  | refine aX.cond ?_ ?_
  | split
def jV (y8:(List bA)) (eh:Int) (nu:(List (List Int))):Option (Out (Int×(List (List Int))) (aD)):=
 (bif decide (eh < (y8.length:Int)) then (ah (ab 4 (rE (fun s=>jU y8 eh s.1 s.2) (([]:(List Int)),(0:Int)))) (fun (me,qh)=>((fits 24 (nu.length+1))>>=fun X4=>(some (Out.norm (ai (eh+(1:Int)),nu++[me])))))) else (some (Out.exit 2 (eh,nu))))
theorem nS:∀ a0 a1 a2,aX (jV a0 a1 a2) (eN a0 a1 a2):=by
 intros; unfold jV eN
 repeat' first
  | with_reducible exact aX.refl _
  | exact nR _ _ _ _
  | refine aX.an ?_
  | refine aX.ah ?_ (fun _=>?_)
  | refine aX.ab ?_
  | refine aX.loop (fun _=>?_)
  | refine aX.bind ?_ (fun _=>?_)
  | refine aX.cond ?_ ?_
  | split
def jG (x0:Int) (x1:(List Int)) (x2:(List Int)):Option (aD):=
 an (S:=Unit) ((mX (x0) x1 x2)>>=fun y8=>((mk 8 (x0))>>=fun n36=>(ah (ab 0 (rE (fun s=>jS y8 s.1 s.2.1 s.2.2.1 s.2.2.2) ((0:Int),([]:(List Int)),([]:(List Int)),List.replicate n36 (0:Int)))) (fun (ep,jd,je,l9)=>((mL (aD.mk x0 jd je l9 (([]:(List (List Int))))))>>=fun M9=>(bif !(M9) then (some (Out.ret ((aD.mk x0 jd je l9 (([]:(List (List Int)))))))) else (ah (ab 2 (rE (fun s=>jV y8 s.1 s.2) ((0:Int),([]:(List (List Int)))))) (fun (eh,nu)=>(some (Out.ret ((aD.mk x0 jd je l9 nu))))))))))))
theorem oF:∀ a0 a1 a2,aX (jG a0 a1 a2) (dD a0 a1 a2):=by
 intros; unfold jG dD
 repeat' first
  | with_reducible exact aX.refl _
  | exact oN _ _ _
  | exact oH _
  | exact nP _ _ _ _ _
  | exact nS _ _ _
  | refine aX.an ?_
  | refine aX.ah ?_ (fun _=>?_)
  | refine aX.ab ?_
  | refine aX.loop (fun _=>?_)
  | refine aX.bind ?_ (fun _=>?_)
  | refine aX.cond ?_ ?_
  | split
end Go.Proofs.YtcnehblmgfbfoaaGreat
set_option linter.unusedVariables false
set_option linter.unusedSimpArgs false
namespace Go.Proofs.YtcnehblmgfbfoaaGreat
open Go Go.Li
def Ie (n:Nat):List (Int×Int):=(List.range n).flatMap fun (u:Nat)=>((List.range n).filter fun (v:Nat)=>Nat.blt u v).map fun (v:Nat)=>(Int.ofNat u,Int.ofNat v)
def uE (n:Nat):Nat→List (List (Int×Int))
 | 0=>[[]]
 | k+1=>(uE n k).flatMap fun l=>(Ie n).map fun p=>p :: l
def Di (n:Nat) (l:List (Int×Int)):Bool:=match jG n (l.map (·.1)) (l.map (·.2)) with
 | some c=>Uu c
 | none=>false
theorem Uz:((uE 2 0++uE 2 1++uE 2 2++uE 2 3).all (Di 2))=true:=by kernel_rfl
theorem UA:((uE 3 0++uE 3 1++uE 3 2++uE 3 3).all (Di 3))=true:=by kernel_rfl
theorem Qq:((uE 4 0++uE 4 1++uE 4 2).all (Di 4))=true:=by kernel_rfl
theorem Qr:((uE 4 3).all (Di 4))=true:=by kernel_rfl
theorem Qs {n:Nat} {u v:Int} (u0:0≤u) (uv:u < v) (v1:v < n):(u,v)∈Ie n:=by
 unfold Ie
 rw [List.mem_flatMap]
 refine ⟨u.toNat,by rw [List.mem_range]; omega,List.mem_map.2 ⟨v.toNat,List.mem_filter.2 ⟨by rw [List.mem_range]; omega,?_⟩,?_⟩⟩
 ·rw [Nat.blt_eq]; omega
 ·rw [show Int.ofNat u.toNat=u by show ((u.toNat:Nat):Int)=u; omega,show Int.ofNat v.toNat=v by show ((v.toNat:Nat):Int)=v; omega]
theorem Qt {n:Nat}:∀ {l:List (Int×Int)},(∀ p∈l,p∈Ie n)→l∈uE n l.length:=by
 intro l
 induction l with
 | nil=>intro _; exact List.mem_singleton.2 rfl
 | cons p l ih=>
  intro h
  show p :: l∈(uE n l.length).flatMap fun l=>(Ie n).map fun p=>p :: l
  exact List.mem_flatMap.2 ⟨l,ih fun q hq=>h q (List.mem_cons_of_mem _ hq),List.mem_map.2 ⟨p,h p (by simp),rfl⟩⟩
theorem De {n:Nat} {f t:List Int} (hn:n=2∨n=3∨n=4) (hl:t.length=f.length) (hk:f.length≤3) (h:∀ (i:Nat) u v,f[i]? = some u→t[i]? = some v→0≤u∧u < v∧v < n):Ok (dD n f t) Ty:=by
 have hm:f.zip t∈uE n f.length:=by
  have h1:∀ p∈f.zip t,p∈Ie n:=fun p hp=>by
   obtain ⟨i,hi⟩:=List.getElem?_of_mem hp
   obtain ⟨e1,e2⟩:=xy hi
   obtain ⟨a,b,c⟩:=h i _ _ e1 e2
   exact Qs a b c
  have:=Qt h1
  rwa [List.length_zip,hl,Nat.min_self] at this
 have hc:Di n (f.zip t)=true:=by
  have two:=List.all_eq_true.1 Uz
  have three:=List.all_eq_true.1 UA
  have four:=List.all_eq_true.1 Qq
  have Vv:=List.all_eq_true.1 Qr
  simp only [List.mem_append] at two three four
  have yW:f.length=0∨f.length=1∨f.length=2∨f.length=3:=by omega
  rcases hn with rfl | rfl | rfl <;> rcases yW with e | e | e | e <;> rw [e] at hm
  ·exact two _ (.inl (.inl (.inl hm)))
  ·exact two _ (.inl (.inl (.inr hm)))
  ·exact two _ (.inl (.inr hm))
  ·exact two _ (.inr hm)
  ·exact three _ (.inl (.inl (.inl hm)))
  ·exact three _ (.inl (.inl (.inr hm)))
  ·exact three _ (.inl (.inr hm))
  ·exact three _ (.inr hm)
  ·exact four _ (.inl (.inl hm))
  ·exact four _ (.inl (.inr hm))
  ·exact four _ (.inr hm)
  ·exact Vv _ hm
 unfold Di at hc
 rw [List.map_fst_zip (by omega),List.map_snd_zip (by omega)] at hc
 cases hp:jG n f t with
 | none=>rw [hp] at hc; cases hc
 | some c=>rw [hp] at hc; exact ⟨c,oF _ _ _ _ hp,Pn hc⟩
end Go.Proofs.YtcnehblmgfbfoaaGreat
