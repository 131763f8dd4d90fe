/- Models that compute: their loops with fuel; what they give the models give. No condition beside those that each theorem names. -/
import Derived.Test.YtjdkifckhidlbaaGreatYt
import Derived.KernelRfl
import Derived.Test.YtjdkifckhidlbaaGreatYw
namespace Go.Proofs.YtjdkifckhidlbaaGreat
open Go Go.Li
set_option linter.unusedVariables false
def ba {α:Type} (m m':Option α):Prop:=∀ o,m=some o→m'=some o
theorem ba.refl {α:Type} (m:Option α):ba m m:=fun _ h=>h
theorem ba.ao {S R:Type} {m m':Option (Out S R)} (h:ba m m'):ba (ao m) (ao m'):=fun o ho=>by
 have h1:=Di ho
 rw [h _ h1]; rfl
theorem ba.bind {α β:Type} {m m':Option α} {f f':α→Option β} (h:ba m m') (k:∀ x,ba (f x) (f' x)):ba (m>>=f) (m'>>=f'):=fun o ho=>by
 cases hm:m with
 | none=>rw [hm] at ho; cases ho
 | some x=>rw [hm] at ho; rw [h x hm]; exact k x o ho
theorem ba.cond {α:Type} {b:Bool} {x x' y y':Option α} (h:ba x x') (k:ba y y'):ba (bif b then x else y) (bif b then x' else y'):=by
 cases b with
 | true=>exact h
 | false=>exact k
theorem ba.ah {S S1 R:Type} {m m':Option (Out S1 R)} {f f':S1→Option (Out S R)} (h:ba m m') (k:∀ x,ba (f x) (f' x)):ba (ah m f) (ah m' f'):=fun o ho=>by
 unfold Go.Li.ah at ho ⊢
 cases hm:m with
 | none=>rw [hm] at ho; cases ho
 | some x=>
  rw [hm] at ho
  rw [h x hm]
  cases x with
  | norm s=>exact k s o ho
  | _=>exact ho
theorem ba.af {S R:Type} {n:Nat} {m m':Option (Out S R)} (h:ba m m'):ba (af n m) (af n m'):=fun o ho=>by
 unfold Go.Li.af at ho ⊢
 cases hm:m with
 | none=>rw [hm] at ho; cases ho
 | some x=>rw [hm] at ho; rw [h x hm]; exact ho
def sE {S R:Type} (body:S→Option (Out S R)) (s:S):Option (Out S R):=oK body 300 s
theorem N2 {S R:Type} {b b':S→Option (Out S R)} (h:∀ s,ba (b s) (b' s)):∀ k s,ba (oK b k s) (oK b' k s):=by
 intro k
 induction k with
 | zero=>intro s o ho; cases ho
 | succ k ih=>
  intro s o ho
  unfold oK at ho ⊢
  cases hm:b s with
  | none=>rw [hm] at ho; cases ho
  | some x=>
   rw [hm] at ho
   rw [h s x hm]
   cases x with
   | norm s'=>exact ih s' o ho
   | _=>exact ho
theorem ba.loop {S R:Type} {b b':S→Option (Out S R)} {s:S} (h:∀ s,ba (b s) (b' s)):ba (sE b s) (aj b' s):=fun o ho=>uW.2 ⟨300,N2 h 300 s o ho⟩
def mT (x0:(List Int)):Option ((List Int)):=
 ao (S:=Unit) ((fits 8 ((([]:(List Int))).length+x0.length))>>=fun n15=>(some (Out.ret ((([]:(List Int))++x0)))))
theorem pY:∀ a0,ba (mT a0) (dC a0):=by
 intros; unfold mT dC
 repeat' first
  | with_reducible exact ba.refl _
  | refine ba.ao ?_
  | refine ba.ah ?_ (fun _=>?_)
  | refine ba.af ?_
  | refine ba.loop (fun _=>?_)
  | refine ba.bind ?_ (fun _=>?_)
  | refine ba.cond ?_ ?_
  | split
def mH (x0:(List Int)) (x1:(List Int)) (bn:Int):Option (Out (Int) (Bool)):=
 (((bif decide (bn < (x0.length:Int)) then (some (decide (bn < (x1.length:Int)))) else (some (false))))>>=fun g6=>(bif g6 then ((idx x0 (bn))>>=fun Ku=>((idx x1 (bn))>>=fun tH=>(bif (Ku) != (tH) then ((idx x0 (bn))>>=fun HI=>((idx x1 (bn))>>=fun zI=>(some (Out.ret ((decide (HI < zI))))))) else (some (Out.norm (an (bn+(1:Int)))))))) else (some (Out.exit 0 (bn)))))
theorem qG:∀ a0 a1 a2,ba (mH a0 a1 a2) (eU a0 a1 a2):=by
 intros; unfold mH eU
 repeat' first
  | with_reducible exact ba.refl _
  | refine ba.ao ?_
  | refine ba.ah ?_ (fun _=>?_)
  | refine ba.af ?_
  | refine ba.loop (fun _=>?_)
  | refine ba.bind ?_ (fun _=>?_)
  | refine ba.cond ?_ ?_
  | split
def oX (x0:(List Int)) (x1:(List Int)):Option (Bool):=
 ao (S:=Unit) (ah (af 0 (sE (mH x0 x1) ((0:Int)))) (fun bn=>(some (Out.ret ((decide ((x0.length:Int) < (x1.length:Int))))))))
theorem qR:∀ a0 a1,ba (oX a0 a1) (kZ a0 a1):=by
 intros; unfold oX kZ
 repeat' first
  | with_reducible exact ba.refl _
  | exact qG _ _ _
  | refine ba.ao ?_
  | refine ba.ah ?_ (fun _=>?_)
  | refine ba.af ?_
  | refine ba.loop (fun _=>?_)
  | refine ba.bind ?_ (fun _=>?_)
  | refine ba.cond ?_ ?_
  | split
def nH (x0:cC) (x1:cC):Option (Bool):=
 ao (S:=Unit) (bif (x0.aG) != (x1.aG) then (some (Out.ret ((decide (x0.aG < x1.aG))))) else (bif (x0.To) != (x1.To) then (some (Out.ret ((decide (x0.To < x1.To))))) else ((oX x0.ly x1.ly)>>=fun zL=>(some (Out.ret (zL))))))
theorem qI:∀ a0 a1,ba (nH a0 a1) (iN a0 a1):=by
 intros; unfold nH iN
 repeat' first
  | with_reducible exact ba.refl _
  | exact qR _ _
  | refine ba.ao ?_
  | refine ba.ah ?_ (fun _=>?_)
  | refine ba.af ?_
  | refine ba.loop (fun _=>?_)
  | refine ba.bind ?_ (fun _=>?_)
  | refine ba.cond ?_ ?_
  | split
def nI (x0:Int) (s0:(List cC)) (s1:Int):Option (Out ((List cC)×Int) ((List cC))):=
 (bif decide (s1 < x0) then ((fits 40 (s0.length+1))>>=fun n26=>(some (Out.norm (s0++[cC.mk s1 s1 []],an (s1+(1:Int)))))) else (some (Out.exit 0 (s0,s1))))
theorem qJ:∀ a0 a1 a2,ba (nI a0 a1 a2) (jV a0 a1 a2):=by
 intros; unfold nI jV
 repeat' first
  | with_reducible exact ba.refl _
  | refine ba.ao ?_
  | refine ba.ah ?_ (fun _=>?_)
  | refine ba.af ?_
  | refine ba.loop (fun _=>?_)
  | refine ba.bind ?_ (fun _=>?_)
  | refine ba.cond ?_ ?_
  | split
def nJ (x1:(List Int)) (x2:(List Int)) (s1:Int) (s0:(List cC)) (s2:Int):Option (Out ((List cC)×Int) ((List cC))):=
 (bif decide (s2 < (x1.length:Int)) then ((idx x1 (s2))>>=fun FG=>((idx s0 (s1))>>=fun Kv=>(bif (FG) == (Kv.To) then ((idx s0 (s1))>>=fun Se=>((idx x2 (s2))>>=fun AU=>((idx s0 (s1))>>=fun Sf=>((mT Sf.ly)>>=fun Kw=>((fits 8 (Kw.length+1))>>=fun n72=>((fits 40 (s0.length+1))>>=fun n75=>(some (Out.norm (s0++[cC.mk Se.aG AU (Kw++[s2])],an (s2+(1:Int))))))))))) else (some (Out.norm (s0,an (s2+(1:Int)))))))) else (some (Out.exit 4 (s0,s2))))
theorem qK:∀ a0 a1 a2 a3 a4,ba (nJ a0 a1 a2 a3 a4) (iO a0 a1 a2 a3 a4):=by
 intros; unfold nJ iO
 repeat' first
  | with_reducible exact ba.refl _
  | exact pY _
  | refine ba.ao ?_
  | refine ba.ah ?_ (fun _=>?_)
  | refine ba.af ?_
  | refine ba.loop (fun _=>?_)
  | refine ba.bind ?_ (fun _=>?_)
  | refine ba.cond ?_ ?_
  | split
def nK (x1:(List Int)) (x2:(List Int)) (s0:(List cC)) (s1:Int):Option (Out ((List cC)×Int) ((List cC))):=
 (((bif decide (s1 < (s0.length:Int)) then (some (decide ((s0.length:Int)≤(40:Int)))) else (some (false))))>>=fun Sg=>(bif Sg then (ah (af 4 (sE (fun s=>nJ x1 x2 s1 s.1 s.2) (s0,(0:Int)))) (fun (s0,s2)=>(some (Out.norm (s0,an (s1+(1:Int))))))) else (some (Out.exit 2 (s0,s1)))))
theorem qL:∀ a0 a1 a2 a3,ba (nK a0 a1 a2 a3) (jW a0 a1 a2 a3):=by
 intros; unfold nK jW
 repeat' first
  | with_reducible exact ba.refl _
  | exact qK _ _ _ _ _
  | refine ba.ao ?_
  | refine ba.ah ?_ (fun _=>?_)
  | refine ba.af ?_
  | refine ba.loop (fun _=>?_)
  | refine ba.bind ?_ (fun _=>?_)
  | refine ba.cond ?_ ?_
  | split
def nL (s0:(List cC)) (s1:Int):Option (Out ((List cC)×Int) ((List cC))):=
 (((bif decide ((0:Int) < s1) then ((idx s0 (s1))>>=fun AV=>((idx s0 (an (s1 - (1:Int))))>>=fun Ca=>((nH AV Ca)>>=fun Kx=>(some (Kx))))) else (some (false))))>>=fun Sh=>(bif Sh then ((idx s0 (s1))>>=fun MG=>((idx s0 (an (s1 - (1:Int))))>>=fun tG=>((idx s0 (s1))>>=fun Bp=>((idx (s0.set (s1).toNat tG) (an (s1 - (1:Int))))>>=fun MH=>(some (Out.norm ((s0.set (s1).toNat tG).set (an (s1 - (1:Int))).toNat MG,an (s1 - (1:Int))))))))) else (some (Out.exit 8 (s0,s1)))))
theorem qM:∀ a0 a1,ba (nL a0 a1) (jX a0 a1):=by
 intros; unfold nL jX
 repeat' first
  | with_reducible exact ba.refl _
  | exact qI _ _
  | refine ba.ao ?_
  | refine ba.ah ?_ (fun _=>?_)
  | refine ba.af ?_
  | refine ba.loop (fun _=>?_)
  | refine ba.bind ?_ (fun _=>?_)
  | refine ba.cond ?_ ?_
  | split
def nM (s0:(List cC)) (s1:Int):Option (Out ((List cC)×Int) ((List cC))):=
 (bif decide (s1 < (s0.length:Int)) then (ah (af 8 (sE (fun s=>nL s.1 s.2) (s0,s1))) (fun (s0,s2)=>(some (Out.norm (s0,an (s1+(1:Int))))))) else (some (Out.exit 6 (s0,s1))))
theorem qN:∀ a0 a1,ba (nM a0 a1) (jY a0 a1):=by
 intros; unfold nM jY
 repeat' first
  | with_reducible exact ba.refl _
  | exact qM _ _
  | refine ba.ao ?_
  | refine ba.ah ?_ (fun _=>?_)
  | refine ba.af ?_
  | refine ba.loop (fun _=>?_)
  | refine ba.bind ?_ (fun _=>?_)
  | refine ba.cond ?_ ?_
  | split
def pM (x0:Int) (x1:(List Int)) (x2:(List Int)):Option ((List cC)):=
 ao (S:=Unit) (ah (af 0 (sE (fun s=>nI x0 s.1 s.2) (([]:(List cC)),(0:Int)))) (fun (s0,s1)=>(ah (af 2 (sE (fun s=>nK x1 x2 s.1 s.2) (s0,(0:Int)))) (fun (s0,s1)=>(ah (af 6 (sE (fun s=>nM s.1 s.2) (s0,(1:Int)))) (fun (s0,s1)=>(some (Out.ret (s0)))))))))
theorem qW:∀ a0 a1 a2,ba (pM a0 a1 a2) (kQ a0 a1 a2):=by
 intros; unfold pM kQ
 repeat' first
  | with_reducible exact ba.refl _
  | exact qJ _ _ _
  | exact qL _ _ _ _
  | exact qN _ _
  | refine ba.ao ?_
  | refine ba.ah ?_ (fun _=>?_)
  | refine ba.af ?_
  | refine ba.loop (fun _=>?_)
  | refine ba.bind ?_ (fun _=>?_)
  | refine ba.cond ?_ ?_
  | split
def oY (x0:aI):Option (Bool):=
 ao (S:=Unit) (((bif decide (x0.aA≤(8:Int)) then (some (decide ((x0.aG.length:Int)≤(40:Int)))) else (some (false))))>>=fun g8=>(some (Out.ret (g8))))
theorem qS:∀ a0,ba (oY a0) (dR a0):=by
 intros; unfold oY dR
 repeat' first
  | with_reducible exact ba.refl _
  | refine ba.ao ?_
  | refine ba.ah ?_ (fun _=>?_)
  | refine ba.af ?_
  | refine ba.loop (fun _=>?_)
  | refine ba.bind ?_ (fun _=>?_)
  | refine ba.cond ?_ ?_
  | split
def mI (x0:(List Int)) (x1:(List Int)) (bn:Int):Option (Out (Int) (Bool)):=
 (bif decide (bn < (x0.length:Int)) then ((idx x0 (bn))>>=fun tH=>((idx x1 (bn))>>=fun FH=>(bif (tH) != (FH) then (some (Out.ret (false))) else (some (Out.norm (an (bn+(1:Int)))))))) else (some (Out.exit 0 (bn))))
theorem qH:∀ a0 a1 a2,ba (mI a0 a1 a2) (kV a0 a1 a2):=by
 intros; unfold mI kV
 repeat' first
  | with_reducible exact ba.refl _
  | refine ba.ao ?_
  | refine ba.ah ?_ (fun _=>?_)
  | refine ba.af ?_
  | refine ba.loop (fun _=>?_)
  | refine ba.bind ?_ (fun _=>?_)
  | refine ba.cond ?_ ?_
  | split
def oZ (x0:(List Int)) (x1:(List Int)):Option (Bool):=
 ao (S:=Unit) (bif ((x0.length:Int)) != ((x1.length:Int)) then (some (Out.ret (false))) else (ah (af 0 (sE (mI x0 x1) ((0:Int)))) (fun bn=>(some (Out.ret (true))))))
theorem qT:∀ a0 a1,ba (oZ a0 a1) (eP a0 a1):=by
 intros; unfold oZ eP
 repeat' first
  | with_reducible exact ba.refl _
  | exact qH _ _ _
  | refine ba.ao ?_
  | refine ba.ah ?_ (fun _=>?_)
  | refine ba.af ?_
  | refine ba.loop (fun _=>?_)
  | refine ba.bind ?_ (fun _=>?_)
  | refine ba.cond ?_ ?_
  | split
def lO (y8:(List cC)) (de:Int) (jg:(List Int)) (jh:(List Int)) (mm:(List Int)):Option (Out (Int×(List Int)×(List Int)×(List Int)) (aI)):=
 (bif decide (de < (y8.length:Int)) then ((idx y8 (de))>>=fun Bq=>((fits 8 (jg.length+1))>>=fun n134=>((idx y8 (de))>>=fun FI=>((fits 8 (jh.length+1))>>=fun n173=>((idx y8 (de))>>=fun MI=>(bif ((MI.ly.length:Int)) == ((0:Int)) then ((idx y8 (de))>>=fun FK=>((idx mm (FK.aG))>>=fun Yc=>(some (Out.norm (an (de+(1:Int)),jg++[Bq.aG],jh++[FI.To],mm.set (FK.aG).toNat (de)))))) else (some (Out.norm (an (de+(1:Int)),jg++[Bq.aG],jh++[FI.To],mm))))))))) else (some (Out.exit 0 (de,jg,jh,mm))))
theorem qC:∀ a0 a1 a2 a3 a4,ba (lO a0 a1 a2 a3 a4) (iU a0 a1 a2 a3 a4):=by
 intros; unfold lO iU
 repeat' first
  | with_reducible exact ba.refl _
  | refine ba.ao ?_
  | refine ba.ah ?_ (fun _=>?_)
  | refine ba.af ?_
  | refine ba.loop (fun _=>?_)
  | refine ba.bind ?_ (fun _=>?_)
  | refine ba.cond ?_ ?_
  | split
def lP (y8:(List cC)) (fj:Int) (uo:(List Int)) (v7:cC) (vy:Int) (pw:Int):Option (Out (Int×Int) (aI)):=
 (bif decide (pw < (y8.length:Int)) then ((((idx y8 (pw))>>=fun MJ=>((idx y8 (fj))>>=fun MK=>(bif (MJ.aG) == (MK.aG) then ((idx y8 (pw))>>=fun ML=>((oZ ML.ly (uo++v7.ly))>>=fun MN=>(some (MN)))) else (some (false))))))>>=fun MO=>(bif MO then (some (Out.norm (pw,an (pw+(1:Int))))) else (some (Out.norm (vy,an (pw+(1:Int))))))) else (some (Out.exit 6 (vy,pw))))
theorem qD:∀ a0 a1 a2 a3 a4 a5,ba (lP a0 a1 a2 a3 a4 a5) (iV a0 a1 a2 a3 a4 a5):=by
 intros; unfold lP iV
 repeat' first
  | with_reducible exact ba.refl _
  | exact qT _ _
  | refine ba.ao ?_
  | refine ba.ah ?_ (fun _=>?_)
  | refine ba.af ?_
  | refine ba.loop (fun _=>?_)
  | refine ba.bind ?_ (fun _=>?_)
  | refine ba.cond ?_ ?_
  | split
def lQ (y8:(List cC)) (fj:Int) (my:(List Int)) (rj:Int):Option (Out ((List Int)×Int) (aI)):=
 (bif decide (rj < (y8.length:Int)) then ((idx y8 (fj))>>=fun MP=>((idx y8 (rj))>>=fun MQ=>(bif (MP.To) == (MQ.aG) then ((idx y8 (fj))>>=fun MR=>((mT MR.ly)>>=fun uo=>((idx y8 (rj))>>=fun v7=>((fits 8 (uo.length+v7.ly.length))>>=fun Yd=>(ah (af 6 (sE (fun s=>lP y8 fj uo v7 s.1 s.2) ((-1:Int),(0:Int)))) (fun (vy,pw)=>((fits 8 (my.length+1))>>=fun Ye=>(some (Out.norm (my++[vy],an (rj+(1:Int)))))))))))) else ((fits 8 (my.length+1))>>=fun Yf=>(some (Out.norm (my++[(-1:Int)],an (rj+(1:Int))))))))) else (some (Out.exit 4 (my,rj))))
theorem qE:∀ a0 a1 a2 a3,ba (lQ a0 a1 a2 a3) (iW a0 a1 a2 a3):=by
 intros; unfold lQ iW
 repeat' first
  | with_reducible exact ba.refl _
  | exact pY _
  | exact qD _ _ _ _ _ _
  | refine ba.ao ?_
  | refine ba.ah ?_ (fun _=>?_)
  | refine ba.af ?_
  | refine ba.loop (fun _=>?_)
  | refine ba.bind ?_ (fun _=>?_)
  | refine ba.cond ?_ ?_
  | split
def lR (y8:(List cC)) (fj:Int) (oq:(List (List Int))):Option (Out (Int×(List (List Int))) (aI)):=
 (bif decide (fj < (y8.length:Int)) then (ah (af 4 (sE (fun s=>lQ y8 fj s.1 s.2) (([]:(List Int)),(0:Int)))) (fun (my,rj)=>((fits 24 (oq.length+1))>>=fun Yg=>(some (Out.norm (an (fj+(1:Int)),oq++[my])))))) else (some (Out.exit 2 (fj,oq))))
theorem qF:∀ a0 a1 a2,ba (lR a0 a1 a2) (gI a0 a1 a2):=by
 intros; unfold lR gI
 repeat' first
  | with_reducible exact ba.refl _
  | exact qE _ _ _ _
  | refine ba.ao ?_
  | refine ba.ah ?_ (fun _=>?_)
  | refine ba.af ?_
  | refine ba.loop (fun _=>?_)
  | refine ba.bind ?_ (fun _=>?_)
  | refine ba.cond ?_ ?_
  | split
def kY (x0:Int) (x1:(List Int)) (x2:(List Int)):Option (aI):=
 ao (S:=Unit) ((pM (x0) x1 x2)>>=fun y8=>((mk 8 (x0))>>=fun n36=>(ah (af 0 (sE (fun s=>lO y8 s.1 s.2.1 s.2.2.1 s.2.2.2) ((0:Int),([]:(List Int)),([]:(List Int)),List.replicate n36 (0:Int)))) (fun (de,jg,jh,mm)=>((oY (aI.mk x0 jg jh mm (([]:(List (List Int))))))>>=fun MS=>(bif !(MS) then (some (Out.ret ((aI.mk x0 jg jh mm (([]:(List (List Int)))))))) else (ah (af 2 (sE (fun s=>lR y8 s.1 s.2) ((0:Int),([]:(List (List Int)))))) (fun (fj,oq)=>(some (Out.ret ((aI.mk x0 jg jh mm oq))))))))))))
theorem qQ:∀ a0 a1 a2,ba (kY a0 a1 a2) (fF a0 a1 a2):=by
 intros; unfold kY fF
 repeat' first
  | with_reducible exact ba.refl _
  | exact qW _ _ _
  | exact qS _
  | exact qC _ _ _ _ _
  | exact qF _ _ _
  | refine ba.ao ?_
  | refine ba.ah ?_ (fun _=>?_)
  | refine ba.af ?_
  | refine ba.loop (fun _=>?_)
  | refine ba.bind ?_ (fun _=>?_)
  | refine ba.cond ?_ ?_
  | split
end Go.Proofs.YtjdkifckhidlbaaGreat
set_option linter.unusedVariables false
set_option linter.unusedSimpArgs false
namespace Go.Proofs.YtjdkifckhidlbaaGreat
open Go Go.Li
def H6 (n:Nat):List (Int×Int):=(List.range n).flatMap fun (u:Nat)=>((List.range n).filter fun (v:Nat)=>Nat.blt u v).map fun (v:Nat)=>(Int.ofNat u,Int.ofNat v)
def vr (n:Nat):Nat→List (List (Int×Int))
 | 0=>[[]]
 | k+1=>(vr n k).flatMap fun l=>(H6 n).map fun p=>p :: l
def C9 (n:Nat) (l:List (Int×Int)):Bool:=match kY n (l.map (·.1)) (l.map (·.2)) with
 | some c=>Uu c
 | none=>false
theorem Uy:((vr 2 0++vr 2 1++vr 2 2++vr 2 3).all (C9 2))=true:=by kernel_rfl
theorem Uz:((vr 3 0++vr 3 1++vr 3 2++vr 3 3).all (C9 3))=true:=by kernel_rfl
theorem Qb:((vr 4 0++vr 4 1++vr 4 2).all (C9 4))=true:=by kernel_rfl
theorem Qc:((vr 4 3).all (C9 4))=true:=by kernel_rfl
theorem Qd {n:Nat} {u v:Int} (u0:0≤u) (uv:u < v) (v1:v < n):(u,v)∈H6 n:=by
 unfold H6
 rw [List.mem_flatMap]
 refine ⟨u.toNat,by rw [List.mem_range]; omega,List.mem_map.2 ⟨v.toNat,List.mem_filter.2 ⟨by rw [List.mem_range]; omega,?_⟩,?_⟩⟩
 ·rw [Nat.blt_eq]; omega
 ·rw [show Int.ofNat u.toNat=u by show ((u.toNat:Nat):Int)=u; omega,show Int.ofNat v.toNat=v by show ((v.toNat:Nat):Int)=v; omega]
theorem Qe {n:Nat}:∀ {l:List (Int×Int)},(∀ p∈l,p∈H6 n)→l∈vr n l.length:=by
 intro l
 induction l with
 | nil=>intro _; exact List.mem_singleton.2 rfl
 | cons p l ih=>
  intro h
  show p :: l∈(vr n l.length).flatMap fun l=>(H6 n).map fun p=>p :: l
  exact List.mem_flatMap.2 ⟨l,ih fun q hq=>h q (List.mem_cons_of_mem _ hq),List.mem_map.2 ⟨p,h p (by simp),rfl⟩⟩
theorem C3 {n:Nat} {f t:List Int} (hn:n=2∨n=3∨n=4) (hl:t.length=f.length) (hk:f.length≤3) (h:∀ (i:Nat) u v,f[i]? = some u→t[i]? = some v→0≤u∧u < v∧v < n):Ok (fF n f t) Ty:=by
 have hm:f.zip t∈vr n f.length:=by
  have h1:∀ p∈f.zip t,p∈H6 n:=fun p hp=>by
   obtain ⟨i,hi⟩:=List.getElem?_of_mem hp
   obtain ⟨e1,e2⟩:=xQ hi
   obtain ⟨a,b,c⟩:=h i _ _ e1 e2
   exact Qd a b c
  have:=Qe h1
  rwa [List.length_zip,hl,Nat.min_self] at this
 have hc:C9 n (f.zip t)=true:=by
  have two:=List.all_eq_true.1 Uy
  have three:=List.all_eq_true.1 Uz
  have four:=List.all_eq_true.1 Qb
  have VK:=List.all_eq_true.1 Qc
  simp only [List.mem_append] at two three four
  have zl:f.length=0∨f.length=1∨f.length=2∨f.length=3:=by omega
  rcases hn with rfl | rfl | rfl <;> rcases zl with e | e | e | e <;> rw [e] at hm
  ·exact two _ (.inl (.inl (.inl hm)))
  ·exact two _ (.inl (.inl (.inr hm)))
  ·exact two _ (.inl (.inr hm))
  ·exact two _ (.inr hm)
  ·exact three _ (.inl (.inl (.inl hm)))
  ·exact three _ (.inl (.inl (.inr hm)))
  ·exact three _ (.inl (.inr hm))
  ·exact three _ (.inr hm)
  ·exact four _ (.inl (.inl hm))
  ·exact four _ (.inl (.inr hm))
  ·exact four _ (.inr hm)
  ·exact VK _ hm
 unfold C9 at hc
 rw [List.map_fst_zip (by omega),List.map_snd_zip (by omega)] at hc
 cases hp:kY n f t with
 | none=>rw [hp] at hc; cases hc
 | some c=>rw [hp] at hc; exact ⟨c,qQ _ _ _ _ hp,Pd hc⟩
end Go.Proofs.YtjdkifckhidlbaaGreat
