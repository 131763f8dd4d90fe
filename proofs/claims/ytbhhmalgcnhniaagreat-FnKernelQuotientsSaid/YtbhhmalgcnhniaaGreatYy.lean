/- Models that compute: their loops with fuel; what they give the models give. No condition beside those that each theorem names. -/
import Derived.Test.YtbhhmalgcnhniaaGreatYt
import Derived.KernelRfl
import Derived.Test.YtbhhmalgcnhniaaGreatYw
set_option linter.unusedVariables false
set_option linter.unusedSectionVars false
set_option linter.unusedSimpArgs false
namespace Go.Proofs.YtbhhmalgcnhniaaGreat
open Go Go.Li
set_option linter.unusedVariables false
set_option linter.unusedSectionVars false
set_option linter.unusedSimpArgs false
def ba {α:Type} (m m':Option α):Prop:=∀ o,m=some o→m'=some o
theorem ba.refl {α:Type} (m:Option α):ba m m:=fun _ h=>h
theorem ba.aq {S R:Type} {m m':Option (Out S R)} (h:ba m m'):ba (aq m) (aq m'):=fun o ho=>by
 have h1:=Eg ho
 rw [h _ h1]; rfl
theorem ba.bind {α β:Type} {m m':Option α} {f f':α→Option β} (h:ba m m') (k:∀ x,ba (f x) (f' x)):ba (m>>=f) (m'>>=f'):=fun o ho=>by
 cases hm:m with
 | none=>rw [hm] at ho; cases ho
 | some x=>rw [hm] at ho; rw [h x hm]; exact k x o ho
theorem ba.cond {α:Type} {b:Bool} {x x' y y':Option α} (h:ba x x') (k:ba y y'):ba (bif b then x else y) (bif b then x' else y'):=by
 cases b with
 | true=>exact h
 | false=>exact k
theorem ba.ae {S S1 R:Type} {m m':Option (Out S1 R)} {f f':S1→Option (Out S R)} (h:ba m m') (k:∀ x,ba (f x) (f' x)):ba (ae m f) (ae m' f'):=fun o ho=>by
 unfold Go.Li.ae at ho ⊢
 cases hm:m with
 | none=>rw [hm] at ho; cases ho
 | some x=>
  rw [hm] at ho
  rw [h x hm]
  cases x with
  | norm s=>exact k s o ho
  | _=>exact ho
theorem ba.ab {S R:Type} {n:Nat} {m m':Option (Out S R)} (h:ba m m'):ba (ab n m) (ab n m'):=fun o ho=>by
 unfold Go.Li.ab at ho ⊢
 cases hm:m with
 | none=>rw [hm] at ho; cases ho
 | some x=>rw [hm] at ho; rw [h x hm]; exact ho
def si {S R:Type} (body:S→Option (Out S R)) (s:S):Option (Out S R):=o3 body 300 s
theorem PY {S R:Type} {b b':S→Option (Out S R)} (h:∀ s,ba (b s) (b' s)):∀ k s,ba (o3 b k s) (o3 b' k s):=by
 intro k
 induction k with
 | zero=>intro s o ho; cases ho
 | succ k ih=>
  intro s o ho
  unfold o3 at ho ⊢
  cases hm:b s with
  | none=>rw [hm] at ho; cases ho
  | some x=>
   rw [hm] at ho
   rw [h s x hm]
   cases x with
   | norm s'=>exact ih s' o ho
   | _=>exact ho
theorem ba.loop {S R:Type} {b b':S→Option (Out S R)} {s:S} (h:∀ s,ba (b s) (b' s)):ba (si b s) (aj b' s):=fun o ho=>uI.2 ⟨300,PY h 300 s o ho⟩
def mG (x0:(List Int)):Option ((List Int)):=
 aq (S:=Unit) ((fits 8 ((([]:(List Int))).length+x0.length))>>=fun n15=>(some (Out.ret ((([]:(List Int))++x0)))))
theorem oH:∀ a0,ba (mG a0) (bZ a0):=by
 intros; unfold mG bZ
 repeat' first
  | with_reducible exact ba.refl _
  | refine ba.aq ?_
  | refine ba.ae ?_ (fun _=>?_)
  | refine ba.ab ?_
  | refine ba.loop (fun _=>?_)
  | refine ba.bind ?_ (fun _=>?_)
  | refine ba.cond ?_ ?_
  | split
def lS (x0:(List Int)) (x1:(List Int)) (aX:Int):Option (Out (Int) (Bool)):=
 (((bif decide (aX < (x0.length:Int)) then (some (decide (aX < (x1.length:Int)))) else (some (false))))>>=fun g6=>(bif g6 then ((idx x0 (aX))>>=fun Gy=>((idx x1 (aX))>>=fun uL=>(bif (Gy) != (uL) then ((idx x0 (aX))>>=fun IF=>((idx x1 (aX))>>=fun Ah=>(some (Out.ret ((decide (IF < Ah))))))) else (some (Out.norm (ak (aX+(1:Int)))))))) else (some (Out.exit 0 (aX)))))
theorem oS:∀ a0 a1 a2,ba (lS a0 a1 a2) (cQ a0 a1 a2):=by
 intros; unfold lS cQ
 repeat' first
  | with_reducible exact ba.refl _
  | refine ba.aq ?_
  | refine ba.ae ?_ (fun _=>?_)
  | refine ba.ab ?_
  | refine ba.loop (fun _=>?_)
  | refine ba.bind ?_ (fun _=>?_)
  | refine ba.cond ?_ ?_
  | split
def nN (x0:(List Int)) (x1:(List Int)):Option (Bool):=
 aq (S:=Unit) (ae (ab 0 (si (lS x0 x1) ((0:Int)))) (fun aX=>(some (Out.ret ((decide ((x0.length:Int) < (x1.length:Int))))))))
theorem pG:∀ a0 a1,ba (nN a0 a1) (kL a0 a1):=by
 intros; unfold nN kL
 repeat' first
  | with_reducible exact ba.refl _
  | exact oS _ _ _
  | refine ba.aq ?_
  | refine ba.ae ?_ (fun _=>?_)
  | refine ba.ab ?_
  | refine ba.loop (fun _=>?_)
  | refine ba.bind ?_ (fun _=>?_)
  | refine ba.cond ?_ ?_
  | split
def mO (x0:aY) (x1:aY):Option (Bool):=
 aq (S:=Unit) (bif (x0.aA) != (x1.aA) then (some (Out.ret ((decide (x0.aA < x1.aA))))) else (bif (x0.To) != (x1.To) then (some (Out.ret ((decide (x0.To < x1.To))))) else ((nN x0.l8 x1.l8)>>=fun v7=>(some (Out.ret (v7))))))
theorem oV:∀ a0 a1,ba (mO a0 a1) (gG a0 a1):=by
 intros; unfold mO gG
 repeat' first
  | with_reducible exact ba.refl _
  | exact pG _ _
  | refine ba.aq ?_
  | refine ba.ae ?_ (fun _=>?_)
  | refine ba.ab ?_
  | refine ba.loop (fun _=>?_)
  | refine ba.bind ?_ (fun _=>?_)
  | refine ba.cond ?_ ?_
  | split
def mP (x0:Int) (s0:(List aY)) (s1:Int):Option (Out ((List aY)×Int) ((List aY))):=
 (bif decide (s1 < x0) then ((fits 40 (s0.length+1))>>=fun n26=>(some (Out.norm (s0++[aY.mk s1 s1 []],ak (s1+(1:Int)))))) else (some (Out.exit 0 (s0,s1))))
theorem oW:∀ a0 a1 a2,ba (mP a0 a1 a2) (iW a0 a1 a2):=by
 intros; unfold mP iW
 repeat' first
  | with_reducible exact ba.refl _
  | refine ba.aq ?_
  | refine ba.ae ?_ (fun _=>?_)
  | refine ba.ab ?_
  | refine ba.loop (fun _=>?_)
  | refine ba.bind ?_ (fun _=>?_)
  | refine ba.cond ?_ ?_
  | split
def mQ (x1:(List Int)) (x2:(List Int)) (s1:Int) (s0:(List aY)) (s2:Int):Option (Out ((List aY)×Int) ((List aY))):=
 (bif decide (s2 < (x1.length:Int)) then ((idx x1 (s2))>>=fun Mb=>((idx s0 (s1))>>=fun Gz=>(bif (Mb) == (Gz.To) then ((idx s0 (s1))>>=fun Ux=>((idx x2 (s2))>>=fun BI=>((idx s0 (s1))>>=fun Uy=>((mG Uy.l8)>>=fun Mc=>((fits 8 (Mc.length+1))>>=fun n72=>((fits 40 (s0.length+1))>>=fun n75=>(some (Out.norm (s0++[aY.mk Ux.aA BI (Mc++[s2])],ak (s2+(1:Int))))))))))) else (some (Out.norm (s0,ak (s2+(1:Int)))))))) else (some (Out.exit 4 (s0,s2))))
theorem oX:∀ a0 a1 a2 a3 a4,ba (mQ a0 a1 a2 a3 a4) (gH a0 a1 a2 a3 a4):=by
 intros; unfold mQ gH
 repeat' first
  | with_reducible exact ba.refl _
  | exact oH _
  | refine ba.aq ?_
  | refine ba.ae ?_ (fun _=>?_)
  | refine ba.ab ?_
  | refine ba.loop (fun _=>?_)
  | refine ba.bind ?_ (fun _=>?_)
  | refine ba.cond ?_ ?_
  | split
def mR (x1:(List Int)) (x2:(List Int)) (s0:(List aY)) (s1:Int):Option (Out ((List aY)×Int) ((List aY))):=
 (((bif decide (s1 < (s0.length:Int)) then (some (decide ((s0.length:Int)≤(40:Int)))) else (some (false))))>>=fun Uz=>(bif Uz then (ae (ab 4 (si (fun s=>mQ x1 x2 s1 s.1 s.2) (s0,(0:Int)))) (fun (s0,s2)=>(some (Out.norm (s0,ak (s1+(1:Int))))))) else (some (Out.exit 2 (s0,s1)))))
theorem oY:∀ a0 a1 a2 a3,ba (mR a0 a1 a2 a3) (iX a0 a1 a2 a3):=by
 intros; unfold mR iX
 repeat' first
  | with_reducible exact ba.refl _
  | exact oX _ _ _ _ _
  | refine ba.aq ?_
  | refine ba.ae ?_ (fun _=>?_)
  | refine ba.ab ?_
  | refine ba.loop (fun _=>?_)
  | refine ba.bind ?_ (fun _=>?_)
  | refine ba.cond ?_ ?_
  | split
def mS (s0:(List aY)) (s1:Int):Option (Out ((List aY)×Int) ((List aY))):=
 (((bif decide ((0:Int) < s1) then ((idx s0 (s1))>>=fun BJ=>((idx s0 (ak (s1 - (1:Int))))>>=fun Ak=>((mO BJ Ak)>>=fun GA=>(some (GA))))) else (some (false))))>>=fun UA=>(bif UA then ((idx s0 (s1))>>=fun OF=>((idx s0 (ak (s1 - (1:Int))))>>=fun va=>((idx s0 (s1))>>=fun GB=>((idx (s0.set (s1).toNat va) (ak (s1 - (1:Int))))>>=fun OG=>(some (Out.norm ((s0.set (s1).toNat va).set (ak (s1 - (1:Int))).toNat OF,ak (s1 - (1:Int))))))))) else (some (Out.exit 8 (s0,s1)))))
theorem oZ:∀ a0 a1,ba (mS a0 a1) (iY a0 a1):=by
 intros; unfold mS iY
 repeat' first
  | with_reducible exact ba.refl _
  | exact oV _ _
  | refine ba.aq ?_
  | refine ba.ae ?_ (fun _=>?_)
  | refine ba.ab ?_
  | refine ba.loop (fun _=>?_)
  | refine ba.bind ?_ (fun _=>?_)
  | refine ba.cond ?_ ?_
  | split
def mT (s0:(List aY)) (s1:Int):Option (Out ((List aY)×Int) ((List aY))):=
 (bif decide (s1 < (s0.length:Int)) then (ae (ab 8 (si (fun s=>mS s.1 s.2) (s0,s1))) (fun (s0,s2)=>(some (Out.norm (s0,ak (s1+(1:Int))))))) else (some (Out.exit 6 (s0,s1))))
theorem pA:∀ a0 a1,ba (mT a0 a1) (iZ a0 a1):=by
 intros; unfold mT iZ
 repeat' first
  | with_reducible exact ba.refl _
  | exact oZ _ _
  | refine ba.aq ?_
  | refine ba.ae ?_ (fun _=>?_)
  | refine ba.ab ?_
  | refine ba.loop (fun _=>?_)
  | refine ba.bind ?_ (fun _=>?_)
  | refine ba.cond ?_ ?_
  | split
def nX (x0:Int) (x1:(List Int)) (x2:(List Int)):Option ((List aY)):=
 aq (S:=Unit) (ae (ab 0 (si (fun s=>mP x0 s.1 s.2) (([]:(List aY)),(0:Int)))) (fun (s0,s1)=>(ae (ab 2 (si (fun s=>mR x1 x2 s.1 s.2) (s0,(0:Int)))) (fun (s0,s1)=>(ae (ab 6 (si (fun s=>mT s.1 s.2) (s0,(1:Int)))) (fun (s0,s1)=>(some (Out.ret (s0)))))))))
theorem pM:∀ a0 a1 a2,ba (nX a0 a1 a2) (jQ a0 a1 a2):=by
 intros; unfold nX jQ
 repeat' first
  | with_reducible exact ba.refl _
  | exact oW _ _ _
  | exact oY _ _ _ _
  | exact pA _ _
  | refine ba.aq ?_
  | refine ba.ae ?_ (fun _=>?_)
  | refine ba.ab ?_
  | refine ba.loop (fun _=>?_)
  | refine ba.bind ?_ (fun _=>?_)
  | refine ba.cond ?_ ?_
  | split
def nO (x0:aC):Option (Bool):=
 aq (S:=Unit) (((bif decide (x0.aD≤(8:Int)) then (some (decide ((x0.aA.length:Int)≤(40:Int)))) else (some (false))))>>=fun g8=>(some (Out.ret (g8))))
theorem pH:∀ a0,ba (nO a0) (cF a0):=by
 intros; unfold nO cF
 repeat' first
  | with_reducible exact ba.refl _
  | refine ba.aq ?_
  | refine ba.ae ?_ (fun _=>?_)
  | refine ba.ab ?_
  | refine ba.loop (fun _=>?_)
  | refine ba.bind ?_ (fun _=>?_)
  | refine ba.cond ?_ ?_
  | split
def lT (x0:(List Int)) (x1:(List Int)) (aX:Int):Option (Out (Int) (Bool)):=
 (bif decide (aX < (x0.length:Int)) then ((idx x0 (aX))>>=fun uL=>((idx x1 (aX))>>=fun GC=>(bif (uL) != (GC) then (some (Out.ret (false))) else (some (Out.norm (ak (aX+(1:Int)))))))) else (some (Out.exit 0 (aX))))
theorem oT:∀ a0 a1 a2,ba (lT a0 a1 a2) (kG a0 a1 a2):=by
 intros; unfold lT kG
 repeat' first
  | with_reducible exact ba.refl _
  | refine ba.aq ?_
  | refine ba.ae ?_ (fun _=>?_)
  | refine ba.ab ?_
  | refine ba.loop (fun _=>?_)
  | refine ba.bind ?_ (fun _=>?_)
  | refine ba.cond ?_ ?_
  | split
def nP (x0:(List Int)) (x1:(List Int)):Option (Bool):=
 aq (S:=Unit) (bif ((x0.length:Int)) != ((x1.length:Int)) then (some (Out.ret (false))) else (ae (ab 0 (si (lT x0 x1) ((0:Int)))) (fun aX=>(some (Out.ret (true))))))
theorem pI:∀ a0 a1,ba (nP a0 a1) (dQ a0 a1):=by
 intros; unfold nP dQ
 repeat' first
  | with_reducible exact ba.refl _
  | exact oT _ _ _
  | refine ba.aq ?_
  | refine ba.ae ?_ (fun _=>?_)
  | refine ba.ab ?_
  | refine ba.loop (fun _=>?_)
  | refine ba.bind ?_ (fun _=>?_)
  | refine ba.cond ?_ ?_
  | split
def kV (y8:(List aY)) (fh:Int) (j4:(List Int)) (j5:(List Int)) (mx:(List Int)):Option (Out (Int×(List Int)×(List Int)×(List Int)) (aC)):=
 (bif decide (fh < (y8.length:Int)) then ((idx y8 (fh))>>=fun B4=>((fits 8 (j4.length+1))>>=fun n134=>((idx y8 (fh))>>=fun GD=>((fits 8 (j5.length+1))>>=fun n173=>((idx y8 (fh))>>=fun OH=>(bif ((OH.l8.length:Int)) == ((0:Int)) then ((idx y8 (fh))>>=fun GF=>((idx mx (GF.aA))>>=fun aag=>(some (Out.norm (ak (fh+(1:Int)),j4++[B4.aA],j5++[GD.To],mx.set (GF.aA).toNat (fh)))))) else (some (Out.norm (ak (fh+(1:Int)),j4++[B4.aA],j5++[GD.To],mx))))))))) else (some (Out.exit 0 (fh,j4,j5,mx))))
theorem oO:∀ a0 a1 a2 a3 a4,ba (kV a0 a1 a2 a3 a4) (gN a0 a1 a2 a3 a4):=by
 intros; unfold kV gN
 repeat' first
  | with_reducible exact ba.refl _
  | refine ba.aq ?_
  | refine ba.ae ?_ (fun _=>?_)
  | refine ba.ab ?_
  | refine ba.loop (fun _=>?_)
  | refine ba.bind ?_ (fun _=>?_)
  | refine ba.cond ?_ ?_
  | split
def kW (y8:(List aY)) (eh:Int) (ug:(List Int)) (vX:aY) (vq:Int) (px:Int):Option (Out (Int×Int) (aC)):=
 (bif decide (px < (y8.length:Int)) then ((((idx y8 (px))>>=fun OI=>((idx y8 (eh))>>=fun OJ=>(bif (OI.aA) == (OJ.aA) then ((idx y8 (px))>>=fun OK=>((nP OK.l8 (ug++vX.l8))>>=fun OL=>(some (OL)))) else (some (false))))))>>=fun ON=>(bif ON then (some (Out.norm (px,ak (px+(1:Int))))) else (some (Out.norm (vq,ak (px+(1:Int))))))) else (some (Out.exit 6 (vq,px))))
theorem oP:∀ a0 a1 a2 a3 a4 a5,ba (kW a0 a1 a2 a3 a4 a5) (gO a0 a1 a2 a3 a4 a5):=by
 intros; unfold kW gO
 repeat' first
  | with_reducible exact ba.refl _
  | exact pI _ _
  | refine ba.aq ?_
  | refine ba.ae ?_ (fun _=>?_)
  | refine ba.ab ?_
  | refine ba.loop (fun _=>?_)
  | refine ba.bind ?_ (fun _=>?_)
  | refine ba.cond ?_ ?_
  | split
def kX (y8:(List aY)) (eh:Int) (ju:(List Int)) (qC:Int):Option (Out ((List Int)×Int) (aC)):=
 (bif decide (qC < (y8.length:Int)) then ((idx y8 (eh))>>=fun OP=>((idx y8 (qC))>>=fun OQ=>(bif (OP.To) == (OQ.aA) then ((idx y8 (eh))>>=fun OR=>((mG OR.l8)>>=fun ug=>((idx y8 (qC))>>=fun vX=>((fits 8 (ug.length+vX.l8.length))>>=fun aah=>(ae (ab 6 (si (fun s=>kW y8 eh ug vX s.1 s.2) ((-1:Int),(0:Int)))) (fun (vq,px)=>((fits 8 (ju.length+1))>>=fun aai=>(some (Out.norm (ju++[vq],ak (qC+(1:Int)))))))))))) else ((fits 8 (ju.length+1))>>=fun aaj=>(some (Out.norm (ju++[(-1:Int)],ak (qC+(1:Int))))))))) else (some (Out.exit 4 (ju,qC))))
theorem oQ:∀ a0 a1 a2 a3,ba (kX a0 a1 a2 a3) (gP a0 a1 a2 a3):=by
 intros; unfold kX gP
 repeat' first
  | with_reducible exact ba.refl _
  | exact oH _
  | exact oP _ _ _ _ _ _
  | refine ba.aq ?_
  | refine ba.ae ?_ (fun _=>?_)
  | refine ba.ab ?_
  | refine ba.loop (fun _=>?_)
  | refine ba.bind ?_ (fun _=>?_)
  | refine ba.cond ?_ ?_
  | split
def kY (y8:(List aY)) (eh:Int) (ov:(List (List Int))):Option (Out (Int×(List (List Int))) (aC)):=
 (bif decide (eh < (y8.length:Int)) then (ae (ab 4 (si (fun s=>kX y8 eh s.1 s.2) (([]:(List Int)),(0:Int)))) (fun (ju,qC)=>((fits 24 (ov.length+1))>>=fun aak=>(some (Out.norm (ak (eh+(1:Int)),ov++[ju])))))) else (some (Out.exit 2 (eh,ov))))
theorem oR:∀ a0 a1 a2,ba (kY a0 a1 a2) (eN a0 a1 a2):=by
 intros; unfold kY eN
 repeat' first
  | with_reducible exact ba.refl _
  | exact oQ _ _ _ _
  | refine ba.aq ?_
  | refine ba.ae ?_ (fun _=>?_)
  | refine ba.ab ?_
  | refine ba.loop (fun _=>?_)
  | refine ba.bind ?_ (fun _=>?_)
  | refine ba.cond ?_ ?_
  | split
def kJ (x0:Int) (x1:(List Int)) (x2:(List Int)):Option (aC):=
 aq (S:=Unit) ((nX (x0) x1 x2)>>=fun y8=>((mk 8 (x0))>>=fun n36=>(ae (ab 0 (si (fun s=>kV y8 s.1 s.2.1 s.2.2.1 s.2.2.2) ((0:Int),([]:(List Int)),([]:(List Int)),List.replicate n36 (0:Int)))) (fun (fh,j4,j5,mx)=>((nO (aC.mk x0 j4 j5 mx (([]:(List (List Int))))))>>=fun OS=>(bif !(OS) then (some (Out.ret ((aC.mk x0 j4 j5 mx (([]:(List (List Int)))))))) else (ae (ab 2 (si (fun s=>kY y8 s.1 s.2) ((0:Int),([]:(List (List Int)))))) (fun (eh,ov)=>(some (Out.ret ((aC.mk x0 j4 j5 mx ov))))))))))))
theorem pE:∀ a0 a1 a2,ba (kJ a0 a1 a2) (cY a0 a1 a2):=by
 intros; unfold kJ cY
 repeat' first
  | with_reducible exact ba.refl _
  | exact pM _ _ _
  | exact pH _
  | exact oO _ _ _ _ _
  | exact oR _ _ _
  | refine ba.aq ?_
  | refine ba.ae ?_ (fun _=>?_)
  | refine ba.ab ?_
  | refine ba.loop (fun _=>?_)
  | refine ba.bind ?_ (fun _=>?_)
  | refine ba.cond ?_ ?_
  | split
end Go.Proofs.YtbhhmalgcnhniaaGreat
namespace Go.Proofs.YtbhhmalgcnhniaaGreat
open Go Go.Li
set_option linter.unusedVariables false
set_option linter.unusedSectionVars false
set_option linter.unusedSimpArgs false
def Je (n:Nat):List (Int×Int):=(List.range n).flatMap fun (u:Nat)=>((List.range n).filter fun (v:Nat)=>Nat.blt u v).map fun (v:Nat)=>(Int.ofNat u,Int.ofNat v)
def vk (n:Nat):Nat→List (List (Int×Int))
 | 0=>[[]]
 | k+1=>(vk n k).flatMap fun l=>(Je n).map fun p=>p :: l
def D6 (n:Nat) (l:List (Int×Int)):Bool:=match kJ n (l.map (·.1)) (l.map (·.2)) with
 | some c=>WM c
 | none=>false
theorem WR:((vk 2 0++vk 2 1++vk 2 2++vk 2 3).all (D6 2))=true:=by kernel_rfl
theorem WS:((vk 3 0++vk 3 1++vk 3 2++vk 3 3).all (D6 3))=true:=by kernel_rfl
theorem Sb:((vk 4 0++vk 4 1++vk 4 2).all (D6 4))=true:=by kernel_rfl
theorem Sd:((vk 4 3).all (D6 4))=true:=by kernel_rfl
theorem Se {n:Nat} {u v:Int} (u0:0≤u) (uv:u < v) (v1:v < n):(u,v)∈Je n:=by
 unfold Je
 rw [List.mem_flatMap]
 refine ⟨u.toNat,by rw [List.mem_range]; omega,List.mem_map.2 ⟨v.toNat,List.mem_filter.2 ⟨by rw [List.mem_range]; omega,?_⟩,?_⟩⟩
 ·rw [Nat.blt_eq]; omega
 ·rw [show Int.ofNat u.toNat=u by show ((u.toNat:Nat):Int)=u; omega,show Int.ofNat v.toNat=v by show ((v.toNat:Nat):Int)=v; omega]
theorem Sf {n:Nat}:∀ {l:List (Int×Int)},(∀ p∈l,p∈Je n)→l∈vk n l.length:=by
 intro l
 induction l with
 | nil=>intro _; exact List.mem_singleton.2 rfl
 | cons p l ih=>
  intro h
  show p :: l∈(vk n l.length).flatMap fun l=>(Je n).map fun p=>p :: l
  exact List.mem_flatMap.2 ⟨l,ih fun q hq=>h q (List.mem_cons_of_mem _ hq),List.mem_map.2 ⟨p,h p (by simp),rfl⟩⟩
theorem D0 {n:Nat} {f t:List Int} (hn:n=2∨n=3∨n=4) (hl:t.length=f.length) (hk:f.length≤3) (h:∀ (i:Nat) u v,f[i]? = some u→t[i]? = some v→0≤u∧u < v∧v < n):Ok (cY n f t) Ty:=by
 have hm:f.zip t∈vk n f.length:=by
  have h1:∀ p∈f.zip t,p∈Je n:=fun p hp=>by
   obtain ⟨i,hi⟩:=List.getElem?_of_mem hp
   obtain ⟨e1,e2⟩:=DS hi
   obtain ⟨a,b,c⟩:=h i _ _ e1 e2
   exact Se a b c
  have:=Sf h1
  rwa [List.length_zip,hl,Nat.min_self] at this
 have hc:D6 n (f.zip t)=true:=by
  have two:=List.all_eq_true.1 WR
  have three:=List.all_eq_true.1 WS
  have four:=List.all_eq_true.1 Sb
  have XC:=List.all_eq_true.1 Sd
  simp only [List.mem_append] at two three four
  have rU:f.length=0∨f.length=1∨f.length=2∨f.length=3:=by omega
  rcases hn with rfl | rfl | rfl <;> rcases rU with e | e | e | e <;> rw [e] at hm
  ·exact two _ (.inl (.inl (.inl hm)))
  ·exact two _ (.inl (.inl (.inr hm)))
  ·exact two _ (.inl (.inr hm))
  ·exact two _ (.inr hm)
  ·exact three _ (.inl (.inl (.inl hm)))
  ·exact three _ (.inl (.inl (.inr hm)))
  ·exact three _ (.inl (.inr hm))
  ·exact three _ (.inr hm)
  ·exact four _ (.inl (.inl hm))
  ·exact four _ (.inl (.inr hm))
  ·exact four _ (.inr hm)
  ·exact XC _ hm
 unfold D6 at hc
 rw [List.map_fst_zip (by omega),List.map_snd_zip (by omega)] at hc
 cases hp:kJ n f t with
 | none=>rw [hp] at hc; cases hc
 | some c=>rw [hp] at hc; exact ⟨c,pE _ _ _ _ hp,Q2 hc⟩
end Go.Proofs.YtbhhmalgcnhniaaGreat
