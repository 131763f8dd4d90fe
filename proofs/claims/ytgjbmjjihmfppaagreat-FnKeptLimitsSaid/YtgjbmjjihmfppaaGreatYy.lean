/- Models that compute: their loops with fuel; what they give the models give. No condition beside those that each theorem names. -/
import Derived.Test.YtgjbmjjihmfppaaGreatYt
import Derived.KernelRfl
import Derived.Test.YtgjbmjjihmfppaaGreatYw
namespace Go.Proofs.YtgjbmjjihmfppaaGreat
open Go Go.Li
set_option linter.unusedVariables false
def bg {α:Type} (m m':Option α):Prop:=∀ o,m=some o→m'=some o
theorem bg.refl {α:Type} (m:Option α):bg m m:=fun _ h=>h
theorem bg.ak {S R:Type} {m m':Option (Out S R)} (h:bg m m'):bg (ak m) (ak m'):=fun o ho=>by
 have h1:=E9 ho
 rw [h _ h1]; rfl
theorem bg.bind {α β:Type} {m m':Option α} {f f':α→Option β} (h:bg m m') (k:∀ x,bg (f x) (f' x)):bg (m>>=f) (m'>>=f'):=fun o ho=>by
 cases hm:m with
 | none=>rw [hm] at ho; cases ho
 | some x=>rw [hm] at ho; rw [h x hm]; exact k x o ho
theorem bg.cond {α:Type} {b:Bool} {x x' y y':Option α} (h:bg x x') (k:bg y y'):bg (bif b then x else y) (bif b then x' else y'):=by
 cases b with
 | true=>exact h
 | false=>exact k
theorem bg.ag {S S1 R:Type} {m m':Option (Out S1 R)} {f f':S1→Option (Out S R)} (h:bg m m') (k:∀ x,bg (f x) (f' x)):bg (ag m f) (ag m' f'):=fun o ho=>by
 unfold Go.Li.ag at ho ⊢
 cases hm:m with
 | none=>rw [hm] at ho; cases ho
 | some x=>
  rw [hm] at ho
  rw [h x hm]
  cases x with
  | norm s=>exact k s o ho
  | _=>exact ho
theorem bg.ae {S R:Type} {n:Nat} {m m':Option (Out S R)} (h:bg m m'):bg (ae n m) (ae n m'):=fun o ho=>by
 unfold Go.Li.ae at ho ⊢
 cases hm:m with
 | none=>rw [hm] at ho; cases ho
 | some x=>rw [hm] at ho; rw [h x hm]; exact ho
def tI {S R:Type} (body:S→Option (Out S R)) (s:S):Option (Out S R):=o6 body 300 s
theorem QF {S R:Type} {b b':S→Option (Out S R)} (h:∀ s,bg (b s) (b' s)):∀ k s,bg (o6 b k s) (o6 b' k s):=by
 intro k
 induction k with
 | zero=>intro s o ho; cases ho
 | succ k ih=>
  intro s o ho
  unfold o6 at ho ⊢
  cases hm:b s with
  | none=>rw [hm] at ho; cases ho
  | some x=>
   rw [hm] at ho
   rw [h s x hm]
   cases x with
   | norm s'=>exact ih s' o ho
   | _=>exact ho
theorem bg.loop {S R:Type} {b b':S→Option (Out S R)} {s:S} (h:∀ s,bg (b s) (b' s)):bg (tI b s) (ai b' s):=fun o ho=>vS.2 ⟨300,QF h 300 s o ho⟩
def nN (x0:(List Int)):Option ((List Int)):=
 ak (S:=Unit) ((fits 8 ((([]:(List Int))).length+x0.length))>>=fun n15=>(some (Out.ret ((([]:(List Int))++x0)))))
theorem rG:∀ a0,bg (nN a0) (dL a0):=by
 intros; unfold nN dL
 repeat' first
  | with_reducible exact bg.refl _
  | refine bg.ak ?_
  | refine bg.ag ?_ (fun _=>?_)
  | refine bg.ae ?_
  | refine bg.loop (fun _=>?_)
  | refine bg.bind ?_ (fun _=>?_)
  | refine bg.cond ?_ ?_
  | split
def mZ (x0:(List Int)) (x1:(List Int)) (bc:Int):Option (Out (Int) (Bool)):=
 (((bif decide (bc < (x0.length:Int)) then (some (decide (bc < (x1.length:Int)))) else (some (false))))>>=fun g6=>(bif g6 then ((idx x0 (bc))>>=fun M5=>((idx x1 (bc))>>=fun ui=>(bif (M5) != (ui) then ((idx x0 (bc))>>=fun Vm=>((idx x1 (bc))>>=fun BE=>(some (Out.ret ((decide (Vm < BE))))))) else (some (Out.norm (aj (bc+(1:Int)))))))) else (some (Out.exit 0 (bc)))))
theorem rO:∀ a0 a1 a2,bg (mZ a0 a1 a2) (eM a0 a1 a2):=by
 intros; unfold mZ eM
 repeat' first
  | with_reducible exact bg.refl _
  | refine bg.ak ?_
  | refine bg.ag ?_ (fun _=>?_)
  | refine bg.ae ?_
  | refine bg.loop (fun _=>?_)
  | refine bg.bind ?_ (fun _=>?_)
  | refine bg.cond ?_ ?_
  | split
def pY (x0:(List Int)) (x1:(List Int)):Option (Bool):=
 ak (S:=Unit) (ag (ae 0 (tI (mZ x0 x1) ((0:Int)))) (fun bc=>(some (Out.ret ((decide ((x0.length:Int) < (x1.length:Int))))))))
theorem sA:∀ a0 a1,bg (pY a0 a1) (lO a0 a1):=by
 intros; unfold pY lO
 repeat' first
  | with_reducible exact bg.refl _
  | exact rO _ _ _
  | refine bg.ak ?_
  | refine bg.ag ?_ (fun _=>?_)
  | refine bg.ae ?_
  | refine bg.loop (fun _=>?_)
  | refine bg.bind ?_ (fun _=>?_)
  | refine bg.cond ?_ ?_
  | split
def oD (x0:bP) (x1:bP):Option (Bool):=
 ak (S:=Unit) (bif (x0.aF) != (x1.aF) then (some (Out.ret ((decide (x0.aF < x1.aF))))) else (bif (x0.To) != (x1.To) then (some (Out.ret ((decide (x0.To < x1.To))))) else ((pY x0.lq x1.lq)>>=fun zj=>(some (Out.ret (zj))))))
theorem rR:∀ a0 a1,bg (oD a0 a1) (iI a0 a1):=by
 intros; unfold oD iI
 repeat' first
  | with_reducible exact bg.refl _
  | exact sA _ _
  | refine bg.ak ?_
  | refine bg.ag ?_ (fun _=>?_)
  | refine bg.ae ?_
  | refine bg.loop (fun _=>?_)
  | refine bg.bind ?_ (fun _=>?_)
  | refine bg.cond ?_ ?_
  | split
def oE (x0:Int) (s0:(List bP)) (s1:Int):Option (Out ((List bP)×Int) ((List bP))):=
 (bif decide (s1 < x0) then ((fits 40 (s0.length+1))>>=fun n26=>(some (Out.norm (s0++[bP.mk s1 s1 []],aj (s1+(1:Int)))))) else (some (Out.exit 0 (s0,s1))))
theorem rS:∀ a0 a1 a2,bg (oE a0 a1 a2) (jV a0 a1 a2):=by
 intros; unfold oE jV
 repeat' first
  | with_reducible exact bg.refl _
  | refine bg.ak ?_
  | refine bg.ag ?_ (fun _=>?_)
  | refine bg.ae ?_
  | refine bg.loop (fun _=>?_)
  | refine bg.bind ?_ (fun _=>?_)
  | refine bg.cond ?_ ?_
  | split
def oF (x1:(List Int)) (x2:(List Int)) (s1:Int) (s0:(List bP)) (s2:Int):Option (Out ((List bP)×Int) ((List bP))):=
 (bif decide (s2 < (x1.length:Int)) then ((idx x1 (s2))>>=fun DV=>((idx s0 (s1))>>=fun M6=>(bif (DV) == (M6.To) then ((idx s0 (s1))>>=fun Vn=>((idx x2 (s2))>>=fun AN=>((idx s0 (s1))>>=fun M7=>((nN M7.lq)>>=fun HA=>((fits 8 (HA.length+1))>>=fun n72=>((fits 40 (s0.length+1))>>=fun n75=>(some (Out.norm (s0++[bP.mk Vn.aF AN (HA++[s2])],aj (s2+(1:Int))))))))))) else (some (Out.norm (s0,aj (s2+(1:Int)))))))) else (some (Out.exit 4 (s0,s2))))
theorem rT:∀ a0 a1 a2 a3 a4,bg (oF a0 a1 a2 a3 a4) (iJ a0 a1 a2 a3 a4):=by
 intros; unfold oF iJ
 repeat' first
  | with_reducible exact bg.refl _
  | exact rG _
  | refine bg.ak ?_
  | refine bg.ag ?_ (fun _=>?_)
  | refine bg.ae ?_
  | refine bg.loop (fun _=>?_)
  | refine bg.bind ?_ (fun _=>?_)
  | refine bg.cond ?_ ?_
  | split
def oG (x1:(List Int)) (x2:(List Int)) (s0:(List bP)) (s1:Int):Option (Out ((List bP)×Int) ((List bP))):=
 (((bif decide (s1 < (s0.length:Int)) then (some (decide ((s0.length:Int)≤(40:Int)))) else (some (false))))>>=fun Vp=>(bif Vp then (ag (ae 4 (tI (fun s=>oF x1 x2 s1 s.1 s.2) (s0,(0:Int)))) (fun (s0,s2)=>(some (Out.norm (s0,aj (s1+(1:Int))))))) else (some (Out.exit 2 (s0,s1)))))
theorem rU:∀ a0 a1 a2 a3,bg (oG a0 a1 a2 a3) (jW a0 a1 a2 a3):=by
 intros; unfold oG jW
 repeat' first
  | with_reducible exact bg.refl _
  | exact rT _ _ _ _ _
  | refine bg.ak ?_
  | refine bg.ag ?_ (fun _=>?_)
  | refine bg.ae ?_
  | refine bg.loop (fun _=>?_)
  | refine bg.bind ?_ (fun _=>?_)
  | refine bg.cond ?_ ?_
  | split
def oH (s0:(List bP)) (s1:Int):Option (Out ((List bP)×Int) ((List bP))):=
 (((bif decide ((0:Int) < s1) then ((idx s0 (s1))>>=fun AO=>((idx s0 (aj (s1 - (1:Int))))>>=fun DW=>((oD AO DW)>>=fun HB=>(some (HB))))) else (some (false))))>>=fun Vq=>(bif Vq then ((idx s0 (s1))>>=fun Pe=>((idx s0 (aj (s1 - (1:Int))))>>=fun wx=>((idx s0 (s1))>>=fun HC=>((idx (s0.set (s1).toNat wx) (aj (s1 - (1:Int))))>>=fun Pf=>(some (Out.norm ((s0.set (s1).toNat wx).set (aj (s1 - (1:Int))).toNat Pe,aj (s1 - (1:Int))))))))) else (some (Out.exit 8 (s0,s1)))))
theorem rV:∀ a0 a1,bg (oH a0 a1) (jX a0 a1):=by
 intros; unfold oH jX
 repeat' first
  | with_reducible exact bg.refl _
  | exact rR _ _
  | refine bg.ak ?_
  | refine bg.ag ?_ (fun _=>?_)
  | refine bg.ae ?_
  | refine bg.loop (fun _=>?_)
  | refine bg.bind ?_ (fun _=>?_)
  | refine bg.cond ?_ ?_
  | split
def oI (s0:(List bP)) (s1:Int):Option (Out ((List bP)×Int) ((List bP))):=
 (bif decide (s1 < (s0.length:Int)) then (ag (ae 8 (tI (fun s=>oH s.1 s.2) (s0,s1))) (fun (s0,s2)=>(some (Out.norm (s0,aj (s1+(1:Int))))))) else (some (Out.exit 6 (s0,s1))))
theorem rW:∀ a0 a1,bg (oI a0 a1) (jY a0 a1):=by
 intros; unfold oI jY
 repeat' first
  | with_reducible exact bg.refl _
  | exact rV _ _
  | refine bg.ak ?_
  | refine bg.ag ?_ (fun _=>?_)
  | refine bg.ae ?_
  | refine bg.loop (fun _=>?_)
  | refine bg.bind ?_ (fun _=>?_)
  | refine bg.cond ?_ ?_
  | split
def qP (x0:Int) (x1:(List Int)) (x2:(List Int)):Option ((List bP)):=
 ak (S:=Unit) (ag (ae 0 (tI (fun s=>oE x0 s.1 s.2) (([]:(List bP)),(0:Int)))) (fun (s0,s1)=>(ag (ae 2 (tI (fun s=>oG x1 x2 s.1 s.2) (s0,(0:Int)))) (fun (s0,s1)=>(ag (ae 6 (tI (fun s=>oI s.1 s.2) (s0,(1:Int)))) (fun (s0,s1)=>(some (Out.ret (s0)))))))))
theorem sF:∀ a0 a1 a2,bg (qP a0 a1 a2) (lC a0 a1 a2):=by
 intros; unfold qP lC
 repeat' first
  | with_reducible exact bg.refl _
  | exact rS _ _ _
  | exact rU _ _ _ _
  | exact rW _ _
  | refine bg.ak ?_
  | refine bg.ag ?_ (fun _=>?_)
  | refine bg.ae ?_
  | refine bg.loop (fun _=>?_)
  | refine bg.bind ?_ (fun _=>?_)
  | refine bg.cond ?_ ?_
  | split
def pZ (x0:aI):Option (Bool):=
 ak (S:=Unit) (((bif decide (x0.aA≤(8:Int)) then (some (decide ((x0.aF.length:Int)≤(40:Int)))) else (some (false))))>>=fun g8=>(some (Out.ret (g8))))
theorem sB:∀ a0,bg (pZ a0) (eD a0):=by
 intros; unfold pZ eD
 repeat' first
  | with_reducible exact bg.refl _
  | refine bg.ak ?_
  | refine bg.ag ?_ (fun _=>?_)
  | refine bg.ae ?_
  | refine bg.loop (fun _=>?_)
  | refine bg.bind ?_ (fun _=>?_)
  | refine bg.cond ?_ ?_
  | split
def nA (x0:(List Int)) (x1:(List Int)) (bc:Int):Option (Out (Int) (Bool)):=
 (bif decide (bc < (x0.length:Int)) then ((idx x0 (bc))>>=fun ui=>((idx x1 (bc))>>=fun DX=>(bif (ui) != (DX) then (some (Out.ret (false))) else (some (Out.norm (aj (bc+(1:Int)))))))) else (some (Out.exit 0 (bc))))
theorem rP:∀ a0 a1 a2,bg (nA a0 a1 a2) (lF a0 a1 a2):=by
 intros; unfold nA lF
 repeat' first
  | with_reducible exact bg.refl _
  | refine bg.ak ?_
  | refine bg.ag ?_ (fun _=>?_)
  | refine bg.ae ?_
  | refine bg.loop (fun _=>?_)
  | refine bg.bind ?_ (fun _=>?_)
  | refine bg.cond ?_ ?_
  | split
def qA (x0:(List Int)) (x1:(List Int)):Option (Bool):=
 ak (S:=Unit) (bif ((x0.length:Int)) != ((x1.length:Int)) then (some (Out.ret (false))) else (ag (ae 0 (tI (nA x0 x1) ((0:Int)))) (fun bc=>(some (Out.ret (true))))))
theorem sC:∀ a0 a1,bg (qA a0 a1) (eP a0 a1):=by
 intros; unfold qA eP
 repeat' first
  | with_reducible exact bg.refl _
  | exact rP _ _ _
  | refine bg.ak ?_
  | refine bg.ag ?_ (fun _=>?_)
  | refine bg.ae ?_
  | refine bg.loop (fun _=>?_)
  | refine bg.bind ?_ (fun _=>?_)
  | refine bg.cond ?_ ?_
  | split
def mB (y8:(List bP)) (ef:Int) (jw:(List Int)) (jx:(List Int)) (my:(List Int)):Option (Out (Int×(List Int)×(List Int)×(List Int)) (aI)):=
 (bif decide (ef < (y8.length:Int)) then ((idx y8 (ef))>>=fun C0=>((fits 8 (jw.length+1))>>=fun n134=>((idx y8 (ef))>>=fun HD=>((fits 8 (jx.length+1))>>=fun n173=>((idx y8 (ef))>>=fun Pg=>(bif ((Pg.lq.length:Int)) == ((0:Int)) then ((idx y8 (ef))>>=fun HE=>((idx my (HE.aF))>>=fun aa4=>(some (Out.norm (aj (ef+(1:Int)),jw++[C0.aF],jx++[HD.To],my.set (HE.aF).toNat (ef)))))) else (some (Out.norm (aj (ef+(1:Int)),jw++[C0.aF],jx++[HD.To],my))))))))) else (some (Out.exit 0 (ef,jw,jx,my))))
theorem rK:∀ a0 a1 a2 a3 a4,bg (mB a0 a1 a2 a3 a4) (iN a0 a1 a2 a3 a4):=by
 intros; unfold mB iN
 repeat' first
  | with_reducible exact bg.refl _
  | refine bg.ak ?_
  | refine bg.ag ?_ (fun _=>?_)
  | refine bg.ae ?_
  | refine bg.loop (fun _=>?_)
  | refine bg.bind ?_ (fun _=>?_)
  | refine bg.cond ?_ ?_
  | split
def mC (y8:(List bP)) (ig:Int) (vu:(List Int)) (xx:bP) (wT:Int) (qg:Int):Option (Out (Int×Int) (aI)):=
 (bif decide (qg < (y8.length:Int)) then ((((idx y8 (qg))>>=fun Ph=>((idx y8 (ig))>>=fun Pj=>(bif (Ph.aF) == (Pj.aF) then ((idx y8 (qg))>>=fun Pk=>((qA Pk.lq (vu++xx.lq))>>=fun Pl=>(some (Pl)))) else (some (false))))))>>=fun Pm=>(bif Pm then (some (Out.norm (qg,aj (qg+(1:Int))))) else (some (Out.norm (wT,aj (qg+(1:Int))))))) else (some (Out.exit 6 (wT,qg))))
theorem rL:∀ a0 a1 a2 a3 a4 a5,bg (mC a0 a1 a2 a3 a4 a5) (iO a0 a1 a2 a3 a4 a5):=by
 intros; unfold mC iO
 repeat' first
  | with_reducible exact bg.refl _
  | exact sC _ _
  | refine bg.ak ?_
  | refine bg.ag ?_ (fun _=>?_)
  | refine bg.ae ?_
  | refine bg.loop (fun _=>?_)
  | refine bg.bind ?_ (fun _=>?_)
  | refine bg.cond ?_ ?_
  | split
def mD (y8:(List bP)) (ig:Int) (ni:(List Int)) (r7:Int):Option (Out ((List Int)×Int) (aI)):=
 (bif decide (r7 < (y8.length:Int)) then ((idx y8 (ig))>>=fun Pn=>((idx y8 (r7))>>=fun Po=>(bif (Pn.To) == (Po.aF) then ((idx y8 (ig))>>=fun Pp=>((nN Pp.lq)>>=fun vu=>((idx y8 (r7))>>=fun xx=>((fits 8 (vu.length+xx.lq.length))>>=fun aa5=>(ag (ae 6 (tI (fun s=>mC y8 ig vu xx s.1 s.2) ((-1:Int),(0:Int)))) (fun (wT,qg)=>((fits 8 (ni.length+1))>>=fun aa6=>(some (Out.norm (ni++[wT],aj (r7+(1:Int)))))))))))) else ((fits 8 (ni.length+1))>>=fun aa7=>(some (Out.norm (ni++[(-1:Int)],aj (r7+(1:Int))))))))) else (some (Out.exit 4 (ni,r7))))
theorem rM:∀ a0 a1 a2 a3,bg (mD a0 a1 a2 a3) (iP a0 a1 a2 a3):=by
 intros; unfold mD iP
 repeat' first
  | with_reducible exact bg.refl _
  | exact rG _
  | exact rL _ _ _ _ _ _
  | refine bg.ak ?_
  | refine bg.ag ?_ (fun _=>?_)
  | refine bg.ae ?_
  | refine bg.loop (fun _=>?_)
  | refine bg.bind ?_ (fun _=>?_)
  | refine bg.cond ?_ ?_
  | split
def mE (y8:(List bP)) (ig:Int) (ox:(List (List Int))):Option (Out (Int×(List (List Int))) (aI)):=
 (bif decide (ig < (y8.length:Int)) then (ag (ae 4 (tI (fun s=>mD y8 ig s.1 s.2) (([]:(List Int)),(0:Int)))) (fun (ni,r7)=>((fits 24 (ox.length+1))>>=fun aa8=>(some (Out.norm (aj (ig+(1:Int)),ox++[ni])))))) else (some (Out.exit 2 (ig,ox))))
theorem rN:∀ a0 a1 a2,bg (mE a0 a1 a2) (gE a0 a1 a2):=by
 intros; unfold mE gE
 repeat' first
  | with_reducible exact bg.refl _
  | exact rM _ _ _ _
  | refine bg.ak ?_
  | refine bg.ag ?_ (fun _=>?_)
  | refine bg.ae ?_
  | refine bg.loop (fun _=>?_)
  | refine bg.bind ?_ (fun _=>?_)
  | refine bg.cond ?_ ?_
  | split
def lN (x0:Int) (x1:(List Int)) (x2:(List Int)):Option (aI):=
 ak (S:=Unit) ((qP (x0) x1 x2)>>=fun y8=>((mk 8 (x0))>>=fun n36=>(ag (ae 0 (tI (fun s=>mB y8 s.1 s.2.1 s.2.2.1 s.2.2.2) ((0:Int),([]:(List Int)),([]:(List Int)),List.replicate n36 (0:Int)))) (fun (ef,jw,jx,my)=>((pZ (aI.mk x0 jw jx my (([]:(List (List Int))))))>>=fun Pq=>(bif !(Pq) then (some (Out.ret ((aI.mk x0 jw jx my (([]:(List (List Int)))))))) else (ag (ae 2 (tI (fun s=>mE y8 s.1 s.2) ((0:Int),([]:(List (List Int)))))) (fun (ig,ox)=>(some (Out.ret ((aI.mk x0 jw jx my ox))))))))))))
theorem rZ:∀ a0 a1 a2,bg (lN a0 a1 a2) (eJ a0 a1 a2):=by
 intros; unfold lN eJ
 repeat' first
  | with_reducible exact bg.refl _
  | exact sF _ _ _
  | exact sB _
  | exact rK _ _ _ _ _
  | exact rN _ _ _
  | refine bg.ak ?_
  | refine bg.ag ?_ (fun _=>?_)
  | refine bg.ae ?_
  | refine bg.loop (fun _=>?_)
  | refine bg.bind ?_ (fun _=>?_)
  | refine bg.cond ?_ ?_
  | split
end Go.Proofs.YtgjbmjjihmfppaaGreat
set_option linter.unusedVariables false
set_option linter.unusedSimpArgs false
namespace Go.Proofs.YtgjbmjjihmfppaaGreat
open Go Go.Li
def Kn (n:Nat):List (Int×Int):=(List.range n).flatMap fun (u:Nat)=>((List.range n).filter fun (v:Nat)=>Nat.blt u v).map fun (v:Nat)=>(Int.ofNat u,Int.ofNat v)
def wL (n:Nat):Nat→List (List (Int×Int))
 | 0=>[[]]
 | k+1=>(wL n k).flatMap fun l=>(Kn n).map fun p=>p :: l
def EZ (n:Nat) (l:List (Int×Int)):Bool:=match lN n (l.map (·.1)) (l.map (·.2)) with
 | some c=>Xn c
 | none=>false
theorem Xs:((wL 2 0++wL 2 1++wL 2 2++wL 2 3).all (EZ 2))=true:=by kernel_rfl
theorem Xt:((wL 3 0++wL 3 1++wL 3 2++wL 3 3).all (EZ 3))=true:=by kernel_rfl
theorem Tb:((wL 4 0++wL 4 1++wL 4 2).all (EZ 4))=true:=by kernel_rfl
theorem Tc:((wL 4 3).all (EZ 4))=true:=by kernel_rfl
theorem Td {n:Nat} {u v:Int} (u0:0≤u) (uv:u < v) (v1:v < n):(u,v)∈Kn n:=by
 unfold Kn
 rw [List.mem_flatMap]
 refine ⟨u.toNat,by rw [List.mem_range]; omega,List.mem_map.2 ⟨v.toNat,List.mem_filter.2 ⟨by rw [List.mem_range]; omega,?_⟩,?_⟩⟩
 ·rw [Nat.blt_eq]; omega
 ·rw [show Int.ofNat u.toNat=u by show ((u.toNat:Nat):Int)=u; omega,show Int.ofNat v.toNat=v by show ((v.toNat:Nat):Int)=v; omega]
theorem Te {n:Nat}:∀ {l:List (Int×Int)},(∀ p∈l,p∈Kn n)→l∈wL n l.length:=by
 intro l
 induction l with
 | nil=>intro _; exact List.mem_singleton.2 rfl
 | cons p l ih=>
  intro h
  show p :: l∈(wL n l.length).flatMap fun l=>(Kn n).map fun p=>p :: l
  exact List.mem_flatMap.2 ⟨l,ih fun q hq=>h q (List.mem_cons_of_mem _ hq),List.mem_map.2 ⟨p,h p (by simp),rfl⟩⟩
theorem Ck {n:Nat} {f t:List Int} (hn:n=2∨n=3∨n=4) (hl:t.length=f.length) (hk:f.length≤3) (h:∀ (i:Nat) u v,f[i]? = some u→t[i]? = some v→0≤u∧u < v∧v < n):Ok (eJ n f t) Ty:=by
 have hm:f.zip t∈wL n f.length:=by
  have h1:∀ p∈f.zip t,p∈Kn n:=fun p hp=>by
   obtain ⟨i,hi⟩:=List.getElem?_of_mem hp
   obtain ⟨e1,e2⟩:=zq hi
   obtain ⟨a,b,c⟩:=h i _ _ e1 e2
   exact Td a b c
  have:=Te h1
  rwa [List.length_zip,hl,Nat.min_self] at this
 have hc:EZ n (f.zip t)=true:=by
  have two:=List.all_eq_true.1 Xs
  have three:=List.all_eq_true.1 Xt
  have four:=List.all_eq_true.1 Tb
  have Yf:=List.all_eq_true.1 Tc
  simp only [List.mem_append] at two three four
  have xg:f.length=0∨f.length=1∨f.length=2∨f.length=3:=by omega
  rcases hn with rfl | rfl | rfl <;> rcases xg with e | e | e | e <;> rw [e] at hm
  ·exact two _ (.inl (.inl (.inl hm)))
  ·exact two _ (.inl (.inl (.inr hm)))
  ·exact two _ (.inl (.inr hm))
  ·exact two _ (.inr hm)
  ·exact three _ (.inl (.inl (.inl hm)))
  ·exact three _ (.inl (.inl (.inr hm)))
  ·exact three _ (.inl (.inr hm))
  ·exact three _ (.inr hm)
  ·exact four _ (.inl (.inl hm))
  ·exact four _ (.inl (.inr hm))
  ·exact four _ (.inr hm)
  ·exact Yf _ hm
 unfold EZ at hc
 rw [List.map_fst_zip (by omega),List.map_snd_zip (by omega)] at hc
 cases hp:lN n f t with
 | none=>rw [hp] at hc; cases hc
 | some c=>rw [hp] at hc; exact ⟨c,rZ _ _ _ _ hp,RW hc⟩
end Go.Proofs.YtgjbmjjihmfppaaGreat
