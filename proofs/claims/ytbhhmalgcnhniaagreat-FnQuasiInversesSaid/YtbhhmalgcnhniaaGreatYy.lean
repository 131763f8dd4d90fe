/- Models that compute: their loops with fuel; what they give the models give. No condition beside those that each theorem names. -/
import Derived.Test.YtbhhmalgcnhniaaGreatYt
import Derived.KernelRfl
import Derived.Test.YtbhhmalgcnhniaaGreatYw
namespace Go.Proofs.YtbhhmalgcnhniaaGreat
open Go Go.Li
set_option linter.unusedVariables false
def aX {α:Type} (m m':Option α):Prop:=∀ o,m=some o→m'=some o
theorem aX.refl {α:Type} (m:Option α):aX m m:=fun _ h=>h
theorem aX.ak {S R:Type} {m m':Option (Out S R)} (h:aX m m'):aX (ak m) (ak m'):=fun o ho=>by
 have h1:=EN ho
 rw [h _ h1]; rfl
theorem aX.bind {α β:Type} {m m':Option α} {f f':α→Option β} (h:aX m m') (k:∀ x,aX (f x) (f' x)):aX (m>>=f) (m'>>=f'):=fun o ho=>by
 cases hm:m with
 | none=>rw [hm] at ho; cases ho
 | some x=>rw [hm] at ho; rw [h x hm]; exact k x o ho
theorem aX.cond {α:Type} {b:Bool} {x x' y y':Option α} (h:aX x x') (k:aX y y'):aX (bif b then x else y) (bif b then x' else y'):=by
 cases b with
 | true=>exact h
 | false=>exact k
theorem aX.af {S S1 R:Type} {m m':Option (Out S1 R)} {f f':S1→Option (Out S R)} (h:aX m m') (k:∀ x,aX (f x) (f' x)):aX (af m f) (af m' f'):=fun o ho=>by
 unfold Go.Li.af at ho ⊢
 cases hm:m with
 | none=>rw [hm] at ho; cases ho
 | some x=>
  rw [hm] at ho
  rw [h x hm]
  cases x with
  | norm s=>exact k s o ho
  | _=>exact ho
theorem aX.ae {S R:Type} {n:Nat} {m m':Option (Out S R)} (h:aX m m'):aX (ae n m) (ae n m'):=fun o ho=>by
 unfold Go.Li.ae at ho ⊢
 cases hm:m with
 | none=>rw [hm] at ho; cases ho
 | some x=>rw [hm] at ho; rw [h x hm]; exact ho
def tG {S R:Type} (body:S→Option (Out S R)) (s:S):Option (Out S R):=oy body 300 s
theorem P7 {S R:Type} {b b':S→Option (Out S R)} (h:∀ s,aX (b s) (b' s)):∀ k s,aX (oy b k s) (oy b' k s):=by
 intro k
 induction k with
 | zero=>intro s o ho; cases ho
 | succ k ih=>
  intro s o ho
  unfold oy at ho ⊢
  cases hm:b s with
  | none=>rw [hm] at ho; cases ho
  | some x=>
   rw [hm] at ho
   rw [h s x hm]
   cases x with
   | norm s'=>exact ih s' o ho
   | _=>exact ho
theorem aX.loop {S R:Type} {b b':S→Option (Out S R)} {s:S} (h:∀ s,aX (b s) (b' s)):aX (tG b s) (ag b' s):=fun o ho=>vM.2 ⟨300,P7 h 300 s o ho⟩
def oL (x0:(List Int)):Option ((List Int)):=
 ak (S:=Unit) ((fits 8 ((([]:(List Int))).length+x0.length))>>=fun n15=>(some (Out.ret ((([]:(List Int))++x0)))))
theorem rX:∀ a0,aX (oL a0) (dS a0):=by
 intros; unfold oL dS
 repeat' first
  | with_reducible exact aX.refl _
  | refine aX.ak ?_
  | refine aX.af ?_ (fun _=>?_)
  | refine aX.ae ?_
  | refine aX.loop (fun _=>?_)
  | refine aX.bind ?_ (fun _=>?_)
  | refine aX.cond ?_ ?_
  | split
def nZ (x0:(List Int)) (x1:(List Int)) (bc:Int):Option (Out (Int) (Bool)):=
 (((bif decide (bc < (x0.length:Int)) then (some (decide (bc < (x1.length:Int)))) else (some (false))))>>=fun g6=>(bif g6 then ((idx x0 (bc))>>=fun G5=>((idx x1 (bc))>>=fun vP=>(bif (G5) != (vP) then ((idx x0 (bc))>>=fun Jb=>((idx x1 (bc))>>=fun w9=>(some (Out.ret ((decide (Jb < w9))))))) else (some (Out.norm (aj (bc+(1:Int)))))))) else (some (Out.exit 0 (bc)))))
theorem sF:∀ a0 a1 a2,aX (nZ a0 a1 a2) (fE a0 a1 a2):=by
 intros; unfold nZ fE
 repeat' first
  | with_reducible exact aX.refl _
  | refine aX.ak ?_
  | refine aX.af ?_ (fun _=>?_)
  | refine aX.ae ?_
  | refine aX.loop (fun _=>?_)
  | refine aX.bind ?_ (fun _=>?_)
  | refine aX.cond ?_ ?_
  | split
def qS (x0:(List Int)) (x1:(List Int)):Option (Bool):=
 ak (S:=Unit) (af (ae 0 (tG (nZ x0 x1) ((0:Int)))) (fun bc=>(some (Out.ret ((decide ((x0.length:Int) < (x1.length:Int))))))))
theorem sR:∀ a0 a1,aX (qS a0 a1) (mU a0 a1):=by
 intros; unfold qS mU
 repeat' first
  | with_reducible exact aX.refl _
  | exact sF _ _ _
  | refine aX.ak ?_
  | refine aX.af ?_ (fun _=>?_)
  | refine aX.ae ?_
  | refine aX.loop (fun _=>?_)
  | refine aX.bind ?_ (fun _=>?_)
  | refine aX.cond ?_ ?_
  | split
def oV (x0:bH) (x1:bH):Option (Bool):=
 ak (S:=Unit) (bif (x0.aF) != (x1.aF) then (some (Out.ret ((decide (x0.aF < x1.aF))))) else (bif (x0.To) != (x1.To) then (some (Out.ret ((decide (x0.To < x1.To))))) else ((qS x0.kq x1.kq)>>=fun uJ=>(some (Out.ret (uJ))))))
theorem sI:∀ a0 a1,aX (oV a0 a1) (jN a0 a1):=by
 intros; unfold oV jN
 repeat' first
  | with_reducible exact aX.refl _
  | exact sR _ _
  | refine aX.ak ?_
  | refine aX.af ?_ (fun _=>?_)
  | refine aX.ae ?_
  | refine aX.loop (fun _=>?_)
  | refine aX.bind ?_ (fun _=>?_)
  | refine aX.cond ?_ ?_
  | split
def oW (x0:Int) (s0:(List bH)) (s1:Int):Option (Out ((List bH)×Int) ((List bH))):=
 (bif decide (s1 < x0) then ((fits 40 (s0.length+1))>>=fun n26=>(some (Out.norm (s0++[bH.mk s1 s1 []],aj (s1+(1:Int)))))) else (some (Out.exit 0 (s0,s1))))
theorem sJ:∀ a0 a1 a2,aX (oW a0 a1 a2) (lE a0 a1 a2):=by
 intros; unfold oW lE
 repeat' first
  | with_reducible exact aX.refl _
  | refine aX.ak ?_
  | refine aX.af ?_ (fun _=>?_)
  | refine aX.ae ?_
  | refine aX.loop (fun _=>?_)
  | refine aX.bind ?_ (fun _=>?_)
  | refine aX.cond ?_ ?_
  | split
def oX (x1:(List Int)) (x2:(List Int)) (s1:Int) (s0:(List bH)) (s2:Int):Option (Out ((List bH)×Int) ((List bH))):=
 (bif decide (s2 < (x1.length:Int)) then ((idx x1 (s2))>>=fun Mg=>((idx s0 (s1))>>=fun Mh=>(bif (Mg) == (Mh.To) then ((idx s0 (s1))>>=fun UE=>((idx x2 (s2))>>=fun Ch=>((idx s0 (s1))>>=fun UF=>((oL UF.kq)>>=fun Mi=>((fits 8 (Mi.length+1))>>=fun n72=>((fits 40 (s0.length+1))>>=fun n75=>(some (Out.norm (s0++[bH.mk UE.aF Ch (Mi++[s2])],aj (s2+(1:Int))))))))))) else (some (Out.norm (s0,aj (s2+(1:Int)))))))) else (some (Out.exit 4 (s0,s2))))
theorem sK:∀ a0 a1 a2 a3 a4,aX (oX a0 a1 a2 a3 a4) (jO a0 a1 a2 a3 a4):=by
 intros; unfold oX jO
 repeat' first
  | with_reducible exact aX.refl _
  | exact rX _
  | refine aX.ak ?_
  | refine aX.af ?_ (fun _=>?_)
  | refine aX.ae ?_
  | refine aX.loop (fun _=>?_)
  | refine aX.bind ?_ (fun _=>?_)
  | refine aX.cond ?_ ?_
  | split
def oY (x1:(List Int)) (x2:(List Int)) (s0:(List bH)) (s1:Int):Option (Out ((List bH)×Int) ((List bH))):=
 (((bif decide (s1 < (s0.length:Int)) then (some (decide ((s0.length:Int)≤(40:Int)))) else (some (false))))>>=fun Mj=>(bif Mj then (af (ae 4 (tG (fun s=>oX x1 x2 s1 s.1 s.2) (s0,(0:Int)))) (fun (s0,s2)=>(some (Out.norm (s0,aj (s1+(1:Int))))))) else (some (Out.exit 2 (s0,s1)))))
theorem sL:∀ a0 a1 a2 a3,aX (oY a0 a1 a2 a3) (lF a0 a1 a2 a3):=by
 intros; unfold oY lF
 repeat' first
  | with_reducible exact aX.refl _
  | exact sK _ _ _ _ _
  | refine aX.ak ?_
  | refine aX.af ?_ (fun _=>?_)
  | refine aX.ae ?_
  | refine aX.loop (fun _=>?_)
  | refine aX.bind ?_ (fun _=>?_)
  | refine aX.cond ?_ ?_
  | split
def oZ (s0:(List bH)) (s1:Int):Option (Out ((List bH)×Int) ((List bH))):=
 (((bif decide ((0:Int) < s1) then ((idx s0 (s1))>>=fun Ci=>((idx s0 (aj (s1 - (1:Int))))>>=fun Dq=>((oV Ci Dq)>>=fun Mk=>(some (Mk))))) else (some (false))))>>=fun UG=>(bif UG then ((idx s0 (s1))>>=fun OA=>((idx s0 (aj (s1 - (1:Int))))>>=fun we=>((idx s0 (s1))>>=fun G6=>((idx (s0.set (s1).toNat we) (aj (s1 - (1:Int))))>>=fun OB=>(some (Out.norm ((s0.set (s1).toNat we).set (aj (s1 - (1:Int))).toNat OA,aj (s1 - (1:Int))))))))) else (some (Out.exit 8 (s0,s1)))))
theorem sM:∀ a0 a1,aX (oZ a0 a1) (lG a0 a1):=by
 intros; unfold oZ lG
 repeat' first
  | with_reducible exact aX.refl _
  | exact sI _ _
  | refine aX.ak ?_
  | refine aX.af ?_ (fun _=>?_)
  | refine aX.ae ?_
  | refine aX.loop (fun _=>?_)
  | refine aX.bind ?_ (fun _=>?_)
  | refine aX.cond ?_ ?_
  | split
def pA (s0:(List bH)) (s1:Int):Option (Out ((List bH)×Int) ((List bH))):=
 (bif decide (s1 < (s0.length:Int)) then (af (ae 8 (tG (fun s=>oZ s.1 s.2) (s0,s1))) (fun (s0,s2)=>(some (Out.norm (s0,aj (s1+(1:Int))))))) else (some (Out.exit 6 (s0,s1))))
theorem sN:∀ a0 a1,aX (pA a0 a1) (lH a0 a1):=by
 intros; unfold pA lH
 repeat' first
  | with_reducible exact aX.refl _
  | exact sM _ _
  | refine aX.ak ?_
  | refine aX.af ?_ (fun _=>?_)
  | refine aX.ae ?_
  | refine aX.loop (fun _=>?_)
  | refine aX.bind ?_ (fun _=>?_)
  | refine aX.cond ?_ ?_
  | split
def rL (x0:Int) (x1:(List Int)) (x2:(List Int)):Option ((List bH)):=
 ak (S:=Unit) (af (ae 0 (tG (fun s=>oW x0 s.1 s.2) (([]:(List bH)),(0:Int)))) (fun (s0,s1)=>(af (ae 2 (tG (fun s=>oY x1 x2 s.1 s.2) (s0,(0:Int)))) (fun (s0,s1)=>(af (ae 6 (tG (fun s=>pA s.1 s.2) (s0,(1:Int)))) (fun (s0,s1)=>(some (Out.ret (s0)))))))))
theorem sX:∀ a0 a1 a2,aX (rL a0 a1 a2) (mG a0 a1 a2):=by
 intros; unfold rL mG
 repeat' first
  | with_reducible exact aX.refl _
  | exact sJ _ _ _
  | exact sL _ _ _ _
  | exact sN _ _
  | refine aX.ak ?_
  | refine aX.af ?_ (fun _=>?_)
  | refine aX.ae ?_
  | refine aX.loop (fun _=>?_)
  | refine aX.bind ?_ (fun _=>?_)
  | refine aX.cond ?_ ?_
  | split
def qU (x0:aG):Option (Bool):=
 ak (S:=Unit) (((bif decide (x0.aA≤(8:Int)) then (some (decide ((x0.aF.length:Int)≤(40:Int)))) else (some (false))))>>=fun g8=>(some (Out.ret (g8))))
theorem sS:∀ a0,aX (qU a0) (dT a0):=by
 intros; unfold qU dT
 repeat' first
  | with_reducible exact aX.refl _
  | refine aX.ak ?_
  | refine aX.af ?_ (fun _=>?_)
  | refine aX.ae ?_
  | refine aX.loop (fun _=>?_)
  | refine aX.bind ?_ (fun _=>?_)
  | refine aX.cond ?_ ?_
  | split
def oA (x0:(List Int)) (x1:(List Int)) (bc:Int):Option (Out (Int) (Bool)):=
 (bif decide (bc < (x0.length:Int)) then ((idx x0 (bc))>>=fun vP=>((idx x1 (bc))>>=fun Aj=>(bif (vP) != (Aj) then (some (Out.ret (false))) else (some (Out.norm (aj (bc+(1:Int)))))))) else (some (Out.exit 0 (bc))))
theorem sG:∀ a0 a1 a2,aX (oA a0 a1 a2) (mO a0 a1 a2):=by
 intros; unfold oA mO
 repeat' first
  | with_reducible exact aX.refl _
  | refine aX.ak ?_
  | refine aX.af ?_ (fun _=>?_)
  | refine aX.ae ?_
  | refine aX.loop (fun _=>?_)
  | refine aX.bind ?_ (fun _=>?_)
  | refine aX.cond ?_ ?_
  | split
def qV (x0:(List Int)) (x1:(List Int)):Option (Bool):=
 ak (S:=Unit) (bif ((x0.length:Int)) != ((x1.length:Int)) then (some (Out.ret (false))) else (af (ae 0 (tG (oA x0 x1) ((0:Int)))) (fun bc=>(some (Out.ret (true))))))
theorem sT:∀ a0 a1,aX (qV a0 a1) (iO a0 a1):=by
 intros; unfold qV iO
 repeat' first
  | with_reducible exact aX.refl _
  | exact sG _ _ _
  | refine aX.ak ?_
  | refine aX.af ?_ (fun _=>?_)
  | refine aX.ae ?_
  | refine aX.loop (fun _=>?_)
  | refine aX.bind ?_ (fun _=>?_)
  | refine aX.cond ?_ ?_
  | split
def nC (y8:(List bH)) (ed:Int) (ja:(List Int)) (jb:(List Int)) (mb:(List Int)):Option (Out (Int×(List Int)×(List Int)×(List Int)) (aG)):=
 (bif decide (ed < (y8.length:Int)) then ((idx y8 (ed))>>=fun Cz=>((fits 8 (ja.length+1))>>=fun n134=>((idx y8 (ed))>>=fun G7=>((fits 8 (jb.length+1))>>=fun n173=>((idx y8 (ed))>>=fun G8=>(bif ((G8.kq.length:Int)) == ((0:Int)) then ((idx y8 (ed))>>=fun G9=>((idx mb (G9.aF))>>=fun aaa=>(some (Out.norm (aj (ed+(1:Int)),ja++[Cz.aF],jb++[G7.To],mb.set (G9.aF).toNat (ed)))))) else (some (Out.norm (aj (ed+(1:Int)),ja++[Cz.aF],jb++[G7.To],mb))))))))) else (some (Out.exit 0 (ed,ja,jb,mb))))
theorem sB:∀ a0 a1 a2 a3 a4,aX (nC a0 a1 a2 a3 a4) (jT a0 a1 a2 a3 a4):=by
 intros; unfold nC jT
 repeat' first
  | with_reducible exact aX.refl _
  | refine aX.ak ?_
  | refine aX.af ?_ (fun _=>?_)
  | refine aX.ae ?_
  | refine aX.loop (fun _=>?_)
  | refine aX.bind ?_ (fun _=>?_)
  | refine aX.cond ?_ ?_
  | split
def nD (y8:(List bH)) (iT:Int) (vl:(List Int)) (xa:bH) (wG:Int) (pr:Int):Option (Out (Int×Int) (aG)):=
 (bif decide (pr < (y8.length:Int)) then ((((idx y8 (pr))>>=fun OC=>((idx y8 (iT))>>=fun OD=>(bif (OC.aF) == (OD.aF) then ((idx y8 (pr))>>=fun OF=>((qV OF.kq (vl++xa.kq))>>=fun OG=>(some (OG)))) else (some (false))))))>>=fun OH=>(bif OH then (some (Out.norm (pr,aj (pr+(1:Int))))) else (some (Out.norm (wG,aj (pr+(1:Int))))))) else (some (Out.exit 6 (wG,pr))))
theorem sC:∀ a0 a1 a2 a3 a4 a5,aX (nD a0 a1 a2 a3 a4 a5) (jU a0 a1 a2 a3 a4 a5):=by
 intros; unfold nD jU
 repeat' first
  | with_reducible exact aX.refl _
  | exact sT _ _
  | refine aX.ak ?_
  | refine aX.af ?_ (fun _=>?_)
  | refine aX.ae ?_
  | refine aX.loop (fun _=>?_)
  | refine aX.bind ?_ (fun _=>?_)
  | refine aX.cond ?_ ?_
  | split
def nE (y8:(List bH)) (iT:Int) (mi:(List Int)) (mj:Int):Option (Out ((List Int)×Int) (aG)):=
 (bif decide (mj < (y8.length:Int)) then ((idx y8 (iT))>>=fun OI=>((idx y8 (mj))>>=fun OJ=>(bif (OI.To) == (OJ.aF) then ((idx y8 (iT))>>=fun OK=>((oL OK.kq)>>=fun vl=>((idx y8 (mj))>>=fun xa=>((fits 8 (vl.length+xa.kq.length))>>=fun aab=>(af (ae 6 (tG (fun s=>nD y8 iT vl xa s.1 s.2) ((-1:Int),(0:Int)))) (fun (wG,pr)=>((fits 8 (mi.length+1))>>=fun aac=>(some (Out.norm (mi++[wG],aj (mj+(1:Int)))))))))))) else ((fits 8 (mi.length+1))>>=fun aad=>(some (Out.norm (mi++[(-1:Int)],aj (mj+(1:Int))))))))) else (some (Out.exit 4 (mi,mj))))
theorem sD:∀ a0 a1 a2 a3,aX (nE a0 a1 a2 a3) (jV a0 a1 a2 a3):=by
 intros; unfold nE jV
 repeat' first
  | with_reducible exact aX.refl _
  | exact rX _
  | exact sC _ _ _ _ _ _
  | refine aX.ak ?_
  | refine aX.af ?_ (fun _=>?_)
  | refine aX.ae ?_
  | refine aX.loop (fun _=>?_)
  | refine aX.bind ?_ (fun _=>?_)
  | refine aX.cond ?_ ?_
  | split
def nF (y8:(List bH)) (iT:Int) (oq:(List (List Int))):Option (Out (Int×(List (List Int))) (aG)):=
 (bif decide (iT < (y8.length:Int)) then (af (ae 4 (tG (fun s=>nE y8 iT s.1 s.2) (([]:(List Int)),(0:Int)))) (fun (mi,mj)=>((fits 24 (oq.length+1))>>=fun aae=>(some (Out.norm (aj (iT+(1:Int)),oq++[mi])))))) else (some (Out.exit 2 (iT,oq))))
theorem sE:∀ a0 a1 a2,aX (nF a0 a1 a2) (hJ a0 a1 a2):=by
 intros; unfold nF hJ
 repeat' first
  | with_reducible exact aX.refl _
  | exact sD _ _ _ _
  | refine aX.ak ?_
  | refine aX.af ?_ (fun _=>?_)
  | refine aX.ae ?_
  | refine aX.loop (fun _=>?_)
  | refine aX.bind ?_ (fun _=>?_)
  | refine aX.cond ?_ ?_
  | split
def mT (x0:Int) (x1:(List Int)) (x2:(List Int)):Option (aG):=
 ak (S:=Unit) ((rL (x0) x1 x2)>>=fun y8=>((mk 8 (x0))>>=fun n36=>(af (ae 0 (tG (fun s=>nC y8 s.1 s.2.1 s.2.2.1 s.2.2.2) ((0:Int),([]:(List Int)),([]:(List Int)),List.replicate n36 (0:Int)))) (fun (ed,ja,jb,mb)=>((qU (aG.mk x0 ja jb mb (([]:(List (List Int))))))>>=fun OL=>(bif !(OL) then (some (Out.ret ((aG.mk x0 ja jb mb (([]:(List (List Int)))))))) else (af (ae 2 (tG (fun s=>nF y8 s.1 s.2) ((0:Int),([]:(List (List Int)))))) (fun (iT,oq)=>(some (Out.ret ((aG.mk x0 ja jb mb oq))))))))))))
theorem sQ:∀ a0 a1 a2,aX (mT a0 a1 a2) (fQ a0 a1 a2):=by
 intros; unfold mT fQ
 repeat' first
  | with_reducible exact aX.refl _
  | exact sX _ _ _
  | exact sS _
  | exact sB _ _ _ _ _
  | exact sE _ _ _
  | refine aX.ak ?_
  | refine aX.af ?_ (fun _=>?_)
  | refine aX.ae ?_
  | refine aX.loop (fun _=>?_)
  | refine aX.bind ?_ (fun _=>?_)
  | refine aX.cond ?_ ?_
  | split
end Go.Proofs.YtbhhmalgcnhniaaGreat
set_option linter.unusedVariables false
set_option linter.unusedSimpArgs false
namespace Go.Proofs.YtbhhmalgcnhniaaGreat
open Go Go.Li
def Js (n:Nat):List (Int×Int):=(List.range n).flatMap fun (u:Nat)=>((List.range n).filter fun (v:Nat)=>Nat.blt u v).map fun (v:Nat)=>(Int.ofNat u,Int.ofNat v)
def wA (n:Nat):Nat→List (List (Int×Int))
 | 0=>[[]]
 | k+1=>(wA n k).flatMap fun l=>(Js n).map fun p=>p :: l
def EC (n:Nat) (l:List (Int×Int)):Bool:=match mT n (l.map (·.1)) (l.map (·.2)) with
 | some c=>WC c
 | none=>false
theorem WI:((wA 2 0++wA 2 1++wA 2 2++wA 2 3).all (EC 2))=true:=by kernel_rfl
theorem WJ:((wA 3 0++wA 3 1++wA 3 2++wA 3 3).all (EC 3))=true:=by kernel_rfl
theorem Sw:((wA 4 0++wA 4 1++wA 4 2).all (EC 4))=true:=by kernel_rfl
theorem Sx:((wA 4 3).all (EC 4))=true:=by kernel_rfl
theorem Sy {n:Nat} {u v:Int} (u0:0≤u) (uv:u < v) (v1:v < n):(u,v)∈Js n:=by
 unfold Js
 rw [List.mem_flatMap]
 refine ⟨u.toNat,by rw [List.mem_range]; omega,List.mem_map.2 ⟨v.toNat,List.mem_filter.2 ⟨by rw [List.mem_range]; omega,?_⟩,?_⟩⟩
 ·rw [Nat.blt_eq]; omega
 ·rw [show Int.ofNat u.toNat=u by show ((u.toNat:Nat):Int)=u; omega,show Int.ofNat v.toNat=v by show ((v.toNat:Nat):Int)=v; omega]
theorem Sz {n:Nat}:∀ {l:List (Int×Int)},(∀ p∈l,p∈Js n)→l∈wA n l.length:=by
 intro l
 induction l with
 | nil=>intro _; exact List.mem_singleton.2 rfl
 | cons p l ih=>
  intro h
  show p :: l∈(wA n l.length).flatMap fun l=>(Js n).map fun p=>p :: l
  exact List.mem_flatMap.2 ⟨l,ih fun q hq=>h q (List.mem_cons_of_mem _ hq),List.mem_map.2 ⟨p,h p (by simp),rfl⟩⟩
theorem Eu {n:Nat} {f t:List Int} (hn:n=2∨n=3∨n=4) (hl:t.length=f.length) (hk:f.length≤3) (h:∀ (i:Nat) u v,f[i]? = some u→t[i]? = some v→0≤u∧u < v∧v < n):Ok (fQ n f t) Ty:=by
 have hm:f.zip t∈wA n f.length:=by
  have h1:∀ p∈f.zip t,p∈Js n:=fun p hp=>by
   obtain ⟨i,hi⟩:=List.getElem?_of_mem hp
   obtain ⟨e1,e2⟩:=Ek hi
   obtain ⟨a,b,c⟩:=h i _ _ e1 e2
   exact Sy a b c
  have:=Sz h1
  rwa [List.length_zip,hl,Nat.min_self] at this
 have hc:EC n (f.zip t)=true:=by
  have two:=List.all_eq_true.1 WI
  have three:=List.all_eq_true.1 WJ
  have four:=List.all_eq_true.1 Sw
  have XN:=List.all_eq_true.1 Sx
  simp only [List.mem_append] at two three four
  have Az:f.length=0∨f.length=1∨f.length=2∨f.length=3:=by omega
  rcases hn with rfl | rfl | rfl <;> rcases Az with e | e | e | e <;> rw [e] at hm
  ·exact two _ (.inl (.inl (.inl hm)))
  ·exact two _ (.inl (.inl (.inr hm)))
  ·exact two _ (.inl (.inr hm))
  ·exact two _ (.inr hm)
  ·exact three _ (.inl (.inl (.inl hm)))
  ·exact three _ (.inl (.inl (.inr hm)))
  ·exact three _ (.inl (.inr hm))
  ·exact three _ (.inr hm)
  ·exact four _ (.inl (.inl hm))
  ·exact four _ (.inl (.inr hm))
  ·exact four _ (.inr hm)
  ·exact XN _ hm
 unfold EC at hc
 rw [List.map_fst_zip (by omega),List.map_snd_zip (by omega)] at hc
 cases hp:mT n f t with
 | none=>rw [hp] at hc; cases hc
 | some c=>rw [hp] at hc; exact ⟨c,sQ _ _ _ _ hp,Re hc⟩
end Go.Proofs.YtbhhmalgcnhniaaGreat
