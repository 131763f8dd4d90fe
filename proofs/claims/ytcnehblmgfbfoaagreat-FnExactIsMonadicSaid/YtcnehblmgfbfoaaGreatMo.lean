/- Models, printed by a program: what each function computes, on plain data. No condition. -/
import Derived.Test.YtcnehblmgfbfoaaGreatLj
import Derived.Test.YtcnehblmgfbfoaaGreatLn
import Derived.Test.YtcnehblmgfbfoaaGreatLq
namespace Go.Proofs.YtcnehblmgfbfoaaGreat
open Go Go.Li
set_option linter.unusedVariables false
noncomputable section
structure aJ where
 aE:Int
 aH:(List Int)
 To:(List Int)
 aI:(List Int)
 aG:(List (List Int))
structure aN where
 aA:aJ
 aF:aJ
 aE:(List Int)
 ab:(List Int)
structure bI where
 Left:aN
 ae:aN
 Unit:(List Int)
 aw:(List Int)
structure cK where
 On:aN
 Unit:(List Int)
 cb:(List Int)
structure pV where
 aH:Int
 To:Int
structure bY where
 aA:aN
 aF:aN
 aX:(List Int)
structure cQ where
 X:Int
 H:Int
def fJ (x0:(List Int)) (x1:Int):Option (Int):=
 an (S:=Unit) (bif decide (bg (x1 - (x0.length:Int)) < (0:Int)) then (some (Out.ret (((-1:Int))))) else (some (Out.ret ((bg (x1 - (x0.length:Int)))))))
def iE (x0:(List (List Int))) (HQ:Int) (bj:Int):Option (Out (Int×Int) (Int)):=
 (bif decide (bj < (x0.length:Int)) then ((idx x0 (bj))>>=fun xD=>((fJ xD (HQ))>>=fun zh=>(bif decide (zh < (0:Int)) then (some (Out.ret (((-1:Int))))) else (some (Out.norm (zh,bg (bj+(1:Int)))))))) else (some (Out.exit 0 (HQ,bj))))
def nM (x0:(List (List Int))) (x1:Int):Option (Int):=
 an (S:=Unit) (bif decide (bg (x1 - (x0.length:Int)) < (0:Int)) then (some (Out.ret (((-1:Int))))) else (aj (ag 0 (ai (fun s=>iE x0 s.1 s.2) (bg (x1 - (x0.length:Int)),(0:Int)))) (fun (HQ,bj)=>(some (Out.ret (HQ))))))
def kV (x0:aJ) (x1:Int):Option (Int):=
 an (S:=Unit) ((fJ x0.aH (x1))>>=fun y8=>(bif decide (y8 < (0:Int)) then (some (Out.ret (((-1:Int))))) else ((fJ x0.To (y8))>>=fun sk=>(bif decide (sk < (0:Int)) then (some (Out.ret (((-1:Int))))) else ((fJ x0.aI (sk))>>=fun rC=>(bif decide (rC < (0:Int)) then (some (Out.ret (((-1:Int))))) else ((nM x0.aG (rC))>>=fun qM=>(bif decide (qM < (0:Int)) then (some (Out.ret (((-1:Int))))) else (some (Out.ret (qM)))))))))))
def lW (x0:aN) (x1:Int):Option (Int):=
 an (S:=Unit) ((kV x0.aA (x1))>>=fun y8=>(bif decide (y8 < (0:Int)) then (some (Out.ret (((-1:Int))))) else ((kV x0.aF (y8))>>=fun sk=>(bif decide (sk < (0:Int)) then (some (Out.ret (((-1:Int))))) else ((fJ x0.aE (sk))>>=fun rC=>(bif decide (rC < (0:Int)) then (some (Out.ret (((-1:Int))))) else ((fJ x0.ab (rC))>>=fun qM=>(bif decide (qM < (0:Int)) then (some (Out.ret (((-1:Int))))) else (some (Out.ret (qM)))))))))))
def lO (x0:bI) (x1:Int):Option (Int):=
 an (S:=Unit) ((lW x0.Left (x1))>>=fun y8=>(bif decide (y8 < (0:Int)) then (some (Out.ret (((-1:Int))))) else ((lW x0.ae (y8))>>=fun sk=>(bif decide (sk < (0:Int)) then (some (Out.ret (((-1:Int))))) else ((fJ x0.Unit (sk))>>=fun rC=>(bif decide (rC < (0:Int)) then (some (Out.ret (((-1:Int))))) else ((fJ x0.aw (rC))>>=fun qM=>(bif decide (qM < (0:Int)) then (some (Out.ret (((-1:Int))))) else (some (Out.ret (qM)))))))))))
def kB (x0:(List Int)) (da:Int) (jh:(List Int)):Option (Out (Int×(List Int)) ((List Int))):=
 (bif decide (da < (x0.length:Int)) then ((idx x0 (da))>>=fun Aw=>((idx jh (da))>>=fun RS=>(some (Out.norm (bg (da+(1:Int)),jh.set (da).toNat (Aw)))))) else (some (Out.exit 0 (da,jh))))
def fK (x0:(List Int)):Option ((List Int)):=
 an (S:=Unit) ((mk 8 ((x0.length:Int)))>>=fun n3=>(aj (ag 0 (ai (fun s=>kB x0 s.1 s.2) ((0:Int),List.replicate n3 (0:Int)))) (fun (da,jh)=>(some (Out.ret (jh))))))
def jO (x0:(List (List Int))) (da:Int) (jh:(List (List Int))):Option (Out (Int×(List (List Int))) ((List (List Int)))):=
 (bif decide (da < (x0.length:Int)) then ((idx x0 (da))>>=fun rD=>((fK rD)>>=fun qc=>((idx jh (da))>>=fun NT=>(some (Out.norm (bg (da+(1:Int)),jh.set (da).toNat qc)))))) else (some (Out.exit 0 (da,jh))))
def nN (x0:(List (List Int))):Option ((List (List Int))):=
 an (S:=Unit) ((mk 24 ((x0.length:Int)))>>=fun n3=>(aj (ag 0 (ai (fun s=>jO x0 s.1 s.2) ((0:Int),List.replicate n3 ([]:(List Int))))) (fun (da,jh)=>(some (Out.ret (jh))))))
def kW (x0:aJ):Option (aJ):=
 an (S:=Unit) ((fK x0.aH)>>=fun l7=>((fK x0.To)>>=fun RU=>((fK x0.aI)>>=fun RV=>((nN x0.aG)>>=fun RW=>(some (Out.ret ((aJ.mk x0.aE l7 RU RV RW))))))))
def lX (x0:aN):Option (aN):=
 an (S:=Unit) ((kW x0.aA)>>=fun qc=>((kW x0.aF)>>=fun RX=>((fK x0.aE)>>=fun W1=>((fK x0.ab)>>=fun W2=>(some (Out.ret ((aN.mk qc RX W1 W2))))))))
def iD (x0:bI):Option (bI):=
 an (S:=Unit) ((lX x0.Left)>>=fun qc=>((lX x0.ae)>>=fun W3=>((fK x0.Unit)>>=fun W4=>((fK x0.aw)>>=fun W5=>(some (Out.ret ((bI.mk qc W3 W4 W5))))))))
def pH (x0:Int) (x1:Int) (x2:Int):Option (Bool):=
 an (S:=Unit) (((bif decide (x0 ≥ x1) then (some (decide (x0≤x2))) else (some (false))))>>=fun g3=>(some (Out.ret (g3))))
def nO (x0:Int) (x1:(List Int)) (bj:Int):Option (Out (Int) (Bool)):=
 (bif decide (bj < (x1.length:Int)) then ((((idx x1 (bj))>>=fun Ee=>(bif decide (Ee < (0:Int)) then (some (true)) else ((idx x1 (bj))>>=fun uE=>(some (decide (uE ≥ x0)))))))>>=fun g9=>(bif g9 then (some (Out.ret (false))) else (some (Out.norm (bg (bj+(1:Int))))))) else (some (Out.exit 0 (bj))))
def jX (x0:Int) (x1:(List Int)):Option (Bool):=
 an (S:=Unit) (aj (ag 0 (ai (nO x0 x1) ((0:Int)))) (fun bj=>(some (Out.ret (true)))))
def nD (x0:(List Int)) (x1:Int) (x2:Int):Option (Bool):=
 an (S:=Unit) (((bif ((x0.length:Int)) == (x1) then ((jX (x2) x0)>>=fun y6=>(some (y6))) else (some (false))))>>=fun g3=>(some (Out.ret (g3))))
def mZ (x0:aJ) (da:Int):Option (Out (Int) (Bool)):=
 (bif decide (da < x0.aE) then ((((idx x0.aI (da))>>=fun NU=>((idx x0.aH (NU))>>=fun RY=>(bif (RY) != (da) then (some (true)) else ((idx x0.aI (da))>>=fun RZ=>((idx x0.To (RZ))>>=fun e52=>(some ((e52) != (da)))))))))>>=fun R0=>(bif R0 then (some (Out.ret (false))) else (some (Out.norm (bg (da+(1:Int))))))) else (some (Out.exit 0 (da))))
def nA (x0:aJ) (l8:Int) (vA:Int):Option (Out (Int) (Bool)):=
 (bif decide (vA < (x0.aH.length:Int)) then ((idx x0.aG (l8))>>=fun e86=>((idx e86 (vA))>>=fun Jz=>((idx x0.To (l8))>>=fun R1=>((idx x0.aH (vA))>>=fun e99=>(bif (R1) != (e99) then (bif (Jz) != ((-1:Int)) then (some (Out.ret (false))) else (some (Out.norm (bg (vA+(1:Int)))))) else (((bif decide (Jz < (0:Int)) then (some (true)) else (bif decide (Jz ≥ (x0.aH.length:Int)) then (some (true)) else ((idx x0.aH (Jz))>>=fun W6=>((idx x0.aH (l8))>>=fun W7=>(bif (W6) != (W7) then (some (true)) else ((idx x0.To (Jz))>>=fun W8=>((idx x0.To (vA))>>=fun W9=>(some ((W8) != (W9)))))))))))>>=fun Xa=>(bif Xa then (some (Out.ret (false))) else (some (Out.norm (bg (vA+(1:Int)))))))))))) else (some (Out.exit 4 (vA))))
def oH (x0:aJ) (l8:Int):Option (Out (Int) (Bool)):=
 (bif decide (l8 < (x0.aH.length:Int)) then ((idx x0.aG (l8))>>=fun R2=>(bif ((R2.length:Int)) != ((x0.aH.length:Int)) then (some (Out.ret (false))) else (aj (ag 4 (ai (nA x0 l8) ((0:Int)))) (fun vA=>(some (Out.norm (bg (l8+(1:Int))))))))) else (some (Out.exit 2 (l8))))
def oI (x0:aJ):Option (Bool):=
 an (S:=Unit) ((((pH (x0.aE) ((0:Int)) ((8:Int)))>>=fun Ef=>(bif !(Ef) then (some (true)) else (bif decide ((x0.aH.length:Int) > (40:Int)) then (some (true)) else ((nD x0.aH ((x0.aH.length:Int)) (x0.aE))>>=fun my=>(bif !(my) then (some (true)) else ((nD x0.To ((x0.aH.length:Int)) (x0.aE))>>=fun uF=>(bif !(uF) then (some (true)) else (some (((x0.aG.length:Int)) != ((x0.aH.length:Int))))))))))))>>=fun g10=>(bif g10 then (some (Out.ret (false))) else (((bif ((x0.aI.length:Int)) != (x0.aE) then (some (true)) else ((jX ((x0.aH.length:Int)) x0.aI)>>=fun JB=>(some (!(JB))))))>>=fun g27=>(bif g27 then (some (Out.ret (false))) else (aj (ag 0 (ai (mZ x0) ((0:Int)))) (fun da=>(aj (ag 2 (ai (oH x0) ((0:Int)))) (fun l8=>(some (Out.ret (true)))))))))))
def mL (x0:aJ) (bu:Int):Option (Out (Int) (Int×Int×Int×Int)):=
 (bif decide (bu < (x0.aH.length:Int)) then ((((idx x0.aH (bu))>>=fun rD=>((idx x0.aI (rD))>>=fun Eg=>((idx x0.aG (Eg))>>=fun va=>((idx va (bu))>>=fun JC=>(bif (JC) != (bu) then (some (true)) else ((idx x0.aG (bu))>>=fun e32=>((idx x0.To (bu))>>=fun JD=>((idx x0.aI (JD))>>=fun Ax=>((idx e32 (Ax))>>=fun e43=>(some ((e43) != (bu)))))))))))))>>=fun g16=>(bif g16 then (some (Out.ret ((((1:Int)),bu,((0:Int)),((0:Int)))))) else (some (Out.norm (bg (bu+(1:Int))))))) else (some (Out.exit 0 (bu))))
def kC (x0:aJ) (ik:Int) (kp:Int) (mz:Int):Option (Out (Int) (Int×Int×Int×Int)):=
 (bif decide (mz < (x0.aH.length:Int)) then ((((idx x0.To (kp))>>=fun e82=>((idx x0.aH (mz))>>=fun e84=>(bif (e82) == (e84) then ((idx x0.aG (ik))>>=fun R3=>((idx R3 (kp))>>=fun e94=>((idx x0.aG (e94))>>=fun e96=>((idx e96 (mz))>>=fun HR=>((idx x0.aG (ik))>>=fun Xb=>((idx x0.aG (kp))>>=fun Eh=>((idx Eh (mz))>>=fun Xc=>((idx Xb (Xc))>>=fun Xd=>(some ((HR) != (Xd))))))))))) else (some (false))))))>>=fun g80=>(bif g80 then (some (Out.ret ((((2:Int)),ik,kp,mz)))) else (some (Out.norm (bg (mz+(1:Int))))))) else (some (Out.exit 6 (mz))))
def kD (x0:aJ) (ik:Int) (kp:Int):Option (Out (Int) (Int×Int×Int×Int)):=
 (bif decide (kp < (x0.aH.length:Int)) then ((idx x0.To (ik))>>=fun JE=>((idx x0.aH (kp))>>=fun Ei=>(bif (JE) != (Ei) then (some (Out.norm (bg (kp+(1:Int))))) else (aj (ag 6 (ai (kC x0 ik kp) ((0:Int)))) (fun mz=>(some (Out.norm (bg (kp+(1:Int)))))))))) else (some (Out.exit 4 (kp))))
def oD (x0:aJ) (ik:Int):Option (Out (Int) (Int×Int×Int×Int)):=
 (bif decide (ik < (x0.aH.length:Int)) then (aj (ag 4 (ai (kD x0 ik) ((0:Int)))) (fun kp=>(some (Out.norm (bg (ik+(1:Int))))))) else (some (Out.exit 2 (ik))))
def nX (x0:aJ):Option (Int×Int×Int×Int):=
 an (S:=Unit) (aj (ag 0 (ai (mL x0) ((0:Int)))) (fun bu=>(aj (ag 2 (ai (oD x0) ((0:Int)))) (fun ik=>(some (Out.ret ((((0:Int)),((0:Int)),((0:Int)),((0:Int))))))))))
def oJ (x0:aJ):Option (Bool):=
 an (S:=Unit) ((oI x0)>>=fun y8=>(bif !(y8) then (some (Out.ret (false))) else ((nX x0)>>=fun xE=>(some (Out.ret (((xE.1) == ((0:Int)))))))))
def pA (x0:aN) (bj:Int):Option (Out (Int) (Bool)):=
 (bif decide (bj < (x0.aA.aH.length:Int)) then ((((idx x0.ab (bj))>>=fun R4=>((idx x0.aF.aH (R4))>>=fun B8=>((idx x0.aA.aH (bj))>>=fun R5=>((idx x0.aE (R5))>>=fun R6=>(bif (B8) != (R6) then (some (true)) else ((idx x0.ab (bj))>>=fun VZ=>((idx x0.aF.To (VZ))>>=fun JF=>((idx x0.aA.To (bj))>>=fun e83=>((idx x0.aE (e83))>>=fun R7=>(some ((JF) != (R7)))))))))))))>>=fun g68=>(bif g68 then (some (Out.ret (false))) else (some (Out.norm (bg (bj+(1:Int))))))) else (some (Out.exit 0 (bj))))
def pB (x0:aN) (tn:Int):Option (Out (Int) (Bool)):=
 (bif decide (tn < x0.aA.aE) then ((idx x0.aA.aI (tn))>>=fun LZ=>((idx x0.ab (LZ))>>=fun L4=>((idx x0.aE (tn))>>=fun Ej=>((idx x0.aF.aI (Ej))>>=fun Ek=>(bif (L4) != (Ek) then (some (Out.ret (false))) else (some (Out.norm (bg (tn+(1:Int)))))))))) else (some (Out.exit 2 (tn))))
def pC (x0:aN) (nm:Int) (zD:Int):Option (Out (Int) (Bool)):=
 (bif decide (zD < (x0.aA.aH.length:Int)) then ((((idx x0.aA.To (nm))>>=fun Xe=>((idx x0.aA.aH (zD))>>=fun L5=>(bif (Xe) == (L5) then ((idx x0.aA.aG (nm))>>=fun Xf=>((idx Xf (zD))>>=fun Xg=>((idx x0.ab (Xg))>>=fun Xh=>((idx x0.ab (nm))>>=fun Xi=>((idx x0.aF.aG (Xi))>>=fun Xj=>((idx x0.ab (zD))>>=fun Xk=>((idx Xj (Xk))>>=fun Xl=>(some ((Xh) != (Xl)))))))))) else (some (false))))))>>=fun Xm=>(bif Xm then (some (Out.ret (false))) else (some (Out.norm (bg (zD+(1:Int))))))) else (some (Out.exit 6 (zD))))
def pD (x0:aN) (nm:Int):Option (Out (Int) (Bool)):=
 (bif decide (nm < (x0.aA.aH.length:Int)) then (aj (ag 6 (ai (pC x0 nm) ((0:Int)))) (fun zD=>(some (Out.norm (bg (nm+(1:Int))))))) else (some (Out.exit 4 (nm))))
def nP (x0:aN):Option (Bool):=
 an (S:=Unit) ((((oJ x0.aA)>>=fun qM=>(bif !(qM) then (some (true)) else ((oJ x0.aF)>>=fun Ay=>(bif !(Ay) then (some (true)) else (bif ((x0.aE.length:Int)) != (x0.aA.aE) then (some (true)) else (some (((x0.ab.length:Int)) != ((x0.aA.aH.length:Int))))))))))>>=fun R8=>(bif R8 then (some (Out.ret (false))) else ((((jX (x0.aF.aE) x0.aE)>>=fun R9=>(bif !(R9) then (some (true)) else ((jX ((x0.aF.aH.length:Int)) x0.ab)>>=fun y52=>(some (!(y52)))))))>>=fun g47=>(bif g47 then (some (Out.ret (false))) else (aj (ag 0 (ai (pA x0) ((0:Int)))) (fun bj=>(aj (ag 2 (ai (pB x0) ((0:Int)))) (fun tn=>(aj (ag 4 (ai (pD x0) ((0:Int)))) (fun nm=>(some (Out.ret (true)))))))))))))
def pT (x0:(List Int)) (x1:(List Int)) (bj:Int):Option (Out (Int) (Bool)):=
 (bif decide (bj < (x0.length:Int)) then ((idx x0 (bj))>>=fun uE=>((idx x1 (bj))>>=fun xD=>(bif (uE) != (xD) then (some (Out.ret (false))) else (some (Out.norm (bg (bj+(1:Int)))))))) else (some (Out.exit 0 (bj))))
def kE (x0:(List Int)) (x1:(List Int)):Option (Bool):=
 an (S:=Unit) (bif ((x0.length:Int)) != ((x1.length:Int)) then (some (Out.ret (false))) else (aj (ag 0 (ai (pT x0 x1) ((0:Int)))) (fun bj=>(some (Out.ret (true))))))
def pR (x0:(List (List Int))) (x1:(List (List Int))) (bj:Int):Option (Out (Int) (Bool)):=
 (bif decide (bj < (x0.length:Int)) then ((idx x0 (bj))>>=fun uE=>((idx x1 (bj))>>=fun yi=>((kE uE yi)>>=fun vb=>(bif !(vb) then (some (Out.ret (false))) else (some (Out.norm (bg (bj+(1:Int))))))))) else (some (Out.exit 0 (bj))))
def pE (x0:(List (List Int))) (x1:(List (List Int))):Option (Bool):=
 an (S:=Unit) (bif ((x0.length:Int)) != ((x1.length:Int)) then (some (Out.ret (false))) else (aj (ag 0 (ai (pR x0 x1) ((0:Int)))) (fun bj=>(some (Out.ret (true))))))
def lZ (x0:aJ) (x1:aJ):Option (Bool):=
 an (S:=Unit) (((bif (x0.aE) == (x1.aE) then ((kE x0.aH x1.aH)>>=fun uF=>(bif uF then ((kE x0.To x1.To)>>=fun El=>(bif El then ((kE x0.aI x1.aI)>>=fun qc=>(bif qc then ((pE x0.aG x1.aG)>>=fun vb=>(some (vb))) else (some (false)))) else (some (false)))) else (some (false)))) else (some (false))))>>=fun g16=>(some (Out.ret (g16))))
def nY (x0:aN) (x1:aN):Option (Bool):=
 an (S:=Unit) ((((lZ x0.aF x1.aA)>>=fun Em=>(bif Em then ((lZ x1.aF x0.aA)>>=fun Az=>(some (Az))) else (some (false)))))>>=fun g16=>(some (Out.ret (g16))))
def gQ (x0:(List Int)):Option ((List Int)):=
 an (S:=Unit) ((fits 8 ((([]:(List Int))).length+x0.length))>>=fun n15=>(some (Out.ret ((([]:(List Int))++x0)))))
def kX (x0:(List (List Int))) (de:(List (List Int))) (da:Int):Option (Out ((List (List Int))×Int) ((List (List Int)))):=
 (bif decide (da < (x0.length:Int)) then ((idx x0 (da))>>=fun rD=>((gQ rD)>>=fun qc=>((fits 24 (de.length+1))>>=fun n49=>(some (Out.norm (de++[qc],bg (da+(1:Int)))))))) else (some (Out.exit 0 (de,da))))
def oL (x0:(List (List Int))):Option ((List (List Int))):=
 an (S:=Unit) (aj (ag 0 (ai (fun s=>kX x0 s.1 s.2) (([]:(List (List Int))),(0:Int)))) (fun (de,da)=>(some (Out.ret (de)))))
def nS (x0:aJ):Option (aJ):=
 an (S:=Unit) ((gQ x0.aH)>>=fun my=>((gQ x0.To)>>=fun rC=>((gQ x0.aI)>>=fun ye=>((oL x0.aG)>>=fun R9=>(some (Out.ret ((aJ.mk x0.aE my rC ye R9))))))))
def mA (x0:aJ) (x1:aJ) (x2:(List Int)) (x3:(List Int)):Option (aN):=
 an (S:=Unit) ((nS x0)>>=fun qc=>((nS x1)>>=fun RV=>((gQ x2)>>=fun Xn=>((gQ x3)>>=fun Xo=>(some (Out.ret ((aN.mk qc RV Xn Xo))))))))
def kY (x0:aJ) (de:(List Int)) (bj:Int):Option (Out ((List Int)×Int) (aN)):=
 (bif decide (bj < x0.aE) then ((fits 8 (de.length+1))>>=fun n65=>(some (Out.norm (de++[bj],bg (bj+(1:Int)))))) else (some (Out.exit 0 (de,bj))))
def kZ (x0:aJ) (iv:(List Int)) (tn:Int):Option (Out ((List Int)×Int) (aN)):=
 (bif decide (tn < (x0.aH.length:Int)) then ((fits 8 (iv.length+1))>>=fun n107=>(some (Out.norm (iv++[tn],bg (tn+(1:Int)))))) else (some (Out.exit 2 (iv,tn))))
def iW (x0:aJ):Option (aN):=
 an (S:=Unit) (aj (ag 0 (ai (fun s=>kY x0 s.1 s.2) (([]:(List Int)),(0:Int)))) (fun (de,bj)=>(aj (ag 2 (ai (fun s=>kZ x0 s.1 s.2) (([]:(List Int)),(0:Int)))) (fun (iv,tn)=>((mA x0 x0 de iv)>>=fun L6=>(some (Out.ret (L6))))))))
def lA (x0:(List Int)) (x1:(List Int)) (bj:(List Int)) (o6:Int):Option (Out ((List Int)×Int) ((List Int))):=
 (bif decide (o6 < (x0.length:Int)) then ((idx x0 (o6))>>=fun rD=>((idx x1 (rD))>>=fun Eg=>((fits 8 (bj.length+1))>>=fun n36=>(some (Out.norm (bj++[Eg],bg (o6+(1:Int)))))))) else (some (Out.exit 0 (bj,o6))))
def kF (x0:(List Int)) (x1:(List Int)):Option ((List Int)):=
 an (S:=Unit) (aj (ag 0 (ai (fun s=>lA x0 x1 s.1 s.2) (([]:(List Int)),(0:Int)))) (fun (bj,o6)=>(some (Out.ret (bj)))))
def gR (x0:aN) (x1:aN):Option (aN):=
 an (S:=Unit) ((kF x0.aE x1.aE)>>=fun qc=>((kF x0.ab x1.ab)>>=fun Sa=>((mA x0.aA x1.aF qc Sa)>>=fun En=>(some (Out.ret (En))))))
def dF (x0:aJ) (x1:Int) (x2:Int):Option (Int):=
 an (S:=Unit) ((idx x0.aG (x1))>>=fun e8=>((idx e8 (x2))>>=fun wa=>(some (Out.ret (wa)))))
def nE (x0:aN) (x1:aN) (x2:(List Int)) (ee:Int):Option (Out (Int) (Bool)):=
 (bif decide (ee < (x2.length:Int)) then ((((idx x2 (ee))>>=fun Ei=>((idx x0.aF.aH (Ei))>>=fun Sb=>((idx x0.aE (ee))>>=fun JG=>(bif (Sb) != (JG) then (some (true)) else ((idx x2 (ee))>>=fun R5=>((idx x0.aF.To (R5))>>=fun R6=>((idx x1.aE (ee))>>=fun JH=>(some ((R6) != (JH)))))))))))>>=fun g65=>(bif g65 then (some (Out.ret (false))) else (some (Out.norm (bg (ee+(1:Int))))))) else (some (Out.exit 0 (ee))))
def nF (x0:aN) (x1:aN) (x2:(List Int)) (qd:Int):Option (Out (Int) (Bool)):=
 (bif decide (qd < (x0.aA.aH.length:Int)) then ((idx x0.ab (qd))>>=fun Xp=>((idx x0.aA.To (qd))>>=fun HS=>((idx x2 (HS))>>=fun LZ=>((dF x0.aF (Xp) (LZ))>>=fun Xq=>((idx x0.aA.aH (qd))>>=fun Ej=>((idx x2 (Ej))>>=fun Ek=>((idx x1.ab (qd))>>=fun Eh=>((dF x0.aF (Ek) (Eh))>>=fun Xr=>(bif (Xq) != (Xr) then (some (Out.ret (false))) else (some (Out.norm (bg (qd+(1:Int)))))))))))))) else (some (Out.exit 2 (qd))))
def eD (x0:aN) (x1:aN) (x2:(List Int)):Option (Bool):=
 an (S:=Unit) (((bif ((x2.length:Int)) != ((x0.aE.length:Int)) then (some (true)) else ((jX ((x0.aF.aH.length:Int)) x2)>>=fun GO=>(some (!(GO))))))>>=fun R0=>(bif R0 then (some (Out.ret (false))) else (aj (ag 0 (ai (nE x0 x1 x2) ((0:Int)))) (fun ee=>(aj (ag 2 (ai (nF x0 x1 x2) ((0:Int)))) (fun qd=>(some (Out.ret (true)))))))))
def eJ (x0:aJ) (x1:Int):Option (Bool):=
 an (S:=Unit) ((idx x0.aH (x1))>>=fun e8=>((idx x0.aI (e8))>>=fun AA=>(some (Out.ret (((AA) == (x1)))))))
def nZ (x0:bI) (bu:Int):Option (Out (Int) (Bool)):=
 (bif decide (bu < x0.Left.aA.aE) then ((idx x0.Unit (bu))>>=fun Ub=>((idx x0.Left.ab (Ub))>>=fun Uc=>((idx x0.Left.aE (bu))>>=fun Ud=>((idx x0.aw (Ud))>>=fun Ue=>((dF x0.Left.aF (Uc) (Ue))>>=fun Uf=>((eJ x0.Left.aF (Uf))>>=fun Ug=>(bif !(Ug) then (some (Out.ret (false))) else (some (Out.norm (bg (bu+(1:Int)))))))))))) else (some (Out.exit 0 (bu))))
def pF (x0:bI) (ik:Int):Option (Out (Int) (Bool)):=
 (bif decide (ik < x0.Left.aF.aE) then ((idx x0.ae.aE (ik))>>=fun Uh=>((idx x0.Unit (Uh))>>=fun Ui=>((idx x0.aw (ik))>>=fun Uj=>((idx x0.ae.ab (Uj))>>=fun Uk=>((dF x0.Left.aA (Ui) (Uk))>>=fun Ul=>((eJ x0.Left.aA (Ul))>>=fun Um=>(bif !(Um) then (some (Out.ret (false))) else (some (Out.norm (bg (ik+(1:Int)))))))))))) else (some (Out.exit 2 (ik))))
def pI (x0:bI):Option (Bool):=
 an (S:=Unit) ((((nP x0.Left)>>=fun qM=>(bif !(qM) then (some (true)) else ((nP x0.ae)>>=fun Ay=>(bif !(Ay) then (some (true)) else ((nY x0.Left x0.ae)>>=fun Sc=>(some (!(Sc)))))))))>>=fun R8=>(bif R8 then (some (Out.ret (false))) else (QZ (((iW x0.Left.aA)>>=fun RW=>((gR x0.Left x0.ae)>>=fun Xs=>((eD RW Xs x0.Unit)>>=fun Xt=>(bif !(Xt) then (some (Out.ret (false))) else none))))) (((iW x0.Left.aA)>>=fun L7=>((gR x0.Left x0.ae)>>=fun Xu=>((eD L7 Xu x0.Unit)>>=fun Xv=>(bif !(Xv) then none else ((gR x0.ae x0.Left)>>=fun Xw=>((iW x0.Left.aF)>>=fun Un=>((eD Xw Un x0.aw)>>=fun Uo=>(bif !(Uo) then (some (Out.ret (false))) else (aj (ag 0 (ai (nZ x0) ((0:Int)))) (fun bu=>(aj (ag 2 (ai (pF x0) ((0:Int)))) (fun ik=>(some (Out.ret (true)))))))))))))))))))
def mU (x0:bI) (de:(List Int)) (da:Int):Option (Out ((List Int)×Int) (cK)):=
 (bif decide (da < (x0.Unit.length:Int)) then ((idx x0.Left.aE (da))>>=fun Eo=>((idx x0.aw (Eo))>>=fun Sd=>((idx x0.ae.ab (Sd))>>=fun Ep=>((fits 8 (de.length+1))>>=fun n58=>(some (Out.norm (de++[Ep],bg (da+(1:Int))))))))) else (some (Out.exit 0 (de,da))))
def pG (x0:bI):Option (cK):=
 an (S:=Unit) (aj (ag 0 (ai (fun s=>mU x0 s.1 s.2) (([]:(List Int)),(0:Int)))) (fun (de,da)=>((gR x0.Left x0.ae)>>=fun Se=>((gQ x0.Unit)>>=fun Xx=>(some (Out.ret ((cK.mk Se Xx de))))))))
def oA (x0:aN):Option (aN):=
 an (S:=Unit) ((gR x0 x0)>>=fun my=>(some (Out.ret (my))))
def oN (x0:aN) (x1:(List Int)) (x2:(List Int)) (dg:Int):Option (Out (Int) (Bool)):=
 (bif decide (dg < x0.aA.aE) then ((idx x0.aE (dg))>>=fun zi=>((((idx x1 (dg))>>=fun JI=>((idx x0.ab (JI))>>=fun Sf=>((idx x2 (dg))>>=fun Sg=>((dF x0.aA (Sf) (Sg))>>=fun y39=>((eJ x0.aA (y39))>>=fun Sc=>(bif !(Sc) then (some (true)) else ((idx x1 (zi))>>=fun JJ=>((idx x2 (dg))>>=fun Sh=>((dF x0.aA (JJ) (Sh))>>=fun En=>((eJ x0.aA (En))>>=fun y50=>(some (!(y50))))))))))))))>>=fun Si=>(bif Si then (some (Out.ret (false))) else ((idx x2 (dg))>>=fun e57=>((idx x0.ab (e57))>>=fun e59=>((idx x2 (dg))>>=fun AB=>((dF x0.aA (e59) (AB))>>=fun JK=>((idx x2 (zi))>>=fun JE=>((idx x2 (dg))>>=fun Ei=>((dF x0.aA (JE) (Ei))>>=fun y69=>(bif (JK) != (y69) then (some (Out.ret (false))) else (some (Out.norm (bg (dg+(1:Int)))))))))))))))) else (some (Out.exit 0 (dg))))
def oO (x0:aN) (x1:(List Int)) (x2:(List Int)):Option (Bool):=
 an (S:=Unit) (aj (ag 0 (ai (oN x0 x1 x2) ((0:Int)))) (fun dg=>(some (Out.ret (true)))))
def pJ (x0:cK):Option (Bool):=
 an (S:=Unit) ((((nP x0.On)>>=fun El=>(bif !(El) then (some (true)) else ((lZ x0.On.aA x0.On.aF)>>=fun qc=>(some (!(qc)))))))>>=fun g20=>(bif g20 then (some (Out.ret (false))) else (QZ (((iW x0.On.aA)>>=fun JL=>((eD JL x0.On x0.Unit)>>=fun Xy=>(bif !(Xy) then (some (Out.ret (false))) else none)))) (((iW x0.On.aA)>>=fun Xz=>((eD Xz x0.On x0.Unit)>>=fun XA=>(bif !(XA) then none else ((oA x0.On)>>=fun XB=>((eD XB x0.On x0.cb)>>=fun L7=>(bif !(L7) then (some (Out.ret (false))) else ((oO x0.On x0.Unit x0.cb)>>=fun L8=>(some (Out.ret (L8))))))))))))))
def fW (x0:aJ) (x1:Int) (x2:Int) (bu:(List Int)) (dg:Int):Option (Out ((List Int)×Int) ((List Int))):=
 (bif decide (dg < (x0.aH.length:Int)) then ((((idx x0.aH (dg))>>=fun zi=>(bif (zi) == (x1) then ((idx x0.To (dg))>>=fun Er=>(some ((Er) == (x2)))) else (some (false)))))>>=fun Sj=>(bif Sj then ((fits 8 (bu.length+1))>>=fun n50=>(some (Out.norm (bu++[dg],bg (dg+(1:Int)))))) else (some (Out.norm (bu,bg (dg+(1:Int))))))) else (some (Out.exit 0 (bu,dg))))
def fT (x0:aJ) (x1:Int) (x2:Int):Option ((List Int)):=
 an (S:=Unit) (aj (ag 0 (ai (fun s=>fW x0 x1 x2 s.1 s.2) (([]:(List Int)),(0:Int)))) (fun (bu,dg)=>(some (Out.ret (bu)))))
def pK (x0:cK) (x1:Int) (x2:Int):Option (Bool):=
 an (S:=Unit) ((((idx x0.On.aA.aH (x2))>>=fun va=>((idx x0.On.aE (x1))>>=fun Es=>(bif (va) != (Es) then (some (true)) else ((idx x0.On.aA.To (x2))>>=fun zi=>(bif (zi) != (x1) then (some (true)) else ((idx x0.Unit (x1))>>=fun Er=>((dF x0.On.aA (Er) (x2))>>=fun JL=>((eJ x0.On.aA (JL))>>=fun Sk=>(some (!(Sk))))))))))))>>=fun g20=>(bif g20 then (some (Out.ret (false))) else ((idx x0.On.ab (x2))>>=fun Ax=>((dF x0.On.aA (Ax) (x2))>>=fun y43=>((idx x0.cb (x1))>>=fun NU=>((dF x0.On.aA (NU) (x2))>>=fun y47=>(some (Out.ret (((y43) == (y47)))))))))))
def lV (x0:cK) (bj:Int) (yj:(List Int)) (iv:(List (List Int))) (tv:Int):Option (Out ((List (List Int))×Int) ((List (List Int)))):=
 (bif decide (tv < (yj.length:Int)) then ((idx yj (tv))>>=fun JG=>((pK x0 (bj) (JG))>>=fun Sl=>(bif Sl then ((idx yj (tv))>>=fun JH=>((fits 24 (iv.length+1))>>=fun n91=>(some (Out.norm (iv++[([bj,JH]:(List Int))],bg (tv+(1:Int))))))) else (some (Out.norm (iv,bg (tv+(1:Int)))))))) else (some (Out.exit 2 (iv,tv))))
def lU (x0:cK) (da:(List (List Int))) (bj:Int):Option (Out ((List (List Int))×Int) ((List (List Int)))):=
 (bif decide (bj < x0.On.aA.aE) then ((idx x0.On.aE (bj))>>=fun Ep=>((fT x0.On.aA (Ep) (bj))>>=fun yj=>(aj (ag 2 (ai (fun s=>lV x0 bj yj s.1 s.2) (da,(0:Int)))) (fun (iv,tv)=>(some (Out.norm (iv,bg (bj+(1:Int))))))))) else (some (Out.exit 0 (da,bj))))
def oU (x0:cK):Option ((List (List Int))):=
 an (S:=Unit) (aj (ag 0 (ai (fun s=>lU x0 s.1 s.2) (([]:(List (List Int))),(0:Int)))) (fun (da,bj)=>(some (Out.ret (da)))))
def jA (x0:cK) (x1:(List Int)) (x2:(List Int)) (rE:(List Int)) (ee:(List Int)) (mf:Int):Option (Out ((List Int)×Int) ((List Int))):=
 (bif decide (mf < (rE.length:Int)) then ((idx x1 ((1:Int)))>>=fun AB=>((idx rE (mf))>>=fun e63=>((dF x0.On.aA (AB) (e63))>>=fun y65=>((idx rE (mf))>>=fun Ei=>((idx x0.On.ab (Ei))>>=fun Sb=>((idx x2 ((1:Int)))>>=fun JG=>((dF x0.On.aA (Sb) (JG))>>=fun Sl=>(bif (y65) == (Sl) then ((idx rE (mf))>>=fun JH=>((fits 8 (ee.length+1))>>=fun n97=>(some (Out.norm (ee++[JH],bg (mf+(1:Int))))))) else (some (Out.norm (ee,bg (mf+(1:Int))))))))))))) else (some (Out.exit 0 (ee,mf))))
def oE (x0:cK) (x1:(List Int)) (x2:(List Int)):Option ((List Int)):=
 an (S:=Unit) ((idx x1 ((0:Int)))>>=fun Eg=>((idx x2 ((0:Int)))>>=fun va=>((fT x0.On.aA (Eg) (va))>>=fun rE=>(aj (ag 0 (ai (fun s=>jA x0 x1 x2 rE s.1 s.2) (([]:(List Int)),(0:Int)))) (fun (ee,mf)=>(some (Out.ret (ee))))))))
def jP (x0:(List (List Int))) (x1:Int) (bj:(List Int)) (o6:Int):Option (Out ((List Int)×Int) ((List Int))):=
 (bif decide (o6 < (x0.length:Int)) then ((idx x0 (o6))>>=fun rD=>((idx rD (x1))>>=fun yk=>((fits 8 (bj.length+1))>>=fun n41=>(some (Out.norm (bj++[yk],bg (o6+(1:Int)))))))) else (some (Out.exit 0 (bj,o6))))
def mB (x0:(List (List Int))) (x1:Int):Option ((List Int)):=
 an (S:=Unit) (aj (ag 0 (ai (fun s=>jP x0 x1 s.1 s.2) (([]:(List Int)),(0:Int)))) (fun (bj,o6)=>(some (Out.ret (bj)))))
def mY (x0:(List (List Int))) (x1:(List Int)) (bj:Int):Option (Out (Int) (Int)):=
 (bif decide (bj < (x0.length:Int)) then ((idx x0 (bj))>>=fun e9=>((kE e9 x1)>>=fun my=>(bif my then (some (Out.ret (bj))) else (some (Out.norm (bg (bj+(1:Int)))))))) else (some (Out.exit 0 (bj))))
def eU (x0:(List (List Int))) (x1:(List Int)):Option (Int):=
 an (S:=Unit) (aj (ag 0 (ai (mY x0 x1) ((0:Int)))) (fun bj=>(some (Out.ret (((-1:Int)))))))
def iS (x0:aJ):Option (Bool):=
 an (S:=Unit) (((bif decide (x0.aE≤(8:Int)) then (some (decide ((x0.aH.length:Int)≤(40:Int)))) else (some (false))))>>=fun g8=>(some (Out.ret (g8))))
def kA (dg:Int) (ym:Int) (HT:(List Int)) (nm:(List (List Int))) (AE:Int):Option (Out ((List (List Int))×Int) (aJ×(List (List Int))×(List (List Int)))):=
 (bif decide (AE < (HT.length:Int)) then ((idx HT (AE))>>=fun L5=>((fits 24 (nm.length+1))>>=fun n155=>(some (Out.norm (nm++[([dg,ym,L5]:(List Int))],bg (AE+(1:Int))))))) else (some (Out.exit 4 (nm,AE))))
def jZ (x0:cK) (l7:(List (List Int))) (dg:Int) (tv:(List (List Int))) (ym:Int):Option (Out ((List (List Int))×Int) (aJ×(List (List Int))×(List (List Int)))):=
 (bif decide (ym < (l7.length:Int)) then ((idx l7 (dg))>>=fun GP=>((idx l7 (ym))>>=fun Sm=>((oE x0 GP Sm)>>=fun HT=>(aj (ag 4 (ai (fun s=>kA dg ym HT s.1 s.2) (tv,(0:Int)))) (fun (nm,AE)=>(some (Out.norm (nm,bg (ym+(1:Int)))))))))) else (some (Out.exit 2 (tv,ym))))
def iJ (x0:cK) (l7:(List (List Int))) (bu:(List (List Int))) (dg:Int):Option (Out ((List (List Int))×Int) (aJ×(List (List Int))×(List (List Int)))):=
 (bif decide (dg < (l7.length:Int)) then (aj (ag 2 (ai (fun s=>jZ x0 l7 dg s.1 s.2) (bu,(0:Int)))) (fun (tv,ym)=>(some (Out.norm (tv,bg (dg+(1:Int))))))) else (some (Out.exit 0 (bu,dg))))
def iL (x0:cK) (l7:(List (List Int))) (bu:(List (List Int))) (w3:Int) (oh:(List Int)):Option (Out (Int×(List Int)) (aJ×(List (List Int))×(List (List Int)))):=
 (bif decide (w3 < (l7.length:Int)) then ((idx l7 (w3))>>=fun XC=>((idx XC ((0:Int)))>>=fun XD=>((idx x0.On.aA.aI (XD))>>=fun XE=>((eU bu [w3,w3,XE])>>=fun XF=>((fits 8 (oh.length+1))>>=fun n328=>(some (Out.norm (bg (w3+(1:Int)),oh++[XF])))))))) else (some (Out.exit 6 (w3,oh))))
def iK (x0:cK) (bu:(List (List Int))) (tN:Int) (w4:(List Int)) (vc:Int):Option (Out ((List Int)×Int) (aJ×(List (List Int))×(List (List Int)))):=
 (bif decide (vc < (bu.length:Int)) then ((idx bu (tN))>>=fun XG=>((idx XG ((1:Int)))>>=fun XH=>((idx bu (vc))>>=fun XI=>((idx XI ((0:Int)))>>=fun XJ=>(bif (XH) == (XJ) then ((idx bu (tN))>>=fun XK=>((idx XK ((0:Int)))>>=fun XL=>((idx bu (vc))>>=fun XM=>((idx XM ((1:Int)))>>=fun XN=>((idx bu (tN))>>=fun XO=>((idx XO ((2:Int)))>>=fun XP=>((idx bu (vc))>>=fun XQ=>((idx XQ ((2:Int)))>>=fun XR=>((dF x0.On.aA (XP) (XR))>>=fun XS=>((eU bu [XL,XN,XS])>>=fun XT=>((fits 8 (w4.length+1))>>=fun aiX=>(some (Out.norm (w4++[XT],bg (vc+(1:Int)))))))))))))))) else ((fits 8 (w4.length+1))>>=fun aiY=>(some (Out.norm (w4++[(-1:Int)],bg (vc+(1:Int))))))))))) else (some (Out.exit 10 (w4,vc))))
def gO (x0:cK) (l7:(List (List Int))) (bu:(List (List Int))) (HU:(List Int)) (HW:(List Int)) (oh:(List Int)) (tN:Int) (rF:(List (List Int))):Option (Out (Int×(List (List Int))) (aJ×(List (List Int))×(List (List Int)))):=
 (((bif decide (tN < (bu.length:Int)) then ((iS (aJ.mk ((l7.length:Int)) HU HW oh rF))>>=fun XU=>(some (XU))) else (some (false))))>>=fun XV=>(bif XV then (aj (ag 10 (ai (fun s=>iK x0 bu tN s.1 s.2) (([]:(List Int)),(0:Int)))) (fun (w4,vc)=>((fits 24 (rF.length+1))>>=fun aiZ=>(some (Out.norm (bg (tN+(1:Int)),rF++[w4])))))) else (some (Out.exit 8 (tN,rF)))))
def nW (x0:cK):Option (aJ×(List (List Int))×(List (List Int))):=
 an (S:=Unit) ((oU x0)>>=fun l7=>(aj (ag 0 (ai (fun s=>iJ x0 l7 s.1 s.2) (([]:(List (List Int))),(0:Int)))) (fun (bu,dg)=>((mB bu ((0:Int)))>>=fun HU=>((mB bu ((1:Int)))>>=fun HW=>(aj (ag 6 (ai (fun s=>iL x0 l7 bu s.1 s.2) ((0:Int),([]:(List Int))))) (fun (w3,oh)=>(aj (ag 8 (ai (fun s=>gO x0 l7 bu HU HW oh s.1 s.2) ((0:Int),([]:(List (List Int)))))) (fun (tN,rF)=>(some (Out.ret (((aJ.mk ((l7.length:Int)) HU HW oh rF),l7,bu)))))))))))))
def oG (x0:cK):Option (aJ×(List (List Int))×(List (List Int))×Int):=
 an (S:=Unit) ((pJ x0)>>=fun my=>(bif !(my) then (some (Out.ret (((aJ.mk ((0:Int)) ([]) ([]) ([]) ([])),([]),([]),((1:Int)))))) else ((nW x0)>>=fun qc=>((iS qc.1)>>=fun y94=>(bif !(y94) then (some (Out.ret (((aJ.mk ((0:Int)) ([]) ([]) ([]) ([])),([]),([]),((3:Int)))))) else (some (Out.ret ((qc.1,qc.2.1,qc.2.2,((0:Int)))))))))))
def iU (x0:bI) (w5:aJ×(List (List Int))×(List (List Int))×Int) (ee:(List Int)) (ja:Int):Option (Out ((List Int)×Int) (aN×Int)):=
 (bif decide (ja < x0.Left.aF.aE) then ((idx x0.ae.aE (ja))>>=fun XW=>((idx x0.aw (ja))>>=fun XX=>((idx x0.ae.ab (XX))>>=fun XY=>((eU w5.2.1 [XW,XY])>>=fun L8=>((fits 8 (ee.length+1))>>=fun ai0=>(some (Out.norm (ee++[L8],bg (ja+(1:Int)))))))))) else (some (Out.exit 0 (ee,ja))))
def iV (x0:bI) (w5:aJ×(List (List Int))×(List (List Int))×Int) (ee:(List Int)) (qd:(List Int)) (w6:Int):Option (Out ((List Int)×Int) (aN×Int)):=
 (bif decide (w6 < (x0.Left.aF.aH.length:Int)) then ((idx x0.Left.aF.aH (w6))>>=fun XZ=>((idx ee (XZ))>>=fun X0=>((idx x0.Left.aF.To (w6))>>=fun X1=>((idx ee (X1))>>=fun X2=>((idx x0.ae.ab (w6))>>=fun X3=>((eU w5.2.2.1 [X0,X2,X3])>>=fun X4=>((fits 8 (qd.length+1))>>=fun ai1=>(some (Out.norm (qd++[X4],bg (w6+(1:Int)))))))))))) else (some (Out.exit 2 (qd,w6))))
def jB (x0:bI):Option (aN×Int):=
 an (S:=Unit) ((pI x0)>>=fun my=>(bif !(my) then (some (Out.ret (((aN.mk (aJ.mk ((0:Int)) ([]) ([]) ([]) ([])) (aJ.mk ((0:Int)) ([]) ([]) ([]) ([])) ([]) ([])),((1:Int)))))) else ((pG x0)>>=fun qc=>((oG qc)>>=fun w5=>(bif (w5.2.2.2) != ((0:Int)) then (some (Out.ret (((aN.mk (aJ.mk ((0:Int)) ([]) ([]) ([]) ([])) (aJ.mk ((0:Int)) ([]) ([]) ([]) ([])) ([]) ([])),w5.2.2.2)))) else (aj (ag 0 (ai (fun s=>iU x0 w5 s.1 s.2) (([]:(List Int)),(0:Int)))) (fun (ee,ja)=>(aj (ag 2 (ai (fun s=>iV x0 w5 ee s.1 s.2) (([]:(List Int)),(0:Int)))) (fun (qd,w6)=>((mA x0.Left.aF w5.1 ee qd)>>=fun X5=>(some (Out.ret ((X5,((0:Int))))))))))))))))
def nQ (x0:(List Int)) (x1:Int) (bj:Int):Option (Out (Int) (Bool)):=
 (bif decide (bj < (x0.length:Int)) then ((idx x0 (bj))>>=fun e9=>(bif (e9) == (x1) then (some (Out.ret (true))) else (some (Out.norm (bg (bj+(1:Int))))))) else (some (Out.exit 0 (bj))))
def oV (x0:(List Int)) (x1:Int):Option (Bool):=
 an (S:=Unit) (aj (ag 0 (ai (nQ x0 x1) ((0:Int)))) (fun bj=>(some (Out.ret (false)))))
def nB (l7:(List Int)) (GO:(List Int)) (nm:Int):Option (Out (Int) (Bool)):=
 (bif decide (nm < (GO.length:Int)) then ((idx GO (nm))>>=fun JE=>((oV l7 (JE))>>=fun Se=>(bif !(Se) then (some (Out.ret (false))) else (some (Out.norm (bg (nm+(1:Int)))))))) else (some (Out.exit 4 (nm))))
def oP (x0:aN) (de:Int) (iv:Int):Option (Out (Int) (Bool)):=
 (bif decide (iv < x0.aA.aE) then ((fT x0.aA (de) (iv))>>=fun y20=>((kF y20 x0.ab)>>=fun l7=>((idx x0.aE (de))>>=fun JD=>((idx x0.aE (iv))>>=fun Ax=>((fT x0.aF (JD) (Ax))>>=fun GO=>(aj (ag 4 (ai (nB l7 GO) ((0:Int)))) (fun nm=>(some (Out.norm (bg (iv+(1:Int)))))))))))) else (some (Out.exit 2 (iv))))
def oQ (x0:aN) (de:Int):Option (Out (Int) (Bool)):=
 (bif decide (de < x0.aA.aE) then (aj (ag 2 (ai (oP x0 de) ((0:Int)))) (fun iv=>(some (Out.norm (bg (de+(1:Int))))))) else (some (Out.exit 0 (de))))
def oR (x0:aN):Option (Bool):=
 an (S:=Unit) (aj (ag 0 (ai (oQ x0) ((0:Int)))) (fun de=>(some (Out.ret (true)))))
def mM (x0:aJ) (x1:Int) (x2:Int):Option (Bool):=
 an (S:=Unit) ((((idx x0.aH (x1))>>=fun AA=>((idx x0.aH (x2))>>=fun e12=>(bif (AA) == (e12) then ((idx x0.To (x1))>>=fun wa=>((idx x0.To (x2))>>=fun Aw=>(some ((wa) == (Aw))))) else (some (false))))))>>=fun g8=>(some (Out.ret (g8))))
def mW (x0:aN) (de:Int) (iv:Int):Option (Out (Int) (Bool)):=
 (bif decide (iv < de) then ((((mM x0.aA (de) (iv))>>=fun El=>(bif El then ((idx x0.ab (de))>>=fun yk=>((idx x0.ab (iv))>>=fun zi=>(some ((yk) == (zi))))) else (some (false)))))>>=fun g20=>(bif g20 then (some (Out.ret (false))) else (some (Out.norm (bg (iv+(1:Int))))))) else (some (Out.exit 2 (iv))))
def mX (x0:aN) (de:Int):Option (Out (Int) (Bool)):=
 (bif decide (de < (x0.ab.length:Int)) then (aj (ag 2 (ai (mW x0 de) ((0:Int)))) (fun iv=>(some (Out.norm (bg (de+(1:Int))))))) else (some (Out.exit 0 (de))))
def mN (x0:aN):Option (Bool):=
 an (S:=Unit) (aj (ag 0 (ai (mX x0) ((0:Int)))) (fun de=>(some (Out.ret (true)))))
def iX (x0:aJ) (x1:Int) (xE:(List Int)) (o6:Int):Option (Out (Int) (Int)):=
 (bif decide (o6 < (xE.length:Int)) then ((((idx xE (o6))>>=fun JI=>((dF x0 (x1) (JI))>>=fun qM=>((eJ x0 (qM))>>=fun ye=>(bif ye then ((idx xE (o6))>>=fun Ep=>((dF x0 (Ep) (x1))>>=fun JM=>((eJ x0 (JM))>>=fun RU=>(some (RU))))) else (some (false)))))))>>=fun Si=>(bif Si then ((idx xE (o6))>>=fun Sn=>(some (Out.ret (Sn)))) else (some (Out.norm (bg (o6+(1:Int))))))) else (some (Out.exit 0 (o6))))
def nC (x0:aJ) (x1:Int):Option (Int):=
 an (S:=Unit) ((idx x0.To (x1))>>=fun e8=>((idx x0.aH (x1))>>=fun AA=>((fT x0 (e8) (AA))>>=fun xE=>(aj (ag 0 (ai (iX x0 x1 xE) ((0:Int)))) (fun o6=>(some (Out.ret (((-1:Int))))))))))
def mO (x0:aJ) (y8:(List Int)) (dg:Int):Option (Out (Int) (Bool)):=
 (bif decide (dg < (y8.length:Int)) then ((idx y8 (dg))>>=fun Es=>((nC x0 (Es))>>=fun rC=>(bif decide (rC ≥ (0:Int)) then (some (Out.ret (true))) else (some (Out.norm (bg (dg+(1:Int)))))))) else (some (Out.exit 0 (dg))))
def oB (x0:aJ) (x1:Int) (x2:Int):Option (Bool):=
 an (S:=Unit) ((fT x0 (x1) (x2))>>=fun y8=>(aj (ag 0 (ai (mO x0 y8) ((0:Int)))) (fun dg=>(some (Out.ret (false))))))
def gP (x0:aN) (de:Int) (iv:Bool) (l8:Int):Option (Out (Bool×Int) (Bool)):=
 (bif decide (l8 < (x0.aE.length:Int)) then (((bif iv then (some (true)) else ((idx x0.aE (l8))>>=fun yk=>((oB x0.aF (yk) (de))>>=fun rE=>(some (rE))))))>>=fun g22=>(some (Out.norm (g22,bg (l8+(1:Int)))))) else (some (Out.exit 2 (iv,l8))))
def mC (x0:aN) (de:Int):Option (Out (Int) (Bool)):=
 (bif decide (de < x0.aF.aE) then (aj (ag 2 (ai (fun s=>gP x0 de s.1 s.2) (false,(0:Int)))) (fun (iv,l8)=>(bif !(iv) then (some (Out.ret (false))) else (some (Out.norm (bg (de+(1:Int)))))))) else (some (Out.exit 0 (de))))
def lB (x0:aN):Option (Bool):=
 an (S:=Unit) (aj (ag 0 (ai (mC x0) ((0:Int)))) (fun de=>(some (Out.ret (true)))))
def iG (x0:aN):Option (Bool):=
 an (S:=Unit) ((((oR x0)>>=fun wb=>(bif wb then ((mN x0)>>=fun ve=>(bif ve then ((lB x0)>>=fun my=>(some (my))) else (some (false)))) else (some (false)))))>>=fun g8=>(some (Out.ret (g8))))
def nK (x0:bI):Option (Bool×Int):=
 an (S:=Unit) ((jB x0)>>=fun y8=>(bif (y8.2) != ((0:Int)) then (some (Out.ret ((false,y8.2)))) else ((iG y8.1)>>=fun L9=>(some (Out.ret ((L9,((0:Int)))))))))
def dD (x0:aJ):Option (Int):=
 an (S:=Unit) (some (Out.ret (((x0.aH.length:Int)))))
def mD (x0:Int) (x1:Int) (x2:Int):Option (Bool):=
 an (S:=Unit) (((bif decide (x0 ≥ x1) then (some (decide (x0≤x2))) else (some (false))))>>=fun g3=>(some (Out.ret (g3))))
def nR (x0:(List Int)) (x1:Int) (ee:Int):Option (Out (Int) (Bool)):=
 (bif decide (ee < (x0.length:Int)) then ((idx x0 (ee))>>=fun e9=>((mD (e9) ((0:Int)) (bg (x1 - (1:Int))))>>=fun ve=>(bif !(ve) then (some (Out.ret (false))) else (some (Out.norm (bg (ee+(1:Int)))))))) else (some (Out.exit 0 (ee))))
def iO (x0:(List Int)) (x1:Int):Option (Bool):=
 an (S:=Unit) (aj (ag 0 (ai (nR x0 x1) ((0:Int)))) (fun ee=>(some (Out.ret (true)))))
def eC (x0:aJ) (x1:Int):Option (pV):=
 an (S:=Unit) ((idx x0.aH (x1))>>=fun e8=>((idx x0.To (x1))>>=fun AA=>(some (Out.ret ((pV.mk e8 AA))))))
def gS (x0:aJ) (w7:Int):Option (Out (Int) (Bool)):=
 (bif decide (w7 < (x0.aI.length:Int)) then ((idx x0.aI (w7))>>=fun Ax=>((eC x0 (Ax))>>=fun yj=>(bif !((yj.aH) == (w7) && (yj.To) == (w7)) then (some (Out.ret (false))) else (some (Out.norm (bg (w7+(1:Int)))))))) else (some (Out.exit 0 (w7))))
def gT (x0:aJ) (y3:Int) (sb:Int) (AB:(List Int)) (sZ:Int):Option (Out (Int) (Bool)):=
 (bif decide (sZ < (AB.length:Int)) then ((idx AB (sZ))>>=fun JF=>((idx x0.To (sb))>>=fun R7=>((idx x0.aH (sZ))>>=fun R3=>(bif (R7) != (R3) then (bif (JF) != ((-1:Int)) then (some (Out.ret (false))) else (some (Out.norm (bg (sZ+(1:Int)))))) else ((((mD (JF) ((0:Int)) (bg (y3 - (1:Int))))>>=fun X6=>(bif !(X6) then (some (true)) else ((eC x0 (JF))>>=fun Sp=>((idx x0.aH (sb))>>=fun L4=>((idx x0.To (sZ))>>=fun Ej=>(some (!((Sp.aH) == (L4) && (Sp.To) == (Ej))))))))))>>=fun g99=>(bif g99 then (some (Out.ret (false))) else (some (Out.norm (bg (sZ+(1:Int))))))))))) else (some (Out.exit 4 (sZ))))
def kG (x0:aJ) (y3:Int) (sb:Int):Option (Out (Int) (Bool)):=
 (bif decide (sb < (x0.aG.length:Int)) then ((idx x0.aG (sb))>>=fun AB=>(bif ((AB.length:Int)) != (y3) then (some (Out.ret (false))) else (aj (ag 4 (ai (gT x0 y3 sb AB) ((0:Int)))) (fun sZ=>(some (Out.norm (bg (sb+(1:Int))))))))) else (some (Out.exit 2 (sb))))
def jE (x0:aJ):Option (Bool):=
 an (S:=Unit) ((dD x0)>>=fun y3=>((((mD (x0.aE) ((0:Int)) ((8:Int)))>>=fun y9=>(bif !(y9) then (some (true)) else (bif decide (y3 > (40:Int)) then (some (true)) else (bif ((x0.To.length:Int)) != (y3) then (some (true)) else ((iO x0.aH (x0.aE))>>=fun Et=>(bif !(Et) then (some (true)) else ((iO x0.To (x0.aE))>>=fun sk=>(some (!(sk)))))))))))>>=fun g7=>(bif g7 then (some (Out.ret (false))) else (((bif ((x0.aI.length:Int)) != (x0.aE) then (some (true)) else ((iO x0.aI (y3))>>=fun rE=>(bif !(rE) then (some (true)) else (some (((x0.aG.length:Int)) != (y3)))))))>>=fun g24=>(bif g24 then (some (Out.ret (false))) else (aj (ag 0 (ai (gS x0) ((0:Int)))) (fun w7=>(aj (ag 2 (ai (kG x0 y3) ((0:Int)))) (fun sb=>(some (Out.ret (true))))))))))))
def cP (x0:aJ) (x1:Int) (x2:Int):Option (Int):=
 an (S:=Unit) ((idx x0.aG (x1))>>=fun e3=>((idx e3 (x2))>>=fun AA=>(some (Out.ret (AA)))))
def iP (x0:aJ) (y3:Int) (bu:Int):Option (Out (Int) (Int×Int×Int×Int)):=
 (bif decide (bu < y3) then ((((idx x0.aH (bu))>>=fun wa=>((idx x0.aI (wa))>>=fun Aw=>((cP x0 (Aw) (bu))>>=fun uF=>(bif (uF) != (bu) then (some (true)) else ((idx x0.To (bu))>>=fun va=>((idx x0.aI (va))>>=fun Es=>((cP x0 (bu) (Es))>>=fun rC=>(some ((rC) != (bu)))))))))))>>=fun g13=>(bif g13 then (some (Out.ret ((((1:Int)),bu,((0:Int)),((0:Int)))))) else (some (Out.norm (bg (bu+(1:Int))))))) else (some (Out.exit 0 (bu))))
def gH (x0:aJ) (y3:Int) (ik:Int) (kp:Int) (mz:Int):Option (Out (Int) (Int×Int×Int×Int)):=
 (bif decide (mz < y3) then ((((cP x0 (kp) (mz))>>=fun JK=>(bif decide (JK ≥ (0:Int)) then ((cP x0 (ik) (kp))>>=fun y66=>((cP x0 (y66) (mz))>>=fun y68=>((cP x0 (kp) (mz))>>=fun y70=>((cP x0 (ik) (y70))>>=fun y72=>(some ((y68) != (y72))))))) else (some (false)))))>>=fun g61=>(bif g61 then (some (Out.ret ((((2:Int)),ik,kp,mz)))) else (some (Out.norm (bg (mz+(1:Int))))))) else (some (Out.exit 6 (mz))))
def gI (x0:aJ) (y3:Int) (ik:Int) (kp:Int):Option (Out (Int) (Int×Int×Int×Int)):=
 (bif decide (kp < y3) then ((cP x0 (ik) (kp))>>=fun En=>(bif decide (En < (0:Int)) then (some (Out.norm (bg (kp+(1:Int))))) else (aj (ag 6 (ai (gH x0 y3 ik kp) ((0:Int)))) (fun mz=>(some (Out.norm (bg (kp+(1:Int))))))))) else (some (Out.exit 4 (kp))))
def lL (x0:aJ) (y3:Int) (ik:Int):Option (Out (Int) (Int×Int×Int×Int)):=
 (bif decide (ik < y3) then (aj (ag 4 (ai (gI x0 y3 ik) ((0:Int)))) (fun kp=>(some (Out.norm (bg (ik+(1:Int))))))) else (some (Out.exit 2 (ik))))
def kN (x0:aJ):Option (Int×Int×Int×Int):=
 an (S:=Unit) ((dD x0)>>=fun y3=>(aj (ag 0 (ai (iP x0 y3) ((0:Int)))) (fun bu=>(aj (ag 2 (ai (lL x0 y3) ((0:Int)))) (fun ik=>(some (Out.ret ((((0:Int)),((0:Int)),((0:Int)),((0:Int)))))))))))
def gU (x0:aJ):Option (Bool):=
 an (S:=Unit) ((jE x0)>>=fun y3=>(bif !(y3) then (some (Out.ret (false))) else ((kN x0)>>=fun wb=>(some (Out.ret (((wb.1) == ((0:Int)))))))))
def jF (x0:(List aJ)) (bu:Int):Option (Out (Int) (Bool)):=
 (bif decide (bu < (x0.length:Int)) then ((idx x0 (bu))>>=fun e9=>((gU e9)>>=fun zh=>(bif !(zh) then (some (Out.ret (false))) else (some (Out.norm (bg (bu+(1:Int)))))))) else (some (Out.exit 0 (bu))))
def lC (x0:(List aJ)):Option (Bool):=
 an (S:=Unit) (aj (ag 0 (ai (jF x0) ((0:Int)))) (fun bu=>(some (Out.ret (true)))))
def mP (x0:aN) (w8:Int):Option (Out (Int) (Bool)):=
 (bif decide (w8 < (x0.ab.length:Int)) then ((idx x0.ab (w8))>>=fun JN=>((((idx x0.aF.aH (JN))>>=fun Sg=>((idx x0.aA.aH (w8))>>=fun JD=>((idx x0.aE (JD))>>=fun Ax=>(bif (Sg) != (Ax) then (some (true)) else ((idx x0.aF.To (JN))>>=fun JJ=>((idx x0.aA.To (w8))>>=fun Sh=>((idx x0.aE (Sh))>>=fun Sq=>(some ((JJ) != (Sq)))))))))))>>=fun g35=>(bif g35 then (some (Out.ret (false))) else (some (Out.norm (bg (w8+(1:Int)))))))) else (some (Out.exit 0 (w8))))
def mQ (x0:aN) (wc:Int):Option (Out (Int) (Bool)):=
 (bif decide (wc < (x0.aA.aI.length:Int)) then ((idx x0.aA.aI (wc))>>=fun e64=>((idx x0.ab (e64))>>=fun R2=>((idx x0.aE (wc))>>=fun R4=>((idx x0.aF.aI (R4))>>=fun B8=>(bif (R2) != (B8) then (some (Out.ret (false))) else (some (Out.norm (bg (wc+(1:Int)))))))))) else (some (Out.exit 2 (wc))))
def mR (x0:aN) (s5:Int) (GP:(List Int)) (we:Int):Option (Out (Int) (Bool)):=
 (bif decide (we < (GP.length:Int)) then ((idx GP (we))>>=fun HR=>(((bif decide (HR ≥ (0:Int)) then ((idx x0.ab (HR))>>=fun Ek=>((idx x0.ab (s5))>>=fun Eh=>((idx x0.ab (we))>>=fun X7=>((cP x0.aF (Eh) (X7))>>=fun X8=>(some ((Ek) != (X8))))))) else (some (false))))>>=fun X9=>(bif X9 then (some (Out.ret (false))) else (some (Out.norm (bg (we+(1:Int)))))))) else (some (Out.exit 6 (we))))
def mS (x0:aN) (s5:Int):Option (Out (Int) (Bool)):=
 (bif decide (s5 < (x0.aA.aG.length:Int)) then ((idx x0.aA.aG (s5))>>=fun GP=>(aj (ag 6 (ai (mR x0 s5 GP) ((0:Int)))) (fun we=>(some (Out.norm (bg (s5+(1:Int)))))))) else (some (Out.exit 4 (s5))))
def lQ (x0:aN):Option (Bool):=
 an (S:=Unit) (((bif ((x0.aE.length:Int)) != (x0.aA.aE) then (some (true)) else ((dD x0.aA)>>=fun wb=>(bif ((x0.ab.length:Int)) != (wb) then (some (true)) else ((iO x0.aE (x0.aF.aE))>>=fun ve=>(bif !(ve) then (some (true)) else ((dD x0.aF)>>=fun my=>((iO x0.ab (my))>>=fun Em=>(some (!(Em)))))))))))>>=fun g7=>(bif g7 then (some (Out.ret (false))) else (aj (ag 0 (ai (mP x0) ((0:Int)))) (fun w8=>(aj (ag 2 (ai (mQ x0) ((0:Int)))) (fun wc=>(aj (ag 4 (ai (mS x0) ((0:Int)))) (fun s5=>(some (Out.ret (true)))))))))))
def iQ (x0:aN):Option (Bool):=
 an (S:=Unit) ((((lC [x0.aA,x0.aF])>>=fun Et=>(bif Et then ((lQ x0)>>=fun sk=>(some (sk))) else (some (false)))))>>=fun g12=>(some (Out.ret (g12))))
def kO (x0:(List aN)) (bu:Int):Option (Out (Int) (Bool)):=
 (bif decide (bu < (x0.length:Int)) then ((idx x0 (bu))>>=fun e9=>((iQ e9)>>=fun qM=>(bif !(qM) then (some (Out.ret (false))) else (some (Out.norm (bg (bu+(1:Int)))))))) else (some (Out.exit 0 (bu))))
def kH (x0:(List aN)):Option (Bool):=
 an (S:=Unit) (aj (ag 0 (ai (kO x0) ((0:Int)))) (fun bu=>(some (Out.ret (true)))))
def gV (x0:(List Int)) (x1:(List Int)) (dg:Int):Option (Out (Int) (Int)):=
 (bif decide (dg < (x0.length:Int)) then (bif (dg) == ((x1.length:Int)) then (some (Out.ret (((1:Int))))) else ((idx x0 (dg))>>=fun xD=>((idx x1 (dg))>>=fun rD=>(bif (xD) != (rD) then ((idx x0 (dg))>>=fun NW=>((idx x1 (dg))>>=fun yk=>(bif decide (NW < yk) then (some (Out.ret (((-1:Int))))) else (some (Out.ret (((1:Int)))))))) else (some (Out.norm (bg (dg+(1:Int))))))))) else (some (Out.exit 0 (dg))))
def pL (x0:(List Int)) (x1:(List Int)):Option (Int):=
 an (S:=Unit) (aj (ag 0 (ai (gV x0 x1) ((0:Int)))) (fun dg=>(bif decide ((x0.length:Int) < (x1.length:Int)) then (some (Out.ret (((-1:Int))))) else (some (Out.ret (((0:Int))))))))
def nG (x0:(List Int)) (x1:(List Int)):Option (Bool):=
 an (S:=Unit) ((pL x0 x1)>>=fun y3=>(some (Out.ret (((y3) == ((0:Int)))))))
def jT (x0:aJ) (x1:aJ) (yK:Int):Option (Out (Int) (Bool)):=
 (bif decide (yK < (x0.aG.length:Int)) then ((idx x0.aG (yK))>>=fun e28=>((idx x1.aG (yK))>>=fun Sf=>((nG e28 Sf)>>=fun JM=>(bif !(JM) then (some (Out.ret (false))) else (some (Out.norm (bg (yK+(1:Int))))))))) else (some (Out.exit 0 (yK))))
def fZ (x0:aJ) (x1:aJ):Option (Bool):=
 an (S:=Unit) (((bif (x0.aE) != (x1.aE) then (some (true)) else ((nG x0.aH x1.aH)>>=fun y6=>(bif !(y6) then (some (true)) else ((nG x0.To x1.To)>>=fun y9=>(bif !(y9) then (some (true)) else ((nG x0.aI x1.aI)>>=fun Ef=>(bif !(Ef) then (some (true)) else (some (((x0.aG.length:Int)) != ((x1.aG.length:Int))))))))))))>>=fun g3=>(bif g3 then (some (Out.ret (false))) else (aj (ag 0 (ai (jT x0 x1) ((0:Int)))) (fun yK=>(some (Out.ret (true)))))))
def oC (x0:aN) (x1:aN):Option (Bool):=
 an (S:=Unit) ((((fZ x0.aA x1.aF)>>=fun y7=>(bif y7 then ((fZ x0.aF x1.aA)>>=fun Ef=>(some (Ef))) else (some (false)))))>>=fun g3=>(some (Out.ret (g3))))
def nH (x0:(List Int)) (x1:(List Int)) (w9:Int) (jh:(List Int)):Option (Out (Int×(List Int)) ((List Int))):=
 (bif decide (w9 < (x0.length:Int)) then ((idx x0 (w9))>>=fun Aw=>((idx x1 (Aw))>>=fun yi=>((idx jh (w9))>>=fun NW=>(some (Out.norm (bg (w9+(1:Int)),jh.set (w9).toNat (yi))))))) else (some (Out.exit 0 (w9,jh))))
def nI (x0:(List Int)) (x1:(List Int)):Option ((List Int)):=
 an (S:=Unit) ((mk 8 ((x0.length:Int)))>>=fun n3=>(aj (ag 0 (ai (fun s=>nH x0 x1 s.1 s.2) ((0:Int),List.replicate n3 (0:Int)))) (fun (w9,jh)=>(some (Out.ret (jh))))))
def gM (x0:(List Int)):Option ((List Int)):=
 an (S:=Unit) ((fits 8 ((([]:(List Int))).length+x0.length))>>=fun n15=>(some (Out.ret ((([]:(List Int))++x0)))))
def mE (x0:(List (List Int))) (de:(List (List Int))) (ja:Int):Option (Out ((List (List Int))×Int) ((List (List Int)))):=
 (bif decide (ja < (x0.length:Int)) then ((idx x0 (ja))>>=fun Eg=>((gM Eg)>>=fun l7=>((fits 24 (de.length+1))>>=fun n53=>(some (Out.norm (de++[l7],bg (ja+(1:Int)))))))) else (some (Out.exit 0 (de,ja))))
def oW (x0:(List (List Int))):Option ((List (List Int))):=
 an (S:=Unit) ((mk 24 ((x0.length:Int)))>>=fun n3=>(aj (ag 0 (ai (fun s=>mE x0 s.1 s.2) (([]:(List (List Int))),(0:Int)))) (fun (de,ja)=>(some (Out.ret (de))))))
def iY (x0:aJ):Option (aJ):=
 an (S:=Unit) ((gM x0.aH)>>=fun y8=>((gM x0.To)>>=fun sk=>((gM x0.aI)>>=fun rE=>((oW x0.aG)>>=fun Ay=>(some (Out.ret ((aJ.mk x0.aE y8 sk rE Ay))))))))
def kI (x0:aJ) (x1:aJ) (x2:(List Int)) (x3:(List Int)):Option (aN):=
 an (S:=Unit) ((iY x0)>>=fun y8=>((iY x1)>>=fun qM=>((gM x2)>>=fun y78=>((gM x3)>>=fun y95=>(some (Out.ret ((aN.mk y8 qM y78 y95))))))))
def fY (x0:aN) (x1:aN):Option (aN):=
 an (S:=Unit) ((nI x0.aE x1.aE)>>=fun wb=>((nI x0.ab x1.ab)>>=fun uF=>((kI x0.aA x1.aF wb uF)>>=fun l7=>(some (Out.ret (l7))))))
def lD (n3:Nat) (ee:Int) (jh:(List Int)):Option (Out (Int×(List Int)) ((List Int))):=
 (bif decide (ee < ((List.replicate n3 (0:Int)).length:Int)) then ((idx jh (ee))>>=fun RS=>(some (Out.norm (bg (ee+(1:Int)),jh.set (ee).toNat (ee))))) else (some (Out.exit 0 (ee,jh))))
def nJ (x0:Int):Option ((List Int)):=
 an (S:=Unit) ((mk 8 (x0))>>=fun n3=>(aj (ag 0 (ai (fun s=>lD n3 s.1 s.2) ((0:Int),List.replicate n3 (0:Int)))) (fun (ee,jh)=>(some (Out.ret (jh))))))
def mV (x0:aJ):Option (aN):=
 an (S:=Unit) ((nJ (x0.aE))>>=fun y8=>((dD x0)>>=fun sk=>((nJ (sk))>>=fun Az=>((kI x0 x0 y8 Az)>>=fun NX=>(some (Out.ret (NX)))))))
def jG (x0:aN) (x1:aN):Option (Bool):=
 an (S:=Unit) ((((fZ x0.aA x1.aA)>>=fun y7=>(bif y7 then ((fZ x0.aF x1.aF)>>=fun Ef=>(some (Ef))) else (some (false)))))>>=fun g3=>(some (Out.ret (g3))))
def gY (x0:bY) (xa:Int):Option (Out (Int) (Bool)):=
 (bif decide (xa < (x0.aX.length:Int)) then ((idx x0.aX (xa))>>=fun Ep=>((eC x0.aA.aF (Ep))>>=fun yj=>((idx x0.aA.aE (xa))>>=fun RY=>((idx x0.aF.aE (xa))>>=fun Sn=>(bif !((yj.aH) == (RY) && (yj.To) == (Sn)) then (some (Out.ret (false))) else (some (Out.norm (bg (xa+(1:Int)))))))))) else (some (Out.exit 0 (xa))))
def gB (x0:bY):Option (Bool):=
 an (S:=Unit) ((((kH [x0.aA,x0.aF])>>=fun my=>(bif !(my) then (some (true)) else ((jG x0.aA x0.aF)>>=fun uF=>(bif !(uF) then (some (true)) else (bif ((x0.aX.length:Int)) != (x0.aA.aA.aE) then (some (true)) else ((dD x0.aA.aF)>>=fun qc=>((iO x0.aX (qc))>>=fun rE=>(some (!(rE)))))))))))>>=fun g14=>(bif g14 then (some (Out.ret (false))) else (aj (ag 0 (ai (gY x0) ((0:Int)))) (fun xa=>(some (Out.ret (true)))))))
def mT (x0:bY) (x1:(aN→aN→(List Int)→Int→Option (Bool))) (yL:Int):Option (Out (Int) (Int)):=
 (bif decide (yL < (x0.aA.ab.length:Int)) then ((x1 x0.aA x0.aF x0.aX (yL))>>=fun Et=>(bif !(Et) then (some (Out.ret (yL))) else (some (Out.norm (bg (yL+(1:Int))))))) else (some (Out.exit 0 (yL))))
def lR (x0:bY) (x1:(aN→aN→(List Int)→Int→Option (Bool))):Option (Int):=
 an (S:=Unit) (aj (ag 0 (ai (mT x0 x1) ((0:Int)))) (fun yL=>(some (Out.ret (((-1:Int)))))))
def jJ (x0:aN) (x1:aN) (x2:(List Int)) (x3:Int):Option (Bool):=
 an (S:=Unit) ((idx x0.ab (x3))>>=fun e7=>((idx x0.aA.To (x3))>>=fun e9=>((idx x2 (e9))>>=fun Ee=>((cP x0.aF (e7) (Ee))>>=fun ve=>((idx x0.aA.aH (x3))>>=fun wa=>((idx x2 (wa))>>=fun Aw=>((idx x1.ab (x3))>>=fun RS=>((cP x0.aF (Aw) (RS))>>=fun Az=>(some (Out.ret (((ve) == (Az)))))))))))))
def fQ (x0:bY):Option (Bool):=
 an (S:=Unit) ((((gB x0)>>=fun y5=>(bif y5 then ((lR x0 (fun a0 a1 a2 a3=>jJ a0 a1 a2 (a3)))>>=fun y8=>(some (decide (y8 < (0:Int))))) else (some (false)))))>>=fun g3=>(some (Out.ret (g3))))
def lE (x0:(List bY)) (bu:Int):Option (Out (Int) (Bool)):=
 (bif decide (bu < (x0.length:Int)) then ((idx x0 (bu))>>=fun e9=>((fQ e9)>>=fun y57=>(bif !(y57) then (some (Out.ret (false))) else (some (Out.norm (bg (bu+(1:Int)))))))) else (some (Out.exit 0 (bu))))
def lF (x0:(List bY)):Option (Bool):=
 an (S:=Unit) (aj (ag 0 (ai (lE x0) ((0:Int)))) (fun bu=>(some (Out.ret (true)))))
def kS (x0:bI) (yM:Int):Option (Out (Int) (Bool)):=
 (bif decide (yM < (x0.Left.aE.length:Int)) then ((idx x0.Left.aE (yM))>>=fun NY=>((idx x0.Unit (yM))>>=fun Up=>((idx x0.Left.ab (Up))>>=fun Uq=>((idx x0.aw (NY))>>=fun Ur=>((cP x0.Left.aF (Uq) (Ur))>>=fun Us=>((idx x0.Left.aF.aI (NY))>>=fun Ut=>(bif (Us) != (Ut) then (some (Out.ret (false))) else (some (Out.norm (bg (yM+(1:Int)))))))))))) else (some (Out.exit 0 (yM))))
def kT (x0:bI) (wg:Int):Option (Out (Int) (Bool)):=
 (bif decide (wg < (x0.ae.aE.length:Int)) then ((idx x0.ae.aE (wg))>>=fun NZ=>((idx x0.Unit (NZ))>>=fun Uu=>((idx x0.aw (wg))>>=fun Uv=>((idx x0.ae.ab (Uv))>>=fun Uw=>((cP x0.Left.aA (Uu) (Uw))>>=fun Ux=>((idx x0.Left.aA.aI (NZ))>>=fun Uy=>(bif (Ux) != (Uy) then (some (Out.ret (false))) else (some (Out.norm (bg (wg+(1:Int)))))))))))) else (some (Out.exit 2 (wg))))
def jV (x0:bI):Option (Bool):=
 an (S:=Unit) ((fY x0.Left x0.ae)>>=fun JO=>((fY x0.ae x0.Left)>>=fun y93=>((mV x0.Left.aA)>>=fun Ya=>((mV x0.Left.aF)>>=fun Yb=>((lF [(bY.mk Ya JO x0.Unit),(bY.mk y93 Yb x0.aw)])>>=fun Uz=>(bif !(Uz) then (some (Out.ret (false))) else (aj (ag 0 (ai (kS x0) ((0:Int)))) (fun yM=>(aj (ag 2 (ai (kT x0) ((0:Int)))) (fun wg=>(some (Out.ret (true)))))))))))))
def fX (x0:bI):Option (Bool):=
 an (S:=Unit) ((((kH [x0.Left,x0.ae])>>=fun Et=>(bif Et then ((oC x0.Left x0.ae)>>=fun uF=>(bif uF then ((jV x0)>>=fun El=>(some (El))) else (some (false)))) else (some (false)))))>>=fun g12=>(some (Out.ret (g12))))
def lS (x0:aN):Option (aN):=
 an (S:=Unit) ((kI x0.aA x0.aF x0.aE x0.ab)>>=fun wb=>(some (Out.ret (wb))))
def pN (x0:aN) (x1:(List Int)) (x2:(List Int)):Option (cK):=
 an (S:=Unit) ((lS x0)>>=fun y8=>((gM x1)>>=fun N0=>((gM x2)>>=fun L6=>(some (Out.ret ((cK.mk y8 N0 L6)))))))
def kU (x0:bI) (da:(List Int)) (AF:Int):Option (Out ((List Int)×Int) (cK)):=
 (bif decide (AF < (x0.Left.aE.length:Int)) then ((idx x0.Left.aE (AF))>>=fun Yc=>((idx x0.aw (Yc))>>=fun Yd=>((idx x0.ae.ab (Yd))>>=fun Ye=>((fits 8 (da.length+1))>>=fun n263=>(some (Out.norm (da++[Ye],bg (AF+(1:Int))))))))) else (some (Out.exit 0 (da,AF))))
def oF (x0:bI):Option (cK):=
 an (S:=Unit) ((fY x0.Left x0.ae)>>=fun wb=>(aj (ag 0 (ai (fun s=>kU x0 s.1 s.2) (([]:(List Int)),(0:Int)))) (fun (da,AF)=>((pN wb x0.Unit da)>>=fun Yf=>(some (Out.ret (Yf)))))))
def iA (x0:cK) (x1:Int):Option (Int):=
 an (S:=Unit) ((idx x0.On.aE (x1))>>=fun e4=>(some (Out.ret (e4))))
def hJ (x0:aJ) (x1:Int) (x2:Int) (bu:(List Int)) (vf:Int):Option (Out ((List Int)×Int) ((List Int))):=
 (bif decide (vf < (x0.aH.length:Int)) then ((((idx x0.aH (vf))>>=fun va=>(bif (va) == (x1) then ((idx x0.To (vf))>>=fun yk=>(some ((yk) == (x2)))) else (some (false)))))>>=fun g20=>(bif g20 then ((fits 8 (bu.length+1))>>=fun n44=>(some (Out.norm (bu++[vf],bg (vf+(1:Int)))))) else (some (Out.norm (bu,bg (vf+(1:Int))))))) else (some (Out.exit 0 (bu,vf))))
def eI (x0:aJ) (x1:Int) (x2:Int):Option ((List Int)):=
 an (S:=Unit) (aj (ag 0 (ai (fun s=>hJ x0 x1 x2 s.1 s.2) (([]:(List Int)),(0:Int)))) (fun (bu,vf)=>(some (Out.ret (bu)))))
def iI (x0:cK) (x1:Int):Option (Int):=
 an (S:=Unit) ((idx x0.On.ab (x1))>>=fun e4=>(some (Out.ret (e4))))
def jW (x0:cK) (x1:Int) (x2:Int):Option (Bool):=
 an (S:=Unit) ((((eC x0.On.aA (x2))>>=fun y9=>((iA x0 (x1))>>=fun JO=>(bif ((y9.aH) == (JO) && (y9.To) == (x1)) then ((idx x0.Unit (x1))>>=fun uE=>((cP x0.On.aA (uE) (x2))>>=fun my=>((idx x0.On.aA.aI (x1))>>=fun rD=>(bif (my) == (rD) then ((iI x0 (x2))>>=fun Az=>((cP x0.On.aA (Az) (x2))>>=fun zh=>((idx x0.cb (x1))>>=fun yk=>((cP x0.On.aA (yk) (x2))>>=fun rE=>(some ((zh) == (rE))))))) else (some (false)))))) else (some (false))))))>>=fun g7=>(some (Out.ret (g7))))
def jS (x0:cK) (x:Int) (l:List Int) (s:List cQ×Int):Option (Out (List cQ×Int) (List cQ)):=
 (bif decide (s.2 < (l.length:Int)) then ((idx l (s.2))>>=fun JN=>((jW x0 (x) (JN))>>=fun qM=>(bif qM then ((fits 8 (s.1.length+1))>>=fun n42=>(some (Out.norm (s.1++[cQ.mk x JN],bg (s.2+(1:Int)))))) else (some (Out.norm (s.1,bg (s.2+(1:Int)))))))) else (some (Out.exit 2 s)))
def jQ (x0:cK) (s:List cQ×Int):Option (Out (List cQ×Int) (List cQ)):=
 (bif decide (s.2 < x0.On.aA.aE) then ((iA x0 (s.2))>>=fun y24=>((eI x0.On.aA (y24) (s.2))>>=fun rC=>(aj (ag 2 (ai (fun s2=>jS x0 s.2 rC s2) (s.1,(0:Int)))) (fun s2=>(some (Out.norm (s2.1,bg (s.2+(1:Int))))))))) else (some (Out.exit 0 s)))
def iM (x0:cK):Option (List cQ):=
 an (S:=Unit) (aj (ag 0 (ai (fun s=>jQ x0 s) (([]:List cQ),(0:Int)))) (fun s=>(some (Out.ret (s.1)))))
def eY (x0:cK) (x1:cQ) (x2:cQ) (ve:(List Int)) (dg:(List Int)) (yN:Int):Option (Out ((List Int)×Int) ((List Int))):=
 (bif decide (yN < (ve.length:Int)) then ((idx ve (yN))>>=fun Er=>((cP x0.On.aA (x1.H) (Er))>>=fun Sk=>((iI x0 (Er))>>=fun Sa=>((cP x0.On.aA (Sa) (x2.H))>>=fun Ay=>(bif (Sk) == (Ay) then ((fits 8 (dg.length+1))>>=fun n58=>(some (Out.norm (dg++[Er],bg (yN+(1:Int)))))) else (some (Out.norm (dg,bg (yN+(1:Int)))))))))) else (some (Out.exit 0 (dg,yN))))
def gE (x0:cK) (x1:cQ) (x2:cQ):Option ((List Int)):=
 an (S:=Unit) ((eI x0.On.aA (x1.X) (x2.X))>>=fun ve=>(aj (ag 0 (ai (fun s=>eY x0 x1 x2 ve s.1 s.2) (([]:(List Int)),(0:Int)))) (fun (dg,yN)=>(some (Out.ret (dg))))))
def nT (rD:(List Int)) (s1_3:(List Int)) (AH:Int):Option (Out ((List Int)×Int) (ByteArray)):=
 (bif decide (AH < (rD.length:Int)) then ((idx rD (AH))>>=fun Eo=>((fits 1 (s1_3.length+1))>>=fun n54=>(some (Out.norm (s1_3++[IntKind.u8.wrap Eo],bg (AH+(1:Int))))))) else (some (Out.exit 2 (s1_3,AH))))
def nU (x0:(List (List Int))) (de:(List Int)) (ja:Int):Option (Out ((List Int)×Int) (ByteArray)):=
 (bif decide (ja < (x0.length:Int)) then ((idx x0 (ja))>>=fun rD=>(aj (ag 2 (ai (fun s=>nT rD s.1 s.2) (de,(0:Int)))) (fun (s1_3,AH)=>((fits 1 (s1_3.length+1))>>=fun n75=>(some (Out.norm (s1_3++[(255:Int)],bg (ja+(1:Int))))))))) else (some (Out.exit 0 (de,ja))))
def pM (x0:(List (List Int))):Option (ByteArray):=
 an (S:=Unit) (aj (ag 0 (ai (fun s=>nU x0 s.1 s.2) (([]:(List Int)),(0:Int)))) (fun (de,ja)=>(some (Out.ret ((strOfNums de))))))
def mG (x0:List (List Int)) (s:List (ByteArray×Int)×Int):Option (Out (List (ByteArray×Int)×Int) (List (ByteArray×Int))):=
 (bif decide (s.2 < (x0.length:Int)) then ((idx x0 (s.2))>>=fun e13=>((pM [e13])>>=fun sk=>(some (Out.norm (ue s.1 sk s.2,bg (s.2+(1:Int))))))) else (some (Out.exit 0 s)))
def oX (x0:List (List Int)):Option (List (ByteArray×Int)):=
 an (S:=Unit) (aj (ag 0 (ai (fun s=>mG x0 s) (([]:List (ByteArray×Int)),(0:Int)))) (fun s=>(some (Out.ret (s.1)))))
def mH (x0:(List (List Int))) (x1:Int) (bj:(List Int)) (ja:Int):Option (Out ((List Int)×Int) ((List Int))):=
 (bif decide (ja < (x0.length:Int)) then ((idx x0 (ja))>>=fun rD=>((idx rD (x1))>>=fun zi=>((fits 8 (bj.length+1))>>=fun n43=>(some (Out.norm (bj++[zi],bg (ja+(1:Int)))))))) else (some (Out.exit 0 (bj,ja))))
def nV (x0:(List (List Int))) (x1:Int):Option ((List Int)):=
 an (S:=Unit) (aj (ag 0 (ai (fun s=>mH x0 x1 s.1 s.2) (([]:(List Int)),(0:Int)))) (fun (bj,ja)=>(some (Out.ret (bj)))))
def eZ (mm:List (ByteArray×Int)) (x1 x2 x3:Int):Option Int:=
 an (S:=Unit) ((pM [[x1,x2,x3]])>>=fun Em=>(some (Out.ret ((rS mm Em).getD (0:Int)))))
def fP (x0 x1:Int) (ll:List (List Int)) (mm:List (ByteArray×Int)) (cc:aJ):Option Int:=
 an (S:=Unit) ((idx ll (x0))>>=fun wa=>((idx ll (x1))>>=fun va=>((idx wa ((0:Int)))>>=fun e26=>((idx va ((1:Int)))>>=fun JC=>((idx wa ((2:Int)))>>=fun JI=>((idx va ((2:Int)))>>=fun Eo=>((cP cc (JI) (Eo))>>=fun ye=>((eZ mm (e26) (JC) (ye))>>=fun Ay=>(some (Out.ret (Ay)))))))))))
def gJ (x0:aJ) (x1:(Int→Int→Option (Int))) (mg:Int) (Sr:(List Int)) (qC:Int) (uG:(List (List Int))):Option (Out (Int×(List (List Int))) (aJ)):=
 (bif decide (qC < (Sr.length:Int)) then ((idx uG (mg))>>=fun B8=>((idx B8 (qC))>>=fun VZ=>((idx x0.To (mg))>>=fun Sm=>((idx x0.aH (qC))>>=fun R1=>(bif (Sm) == (R1) then ((idx (uG.set (mg).toNat (B8.set (qC).toNat ((-1:Int)))) (mg))>>=fun HS=>((x1 (mg) (qC))>>=fun Yg=>((idx HS (qC))>>=fun ai2=>(some (Out.norm (bg (qC+(1:Int)),(uG.set (mg).toNat (B8.set (qC).toNat ((-1:Int)))).set (mg).toNat (HS.set (qC).toNat (Yg)))))))) else (some (Out.norm (bg (qC+(1:Int)),uG.set (mg).toNat (B8.set (qC).toNat ((-1:Int))))))))))) else (some (Out.exit 2 (qC,uG))))
def gK (x0:aJ) (x1:(Int→Int→Option (Int))) (y7:Int) (n11:Nat) (mg:Int) (wh:(List (List Int))):Option (Out (Int×(List (List Int))) (aJ)):=
 (bif decide (mg < ((List.replicate n11 ([]:(List Int))).length:Int)) then ((mk 8 (y7))>>=fun n35=>((idx wh (mg))>>=fun NU=>((idx (wh.set (mg).toNat (List.replicate n35 (0:Int))) (mg))>>=fun Sr=>(aj (ag 2 (ai (fun s=>gJ x0 x1 mg Sr s.1 s.2) ((0:Int),wh.set (mg).toNat (List.replicate n35 (0:Int))))) (fun (qC,uG)=>(some (Out.norm (bg (mg+(1:Int)),uG)))))))) else (some (Out.exit 0 (mg,wh))))
def kP (x0:aJ) (x1:(Int→Int→Option (Int))):Option (aJ):=
 C2 (R:=(aJ)) ((dD x0)>>=fun y7=>((mk 24 (y7))>>=fun n11=>(aj (ag 0 (ai (fun s=>gK x0 x1 y7 n11 s.1 s.2) ((0:Int),List.replicate n11 ([]:(List Int))))) (fun (mg,wh)=>(some (Out.norm ((aJ.mk x0.aE x0.aH x0.To x0.aI wh))))))))
def lJ {ρ:Type} (i j:Int) (l:List Int) (s:List (List Int)×Int):Option (Out (List (List Int)×Int) ρ):=
 (bif decide (s.2 < (l.length:Int)) then ((idx l (s.2))>>=fun e53=>((fits 24 (s.1.length+1))>>=fun n64=>(some (Out.norm (s.1++[[i,j,e53]],bg (s.2+(1:Int))))))) else (some (Out.exit 4 s)))
def lH {ρ:Type} (x0:cK) (xs:List cQ) (i:Int) (a:cQ) (s:List (List Int)×Int):Option (Out (List (List Int)×Int) ρ):=
 (bif decide (s.2 < (xs.length:Int)) then ((idx xs (s.2))>>=fun JJ=>((gE x0 a JJ)>>=fun En=>(aj (ag 4 (ai (fun s4=>lJ i s.2 En s4) (s.1,(0:Int)))) (fun s4=>(some (Out.norm (s4.1,bg (s.2+(1:Int))))))))) else (some (Out.exit 2 s)))
def iN {ρ:Type} (x0:cK) (xs:List cQ) (s:List (List Int)×Int):Option (Out (List (List Int)×Int) ρ):=
 (bif decide (s.2 < (xs.length:Int)) then ((idx xs (s.2))>>=fun NT=>(aj (ag 2 (ai (fun s2=>lH x0 xs s.2 NT s2) (s.1,(0:Int)))) (fun s2=>(some (Out.norm (s2.1,bg (s.2+(1:Int)))))))) else (some (Out.exit 0 s)))
def gF {ρ:Type} (x0:cK) (mm:List (ByteArray×Int)) (xs:List cQ) (s:List Int×Int):Option (Out (List Int×Int) ρ):=
 (bif decide (s.2 < (xs.length:Int)) then ((idx xs (s.2))>>=fun Yh=>((idx x0.On.aA.aI (Yh.X))>>=fun Yi=>((eZ mm (s.2) (s.2) (Yi))>>=fun Yj=>((fits 8 (s.1.length+1))>>=fun n138=>(some (Out.norm (s.1++[Yj],bg (s.2+(1:Int))))))))) else (some (Out.exit 6 s)))
def kJ (x0:cK):Option (Option (aJ×List cQ×List (List Int)×List (ByteArray×Int))×Bool):=
 an (S:=Unit) ((iM x0)>>=fun my=>(bif decide ((my.length:Int) > (8:Int)) then (some (Out.ret (none,false))) else (aj (ag 0 (ai (fun s=>iN x0 my s) (([]:List (List Int)),(0:Int)))) (fun s=>(bif decide ((s.1.length:Int) > (40:Int)) then (some (Out.ret (none,false))) else ((oX s.1)>>=fun Ss=>((nV s.1 ((0:Int)))>>=fun N0=>((nV s.1 ((1:Int)))>>=fun Su=>(aj (ag 6 (ai (fun s6=>gF x0 Ss my s6) (([]:List Int),(0:Int)))) (fun s6=>((kP (aJ.mk ((my.length:Int)) N0 Su s6.1 ([]:List (List Int))) (fun a0 a1=>fP a0 a1 s.1 Ss x0.On.aA))>>=fun Sw=>(some (Out.ret (some (aJ.mk Sw.aE N0 Su s6.1 Sw.aG,my,s.1,Ss),true))))))))))))))
def iB (x0:Int) (x1:bI):Option ((Option cQ)):=
 an (S:=Unit) ((idx x1.ae.aE (x0))>>=fun e4=>((idx x1.aw (x0))>>=fun e7=>((idx x1.ae.ab (e7))>>=fun e9=>(some (Out.ret ((some (cQ.mk e4 e9))))))))
def iC (x0:Int) (x1:bI):Option (Int):=
 an (S:=Unit) ((idx x1.ae.ab (x0))>>=fun e4=>(some (Out.ret (e4))))
def kR (xs:List cQ) (a:cQ) (s:Int):Option (Out Int Int):=
 (bif decide (s < (xs.length:Int)) then ((idx xs (s))>>=fun xD=>(bif (a.X == xD.X && a.H == xD.H) then (some (Out.ret (s))) else (some (Out.norm (bg (s+(1:Int))))))) else (some (Out.exit 0 s)))
def fV (xs:List cQ) (a:cQ):Option Int:=
 an (S:=Unit) (aj (ag 0 (ai (fun s=>kR xs a s) (0:Int))) (fun _=>(some (Out.ret (-1:Int)))))
def kK (xs:List cQ) (c:aJ) (ob:Int→Option (Option cQ)) (s:List Int×Int):Option (Out (List Int×Int) aN):=
 (bif decide (s.2 < c.aE) then ((ob (s.2))>>=fun rE=>(match rE with | none=>none | some m=>((fV xs m)>>=fun vb=>((fits 8 (s.1.length+1))>>=fun n30=>(some (Out.norm (s.1++[vb],bg (s.2+(1:Int))))))))) else (some (Out.exit 0 s)))
def kL (mm:List (ByteArray×Int)) (c:aJ) (ar:Int→Option Int) (os:List Int) (s:List Int×Int):Option (Out (List Int×Int) aN):=
 (bif decide (s.2 < (c.aH.length:Int)) then ((idx c.aH (s.2))>>=fun Sq=>((idx os (Sq))>>=fun RZ=>((idx c.To (s.2))>>=fun e58=>((idx os (e58))>>=fun e60=>((ar (s.2))>>=fun JK=>((eZ mm (RZ) (e60) (JK))>>=fun RX=>((fits 8 (s.1.length+1))>>=fun n66=>(some (Out.norm (s.1++[RX],bg (s.2+(1:Int)))))))))))) else (some (Out.exit 2 s)))
def mK (mm:List (ByteArray×Int)) (xs:List cQ) (kc c:aJ) (ob:Int→Option (Option cQ)) (ar:Int→Option Int):Option aN:=
 an (S:=Unit) (aj (ag 0 (ai (fun s=>kK xs c ob s) (([]:List Int),(0:Int)))) (fun s=>(aj (ag 2 (ai (fun s2=>kL mm c ar s.1 s2) (([]:List Int),(0:Int)))) (fun s2=>((kI c kc s.1 s2.1)>>=fun y74=>(some (Out.ret (y74))))))))
def jC (x0:bI):Option (aN×Int):=
 an (S:=Unit) ((fX x0)>>=fun y9=>(bif !(y9) then (some (Out.ret ((aN.mk (aJ.mk ((0:Int)) ([]) ([]) ([]) ([])) (aJ.mk ((0:Int)) ([]) ([]) ([]) ([])) ([]) ([])),(1:Int)))) else ((oF x0)>>=fun ve=>((kJ ve)>>=fun xE=>(match xE.1 with | none=>(bif !(xE.2) then (some (Out.ret ((aN.mk (aJ.mk ((0:Int)) ([]) ([]) ([]) ([])) (aJ.mk ((0:Int)) ([]) ([]) ([]) ([])) ([]) ([])),(3:Int)))) else none) | some m=>(bif !(xE.2) then (some (Out.ret ((aN.mk (aJ.mk ((0:Int)) ([]) ([]) ([]) ([])) (aJ.mk ((0:Int)) ([]) ([]) ([]) ([])) ([]) ([])),(3:Int)))) else ((mK m.2.2.2 m.2.1 m.1 x0.ae.aA (fun a0=>iB a0 x0) (fun a0=>iC a0 x0))>>=fun l7=>(some (Out.ret (l7,(0:Int)))))))))))
def oY (x0:(List Int)) (x1:Int) (ee:Int):Option (Out (Int) (Bool)):=
 (bif decide (ee < (x0.length:Int)) then ((idx x0 (ee))>>=fun e9=>(bif (e9) == (x1) then (some (Out.ret (true))) else (some (Out.norm (bg (ee+(1:Int))))))) else (some (Out.exit 0 (ee))))
def pO (x0:(List Int)) (x1:Int):Option (Bool):=
 an (S:=Unit) (aj (ag 0 (ai (oY x0 x1) ((0:Int)))) (fun ee=>(some (Out.ret (false)))))
def iR (rC:(List Int)) (N1:(List Int)) (AI:Int):Option (Out (Int) (Bool)):=
 (bif decide (AI < (N1.length:Int)) then ((idx N1 (AI))>>=fun e54=>((pO rC (e54))>>=fun y58=>(bif !(y58) then (some (Out.ret (false))) else (some (Out.norm (bg (AI+(1:Int)))))))) else (some (Out.exit 4 (AI))))
def lM (x0:aN) (da:Int) (l8:Int):Option (Out (Int) (Bool)):=
 (bif decide (l8 < x0.aA.aE) then ((eI x0.aA (da) (l8))>>=fun Em=>((nI Em x0.ab)>>=fun rC=>((idx x0.aE (da))>>=fun Eo=>((idx x0.aE (l8))>>=fun Sd=>((eI x0.aF (Eo) (Sd))>>=fun N1=>(aj (ag 4 (ai (iR rC N1) ((0:Int)))) (fun AI=>(some (Out.norm (bg (l8+(1:Int)))))))))))) else (some (Out.exit 2 (l8))))
def lN (x0:aN) (da:Int):Option (Out (Int) (Bool)):=
 (bif decide (da < x0.aA.aE) then (aj (ag 2 (ai (lM x0 da) ((0:Int)))) (fun l8=>(some (Out.norm (bg (da+(1:Int))))))) else (some (Out.exit 0 (da))))
def kQ (x0:aN):Option (Bool):=
 an (S:=Unit) (aj (ag 0 (ai (lN x0) ((0:Int)))) (fun da=>(some (Out.ret (true)))))
def jM (x0:aN) (mf:Int) (Ee:(List Int)) (yO:Int):Option (Out (Int) (Bool)):=
 (bif decide (yO < (Ee.length:Int)) then ((((idx x0.ab (mf))>>=fun va=>((idx x0.ab (yO))>>=fun Es=>(bif (va) == (Es) then ((eC x0.aA (mf))>>=fun vb=>((eC x0.aA (yO))>>=fun NX=>(some (((vb.aH) == (NX.aH) && (vb.To) == (NX.To)))))) else (some (false))))))>>=fun g20=>(bif g20 then (some (Out.ret (false))) else (some (Out.norm (bg (yO+(1:Int))))))) else (some (Out.exit 2 (yO))))
def jN (x0:aN) (mf:Int):Option (Out (Int) (Bool)):=
 (bif decide (mf < (x0.ab.length:Int)) then ((A4 x0.ab (0:Int) (mf))>>=fun Ee=>(aj (ag 2 (ai (jM x0 mf Ee) ((0:Int)))) (fun yO=>(some (Out.norm (bg (mf+(1:Int)))))))) else (some (Out.exit 0 (mf))))
def iF (x0:aN):Option (Bool):=
 an (S:=Unit) (aj (ag 0 (ai (jN x0) ((0:Int)))) (fun mf=>(some (Out.ret (true)))))
def fR (x0:aJ) (x1:Int) (e3:Int) (e5:Int) (y9:(List Int)) (AJ:Int):Option (Out (Int) (Int)):=
 (bif decide (AJ < (y9.length:Int)) then ((idx y9 (AJ))>>=fun yi=>((((cP x0 (x1) (yi))>>=fun rE=>((idx x0.aI (e3))>>=fun JC=>(bif (rE) == (JC) then ((cP x0 (yi) (x1))>>=fun JL=>((idx x0.aI (e5))>>=fun NT=>(some ((JL) == (NT))))) else (some (false))))))>>=fun Sj=>(bif Sj then (some (Out.ret (yi))) else (some (Out.norm (bg (AJ+(1:Int)))))))) else (some (Out.exit 0 (AJ))))
def jH (x0:aJ) (x1:Int):Option (Int):=
 an (S:=Unit) ((idx x0.aH (x1))>>=fun e3=>((idx x0.To (x1))>>=fun e5=>((eI x0 (e5) (e3))>>=fun y9=>(aj (ag 0 (ai (fR x0 x1 e3 e5 y9) ((0:Int)))) (fun AJ=>(some (Out.ret (((-1:Int))))))))))
def fE (x0:aJ) (y3:(List Int)) (AK:Int):Option (Out (Int) (Int)):=
 (bif decide (AK < (y3.length:Int)) then ((idx y3 (AK))>>=fun wa=>((jH x0 (wa))>>=fun uF=>(bif decide (uF ≥ (0:Int)) then (some (Out.ret (wa))) else (some (Out.norm (bg (AK+(1:Int)))))))) else (some (Out.exit 0 (AK))))
def hP (x0:aJ) (x1:Int) (x2:Int):Option (Int):=
 an (S:=Unit) ((eI x0 (x1) (x2))>>=fun y3=>(aj (ag 0 (ai (fE x0 y3) ((0:Int)))) (fun AK=>(some (Out.ret (((-1:Int))))))))
def dV (x0:aN) (y:Int) (s:Int):Option (Out Int Bool):=
 (bif decide (s < (x0.aE.length:Int)) then ((idx x0.aE (s))>>=fun NW=>((hP x0.aF (NW) (y))>>=fun l7=>(bif decide (l7 ≥ (0:Int)) then (some (Out.exit 1 s)) else (some (Out.norm (bg (s+(1:Int)))))))) else (some (Out.exit 2 s)))
def fL (x0:aN) (s:Int):Option (Out Int Bool):=
 (bif decide (s < x0.aF.aE) then (Gv 2 1 (ai (fun s2=>dV x0 s s2) (0:Int)) (fun _=>(some (Out.ret false))) (fun _=>(some (Out.norm (bg (s+(1:Int))))))) else (some (Out.exit 0 s)))
def eV (x0:aN):Option Bool:=
 an (S:=Unit) (aj (ag 0 (ai (fun s=>fL x0 s) (0:Int))) (fun _=>(some (Out.ret true))))
def gN (x0:aN):Option (Bool):=
 an (S:=Unit) ((((kQ x0)>>=fun y5=>(bif y5 then ((iF x0)>>=fun y8=>(bif y8 then ((eV x0)>>=fun JO=>(some (JO))) else (some (false)))) else (some (false)))))>>=fun g3=>(some (Out.ret (g3))))
def nL (x0:bI):Option (Bool×Int):=
 an (S:=Unit) ((jC x0)>>=fun y8=>(bif (y8.2) != ((0:Int)) then (some (Out.ret ((false,y8.2)))) else ((gN y8.1)>>=fun L9=>(some (Out.ret ((L9,((0:Int)))))))))
def pS (x0:(List Int)) (x1:(List Int)) (bj:Int):Option (Out (Int) (Bool)):=
 (bif decide (bj < (x0.length:Int)) then ((idx x0 (bj))>>=fun uE=>((idx x1 (bj))>>=fun xD=>(bif (uE) != (xD) then (some (Out.ret (false))) else (some (Out.norm (bg (bj+(1:Int)))))))) else (some (Out.exit 0 (bj))))
def fU (x0:(List Int)) (x1:(List Int)):Option (Bool):=
 an (S:=Unit) (bif ((x0.length:Int)) != ((x1.length:Int)) then (some (Out.ret (false))) else (aj (ag 0 (ai (pS x0 x1) ((0:Int)))) (fun bj=>(some (Out.ret (true))))))
def pQ (x0:(List (List Int))) (x1:(List (List Int))) (bj:Int):Option (Out (Int) (Bool)):=
 (bif decide (bj < (x0.length:Int)) then ((idx x0 (bj))>>=fun uE=>((idx x1 (bj))>>=fun yi=>((fU uE yi)>>=fun vb=>(bif !(vb) then (some (Out.ret (false))) else (some (Out.norm (bg (bj+(1:Int))))))))) else (some (Out.exit 0 (bj))))
def oT (x0:(List (List Int))) (x1:(List (List Int))):Option (Bool):=
 an (S:=Unit) (bif ((x0.length:Int)) != ((x1.length:Int)) then (some (Out.ret (false))) else (aj (ag 0 (ai (pQ x0 x1) ((0:Int)))) (fun bj=>(some (Out.ret (true))))))
def lG (x0:aJ) (x1:aJ):Option (Bool):=
 an (S:=Unit) (bif (x0.aE) != (x1.aE) then (some (Out.ret (false))) else ((fU x0.aH x1.aH)>>=fun Az=>(bif !(Az) then (some (Out.ret (false))) else ((fU x0.To x1.To)>>=fun vb=>(bif !(vb) then (some (Out.ret (false))) else ((fU x0.aI x1.aI)>>=fun qM=>(bif !(qM) then (some (Out.ret (false))) else ((oT x0.aG x1.aG)>>=fun JM=>(bif !(JM) then (some (Out.ret (false))) else (some (Out.ret (true))))))))))))
def lY (x0:aN) (x1:aN):Option (Bool):=
 an (S:=Unit) ((lG x0.aA x1.aA)>>=fun my=>(bif !(my) then (some (Out.ret (false))) else ((lG x0.aF x1.aF)>>=fun zh=>(bif !(zh) then (some (Out.ret (false))) else ((fU x0.aE x1.aE)>>=fun JB=>(bif !(JB) then (some (Out.ret (false))) else ((fU x0.ab x1.ab)>>=fun ye=>(bif !(ye) then (some (Out.ret (false))) else (some (Out.ret (true)))))))))))
def lP (x0:bI) (x1:bI):Option (Bool):=
 an (S:=Unit) ((lY x0.Left x1.Left)>>=fun my=>(bif !(my) then (some (Out.ret (false))) else ((lY x0.ae x1.ae)>>=fun zh=>(bif !(zh) then (some (Out.ret (false))) else ((fU x0.Unit x1.Unit)>>=fun JB=>(bif !(JB) then (some (Out.ret (false))) else ((fU x0.aw x1.aw)>>=fun ye=>(bif !(ye) then (some (Out.ret (false))) else (some (Out.ret (true)))))))))))
def jD (x0:bI):Option (Bool):=
 an (S:=Unit) ((lO x0 ((1048576:Int)))>>=fun wb=>(bif decide (wb < (0:Int)) then (some (Out.ret (true))) else ((iD x0)>>=fun uF=>((nK uF)>>=fun Sx=>((iD x0)>>=fun Sy=>((nL Sy)>>=fun Sz=>(((bif !((Sz.1) == (Sx.1)) then (some (true)) else (some ((Sz.2) != (Sx.2)))))>>=fun Yk=>(bif Yk then (some (Out.ret (false))) else ((iD x0)>>=fun Yl=>((lP Sy Yl)>>=fun UA=>(bif !(UA) then (some (Out.ret (false))) else (some (Out.ret (true))))))))))))))
end
end Go.Proofs.YtcnehblmgfbfoaaGreat
