/- Models, printed by a program: what each function computes, on plain data. No condition. -/
import Derived.Test.YtcnehblmgfbfoaaGreatLj
import Derived.Test.YtcnehblmgfbfoaaGreatLn
import Derived.Test.YtcnehblmgfbfoaaGreatLq
namespace Go.Proofs.YtcnehblmgfbfoaaGreat
open Go Go.Li
set_option linter.unusedVariables false
noncomputable section
structure aH where
 aD:Int
 aF:(List Int)
 To:(List Int)
 aG:(List Int)
 aC:(List (List Int))
structure aS where
 aB:aH
 aE:aH
 aD:(List Int)
 ab:(List Int)
structure bB where
 On:aS
 Unit:(List Int)
 ba:(List Int)
structure oY where
 aF:Int
 To:Int
structure bO where
 aB:aS
 aE:aS
 bb:(List Int)
structure bW where
 X:Int
 H:Int
def eA (x0:(List Int)) (x1:Int):Option (Int):=
 an (S:=Unit) (bif decide (bf (x1 - (x0.length:Int)) < (0:Int)) then (some (Out.ret (((-1:Int))))) else (some (Out.ret ((bf (x1 - (x0.length:Int)))))))
def fN (x0:(List (List Int))) (j7:Int) (av:Int):Option (Out (Int×Int) (Int)):=
 (bif decide (av < (x0.length:Int)) then ((idx x0 (av))>>=fun w6=>((eA w6 (j7))>>=fun vI=>(bif decide (vI < (0:Int)) then (some (Out.ret (((-1:Int))))) else (some (Out.norm (vI,bf (av+(1:Int)))))))) else (some (Out.exit 0 (j7,av))))
def lL (x0:(List (List Int))) (x1:Int):Option (Int):=
 an (S:=Unit) (bif decide (bf (x1 - (x0.length:Int)) < (0:Int)) then (some (Out.ret (((-1:Int))))) else (aj (ah 0 (ai (fun s=>fN x0 s.1 s.2) (bf (x1 - (x0.length:Int)),(0:Int)))) (fun (j7,av)=>(some (Out.ret (j7))))))
def iS (x0:aH) (x1:Int):Option (Int):=
 an (S:=Unit) ((eA x0.aF (x1))>>=fun y8=>(bif decide (y8 < (0:Int)) then (some (Out.ret (((-1:Int))))) else ((eA x0.To (y8))>>=fun na=>(bif decide (na < (0:Int)) then (some (Out.ret (((-1:Int))))) else ((eA x0.aG (na))>>=fun ql=>(bif decide (ql < (0:Int)) then (some (Out.ret (((-1:Int))))) else ((lL x0.aC (ql))>>=fun nw=>(bif decide (nw < (0:Int)) then (some (Out.ret (((-1:Int))))) else (some (Out.ret (nw)))))))))))
def lG (x0:aS) (x1:Int):Option (Int):=
 an (S:=Unit) ((iS x0.aB (x1))>>=fun y8=>(bif decide (y8 < (0:Int)) then (some (Out.ret (((-1:Int))))) else ((iS x0.aE (y8))>>=fun na=>(bif decide (na < (0:Int)) then (some (Out.ret (((-1:Int))))) else ((eA x0.aD (na))>>=fun ql=>(bif decide (ql < (0:Int)) then (some (Out.ret (((-1:Int))))) else ((eA x0.ab (ql))>>=fun nw=>(bif decide (nw < (0:Int)) then (some (Out.ret (((-1:Int))))) else (some (Out.ret (nw)))))))))))
def mM (x0:bB) (x1:Int):Option (Int):=
 an (S:=Unit) ((lG x0.On (x1))>>=fun y8=>(bif decide (y8 < (0:Int)) then (some (Out.ret (((-1:Int))))) else ((eA x0.Unit (y8))>>=fun na=>(bif decide (na < (0:Int)) then (some (Out.ret (((-1:Int))))) else ((eA x0.ba (na))>>=fun ql=>(bif decide (ql < (0:Int)) then (some (Out.ret (((-1:Int))))) else (some (Out.ret (ql)))))))))
def iF (x0:(List Int)) (da:Int) (ja:(List Int)):Option (Out (Int×(List Int)) ((List Int))):=
 (bif decide (da < (x0.length:Int)) then ((idx x0 (da))>>=fun xH=>((idx ja (da))>>=fun Ir=>(some (Out.norm (bf (da+(1:Int)),ja.set (da).toNat (xH)))))) else (some (Out.exit 0 (da,ja))))
def eB (x0:(List Int)):Option ((List Int)):=
 an (S:=Unit) ((mk 8 ((x0.length:Int)))>>=fun n3=>(aj (ah 0 (ai (fun s=>iF x0 s.1 s.2) ((0:Int),List.replicate n3 (0:Int)))) (fun (da,ja)=>(some (Out.ret (ja))))))
def gQ (x0:(List (List Int))) (da:Int) (ja:(List (List Int))):Option (Out (Int×(List (List Int))) ((List (List Int)))):=
 (bif decide (da < (x0.length:Int)) then ((idx x0 (da))>>=fun qR=>((eB qR)>>=fun ly=>((idx ja (da))>>=fun Uo=>(some (Out.norm (bf (da+(1:Int)),ja.set (da).toNat ly)))))) else (some (Out.exit 0 (da,ja))))
def lM (x0:(List (List Int))):Option ((List (List Int))):=
 an (S:=Unit) ((mk 24 ((x0.length:Int)))>>=fun n3=>(aj (ah 0 (ai (fun s=>gQ x0 s.1 s.2) ((0:Int),List.replicate n3 ([]:(List Int))))) (fun (da,ja)=>(some (Out.ret (ja))))))
def iU (x0:aH):Option (aH):=
 an (S:=Unit) ((eB x0.aF)>>=fun nx=>((eB x0.To)>>=fun y44=>((eB x0.aG)>>=fun Qz=>((lM x0.aC)>>=fun y77=>(some (Out.ret ((aH.mk x0.aD nx y44 Qz y77))))))))
def lH (x0:aS):Option (aS):=
 an (S:=Unit) ((iU x0.aB)>>=fun ly=>((iU x0.aE)>>=fun QB=>((eB x0.aD)>>=fun Vk=>((eB x0.ab)>>=fun Vl=>(some (Out.ret ((aS.mk ly QB Vk Vl))))))))
def iC (x0:bB):Option (bB):=
 an (S:=Unit) ((lH x0.On)>>=fun ly=>((eB x0.Unit)>>=fun GH=>((eB x0.ba)>>=fun Vm=>(some (Out.ret ((bB.mk ly GH Vm)))))))
def nT (x0:Int) (x1:Int) (x2:Int):Option (Bool):=
 an (S:=Unit) (((bif decide (x0 ≥ x1) then (some (decide (x0≤x2))) else (some (false))))>>=fun g3=>(some (Out.ret (g3))))
def lN (x0:Int) (x1:(List Int)) (av:Int):Option (Out (Int) (Bool)):=
 (bif decide (av < (x1.length:Int)) then ((((idx x1 (av))>>=fun QC=>(bif decide (QC < (0:Int)) then (some (true)) else ((idx x1 (av))>>=fun su=>(some (decide (su ≥ x0)))))))>>=fun g9=>(bif g9 then (some (Out.ret (false))) else (some (Out.norm (bf (av+(1:Int))))))) else (some (Out.exit 0 (av))))
def hP (x0:Int) (x1:(List Int)):Option (Bool):=
 an (S:=Unit) (aj (ah 0 (ai (lN x0 x1) ((0:Int)))) (fun av=>(some (Out.ret (true)))))
def kV (x0:(List Int)) (x1:Int) (x2:Int):Option (Bool):=
 an (S:=Unit) (((bif ((x0.length:Int)) == (x1) then ((hP (x2) x0)>>=fun y6=>(some (y6))) else (some (false))))>>=fun g3=>(some (Out.ret (g3))))
def kL (x0:aH) (da:Int):Option (Out (Int) (Bool)):=
 (bif decide (da < x0.aD) then ((((idx x0.aG (da))>>=fun Mq=>((idx x0.aF (Mq))>>=fun Is=>(bif (Is) != (da) then (some (true)) else ((idx x0.aG (da))>>=fun QD=>((idx x0.To (QD))>>=fun QF=>(some ((QF) != (da)))))))))>>=fun QG=>(bif QG then (some (Out.ret (false))) else (some (Out.norm (bf (da+(1:Int))))))) else (some (Out.exit 0 (da))))
def kN (x0:aH) (qD:Int) (vj:Int):Option (Out (Int) (Bool)):=
 (bif decide (vj < (x0.aF.length:Int)) then ((idx x0.aC (qD))>>=fun e86=>((idx e86 (vj))>>=fun It=>((idx x0.To (qD))>>=fun QH=>((idx x0.aF (vj))>>=fun e99=>(bif (QH) != (e99) then (bif (It) != ((-1:Int)) then (some (Out.ret (false))) else (some (Out.norm (bf (vj+(1:Int)))))) else (((bif decide (It < (0:Int)) then (some (true)) else (bif decide (It ≥ (x0.aF.length:Int)) then (some (true)) else ((idx x0.aF (It))>>=fun Vn=>((idx x0.aF (qD))>>=fun Vp=>(bif (Vn) != (Vp) then (some (true)) else ((idx x0.To (It))>>=fun Vq=>((idx x0.To (vj))>>=fun Vs=>(some ((Vq) != (Vs)))))))))))>>=fun Vt=>(bif Vt then (some (Out.ret (false))) else (some (Out.norm (bf (vj+(1:Int)))))))))))) else (some (Out.exit 4 (vj))))
def mO (x0:aH) (qD:Int):Option (Out (Int) (Bool)):=
 (bif decide (qD < (x0.aF.length:Int)) then ((idx x0.aC (qD))>>=fun Iu=>(bif ((Iu.length:Int)) != ((x0.aF.length:Int)) then (some (Out.ret (false))) else (aj (ah 4 (ai (kN x0 qD) ((0:Int)))) (fun vj=>(some (Out.norm (bf (qD+(1:Int))))))))) else (some (Out.exit 2 (qD))))
def mP (x0:aH):Option (Bool):=
 an (S:=Unit) ((((nT (x0.aD) ((0:Int)) ((8:Int)))>>=fun sw=>(bif !(sw) then (some (true)) else (bif decide ((x0.aF.length:Int) > (40:Int)) then (some (true)) else ((kV x0.aF ((x0.aF.length:Int)) (x0.aD))>>=fun iw=>(bif !(iw) then (some (true)) else ((kV x0.To ((x0.aF.length:Int)) (x0.aD))>>=fun sx=>(bif !(sx) then (some (true)) else (some (((x0.aC.length:Int)) != ((x0.aF.length:Int))))))))))))>>=fun g10=>(bif g10 then (some (Out.ret (false))) else (((bif ((x0.aG.length:Int)) != (x0.aD) then (some (true)) else ((hP ((x0.aF.length:Int)) x0.aG)>>=fun Iv=>(some (!(Iv))))))>>=fun g27=>(bif g27 then (some (Out.ret (false))) else (aj (ah 0 (ai (kL x0) ((0:Int)))) (fun da=>(aj (ah 2 (ai (mO x0) ((0:Int)))) (fun qD=>(some (Out.ret (true)))))))))))
def kC (x0:aH) (bw:Int):Option (Out (Int) (Int×Int×Int×Int)):=
 (bif decide (bw < (x0.aF.length:Int)) then ((((idx x0.aF (bw))>>=fun qR=>((idx x0.aG (qR))>>=fun zP=>((idx x0.aC (zP))>>=fun w7=>((idx w7 (bw))>>=fun Iw=>(bif (Iw) != (bw) then (some (true)) else ((idx x0.aC (bw))>>=fun Iy=>((idx x0.To (bw))>>=fun QI=>((idx x0.aG (QI))>>=fun Dq=>((idx Iy (Dq))>>=fun QJ=>(some ((QJ) != (bw)))))))))))))>>=fun g16=>(bif g16 then (some (Out.ret ((((1:Int)),bw,((0:Int)),((0:Int)))))) else (some (Out.norm (bf (bw+(1:Int))))))) else (some (Out.exit 0 (bw))))
def iG (x0:aH) (kj:Int) (gy:Int) (mg:Int):Option (Out (Int) (Int×Int×Int×Int)):=
 (bif decide (mg < (x0.aF.length:Int)) then ((((idx x0.To (gy))>>=fun e82=>((idx x0.aF (mg))>>=fun e84=>(bif (e82) == (e84) then ((idx x0.aC (kj))>>=fun QK=>((idx QK (gy))>>=fun e94=>((idx x0.aC (e94))>>=fun e96=>((idx e96 (mg))>>=fun GI=>((idx x0.aC (kj))>>=fun Vu=>((idx x0.aC (gy))>>=fun Dr=>((idx Dr (mg))>>=fun Vv=>((idx Vu (Vv))>>=fun Vw=>(some ((GI) != (Vw))))))))))) else (some (false))))))>>=fun g80=>(bif g80 then (some (Out.ret ((((2:Int)),kj,gy,mg)))) else (some (Out.norm (bf (mg+(1:Int))))))) else (some (Out.exit 6 (mg))))
def iI (x0:aH) (kj:Int) (gy:Int):Option (Out (Int) (Int×Int×Int×Int)):=
 (bif decide (gy < (x0.aF.length:Int)) then ((idx x0.To (kj))>>=fun QM=>((idx x0.aF (gy))>>=fun Ds=>(bif (QM) != (Ds) then (some (Out.norm (bf (gy+(1:Int))))) else (aj (ah 6 (ai (iG x0 kj gy) ((0:Int)))) (fun mg=>(some (Out.norm (bf (gy+(1:Int)))))))))) else (some (Out.exit 4 (gy))))
def mH (x0:aH) (kj:Int):Option (Out (Int) (Int×Int×Int×Int)):=
 (bif decide (kj < (x0.aF.length:Int)) then (aj (ah 4 (ai (iI x0 kj) ((0:Int)))) (fun gy=>(some (Out.norm (bf (kj+(1:Int))))))) else (some (Out.exit 2 (kj))))
def mD (x0:aH):Option (Int×Int×Int×Int):=
 an (S:=Unit) (aj (ah 0 (ai (kC x0) ((0:Int)))) (fun bw=>(aj (ah 2 (ai (mH x0) ((0:Int)))) (fun kj=>(some (Out.ret ((((0:Int)),((0:Int)),((0:Int)),((0:Int))))))))))
def mQ (x0:aH):Option (Bool):=
 an (S:=Unit) ((mP x0)>>=fun y8=>(bif !(y8) then (some (Out.ret (false))) else ((mD x0)>>=fun y15=>(some (Out.ret (((y15.1) == ((0:Int)))))))))
def nI (x0:aS) (av:Int):Option (Out (Int) (Bool)):=
 (bif decide (av < (x0.aB.aF.length:Int)) then ((((idx x0.ab (av))>>=fun QN=>((idx x0.aE.aF (QN))>>=fun By=>((idx x0.aB.aF (av))>>=fun QO=>((idx x0.aD (QO))>>=fun QP=>(bif (By) != (QP) then (some (true)) else ((idx x0.ab (av))>>=fun Up=>((idx x0.aE.To (Up))>>=fun Iz=>((idx x0.aB.To (av))>>=fun e83=>((idx x0.aD (e83))>>=fun QQ=>(some ((Iz) != (QQ)))))))))))))>>=fun g68=>(bif g68 then (some (Out.ret (false))) else (some (Out.norm (bf (av+(1:Int))))))) else (some (Out.exit 0 (av))))
def nJ (x0:aS) (mw:Int):Option (Out (Int) (Bool)):=
 (bif decide (mw < x0.aB.aD) then ((idx x0.aB.aG (mw))>>=fun Du=>((idx x0.ab (Du))>>=fun KN=>((idx x0.aD (mw))>>=fun Dv=>((idx x0.aE.aG (Dv))>>=fun Dw=>(bif (KN) != (Dw) then (some (Out.ret (false))) else (some (Out.norm (bf (mw+(1:Int)))))))))) else (some (Out.exit 2 (mw))))
def nK (x0:aS) (qE:Int) (za:Int):Option (Out (Int) (Bool)):=
 (bif decide (za < (x0.aB.aF.length:Int)) then ((((idx x0.aB.To (qE))>>=fun Vx=>((idx x0.aB.aF (za))>>=fun KO=>(bif (Vx) == (KO) then ((idx x0.aB.aC (qE))>>=fun Vy=>((idx Vy (za))>>=fun Vz=>((idx x0.ab (Vz))>>=fun VA=>((idx x0.ab (qE))>>=fun VB=>((idx x0.aE.aC (VB))>>=fun VC=>((idx x0.ab (za))>>=fun VD=>((idx VC (VD))>>=fun VE=>(some ((VA) != (VE)))))))))) else (some (false))))))>>=fun VF=>(bif VF then (some (Out.ret (false))) else (some (Out.norm (bf (za+(1:Int))))))) else (some (Out.exit 6 (za))))
def nL (x0:aS) (qE:Int):Option (Out (Int) (Bool)):=
 (bif decide (qE < (x0.aB.aF.length:Int)) then (aj (ah 6 (ai (nK x0 qE) ((0:Int)))) (fun za=>(some (Out.norm (bf (qE+(1:Int))))))) else (some (Out.exit 4 (qE))))
def nU (x0:aS):Option (Bool):=
 an (S:=Unit) ((((mQ x0.aB)>>=fun nw=>(bif !(nw) then (some (true)) else ((mQ x0.aE)>>=fun Dx=>(bif !(Dx) then (some (true)) else (bif ((x0.aD.length:Int)) != (x0.aB.aD) then (some (true)) else (some (((x0.ab.length:Int)) != ((x0.aB.aF.length:Int))))))))))>>=fun g33=>(bif g33 then (some (Out.ret (false))) else ((((hP (x0.aE.aD) x0.aD)>>=fun Dy=>(bif !(Dy) then (some (true)) else ((hP ((x0.aE.aF.length:Int)) x0.ab)>>=fun y52=>(some (!(y52)))))))>>=fun g47=>(bif g47 then (some (Out.ret (false))) else (aj (ah 0 (ai (nI x0) ((0:Int)))) (fun av=>(aj (ah 2 (ai (nJ x0) ((0:Int)))) (fun mw=>(aj (ah 4 (ai (nL x0) ((0:Int)))) (fun qE=>(some (Out.ret (true)))))))))))))
def oQ (x0:(List Int)) (x1:(List Int)) (av:Int):Option (Out (Int) (Bool)):=
 (bif decide (av < (x0.length:Int)) then ((idx x0 (av))>>=fun su=>((idx x1 (av))>>=fun w6=>(bif (su) != (w6) then (some (Out.ret (false))) else (some (Out.norm (bf (av+(1:Int)))))))) else (some (Out.exit 0 (av))))
def iJ (x0:(List Int)) (x1:(List Int)):Option (Bool):=
 an (S:=Unit) (bif ((x0.length:Int)) != ((x1.length:Int)) then (some (Out.ret (false))) else (aj (ah 0 (ai (oQ x0 x1) ((0:Int)))) (fun av=>(some (Out.ret (true))))))
def oO (x0:(List (List Int))) (x1:(List (List Int))) (av:Int):Option (Out (Int) (Bool)):=
 (bif decide (av < (x0.length:Int)) then ((idx x0 (av))>>=fun su=>((idx x1 (av))>>=fun xI=>((iJ su xI)>>=fun xJ=>(bif !(xJ) then (some (Out.ret (false))) else (some (Out.norm (bf (av+(1:Int))))))))) else (some (Out.exit 0 (av))))
def nM (x0:(List (List Int))) (x1:(List (List Int))):Option (Bool):=
 an (S:=Unit) (bif ((x0.length:Int)) != ((x1.length:Int)) then (some (Out.ret (false))) else (aj (ah 0 (ai (oO x0 x1) ((0:Int)))) (fun av=>(some (Out.ret (true))))))
def mR (x0:aH) (x1:aH):Option (Bool):=
 an (S:=Unit) (((bif (x0.aD) == (x1.aD) then ((iJ x0.aF x1.aF)>>=fun sx=>(bif sx then ((iJ x0.To x1.To)>>=fun yE=>(bif yE then ((iJ x0.aG x1.aG)>>=fun ly=>(bif ly then ((nM x0.aC x1.aC)>>=fun xJ=>(some (xJ))) else (some (false)))) else (some (false)))) else (some (false)))) else (some (false))))>>=fun g16=>(some (Out.ret (g16))))
def fX (x0:(List Int)):Option ((List Int)):=
 an (S:=Unit) ((fits 8 ((([]:(List Int))).length+x0.length))>>=fun n15=>(some (Out.ret ((([]:(List Int))++x0)))))
def iV (x0:(List (List Int))) (l5:(List (List Int))) (da:Int):Option (Out ((List (List Int))×Int) ((List (List Int)))):=
 (bif decide (da < (x0.length:Int)) then ((idx x0 (da))>>=fun qR=>((fX qR)>>=fun ly=>((fits 24 (l5.length+1))>>=fun n49=>(some (Out.norm (l5++[ly],bf (da+(1:Int)))))))) else (some (Out.exit 0 (l5,da))))
def mS (x0:(List (List Int))):Option ((List (List Int))):=
 an (S:=Unit) (aj (ah 0 (ai (fun s=>iV x0 s.1 s.2) (([]:(List (List Int))),(0:Int)))) (fun (l5,da)=>(some (Out.ret (l5)))))
def lY (x0:aH):Option (aH):=
 an (S:=Unit) ((fX x0.aF)>>=fun iw=>((fX x0.To)>>=fun ql=>((fX x0.aG)>>=fun Dc=>((mS x0.aC)>>=fun Dy=>(some (Out.ret ((aH.mk x0.aD iw ql Dc Dy))))))))
def jS (x0:aH) (x1:aH) (x2:(List Int)) (x3:(List Int)):Option (aS):=
 an (S:=Unit) ((lY x0)>>=fun ly=>((lY x1)>>=fun Qz=>((fX x2)>>=fun VG=>((fX x3)>>=fun VH=>(some (Out.ret ((aS.mk ly Qz VG VH))))))))
def iW (x0:aH) (l5:(List Int)) (av:Int):Option (Out ((List Int)×Int) (aS)):=
 (bif decide (av < x0.aD) then ((fits 8 (l5.length+1))>>=fun n65=>(some (Out.norm (l5++[av],bf (av+(1:Int)))))) else (some (Out.exit 0 (l5,av))))
def iX (x0:aH) (pZ:(List Int)) (mw:Int):Option (Out ((List Int)×Int) (aS)):=
 (bif decide (mw < (x0.aF.length:Int)) then ((fits 8 (pZ.length+1))>>=fun n107=>(some (Out.norm (pZ++[mw],bf (mw+(1:Int)))))) else (some (Out.exit 2 (pZ,mw))))
def kW (x0:aH):Option (aS):=
 an (S:=Unit) (aj (ah 0 (ai (fun s=>iW x0 s.1 s.2) (([]:(List Int)),(0:Int)))) (fun (l5,av)=>(aj (ah 2 (ai (fun s=>iX x0 s.1 s.2) (([]:(List Int)),(0:Int)))) (fun (pZ,mw)=>((jS x0 x0 l5 pZ)>>=fun VI=>(some (Out.ret (VI))))))))
def cJ (x0:aH) (x1:Int) (x2:Int):Option (Int):=
 an (S:=Unit) ((idx x0.aC (x1))>>=fun e8=>((idx e8 (x2))>>=fun Bz=>(some (Out.ret (Bz)))))
def kX (x0:aS) (x1:aS) (x2:(List Int)) (jc:Int):Option (Out (Int) (Bool)):=
 (bif decide (jc < (x2.length:Int)) then ((((idx x2 (jc))>>=fun Ds=>((idx x0.aE.aF (Ds))>>=fun QR=>((idx x0.aD (jc))>>=fun IB=>(bif (QR) != (IB) then (some (true)) else ((idx x2 (jc))>>=fun QO=>((idx x0.aE.To (QO))>>=fun QP=>((idx x1.aD (jc))>>=fun IC=>(some ((QP) != (IC)))))))))))>>=fun g65=>(bif g65 then (some (Out.ret (false))) else (some (Out.norm (bf (jc+(1:Int))))))) else (some (Out.exit 0 (jc))))
def kY (x0:aS) (x1:aS) (x2:(List Int)) (uT:Int):Option (Out (Int) (Bool)):=
 (bif decide (uT < (x0.aB.aF.length:Int)) then ((idx x0.ab (uT))>>=fun VJ=>((idx x0.aB.To (uT))>>=fun GJ=>((idx x2 (GJ))>>=fun Du=>((cJ x0.aE (VJ) (Du))>>=fun VK=>((idx x0.aB.aF (uT))>>=fun Dv=>((idx x2 (Dv))>>=fun Dw=>((idx x1.ab (uT))>>=fun Dr=>((cJ x0.aE (Dw) (Dr))>>=fun VL=>(bif (VK) != (VL) then (some (Out.ret (false))) else (some (Out.norm (bf (uT+(1:Int)))))))))))))) else (some (Out.exit 2 (uT))))
def eP (x0:aS) (x1:aS) (x2:(List Int)):Option (Bool):=
 an (S:=Unit) (((bif ((x2.length:Int)) != ((x0.aD.length:Int)) then (some (true)) else ((hP ((x0.aE.aF.length:Int)) x2)>>=fun y46=>(some (!(y46))))))>>=fun QG=>(bif QG then (some (Out.ret (false))) else (aj (ah 0 (ai (kX x0 x1 x2) ((0:Int)))) (fun jc=>(aj (ah 2 (ai (kY x0 x1 x2) ((0:Int)))) (fun uT=>(some (Out.ret (true)))))))))
def iY (x0:(List Int)) (x1:(List Int)) (av:(List Int)) (l6:Int):Option (Out ((List Int)×Int) ((List Int))):=
 (bif decide (l6 < (x0.length:Int)) then ((idx x0 (l6))>>=fun qR=>((idx x1 (qR))>>=fun zP=>((fits 8 (av.length+1))>>=fun n36=>(some (Out.norm (av++[zP],bf (l6+(1:Int)))))))) else (some (Out.exit 0 (av,l6))))
def kZ (x0:(List Int)) (x1:(List Int)):Option ((List Int)):=
 an (S:=Unit) (aj (ah 0 (ai (fun s=>iY x0 x1 s.1 s.2) (([]:(List Int)),(0:Int)))) (fun (av,l6)=>(some (Out.ret (av)))))
def mT (x0:aS) (x1:aS):Option (aS):=
 an (S:=Unit) ((kZ x0.aD x1.aD)>>=fun ly=>((kZ x0.ab x1.ab)>>=fun ID=>((jS x0.aB x1.aE ly ID)>>=fun Dz=>(some (Out.ret (Dz))))))
def mE (x0:aS):Option (aS):=
 an (S:=Unit) ((mT x0 x0)>>=fun iw=>(some (Out.ret (iw))))
def jT (x0:aH) (x1:Int):Option (Bool):=
 an (S:=Unit) ((idx x0.aF (x1))>>=fun e8=>((idx x0.aG (e8))>>=fun zQ=>(some (Out.ret (((zQ) == (x1)))))))
def mU (x0:aS) (x1:(List Int)) (x2:(List Int)) (dg:Int):Option (Out (Int) (Bool)):=
 (bif decide (dg < x0.aB.aD) then ((idx x0.aD (dg))>>=fun yF=>((((idx x1 (dg))>>=fun QS=>((idx x0.ab (QS))>>=fun IE=>((idx x2 (dg))>>=fun QT=>((cJ x0.aB (IE) (QT))>>=fun QU=>((jT x0.aB (QU))>>=fun y41=>(bif !(y41) then (some (true)) else ((idx x1 (yF))>>=fun IF=>((idx x2 (dg))>>=fun QV=>((cJ x0.aB (IF) (QV))>>=fun Dz=>((jT x0.aB (Dz))>>=fun y50=>(some (!(y50))))))))))))))>>=fun g31=>(bif g31 then (some (Out.ret (false))) else ((idx x2 (dg))>>=fun e57=>((idx x0.ab (e57))>>=fun e59=>((idx x2 (dg))>>=fun zR=>((cJ x0.aB (e59) (zR))>>=fun IG=>((idx x2 (yF))>>=fun QM=>((idx x2 (dg))>>=fun Ds=>((cJ x0.aB (QM) (Ds))>>=fun y69=>(bif (IG) != (y69) then (some (Out.ret (false))) else (some (Out.norm (bf (dg+(1:Int)))))))))))))))) else (some (Out.exit 0 (dg))))
def mV (x0:aS) (x1:(List Int)) (x2:(List Int)):Option (Bool):=
 an (S:=Unit) (aj (ah 0 (ai (mU x0 x1 x2) ((0:Int)))) (fun dg=>(some (Out.ret (true)))))
def mW (x0:bB):Option (Bool):=
 an (S:=Unit) ((((nU x0.On)>>=fun yE=>(bif !(yE) then (some (true)) else ((mR x0.On.aB x0.On.aE)>>=fun ly=>(some (!(ly)))))))>>=fun g20=>(bif g20 then (some (Out.ret (false))) else (Ud (((kW x0.On.aB)>>=fun QW=>((eP QW x0.On x0.Unit)>>=fun VM=>(bif !(VM) then (some (Out.ret (false))) else none)))) (((kW x0.On.aB)>>=fun VN=>((eP VN x0.On x0.Unit)>>=fun VO=>(bif !(VO) then none else ((mE x0.On)>>=fun VP=>((eP VP x0.On x0.ba)>>=fun VR=>(bif !(VR) then (some (Out.ret (false))) else ((mV x0.On x0.Unit x0.ba)>>=fun VS=>(some (Out.ret (VS))))))))))))))
def jU (x0:aH) (x1:Int) (x2:Int) (bw:(List Int)) (dg:Int):Option (Out ((List Int)×Int) ((List Int))):=
 (bif decide (dg < (x0.aF.length:Int)) then ((((idx x0.aF (dg))>>=fun yF=>(bif (yF) == (x1) then ((idx x0.To (dg))>>=fun zS=>(some ((zS) == (x2)))) else (some (false)))))>>=fun g25=>(bif g25 then ((fits 8 (bw.length+1))>>=fun n50=>(some (Out.norm (bw++[dg],bf (dg+(1:Int)))))) else (some (Out.norm (bw,bf (dg+(1:Int))))))) else (some (Out.exit 0 (bw,dg))))
def jF (x0:aH) (x1:Int) (x2:Int):Option ((List Int)):=
 an (S:=Unit) (aj (ah 0 (ai (fun s=>jU x0 x1 x2 s.1 s.2) (([]:(List Int)),(0:Int)))) (fun (bw,dg)=>(some (Out.ret (bw)))))
def nV (x0:bB) (x1:Int) (x2:Int):Option (Bool):=
 an (S:=Unit) ((((idx x0.On.aB.aF (x2))>>=fun w7=>((idx x0.On.aD (x1))>>=fun DA=>(bif (w7) != (DA) then (some (true)) else ((idx x0.On.aB.To (x2))>>=fun yF=>(bif (yF) != (x1) then (some (true)) else ((idx x0.Unit (x1))>>=fun zS=>((cJ x0.On.aB (zS) (x2))>>=fun QW=>((jT x0.On.aB (QW))>>=fun BA=>(some (!(BA))))))))))))>>=fun g20=>(bif g20 then (some (Out.ret (false))) else ((idx x0.On.ab (x2))>>=fun Dq=>((cJ x0.On.aB (Dq) (x2))>>=fun y43=>((idx x0.ba (x1))>>=fun Mq=>((cJ x0.On.aB (Mq) (x2))>>=fun y47=>(some (Out.ret (((y43) == (y47)))))))))))
def jQ (x0:bB) (av:Int) (sU:(List Int)) (pZ:(List (List Int))) (mx:Int):Option (Out ((List (List Int))×Int) ((List (List Int)))):=
 (bif decide (mx < (sU.length:Int)) then ((idx sU (mx))>>=fun IB=>((nV x0 (av) (IB))>>=fun BB=>(bif BB then ((idx sU (mx))>>=fun IC=>((fits 24 (pZ.length+1))>>=fun n91=>(some (Out.norm (pZ++[([av,IC]:(List Int))],bf (mx+(1:Int))))))) else (some (Out.norm (pZ,bf (mx+(1:Int)))))))) else (some (Out.exit 2 (pZ,mx))))
def jP (x0:bB) (da:(List (List Int))) (av:Int):Option (Out ((List (List Int))×Int) ((List (List Int)))):=
 (bif decide (av < x0.On.aB.aD) then ((idx x0.On.aD (av))>>=fun IH=>((jF x0.On.aB (IH) (av))>>=fun sU=>(aj (ah 2 (ai (fun s=>jQ x0 av sU s.1 s.2) (da,(0:Int)))) (fun (pZ,mx)=>(some (Out.norm (pZ,bf (av+(1:Int))))))))) else (some (Out.exit 0 (da,av))))
def nF (x0:bB):Option ((List (List Int))):=
 an (S:=Unit) (aj (ah 0 (ai (fun s=>jP x0 s.1 s.2) (([]:(List (List Int))),(0:Int)))) (fun (da,av)=>(some (Out.ret (da)))))
def gI (x0:bB) (x1:(List Int)) (x2:(List Int)) (rB:(List Int)) (jc:(List Int)) (uU:Int):Option (Out ((List Int)×Int) ((List Int))):=
 (bif decide (uU < (rB.length:Int)) then ((idx x1 ((1:Int)))>>=fun zR=>((idx rB (uU))>>=fun e63=>((cJ x0.On.aB (zR) (e63))>>=fun DB=>((idx rB (uU))>>=fun Ds=>((idx x0.On.ab (Ds))>>=fun QR=>((idx x2 ((1:Int)))>>=fun IB=>((cJ x0.On.aB (QR) (IB))>>=fun BB=>(bif (DB) == (BB) then ((idx rB (uU))>>=fun IC=>((fits 8 (jc.length+1))>>=fun n97=>(some (Out.norm (jc++[IC],bf (uU+(1:Int))))))) else (some (Out.norm (jc,bf (uU+(1:Int))))))))))))) else (some (Out.exit 0 (jc,uU))))
def mL (x0:bB) (x1:(List Int)) (x2:(List Int)):Option ((List Int)):=
 an (S:=Unit) ((idx x1 ((0:Int)))>>=fun zP=>((idx x2 ((0:Int)))>>=fun w7=>((jF x0.On.aB (zP) (w7))>>=fun rB=>(aj (ah 0 (ai (fun s=>gI x0 x1 x2 rB s.1 s.2) (([]:(List Int)),(0:Int)))) (fun (jc,uU)=>(some (Out.ret (jc))))))))
def gR (x0:(List (List Int))) (x1:Int) (av:(List Int)) (l6:Int):Option (Out ((List Int)×Int) ((List Int))):=
 (bif decide (l6 < (x0.length:Int)) then ((idx x0 (l6))>>=fun qR=>((idx qR (x1))>>=fun DC=>((fits 8 (av.length+1))>>=fun n41=>(some (Out.norm (av++[DC],bf (l6+(1:Int)))))))) else (some (Out.exit 0 (av,l6))))
def fU (x0:(List (List Int))) (x1:Int):Option ((List Int)):=
 an (S:=Unit) (aj (ah 0 (ai (fun s=>gR x0 x1 s.1 s.2) (([]:(List Int)),(0:Int)))) (fun (av,l6)=>(some (Out.ret (av)))))
def kK (x0:(List (List Int))) (x1:(List Int)) (av:Int):Option (Out (Int) (Int)):=
 (bif decide (av < (x0.length:Int)) then ((idx x0 (av))>>=fun e9=>((iJ e9 x1)>>=fun iw=>(bif iw then (some (Out.ret (av))) else (some (Out.norm (bf (av+(1:Int)))))))) else (some (Out.exit 0 (av))))
def dD (x0:(List (List Int))) (x1:(List Int)):Option (Int):=
 an (S:=Unit) (aj (ah 0 (ai (kK x0 x1) ((0:Int)))) (fun av=>(some (Out.ret (((-1:Int)))))))
def dZ (x0:aH):Option (Bool):=
 an (S:=Unit) (((bif decide (x0.aD≤(8:Int)) then (some (decide ((x0.aF.length:Int)≤(40:Int)))) else (some (false))))>>=fun g8=>(some (Out.ret (g8))))
def iB (dg:Int) (xK:Int) (GK:(List Int)) (qE:(List (List Int))) (zT:Int):Option (Out ((List (List Int))×Int) (aH×(List (List Int))×(List (List Int)))):=
 (bif decide (zT < (GK.length:Int)) then ((idx GK (zT))>>=fun KO=>((fits 24 (qE.length+1))>>=fun n155=>(some (Out.norm (qE++[([dg,xK,KO]:(List Int))],bf (zT+(1:Int))))))) else (some (Out.exit 4 (qE,zT))))
def iA (x0:bB) (nx:(List (List Int))) (dg:Int) (mx:(List (List Int))) (xK:Int):Option (Out ((List (List Int))×Int) (aH×(List (List Int))×(List (List Int)))):=
 (bif decide (xK < (nx.length:Int)) then ((idx nx (dg))>>=fun FC=>((idx nx (xK))>>=fun QY=>((mL x0 FC QY)>>=fun GK=>(aj (ah 4 (ai (fun s=>iB dg xK GK s.1 s.2) (mx,(0:Int)))) (fun (qE,zT)=>(some (Out.norm (qE,bf (xK+(1:Int)))))))))) else (some (Out.exit 2 (mx,xK))))
def fQ (x0:bB) (nx:(List (List Int))) (bw:(List (List Int))) (dg:Int):Option (Out ((List (List Int))×Int) (aH×(List (List Int))×(List (List Int)))):=
 (bif decide (dg < (nx.length:Int)) then (aj (ah 2 (ai (fun s=>iA x0 nx dg s.1 s.2) (bw,(0:Int)))) (fun (mx,xK)=>(some (Out.norm (mx,bf (dg+(1:Int))))))) else (some (Out.exit 0 (bw,dg))))
def fS (x0:bB) (nx:(List (List Int))) (bw:(List (List Int))) (wA:Int) (ny:(List Int)):Option (Out (Int×(List Int)) (aH×(List (List Int))×(List (List Int)))):=
 (bif decide (wA < (nx.length:Int)) then ((idx nx (wA))>>=fun VT=>((idx VT ((0:Int)))>>=fun VU=>((idx x0.On.aB.aG (VU))>>=fun VV=>((dD bw [wA,wA,VV])>>=fun VW=>((fits 8 (ny.length+1))>>=fun n328=>(some (Out.norm (bf (wA+(1:Int)),ny++[VW])))))))) else (some (Out.exit 6 (wA,ny))))
def fR (x0:bB) (bw:(List (List Int))) (s9:Int) (wB:(List Int)) (uV:Int):Option (Out ((List Int)×Int) (aH×(List (List Int))×(List (List Int)))):=
 (bif decide (uV < (bw.length:Int)) then ((idx bw (s9))>>=fun VX=>((idx VX ((1:Int)))>>=fun VY=>((idx bw (uV))>>=fun VZ=>((idx VZ ((0:Int)))>>=fun V0=>(bif (VY) == (V0) then ((idx bw (s9))>>=fun V1=>((idx V1 ((0:Int)))>>=fun V2=>((idx bw (uV))>>=fun V3=>((idx V3 ((1:Int)))>>=fun V4=>((idx bw (s9))>>=fun V5=>((idx V5 ((2:Int)))>>=fun V6=>((idx bw (uV))>>=fun V7=>((idx V7 ((2:Int)))>>=fun V8=>((cJ x0.On.aB (V6) (V8))>>=fun V9=>((dD bw [V2,V4,V9])>>=fun Wd=>((fits 8 (wB.length+1))>>=fun agN=>(some (Out.norm (wB++[Wd],bf (uV+(1:Int)))))))))))))))) else ((fits 8 (wB.length+1))>>=fun agO=>(some (Out.norm (wB++[(-1:Int)],bf (uV+(1:Int))))))))))) else (some (Out.exit 10 (wB,uV))))
def fA (x0:bB) (nx:(List (List Int))) (bw:(List (List Int))) (GL:(List Int)) (GM:(List Int)) (ny:(List Int)) (s9:Int) (qS:(List (List Int))):Option (Out (Int×(List (List Int))) (aH×(List (List Int))×(List (List Int)))):=
 (((bif decide (s9 < (bw.length:Int)) then ((dZ (aH.mk ((nx.length:Int)) GL GM ny qS))>>=fun We=>(some (We))) else (some (false))))>>=fun Wh=>(bif Wh then (aj (ah 10 (ai (fun s=>fR x0 bw s9 s.1 s.2) (([]:(List Int)),(0:Int)))) (fun (wB,uV)=>((fits 24 (qS.length+1))>>=fun agP=>(some (Out.norm (bf (s9+(1:Int)),qS++[wB])))))) else (some (Out.exit 8 (s9,qS)))))
def mC (x0:bB):Option (aH×(List (List Int))×(List (List Int))):=
 an (S:=Unit) ((nF x0)>>=fun nx=>(aj (ah 0 (ai (fun s=>fQ x0 nx s.1 s.2) (([]:(List (List Int))),(0:Int)))) (fun (bw,dg)=>((fU bw ((0:Int)))>>=fun GL=>((fU bw ((1:Int)))>>=fun GM=>(aj (ah 6 (ai (fun s=>fS x0 nx bw s.1 s.2) ((0:Int),([]:(List Int))))) (fun (wA,ny)=>(aj (ah 8 (ai (fun s=>fA x0 nx bw GL GM ny s.1 s.2) ((0:Int),([]:(List (List Int)))))) (fun (s9,qS)=>(some (Out.ret (((aH.mk ((nx.length:Int)) GL GM ny qS),nx,bw)))))))))))))
def jR (x0:bB):Option (aH×(List (List Int))×(List (List Int))×Int):=
 an (S:=Unit) ((mW x0)>>=fun iw=>(bif !(iw) then (some (Out.ret (((aH.mk ((0:Int)) ([]) ([]) ([]) ([])),([]),([]),((1:Int)))))) else ((mC x0)>>=fun ly=>((dZ ly.1)>>=fun y94=>(bif !(y94) then (some (Out.ret (((aH.mk ((0:Int)) ([]) ([]) ([]) ([])),([]),([]),((3:Int)))))) else (some (Out.ret ((ly.1,ly.2.1,ly.2.2,((0:Int)))))))))))
def lA (x0:bB) (x1:Int) (x2:Int) (x3:Int):Option (Int):=
 an (S:=Unit) ((idx x0.On.ab (x3))>>=fun zP=>((cJ x0.On.aB (x2) (zP))>>=fun yE=>((idx x0.ba (x1))>>=fun DA=>((cJ x0.On.aB (yE) (DA))>>=fun ql=>(some (Out.ret (ql)))))))
def gC (l6:Int) (mx:Int) (BB:(List Int)) (DD:(List (List Int))) (gy:Int):Option (Out ((List (List Int))×Int) (aH×(List (List Int)))):=
 (bif decide (gy < (BB.length:Int)) then ((idx BB (gy))>>=fun Du=>((fits 24 (DD.length+1))>>=fun n117=>(some (Out.norm (DD++[([l6,mx,Du]:(List Int))],bf (gy+(1:Int))))))) else (some (Out.exit 4 (DD,gy))))
def gD (x0:bB) (l6:Int) (qD:(List (List Int))) (mx:Int):Option (Out ((List (List Int))×Int) (aH×(List (List Int)))):=
 (bif decide (mx < x0.On.aB.aD) then ((idx x0.On.aD (mx))>>=fun Iu=>((jF x0.On.aB (l6) (Iu))>>=fun BB=>(aj (ah 4 (ai (fun s=>gC l6 mx BB s.1 s.2) (qD,(0:Int)))) (fun (DD,gy)=>(some (Out.norm (DD,bf (mx+(1:Int))))))))) else (some (Out.exit 2 (qD,mx))))
def fB (x0:bB) (av:(List (List Int))) (l6:Int):Option (Out ((List (List Int))×Int) (aH×(List (List Int)))):=
 (bif decide (l6 < x0.On.aB.aD) then (aj (ah 2 (ai (fun s=>gD x0 l6 s.1 s.2) (av,(0:Int)))) (fun (qD,mx)=>(some (Out.norm (qD,bf (l6+(1:Int))))))) else (some (Out.exit 0 (av,l6))))
def fC (x0:bB) (av:(List (List Int))) (wC:Int) (nz:(List Int)):Option (Out (Int×(List Int)) (aH×(List (List Int)))):=
 (bif decide (wC < x0.On.aB.aD) then ((idx x0.Unit (wC))>>=fun Wi=>((dD av [wC,wC,Wi])>>=fun Wj=>((fits 8 (nz.length+1))>>=fun n280=>(some (Out.norm (bf (wC+(1:Int)),nz++[Wj])))))) else (some (Out.exit 6 (wC,nz))))
def fD (x0:bB) (av:(List (List Int))) (wD:Int) (wE:(List Int)) (ye:Int):Option (Out ((List Int)×Int) (aH×(List (List Int)))):=
 (bif decide (ye < (av.length:Int)) then ((idx av (wD))>>=fun KP=>((idx av (ye))>>=fun GN=>((idx KP ((1:Int)))>>=fun Wl=>((idx GN ((0:Int)))>>=fun Wm=>(bif (Wl) == (Wm) then ((idx KP ((0:Int)))>>=fun Wn=>((idx GN ((1:Int)))>>=fun Wo=>((idx GN ((1:Int)))>>=fun Wp=>((idx KP ((2:Int)))>>=fun KQ=>((idx GN ((2:Int)))>>=fun KR=>((lA x0 (Wp) (KQ) (KR))>>=fun Wq=>((dD av [Wn,Wo,Wq])>>=fun Wr=>((fits 8 (wE.length+1))>>=fun agQ=>(some (Out.norm (wE++[Wr],bf (ye+(1:Int))))))))))))) else ((fits 8 (wE.length+1))>>=fun agR=>(some (Out.norm (wE++[(-1:Int)],bf (ye+(1:Int))))))))))) else (some (Out.exit 10 (wE,ye))))
def eJ (x0:bB) (av:(List (List Int))) (GO:(List Int)) (GP:(List Int)) (nz:(List Int)) (wD:Int) (qT:(List (List Int))):Option (Out (Int×(List (List Int))) (aH×(List (List Int)))):=
 (((bif decide (wD < (av.length:Int)) then ((dZ (aH.mk x0.On.aB.aD GO GP nz qT))>>=fun Ws=>(some (Ws))) else (some (false))))>>=fun Wt=>(bif Wt then (aj (ah 10 (ai (fun s=>fD x0 av wD s.1 s.2) (([]:(List Int)),(0:Int)))) (fun (wE,ye)=>((fits 24 (qT.length+1))>>=fun agS=>(some (Out.norm (bf (wD+(1:Int)),qT++[wE])))))) else (some (Out.exit 8 (wD,qT)))))
def kO (x0:bB):Option (aH×(List (List Int))):=
 an (S:=Unit) (aj (ah 0 (ai (fun s=>fB x0 s.1 s.2) (([]:(List (List Int))),(0:Int)))) (fun (av,l6)=>((fU av ((0:Int)))>>=fun GO=>((fU av ((1:Int)))>>=fun GP=>(aj (ah 6 (ai (fun s=>fC x0 av s.1 s.2) ((0:Int),([]:(List Int))))) (fun (wC,nz)=>(aj (ah 8 (ai (fun s=>eJ x0 av GO GP nz s.1 s.2) ((0:Int),([]:(List (List Int)))))) (fun (wD,qT)=>(some (Out.ret (((aH.mk x0.On.aB.aD GO GP nz qT),av))))))))))))
def mX (x0:bB):Option (aH×(List (List Int))×Int):=
 an (S:=Unit) ((mW x0)>>=fun iw=>(bif !(iw) then (some (Out.ret (((aH.mk ((0:Int)) ([]) ([]) ([]) ([])),([]),((1:Int)))))) else ((kO x0)>>=fun ly=>((dZ ly.1)>>=fun y83=>(bif !(y83) then (some (Out.ret (((aH.mk ((0:Int)) ([]) ([]) ([]) ([])),([]),((3:Int)))))) else (some (Out.ret ((ly.1,ly.2,((0:Int)))))))))))
def eD (x0:bB) (iw:aH×(List (List Int))×(List (List Int))×Int) (nb:(List Int)) (yf:Int):Option (Out ((List Int)×Int) (aS×Int)):=
 (bif decide (yf < x0.On.aB.aD) then ((idx x0.On.aD (yf))>>=fun KQ=>((idx x0.ba (yf))>>=fun KR=>((dD iw.2.1 [KQ,KR])>>=fun Wu=>((fits 8 (nb.length+1))>>=fun agT=>(some (Out.norm (nb++[Wu],bf (yf+(1:Int))))))))) else (some (Out.exit 0 (nb,yf))))
def eE (x0:bB) (iw:aH×(List (List Int))×(List (List Int))×Int) (yG:aH×(List (List Int))×Int) (nb:(List Int)) (zU:(List Int)) (uW:Int):Option (Out ((List Int)×Int) (aS×Int)):=
 (bif decide (uW < (yG.2.1.length:Int)) then ((idx yG.2.1 (uW))>>=fun Wv=>((idx Wv ((2:Int)))>>=fun Ww=>((idx x0.On.ab (Ww))>>=fun Wx=>((idx yG.2.1 (uW))>>=fun Wy=>((idx Wy ((1:Int)))>>=fun Wz=>((idx x0.ba (Wz))>>=fun WA=>((cJ x0.On.aB (Wx) (WA))>>=fun WB=>((idx yG.2.1 (uW))>>=fun WC=>((idx WC ((0:Int)))>>=fun WD=>((idx nb (WD))>>=fun WE=>((idx yG.2.1 (uW))>>=fun WG=>((idx WG ((1:Int)))>>=fun WH=>((idx nb (WH))>>=fun WI=>((dD iw.2.2.1 [WE,WI,WB])>>=fun WJ=>((fits 8 (zU.length+1))>>=fun agU=>(some (Out.norm (zU++[WJ],bf (uW+(1:Int)))))))))))))))))))) else (some (Out.exit 2 (zU,uW))))
def eC (x0:bB):Option (aS×Int):=
 an (S:=Unit) ((jR x0)>>=fun iw=>(bif (iw.2.2.2) != ((0:Int)) then (some (Out.ret (((aS.mk (aH.mk ((0:Int)) ([]) ([]) ([]) ([])) (aH.mk ((0:Int)) ([]) ([]) ([]) ([])) ([]) ([])),iw.2.2.2)))) else ((mX x0)>>=fun yG=>(bif (yG.2.2) != ((0:Int)) then (some (Out.ret (((aS.mk (aH.mk ((0:Int)) ([]) ([]) ([]) ([])) (aH.mk ((0:Int)) ([]) ([]) ([]) ([])) ([]) ([])),yG.2.2)))) else (aj (ah 0 (ai (fun s=>eD x0 iw s.1 s.2) (([]:(List Int)),(0:Int)))) (fun (nb,yf)=>(aj (ah 2 (ai (fun s=>eE x0 iw yG nb s.1 s.2) (([]:(List Int)),(0:Int)))) (fun (zU,uW)=>((jS yG.1 iw.1 nb zU)>>=fun WK=>(some (Out.ret ((WK,((0:Int)))))))))))))))
def cE (x0:aH):Option (Int):=
 an (S:=Unit) (some (Out.ret (((x0.aF.length:Int)))))
def jV (x0:Int) (x1:Int) (x2:Int):Option (Bool):=
 an (S:=Unit) (((bif decide (x0 ≥ x1) then (some (decide (x0≤x2))) else (some (false))))>>=fun g3=>(some (Out.ret (g3))))
def lO (x0:(List Int)) (x1:Int) (jc:Int):Option (Out (Int) (Bool)):=
 (bif decide (jc < (x0.length:Int)) then ((idx x0 (jc))>>=fun e9=>((jV (e9) ((0:Int)) (bf (x1 - (1:Int))))>>=fun sy=>(bif !(sy) then (some (Out.ret (false))) else (some (Out.norm (bf (jc+(1:Int)))))))) else (some (Out.exit 0 (jc))))
def fY (x0:(List Int)) (x1:Int):Option (Bool):=
 an (S:=Unit) (aj (ah 0 (ai (lO x0 x1) ((0:Int)))) (fun jc=>(some (Out.ret (true)))))
def dJ (x0:aH) (x1:Int):Option (oY):=
 an (S:=Unit) ((idx x0.aF (x1))>>=fun e8=>((idx x0.To (x1))>>=fun zQ=>(some (Out.ret ((oY.mk e8 zQ))))))
def fG (x0:aH) (wF:Int):Option (Out (Int) (Bool)):=
 (bif decide (wF < (x0.aG.length:Int)) then ((idx x0.aG (wF))>>=fun Dq=>((dJ x0 (Dq))>>=fun sU=>(bif !((sU.aF) == (wF) && (sU.To) == (wF)) then (some (Out.ret (false))) else (some (Out.norm (bf (wF+(1:Int)))))))) else (some (Out.exit 0 (wF))))
def fH (x0:aH) (y3:Int) (rC:Int) (zR:(List Int)) (sz:Int):Option (Out (Int) (Bool)):=
 (bif decide (sz < (zR.length:Int)) then ((idx zR (sz))>>=fun Iz=>((idx x0.To (rC))>>=fun QQ=>((idx x0.aF (sz))>>=fun QK=>(bif (QQ) != (QK) then (bif (Iz) != ((-1:Int)) then (some (Out.ret (false))) else (some (Out.norm (bf (sz+(1:Int)))))) else ((((jV (Iz) ((0:Int)) (bf (y3 - (1:Int))))>>=fun WM=>(bif !(WM) then (some (true)) else ((dJ x0 (Iz))>>=fun GQ=>((idx x0.aF (rC))>>=fun KN=>((idx x0.To (sz))>>=fun Dv=>(some (!((GQ.aF) == (KN) && (GQ.To) == (Dv))))))))))>>=fun g99=>(bif g99 then (some (Out.ret (false))) else (some (Out.norm (bf (sz+(1:Int))))))))))) else (some (Out.exit 4 (sz))))
def iK (x0:aH) (y3:Int) (rC:Int):Option (Out (Int) (Bool)):=
 (bif decide (rC < (x0.aC.length:Int)) then ((idx x0.aC (rC))>>=fun zR=>(bif ((zR.length:Int)) != (y3) then (some (Out.ret (false))) else (aj (ah 4 (ai (fH x0 y3 rC zR) ((0:Int)))) (fun sz=>(some (Out.norm (bf (rC+(1:Int))))))))) else (some (Out.exit 2 (rC))))
def gM (x0:aH):Option (Bool):=
 an (S:=Unit) ((cE x0)>>=fun y3=>((((jV (x0.aD) ((0:Int)) ((8:Int)))>>=fun y9=>(bif !(y9) then (some (true)) else (bif decide (y3 > (40:Int)) then (some (true)) else (bif ((x0.To.length:Int)) != (y3) then (some (true)) else ((fY x0.aF (x0.aD))>>=fun II=>(bif !(II) then (some (true)) else ((fY x0.To (x0.aD))>>=fun na=>(some (!(na)))))))))))>>=fun g7=>(bif g7 then (some (Out.ret (false))) else (((bif ((x0.aG.length:Int)) != (x0.aD) then (some (true)) else ((fY x0.aG (y3))>>=fun rB=>(bif !(rB) then (some (true)) else (some (((x0.aC.length:Int)) != (y3)))))))>>=fun g24=>(bif g24 then (some (Out.ret (false))) else (aj (ah 0 (ai (fG x0) ((0:Int)))) (fun wF=>(aj (ah 2 (ai (iK x0 y3) ((0:Int)))) (fun rC=>(some (Out.ret (true))))))))))))
def bT (x0:aH) (x1:Int) (x2:Int):Option (Int):=
 an (S:=Unit) ((idx x0.aC (x1))>>=fun e3=>((idx e3 (x2))>>=fun zQ=>(some (Out.ret (zQ)))))
def fZ (x0:aH) (y3:Int) (bw:Int):Option (Out (Int) (Int×Int×Int×Int)):=
 (bif decide (bw < y3) then ((((idx x0.aF (bw))>>=fun Bz=>((idx x0.aG (Bz))>>=fun xH=>((bT x0 (xH) (bw))>>=fun sx=>(bif (sx) != (bw) then (some (true)) else ((idx x0.To (bw))>>=fun w7=>((idx x0.aG (w7))>>=fun DA=>((bT x0 (bw) (DA))>>=fun ql=>(some ((ql) != (bw)))))))))))>>=fun g13=>(bif g13 then (some (Out.ret ((((1:Int)),bw,((0:Int)),((0:Int)))))) else (some (Out.norm (bf (bw+(1:Int))))))) else (some (Out.exit 0 (bw))))
def eV (x0:aH) (y3:Int) (kj:Int) (gy:Int) (mg:Int):Option (Out (Int) (Int×Int×Int×Int)):=
 (bif decide (mg < y3) then ((((bT x0 (gy) (mg))>>=fun IG=>(bif decide (IG ≥ (0:Int)) then ((bT x0 (kj) (gy))>>=fun y66=>((bT x0 (y66) (mg))>>=fun y68=>((bT x0 (gy) (mg))>>=fun y70=>((bT x0 (kj) (y70))>>=fun y72=>(some ((y68) != (y72))))))) else (some (false)))))>>=fun g61=>(bif g61 then (some (Out.ret ((((2:Int)),kj,gy,mg)))) else (some (Out.norm (bf (mg+(1:Int))))))) else (some (Out.exit 6 (mg))))
def eW (x0:aH) (y3:Int) (kj:Int) (gy:Int):Option (Out (Int) (Int×Int×Int×Int)):=
 (bif decide (gy < y3) then ((bT x0 (kj) (gy))>>=fun Dz=>(bif decide (Dz < (0:Int)) then (some (Out.norm (bf (gy+(1:Int))))) else (aj (ah 6 (ai (eV x0 y3 kj gy) ((0:Int)))) (fun mg=>(some (Out.norm (bf (gy+(1:Int))))))))) else (some (Out.exit 4 (gy))))
def jI (x0:aH) (y3:Int) (kj:Int):Option (Out (Int) (Int×Int×Int×Int)):=
 (bif decide (kj < y3) then (aj (ah 4 (ai (eW x0 y3 kj) ((0:Int)))) (fun gy=>(some (Out.norm (bf (kj+(1:Int))))))) else (some (Out.exit 2 (kj))))
def iO (x0:aH):Option (Int×Int×Int×Int):=
 an (S:=Unit) ((cE x0)>>=fun y3=>(aj (ah 0 (ai (fZ x0 y3) ((0:Int)))) (fun bw=>(aj (ah 2 (ai (jI x0 y3) ((0:Int)))) (fun kj=>(some (Out.ret ((((0:Int)),((0:Int)),((0:Int)),((0:Int)))))))))))
def fI (x0:aH):Option (Bool):=
 an (S:=Unit) ((gM x0)>>=fun y3=>(bif !(y3) then (some (Out.ret (false))) else ((iO x0)>>=fun uX=>(some (Out.ret (((uX.1) == ((0:Int)))))))))
def gN (x0:(List aH)) (bw:Int):Option (Out (Int) (Bool)):=
 (bif decide (bw < (x0.length:Int)) then ((idx x0 (bw))>>=fun e9=>((fI e9)>>=fun vI=>(bif !(vI) then (some (Out.ret (false))) else (some (Out.norm (bf (bw+(1:Int)))))))) else (some (Out.exit 0 (bw))))
def iZ (x0:(List aH)):Option (Bool):=
 an (S:=Unit) (aj (ah 0 (ai (gN x0) ((0:Int)))) (fun bw=>(some (Out.ret (true)))))
def kD (x0:aS) (wG:Int):Option (Out (Int) (Bool)):=
 (bif decide (wG < (x0.ab.length:Int)) then ((idx x0.ab (wG))>>=fun IJ=>((((idx x0.aE.aF (IJ))>>=fun QT=>((idx x0.aB.aF (wG))>>=fun QI=>((idx x0.aD (QI))>>=fun Dq=>(bif (QT) != (Dq) then (some (true)) else ((idx x0.aE.To (IJ))>>=fun IF=>((idx x0.aB.To (wG))>>=fun QV=>((idx x0.aD (QV))>>=fun QZ=>(some ((IF) != (QZ)))))))))))>>=fun g35=>(bif g35 then (some (Out.ret (false))) else (some (Out.norm (bf (wG+(1:Int)))))))) else (some (Out.exit 0 (wG))))
def kE (x0:aS) (vJ:Int):Option (Out (Int) (Bool)):=
 (bif decide (vJ < (x0.aB.aG.length:Int)) then ((idx x0.aB.aG (vJ))>>=fun e64=>((idx x0.ab (e64))>>=fun Iu=>((idx x0.aD (vJ))>>=fun QN=>((idx x0.aE.aG (QN))>>=fun By=>(bif (Iu) != (By) then (some (Out.ret (false))) else (some (Out.norm (bf (vJ+(1:Int)))))))))) else (some (Out.exit 2 (vJ))))
def kF (x0:aS) (sA:Int) (FC:(List Int)) (vK:Int):Option (Out (Int) (Bool)):=
 (bif decide (vK < (FC.length:Int)) then ((idx FC (vK))>>=fun GI=>(((bif decide (GI ≥ (0:Int)) then ((idx x0.ab (GI))>>=fun Dw=>((idx x0.ab (sA))>>=fun Dr=>((idx x0.ab (vK))>>=fun WN=>((bT x0.aE (Dr) (WN))>>=fun WO=>(some ((Dw) != (WO))))))) else (some (false))))>>=fun WQ=>(bif WQ then (some (Out.ret (false))) else (some (Out.norm (bf (vK+(1:Int)))))))) else (some (Out.exit 6 (vK))))
def kG (x0:aS) (sA:Int):Option (Out (Int) (Bool)):=
 (bif decide (sA < (x0.aB.aC.length:Int)) then ((idx x0.aB.aC (sA))>>=fun FC=>(aj (ah 6 (ai (kF x0 sA FC) ((0:Int)))) (fun vK=>(some (Out.norm (bf (sA+(1:Int)))))))) else (some (Out.exit 4 (sA))))
def jM (x0:aS):Option (Bool):=
 an (S:=Unit) (((bif ((x0.aD.length:Int)) != (x0.aB.aD) then (some (true)) else ((cE x0.aB)>>=fun uX=>(bif ((x0.ab.length:Int)) != (uX) then (some (true)) else ((fY x0.aD (x0.aE.aD))>>=fun sy=>(bif !(sy) then (some (true)) else ((cE x0.aE)>>=fun iw=>((fY x0.ab (iw))>>=fun w8=>(some (!(w8)))))))))))>>=fun g7=>(bif g7 then (some (Out.ret (false))) else (aj (ah 0 (ai (kD x0) ((0:Int)))) (fun wG=>(aj (ah 2 (ai (kE x0) ((0:Int)))) (fun vJ=>(aj (ah 4 (ai (kG x0) ((0:Int)))) (fun sA=>(some (Out.ret (true)))))))))))
def eX (x0:aS):Option (Bool):=
 an (S:=Unit) ((((iZ [x0.aB,x0.aE])>>=fun II=>(bif II then ((jM x0)>>=fun na=>(some (na))) else (some (false)))))>>=fun g12=>(some (Out.ret (g12))))
def fJ (x0:(List Int)) (x1:(List Int)) (dg:Int):Option (Out (Int) (Int)):=
 (bif decide (dg < (x0.length:Int)) then (bif (dg) == ((x1.length:Int)) then (some (Out.ret (((1:Int))))) else ((idx x0 (dg))>>=fun w6=>((idx x1 (dg))>>=fun qR=>(bif (w6) != (qR) then ((idx x0 (dg))>>=fun FD=>((idx x1 (dg))>>=fun DC=>(bif decide (FD < DC) then (some (Out.ret (((-1:Int))))) else (some (Out.ret (((1:Int)))))))) else (some (Out.norm (bf (dg+(1:Int))))))))) else (some (Out.exit 0 (dg))))
def nW (x0:(List Int)) (x1:(List Int)):Option (Int):=
 an (S:=Unit) (aj (ah 0 (ai (fJ x0 x1) ((0:Int)))) (fun dg=>(bif decide ((x0.length:Int) < (x1.length:Int)) then (some (Out.ret (((-1:Int))))) else (some (Out.ret (((0:Int))))))))
def lB (x0:(List Int)) (x1:(List Int)):Option (Bool):=
 an (S:=Unit) ((nW x0 x1)>>=fun y3=>(some (Out.ret (((y3) == ((0:Int)))))))
def gY (x0:aH) (x1:aH) (yg:Int):Option (Out (Int) (Bool)):=
 (bif decide (yg < (x0.aC.length:Int)) then ((idx x0.aC (yg))>>=fun e28=>((idx x1.aC (yg))>>=fun IE=>((lB e28 IE)>>=fun Q0=>(bif !(Q0) then (some (Out.ret (false))) else (some (Out.norm (bf (yg+(1:Int))))))))) else (some (Out.exit 0 (yg))))
def fO (x0:aH) (x1:aH):Option (Bool):=
 an (S:=Unit) (((bif (x0.aD) != (x1.aD) then (some (true)) else ((lB x0.aF x1.aF)>>=fun y6=>(bif !(y6) then (some (true)) else ((lB x0.To x1.To)>>=fun y9=>(bif !(y9) then (some (true)) else ((lB x0.aG x1.aG)>>=fun sw=>(bif !(sw) then (some (true)) else (some (((x0.aC.length:Int)) != ((x1.aC.length:Int))))))))))))>>=fun g3=>(bif g3 then (some (Out.ret (false))) else (aj (ah 0 (ai (gY x0 x1) ((0:Int)))) (fun yg=>(some (Out.ret (true)))))))
def jA (n3:Nat) (jc:Int) (ja:(List Int)):Option (Out (Int×(List Int)) ((List Int))):=
 (bif decide (jc < ((List.replicate n3 (0:Int)).length:Int)) then ((idx ja (jc))>>=fun Ir=>(some (Out.norm (bf (jc+(1:Int)),ja.set (jc).toNat (jc))))) else (some (Out.exit 0 (jc,ja))))
def lC (x0:Int):Option ((List Int)):=
 an (S:=Unit) ((mk 8 (x0))>>=fun n3=>(aj (ah 0 (ai (fun s=>jA n3 s.1 s.2) ((0:Int),List.replicate n3 (0:Int)))) (fun (jc,ja)=>(some (Out.ret (ja))))))
def gB (x0:(List Int)):Option ((List Int)):=
 an (S:=Unit) ((fits 8 ((([]:(List Int))).length+x0.length))>>=fun n15=>(some (Out.ret ((([]:(List Int))++x0)))))
def jW (x0:(List (List Int))) (l5:(List (List Int))) (mh:Int):Option (Out ((List (List Int))×Int) ((List (List Int)))):=
 (bif decide (mh < (x0.length:Int)) then ((idx x0 (mh))>>=fun zP=>((gB zP)>>=fun nx=>((fits 24 (l5.length+1))>>=fun n53=>(some (Out.norm (l5++[nx],bf (mh+(1:Int)))))))) else (some (Out.exit 0 (l5,mh))))
def nG (x0:(List (List Int))):Option ((List (List Int))):=
 an (S:=Unit) ((mk 24 ((x0.length:Int)))>>=fun n3=>(aj (ah 0 (ai (fun s=>jW x0 s.1 s.2) (([]:(List (List Int))),(0:Int)))) (fun (l5,mh)=>(some (Out.ret (l5))))))
def gE (x0:aH):Option (aH):=
 an (S:=Unit) ((gB x0.aF)>>=fun y8=>((gB x0.To)>>=fun na=>((gB x0.aG)>>=fun rB=>((nG x0.aC)>>=fun Dx=>(some (Out.ret ((aH.mk x0.aD y8 na rB Dx))))))))
def jX (x0:aH) (x1:aH) (x2:(List Int)) (x3:(List Int)):Option (aS):=
 an (S:=Unit) ((gE x0)>>=fun y8=>((gE x1)>>=fun nw=>((gB x2)>>=fun y78=>((gB x3)>>=fun y95=>(some (Out.ret ((aS.mk y8 nw y78 y95))))))))
def mG (x0:aH):Option (aS):=
 an (S:=Unit) ((lC (x0.aD))>>=fun y8=>((cE x0)>>=fun na=>((lC (na))>>=fun zV=>((jX x0 x0 y8 zV)>>=fun IK=>(some (Out.ret (IK)))))))
def lD (x0:(List Int)) (x1:(List Int)) (wH:Int) (ja:(List Int)):Option (Out (Int×(List Int)) ((List Int))):=
 (bif decide (wH < (x0.length:Int)) then ((idx x0 (wH))>>=fun xH=>((idx x1 (xH))>>=fun xI=>((idx ja (wH))>>=fun FD=>(some (Out.norm (bf (wH+(1:Int)),ja.set (wH).toNat (xI))))))) else (some (Out.exit 0 (wH,ja))))
def nH (x0:(List Int)) (x1:(List Int)):Option ((List Int)):=
 an (S:=Unit) ((mk 8 ((x0.length:Int)))>>=fun n3=>(aj (ah 0 (ai (fun s=>lD x0 x1 s.1 s.2) ((0:Int),List.replicate n3 (0:Int)))) (fun (wH,ja)=>(some (Out.ret (ja))))))
def jN (x0:aS) (x1:aS):Option (aS):=
 an (S:=Unit) ((nH x0.aD x1.aD)>>=fun uX=>((nH x0.ab x1.ab)>>=fun sx=>((jX x0.aB x1.aE uX sx)>>=fun nx=>(some (Out.ret (nx))))))
def iP (x0:(List aS)) (bw:Int):Option (Out (Int) (Bool)):=
 (bif decide (bw < (x0.length:Int)) then ((idx x0 (bw))>>=fun e9=>((eX e9)>>=fun nw=>(bif !(nw) then (some (Out.ret (false))) else (some (Out.norm (bf (bw+(1:Int)))))))) else (some (Out.exit 0 (bw))))
def kH (x0:(List aS)):Option (Bool):=
 an (S:=Unit) (aj (ah 0 (ai (iP x0) ((0:Int)))) (fun bw=>(some (Out.ret (true)))))
def gO (x0:aS) (x1:aS):Option (Bool):=
 an (S:=Unit) ((((fO x0.aB x1.aB)>>=fun y7=>(bif y7 then ((fO x0.aE x1.aE)>>=fun sw=>(some (sw))) else (some (false)))))>>=fun g3=>(some (Out.ret (g3))))
def fK (x0:bO) (wI:Int):Option (Out (Int) (Bool)):=
 (bif decide (wI < (x0.bb.length:Int)) then ((idx x0.bb (wI))>>=fun IH=>((dJ x0.aB.aE (IH))>>=fun sU=>((idx x0.aB.aD (wI))>>=fun Is=>((idx x0.aE.aD (wI))>>=fun e49=>(bif !((sU.aF) == (Is) && (sU.To) == (e49)) then (some (Out.ret (false))) else (some (Out.norm (bf (wI+(1:Int)))))))))) else (some (Out.exit 0 (wI))))
def eQ (x0:bO):Option (Bool):=
 an (S:=Unit) ((((kH [x0.aB,x0.aE])>>=fun iw=>(bif !(iw) then (some (true)) else ((gO x0.aB x0.aE)>>=fun sx=>(bif !(sx) then (some (true)) else (bif ((x0.bb.length:Int)) != (x0.aB.aB.aD) then (some (true)) else ((cE x0.aB.aE)>>=fun ly=>((fY x0.bb (ly))>>=fun rB=>(some (!(rB)))))))))))>>=fun g14=>(bif g14 then (some (Out.ret (false))) else (aj (ah 0 (ai (fK x0) ((0:Int)))) (fun wI=>(some (Out.ret (true)))))))
def kI (x0:bO) (x1:(aS→aS→(List Int)→Int→Option (Bool))) (nb:Int):Option (Out (Int) (Int)):=
 (bif decide (nb < (x0.aB.ab.length:Int)) then ((x1 x0.aB x0.aE x0.bb (nb))>>=fun II=>(bif !(II) then (some (Out.ret (nb))) else (some (Out.norm (bf (nb+(1:Int))))))) else (some (Out.exit 0 (nb))))
def jO (x0:bO) (x1:(aS→aS→(List Int)→Int→Option (Bool))):Option (Int):=
 an (S:=Unit) (aj (ah 0 (ai (kI x0 x1) ((0:Int)))) (fun nb=>(some (Out.ret (((-1:Int)))))))
def gP (x0:aS) (x1:aS) (x2:(List Int)) (x3:Int):Option (Bool):=
 an (S:=Unit) ((idx x0.ab (x3))>>=fun e7=>((idx x0.aB.To (x3))>>=fun e9=>((idx x2 (e9))>>=fun QC=>((bT x0.aE (e7) (QC))>>=fun sy=>((idx x0.aB.aF (x3))>>=fun Bz=>((idx x2 (Bz))>>=fun xH=>((idx x1.ab (x3))>>=fun Ir=>((bT x0.aE (xH) (Ir))>>=fun zV=>(some (Out.ret (((sy) == (zV)))))))))))))
def eI (x0:bO):Option (Bool):=
 an (S:=Unit) ((((eQ x0)>>=fun y5=>(bif y5 then ((jO x0 (fun a0 a1 a2 a3=>gP a0 a1 a2 (a3)))>>=fun y8=>(some (decide (y8 < (0:Int))))) else (some (false)))))>>=fun g3=>(some (Out.ret (g3))))
def jB (x0:(List bO)) (bw:Int):Option (Out (Int) (Bool)):=
 (bif decide (bw < (x0.length:Int)) then ((idx x0 (bw))>>=fun e9=>((eI e9)>>=fun y57=>(bif !(y57) then (some (Out.ret (false))) else (some (Out.norm (bf (bw+(1:Int)))))))) else (some (Out.exit 0 (bw))))
def jC (x0:(List bO)):Option (Bool):=
 an (S:=Unit) (aj (ah 0 (ai (jB x0) ((0:Int)))) (fun bw=>(some (Out.ret (true)))))
def cO (x0:bB) (x1:Int):Option (Int):=
 an (S:=Unit) ((idx x0.On.aD (x1))>>=fun e4=>(some (Out.ret (e4))))
def cX (x0:bB) (x1:Int):Option (Int):=
 an (S:=Unit) ((idx x0.On.ab (x1))>>=fun e4=>(some (Out.ret (e4))))
def jJ (x0:bB) (da:Int):Option (Out (Int) (Bool)):=
 (bif decide (da < x0.On.aB.aD) then ((cO x0 (da))>>=fun sy=>((((idx x0.Unit (da))>>=fun Ir=>((cX x0 (Ir))>>=fun zV=>((idx x0.ba (da))>>=fun FD=>((bT x0.On.aB (zV) (FD))>>=fun ly=>((idx x0.On.aB.aG (sy))>>=fun yF=>(bif (ly) != (yF) then (some (true)) else ((idx x0.Unit (sy))>>=fun zS=>((idx x0.ba (da))>>=fun Iy=>((bT x0.On.aB (zS) (Iy))>>=fun BA=>((idx x0.On.aB.aG (sy))>>=fun IL=>(some ((BA) != (IL))))))))))))))>>=fun g17=>(bif g17 then (some (Out.ret (false))) else ((idx x0.ba (da))>>=fun QJ=>((cX x0 (QJ))>>=fun sU=>((idx x0.ba (da))>>=fun Is=>((bT x0.On.aB (sU) (Is))>>=fun Dy=>((idx x0.ba (sy))>>=fun e51=>((idx x0.ba (da))>>=fun Q1=>((bT x0.On.aB (e51) (Q1))>>=fun y55=>(bif (Dy) != (y55) then (some (Out.ret (false))) else (some (Out.norm (bf (da+(1:Int)))))))))))))))) else (some (Out.exit 0 (da))))
def iQ (x0:bB):Option (Bool):=
 an (S:=Unit) (aj (ah 0 (ai (jJ x0) ((0:Int)))) (fun da=>(some (Out.ret (true)))))
def gF (x0:bB):Option (Bool):=
 an (S:=Unit) ((((eX x0.On)>>=fun y6=>(bif !(y6) then (some (true)) else ((fO x0.On.aB x0.On.aE)>>=fun sy=>(some (!(sy)))))))>>=fun g3=>(bif g3 then (some (Out.ret (false))) else ((mG x0.On.aB)>>=fun yE=>((jN x0.On x0.On)>>=fun GQ=>((jC [(bO.mk yE x0.On x0.Unit),(bO.mk GQ x0.On x0.ba)])>>=fun WR=>(bif WR then ((iQ x0)>>=fun WS=>(some (Out.ret (WS)))) else (some (Out.ret (false)))))))))
def fL (x0:aH) (x1:Int) (x2:Int) (bw:(List Int)) (uY:Int):Option (Out ((List Int)×Int) ((List Int))):=
 (bif decide (uY < (x0.aF.length:Int)) then ((((idx x0.aF (uY))>>=fun w7=>(bif (w7) == (x1) then ((idx x0.To (uY))>>=fun DC=>(some ((DC) == (x2)))) else (some (false)))))>>=fun g20=>(bif g20 then ((fits 8 (bw.length+1))>>=fun n44=>(some (Out.norm (bw++[uY],bf (uY+(1:Int)))))) else (some (Out.norm (bw,bf (uY+(1:Int))))))) else (some (Out.exit 0 (bw,uY))))
def dQ (x0:aH) (x1:Int) (x2:Int):Option ((List Int)):=
 an (S:=Unit) (aj (ah 0 (ai (fun s=>fL x0 x1 x2 s.1 s.2) (([]:(List Int)),(0:Int)))) (fun (bw,uY)=>(some (Out.ret (bw)))))
def dS (av:Int) (mw:Int) (nw:(List Int)) (DE:(List (List Int))) (zW:Int):Option (Out ((List (List Int))×Int) ((List (List Int)))):=
 (bif decide (zW < (nw.length:Int)) then ((idx nw (zW))>>=fun QF=>((fits 24 (DE.length+1))>>=fun n67=>(some (Out.norm (DE++[([av,mw,QF]:(List Int))],bf (zW+(1:Int))))))) else (some (Out.exit 4 (DE,zW))))
def dT (x0:bB) (av:Int) (pZ:(List (List Int))) (mw:Int):Option (Out ((List (List Int))×Int) ((List (List Int)))):=
 (bif decide (mw < x0.On.aB.aD) then ((cO x0 (mw))>>=fun IK=>((dQ x0.On.aB (av) (IK))>>=fun nw=>(aj (ah 4 (ai (fun s=>dS av mw nw s.1 s.2) (pZ,(0:Int)))) (fun (DE,zW)=>(some (Out.norm (DE,bf (mw+(1:Int))))))))) else (some (Out.exit 2 (pZ,mw))))
def dU (x0:bB) (da:(List (List Int))) (av:Int):Option (Out ((List (List Int))×Int) ((List (List Int)))):=
 (bif decide (av < x0.On.aB.aD) then (aj (ah 2 (ai (fun s=>dT x0 av s.1 s.2) (da,(0:Int)))) (fun (pZ,mw)=>(some (Out.norm (pZ,bf (av+(1:Int))))))) else (some (Out.exit 0 (da,av))))
def fM (x0:bB):Option ((List (List Int))):=
 an (S:=Unit) (aj (ah 0 (ai (fun s=>dU x0 s.1 s.2) (([]:(List (List Int))),(0:Int)))) (fun (da,av)=>(some (Out.ret (da)))))
def lZ (qR:(List Int)) (s1_3:(List Int)) (zX:Int):Option (Out ((List Int)×Int) (ByteArray)):=
 (bif decide (zX < (qR.length:Int)) then ((idx qR (zX))>>=fun IL=>((fits 1 (s1_3.length+1))>>=fun n54=>(some (Out.norm (s1_3++[IntKind.u8.wrap IL],bf (zX+(1:Int))))))) else (some (Out.exit 2 (s1_3,zX))))
def mA (x0:(List (List Int))) (l5:(List Int)) (mh:Int):Option (Out ((List Int)×Int) (ByteArray)):=
 (bif decide (mh < (x0.length:Int)) then ((idx x0 (mh))>>=fun qR=>(aj (ah 2 (ai (fun s=>lZ qR s.1 s.2) (l5,(0:Int)))) (fun (s1_3,zX)=>((fits 1 (s1_3.length+1))>>=fun n75=>(some (Out.norm (s1_3++[(255:Int)],bf (mh+(1:Int))))))))) else (some (Out.exit 0 (l5,mh))))
def mI (x0:(List (List Int))):Option (ByteArray):=
 an (S:=Unit) (aj (ah 0 (ai (fun s=>mA x0 s.1 s.2) (([]:(List Int)),(0:Int)))) (fun (l5,mh)=>(some (Out.ret ((strOfNums l5))))))
def jY (x0:List (List Int)) (s:List (ByteArray×Int)×Int):Option (Out (List (ByteArray×Int)×Int) (List (ByteArray×Int))):=
 (bif decide (s.2 < (x0.length:Int)) then ((idx x0 (s.2))>>=fun Mr=>((mI [Mr])>>=fun na=>(some (Out.norm (tG s.1 na s.2,bf (s.2+(1:Int))))))) else (some (Out.exit 0 s)))
def mB (x0:List (List Int)):Option (List (ByteArray×Int)):=
 an (S:=Unit) (aj (ah 0 (ai (fun s=>jY x0 s) (([]:List (ByteArray×Int)),(0:Int)))) (fun s=>(some (Out.ret (s.1)))))
def fP (x0:Int) (x1:Int) (x2:Int) (x3:aH) (x4:bB):Option (Int):=
 an (S:=Unit) ((idx x4.On.ab (x2))>>=fun e4=>((bT x3 (x1) (e4))>>=fun y6=>((idx x4.ba (x0))>>=fun e8=>((bT x3 (y6) (e8))>>=fun uX=>(some (Out.ret (uX)))))))
def lX:Option Unit:=
 an (S:=Unit) (some (Out.ret ()))
def jZ (x0:(List (List Int))) (x1:Int) (av:(List Int)) (mh:Int):Option (Out ((List Int)×Int) ((List Int))):=
 (bif decide (mh < (x0.length:Int)) then ((idx x0 (mh))>>=fun qR=>((idx qR (x1))>>=fun yF=>((fits 8 (av.length+1))>>=fun n43=>(some (Out.norm (av++[yF],bf (mh+(1:Int)))))))) else (some (Out.exit 0 (av,mh))))
def jK (x0:(List (List Int))) (x1:Int):Option ((List Int)):=
 an (S:=Unit) (aj (ah 0 (ai (fun s=>jZ x0 x1 s.1 s.2) (([]:(List Int)),(0:Int)))) (fun (av,mh)=>(some (Out.ret (av)))))
def eO (x0 x1:Int) (ll:List (List Int)) (mm:List (ByteArray×Int)) (mo:bB):Option Int:=
 an (S:=Unit) ((idx ll (x0))>>=fun Mr=>((idx ll (x1))>>=fun xH=>((idx Mr ((0:Int)))>>=fun xI=>((idx xH ((1:Int)))>>=fun DA=>((idx xH ((1:Int)))>>=fun Iw=>((idx Mr ((2:Int)))>>=fun Iy=>((idx xH ((2:Int)))>>=fun IE=>((fP (Iw) (Iy) (IE) mo.On.aB mo)>>=fun ID=>((mI [[xI,DA,ID]])>>=fun QU=>(some (Out.ret ((qn mm QU).getD (0:Int)))))))))))))
def eY (x0:aH) (x1:(Int→Int→Option (Int))) (lu:Int) (Q2:(List Int)) (qa:Int) (tZ:(List (List Int))):Option (Out (Int×(List (List Int))) (aH)):=
 (bif decide (qa < (Q2.length:Int)) then ((idx tZ (lu))>>=fun By=>((idx By (qa))>>=fun Up=>((idx x0.To (lu))>>=fun QY=>((idx x0.aF (qa))>>=fun QH=>(bif (QY) == (QH) then ((idx (tZ.set (lu).toNat (By.set (qa).toNat ((-1:Int)))) (lu))>>=fun GJ=>((x1 (lu) (qa))>>=fun WT=>((idx GJ (qa))>>=fun agV=>(some (Out.norm (bf (qa+(1:Int)),(tZ.set (lu).toNat (By.set (qa).toNat ((-1:Int)))).set (lu).toNat (GJ.set (qa).toNat (WT)))))))) else (some (Out.norm (bf (qa+(1:Int)),tZ.set (lu).toNat (By.set (qa).toNat ((-1:Int))))))))))) else (some (Out.exit 2 (qa,tZ))))
def eZ (x0:aH) (x1:(Int→Int→Option (Int))) (y7:Int) (n11:Nat) (lu:Int) (vL:(List (List Int))):Option (Out (Int×(List (List Int))) (aH)):=
 (bif decide (lu < ((List.replicate n11 ([]:(List Int))).length:Int)) then ((mk 8 (y7))>>=fun n35=>((idx vL (lu))>>=fun Mq=>((idx (vL.set (lu).toNat (List.replicate n35 (0:Int))) (lu))>>=fun Q2=>(aj (ah 2 (ai (fun s=>eY x0 x1 lu Q2 s.1 s.2) ((0:Int),vL.set (lu).toNat (List.replicate n35 (0:Int))))) (fun (qa,tZ)=>(some (Out.norm (bf (lu+(1:Int)),tZ)))))))) else (some (Out.exit 0 (lu,vL))))
def eS (x0:aH) (x1:(Int→Int→Option (Int))):Option (aH):=
 Cm (R:=(aH)) ((cE x0)>>=fun y7=>((mk 24 (y7))>>=fun n11=>(aj (ah 0 (ai (fun s=>eZ x0 x1 y7 n11 s.1 s.2) ((0:Int),List.replicate n11 ([]:(List Int))))) (fun (lu,vL)=>(some (Out.norm ((aH.mk x0.aD x0.aF x0.To x0.aG vL))))))))
def fE (mo:bB) (mm:List (ByteArray×Int)) (s:List Int×Int):Option (Out (List Int×Int) (aH×List (List Int)×Bool)):=
 (bif decide (s.2 < (mo.Unit.length:Int)) then ((idx mo.Unit (s.2))>>=fun IH=>((mI [[s.2,s.2,IH]])>>=fun Dy=>((fits 8 (s.1.length+1))>>=fun n52=>(some (Out.norm (s.1++[(qn mm Dy).getD (0:Int)],bf (s.2+(1:Int)))))))) else (some (Out.exit 0 s)))
def jD (x0:bB):Option (aH×List (List Int)×Bool):=
 an (S:=Unit) ((fM x0)>>=fun sw=>(bif decide ((sw.length:Int) > (40:Int)) then (some (Out.ret (aH.mk (0:Int) [] [] [] [],[],false))) else ((mB sw)>>=fun w8=>((lX)>>=fun _=>((jK sw ((0:Int)))>>=fun rB=>((jK sw ((1:Int)))>>=fun nx=>(aj (ah 0 (ai (fun s=>fE x0 w8 s) (([]:List Int),(0:Int)))) (fun s=>((eS (aH.mk x0.On.aB.aD rB nx s.1 ([]:List (List Int))) (fun a0 a1=>eO a0 a1 sw w8 x0))>>=fun Uq=>(some (Out.ret (aH.mk Uq.aD rB nx s.1 Uq.aC,sw,true))))))))))))
def kJ (x0:bB):Option (aH×(List (List Int))×Int):=
 an (S:=Unit) ((gF x0)>>=fun y8=>(bif !(y8) then (some (Out.ret (((aH.mk ((0:Int)) ([]) ([]) ([]) ([])),([]),((1:Int)))))) else ((jD x0)>>=fun na=>(bif !(na.2.2) then (some (Out.ret (((aH.mk ((0:Int)) ([]) ([]) ([]) ([])),([]),((3:Int)))))) else (some (Out.ret ((na.1,na.2.1,((0:Int))))))))))
def hJ (x0:bB) (x1:Int) (x2:Int):Option (Bool):=
 an (S:=Unit) ((((dJ x0.On.aB (x2))>>=fun y9=>((cO x0 (x1))>>=fun IN=>(bif ((y9.aF) == (IN) && (y9.To) == (x1)) then ((idx x0.Unit (x1))>>=fun su=>((bT x0.On.aB (su) (x2))>>=fun iw=>((idx x0.On.aB.aG (x1))>>=fun qR=>(bif (iw) == (qR) then ((cX x0 (x2))>>=fun zV=>((bT x0.On.aB (zV) (x2))>>=fun vI=>((idx x0.ba (x1))>>=fun DC=>((bT x0.On.aB (DC) (x2))>>=fun rB=>(some ((vI) == (rB))))))) else (some (false)))))) else (some (false))))))>>=fun g7=>(some (Out.ret (g7))))
def gV (x0:bB) (x:Int) (l:List Int) (s:List bW×Int):Option (Out (List bW×Int) (List bW)):=
 (bif decide (s.2 < (l.length:Int)) then ((idx l (s.2))>>=fun IJ=>((hJ x0 (x) (IJ))>>=fun nw=>(bif nw then ((fits 8 (s.1.length+1))>>=fun n42=>(some (Out.norm (s.1++[bW.mk x IJ],bf (s.2+(1:Int)))))) else (some (Out.norm (s.1,bf (s.2+(1:Int)))))))) else (some (Out.exit 2 s)))
def gU (x0:bB) (s:List bW×Int):Option (Out (List bW×Int) (List bW)):=
 (bif decide (s.2 < x0.On.aB.aD) then ((cO x0 (s.2))>>=fun y24=>((dQ x0.On.aB (y24) (s.2))>>=fun ql=>(aj (ah 2 (ai (fun s2=>gV x0 s.2 ql s2) (s.1,(0:Int)))) (fun s2=>(some (Out.norm (s2.1,bf (s.2+(1:Int))))))))) else (some (Out.exit 0 s)))
def fV (x0:bB):Option (List bW):=
 an (S:=Unit) (aj (ah 0 (ai (fun s=>gU x0 s) (([]:List bW),(0:Int)))) (fun s=>(some (Out.ret (s.1)))))
def dM (x0:bB) (x1:bW) (x2:bW) (sy:(List Int)) (dg:(List Int)) (yh:Int):Option (Out ((List Int)×Int) ((List Int))):=
 (bif decide (yh < (sy.length:Int)) then ((idx sy (yh))>>=fun zS=>((bT x0.On.aB (x1.H) (zS))>>=fun BA=>((cX x0 (zS))>>=fun ID=>((bT x0.On.aB (ID) (x2.H))>>=fun Dx=>(bif (BA) == (Dx) then ((fits 8 (dg.length+1))>>=fun n58=>(some (Out.norm (dg++[zS],bf (yh+(1:Int)))))) else (some (Out.norm (dg,bf (yh+(1:Int)))))))))) else (some (Out.exit 0 (dg,yh))))
def eT (x0:bB) (x1:bW) (x2:bW):Option ((List Int)):=
 an (S:=Unit) ((dQ x0.On.aB (x1.X) (x2.X))>>=fun sy=>(aj (ah 0 (ai (fun s=>dM x0 x1 x2 sy s.1 s.2) (([]:(List Int)),(0:Int)))) (fun (dg,yh)=>(some (Out.ret (dg))))))
def dN (mm:List (ByteArray×Int)) (x1 x2 x3:Int):Option Int:=
 an (S:=Unit) ((mI [[x1,x2,x3]])>>=fun w8=>(some (Out.ret ((qn mm w8).getD (0:Int)))))
def eG (x0 x1:Int) (ll:List (List Int)) (mm:List (ByteArray×Int)) (cc:aH):Option Int:=
 an (S:=Unit) ((idx ll (x0))>>=fun Bz=>((idx ll (x1))>>=fun w7=>((idx Bz ((0:Int)))>>=fun e26=>((idx w7 ((1:Int)))>>=fun Iw=>((idx Bz ((2:Int)))>>=fun QS=>((idx w7 ((2:Int)))>>=fun IL=>((bT cc (QS) (IL))>>=fun Dc=>((dN mm (e26) (Iw) (Dc))>>=fun Dx=>(some (Out.ret (Dx)))))))))))
def jH {ρ:Type} (i j:Int) (l:List Int) (s:List (List Int)×Int):Option (Out (List (List Int)×Int) ρ):=
 (bif decide (s.2 < (l.length:Int)) then ((idx l (s.2))>>=fun Q1=>((fits 24 (s.1.length+1))>>=fun n64=>(some (Out.norm (s.1++[[i,j,Q1]],bf (s.2+(1:Int))))))) else (some (Out.exit 4 s)))
def jG {ρ:Type} (x0:bB) (xs:List bW) (i:Int) (a:bW) (s:List (List Int)×Int):Option (Out (List (List Int)×Int) ρ):=
 (bif decide (s.2 < (xs.length:Int)) then ((idx xs (s.2))>>=fun IF=>((eT x0 a IF)>>=fun Dz=>(aj (ah 4 (ai (fun s4=>jH i s.2 Dz s4) (s.1,(0:Int)))) (fun s4=>(some (Out.norm (s4.1,bf (s.2+(1:Int))))))))) else (some (Out.exit 2 s)))
def fW {ρ:Type} (x0:bB) (xs:List bW) (s:List (List Int)×Int):Option (Out (List (List Int)×Int) ρ):=
 (bif decide (s.2 < (xs.length:Int)) then ((idx xs (s.2))>>=fun Uo=>(aj (ah 2 (ai (fun s2=>jG x0 xs s.2 Uo s2) (s.1,(0:Int)))) (fun s2=>(some (Out.norm (s2.1,bf (s.2+(1:Int)))))))) else (some (Out.exit 0 s)))
def eU {ρ:Type} (x0:bB) (mm:List (ByteArray×Int)) (xs:List bW) (s:List Int×Int):Option (Out (List Int×Int) ρ):=
 (bif decide (s.2 < (xs.length:Int)) then ((idx xs (s.2))>>=fun WU=>((idx x0.On.aB.aG (WU.X))>>=fun WV=>((dN mm (s.2) (s.2) (WV))>>=fun WW=>((fits 8 (s.1.length+1))>>=fun n138=>(some (Out.norm (s.1++[WW],bf (s.2+(1:Int))))))))) else (some (Out.exit 6 s)))
def iL (x0:bB):Option (Option (aH×List bW×List (List Int)×List (ByteArray×Int))×Bool):=
 an (S:=Unit) ((fV x0)>>=fun iw=>(bif decide ((iw.length:Int) > (8:Int)) then (some (Out.ret (none,false))) else (aj (ah 0 (ai (fun s=>fW x0 iw s) (([]:List (List Int)),(0:Int)))) (fun s=>(bif decide ((s.1.length:Int) > (40:Int)) then (some (Out.ret (none,false))) else ((mB s.1)>>=fun Q3=>((jK s.1 ((0:Int)))>>=fun Ur=>((jK s.1 ((1:Int)))>>=fun Q4=>(aj (ah 6 (ai (fun s6=>eU x0 Q3 iw s6) (([]:List Int),(0:Int)))) (fun s6=>((eS (aH.mk ((iw.length:Int)) Ur Q4 s6.1 ([]:List (List Int))) (fun a0 a1=>eG a0 a1 s.1 Q3 x0.On.aB))>>=fun Q5=>(some (Out.ret (some (aH.mk Q5.aD Ur Q4 s6.1 Q5.aC,iw,s.1,Q3),true))))))))))))))
def jL (x0:bB):Option (Option (aH×List bW×List (List Int)×List (ByteArray×Int))×Int):=
 an (S:=Unit) ((gF x0)>>=fun y7=>(bif !(y7) then (some (Out.ret (none,(1:Int)))) else ((iL x0)>>=fun IN=>(match IN.1 with | none=>(bif !(IN.2) then (some (Out.ret (none,(3:Int)))) else (some (Out.ret (none,(0:Int))))) | some m=>(bif !(IN.2) then (some (Out.ret (none,(3:Int)))) else (some (Out.ret (some m,(0:Int)))))))))
def gJ (x0:bB) (x1:Int):Option ((Option bW)):=
 an (S:=Unit) ((cO x0 (x1))>>=fun y3=>((idx x0.ba (x1))>>=fun e5=>(some (Out.ret ((some (bW.mk y3 e5)))))))
def dR (x0:Int) (x1:aH) (x2:bB) (x3:(List (List Int))):Option (Int):=
 an (S:=Unit) ((idx x3 (x0))>>=fun e3=>((idx e3 ((2:Int)))>>=fun zQ=>((cX x2 (zQ))>>=fun sw=>((idx x3 (x0))>>=fun su=>((idx su ((1:Int)))>>=fun xI=>((idx x2.ba (xI))>>=fun FD=>((bT x1 (sw) (FD))>>=fun ly=>(some (Out.ret (ly))))))))))
def iR (xs:List bW) (a:bW) (s:Int):Option (Out Int Int):=
 (bif decide (s < (xs.length:Int)) then ((idx xs (s))>>=fun w6=>(bif (a.X == w6.X && a.H == w6.H) then (some (Out.ret (s))) else (some (Out.norm (bf (s+(1:Int))))))) else (some (Out.exit 0 s)))
def eN (xs:List bW) (a:bW):Option Int:=
 an (S:=Unit) (aj (ah 0 (ai (fun s=>iR xs a s) (0:Int))) (fun _=>(some (Out.ret (-1:Int)))))
def iM (xs:List bW) (c:aH) (ob:Int→Option (Option bW)) (s:List Int×Int):Option (Out (List Int×Int) aS):=
 (bif decide (s.2 < c.aD) then ((ob (s.2))>>=fun rB=>(match rB with | none=>none | some m=>((eN xs m)>>=fun xJ=>((fits 8 (s.1.length+1))>>=fun n30=>(some (Out.norm (s.1++[xJ],bf (s.2+(1:Int))))))))) else (some (Out.exit 0 s)))
def iN (mm:List (ByteArray×Int)) (c:aH) (ar:Int→Option Int) (os:List Int) (s:List Int×Int):Option (Out (List Int×Int) aS):=
 (bif decide (s.2 < (c.aF.length:Int)) then ((idx c.aF (s.2))>>=fun QZ=>((idx os (QZ))>>=fun QD=>((idx c.To (s.2))>>=fun e58=>((idx os (e58))>>=fun e60=>((ar (s.2))>>=fun IG=>((dN mm (QD) (e60) (IG))>>=fun QB=>((fits 8 (s.1.length+1))>>=fun n66=>(some (Out.norm (s.1++[QB],bf (s.2+(1:Int)))))))))))) else (some (Out.exit 2 s)))
def kB (mm:List (ByteArray×Int)) (xs:List bW) (kc c:aH) (ob:Int→Option (Option bW)) (ar:Int→Option Int):Option aS:=
 an (S:=Unit) (aj (ah 0 (ai (fun s=>iM xs c ob s) (([]:List Int),(0:Int)))) (fun s=>(aj (ah 2 (ai (fun s2=>iN mm c ar s.1 s2) (([]:List Int),(0:Int)))) (fun s2=>((jX c kc s.1 s2.1)>>=fun y74=>(some (Out.ret (y74))))))))
def dL (x0:bB):Option (aS×Int):=
 an (S:=Unit) ((kJ x0)>>=fun uX=>(bif (uX.2.2) != ((0:Int)) then (some (Out.ret ((aS.mk (aH.mk ((0:Int)) ([]) ([]) ([]) ([])) (aH.mk ((0:Int)) ([]) ([]) ([]) ([])) ([]) ([])),uX.2.2))) else ((jL x0)>>=fun sx=>(match sx.1 with | none=>(bif (sx.2) != ((0:Int)) then (some (Out.ret ((aS.mk (aH.mk ((0:Int)) ([]) ([]) ([]) ([])) (aH.mk ((0:Int)) ([]) ([]) ([]) ([])) ([]) ([])),sx.2))) else none) | some m=>(bif (sx.2) != ((0:Int)) then (some (Out.ret ((aS.mk (aH.mk ((0:Int)) ([]) ([]) ([]) ([])) (aH.mk ((0:Int)) ([]) ([]) ([]) ([])) ([]) ([])),sx.2))) else ((kB m.2.2.2 m.2.1 m.1 uX.1 (fun a0=>gJ x0 a0) (fun a0=>dR a0 x0.On.aB x0 uX.2.1))>>=fun IK=>(some (Out.ret (IK,(0:Int))))))))))
def oP (x0:(List Int)) (x1:(List Int)) (av:Int):Option (Out (Int) (Bool)):=
 (bif decide (av < (x0.length:Int)) then ((idx x0 (av))>>=fun su=>((idx x1 (av))>>=fun w6=>(bif (su) != (w6) then (some (Out.ret (false))) else (some (Out.norm (bf (av+(1:Int)))))))) else (some (Out.exit 0 (av))))
def eM (x0:(List Int)) (x1:(List Int)):Option (Bool):=
 an (S:=Unit) (bif ((x0.length:Int)) != ((x1.length:Int)) then (some (Out.ret (false))) else (aj (ah 0 (ai (oP x0 x1) ((0:Int)))) (fun av=>(some (Out.ret (true))))))
def oN (x0:(List (List Int))) (x1:(List (List Int))) (av:Int):Option (Out (Int) (Bool)):=
 (bif decide (av < (x0.length:Int)) then ((idx x0 (av))>>=fun su=>((idx x1 (av))>>=fun xI=>((eM su xI)>>=fun xJ=>(bif !(xJ) then (some (Out.ret (false))) else (some (Out.norm (bf (av+(1:Int))))))))) else (some (Out.exit 0 (av))))
def nE (x0:(List (List Int))) (x1:(List (List Int))):Option (Bool):=
 an (S:=Unit) (bif ((x0.length:Int)) != ((x1.length:Int)) then (some (Out.ret (false))) else (aj (ah 0 (ai (oN x0 x1) ((0:Int)))) (fun av=>(some (Out.ret (true))))))
def jE (x0:aH) (x1:aH):Option (Bool):=
 an (S:=Unit) (bif (x0.aD) != (x1.aD) then (some (Out.ret (false))) else ((eM x0.aF x1.aF)>>=fun zV=>(bif !(zV) then (some (Out.ret (false))) else ((eM x0.To x1.To)>>=fun xJ=>(bif !(xJ) then (some (Out.ret (false))) else ((eM x0.aG x1.aG)>>=fun nw=>(bif !(nw) then (some (Out.ret (false))) else ((nE x0.aC x1.aC)>>=fun Q0=>(bif !(Q0) then (some (Out.ret (false))) else (some (Out.ret (true))))))))))))
def fT (x0:aS) (x1:aS):Option (Bool):=
 an (S:=Unit) ((jE x0.aB x1.aB)>>=fun iw=>(bif !(iw) then (some (Out.ret (false))) else ((jE x0.aE x1.aE)>>=fun vI=>(bif !(vI) then (some (Out.ret (false))) else ((eM x0.aD x1.aD)>>=fun Iv=>(bif !(Iv) then (some (Out.ret (false))) else ((eM x0.ab x1.ab)>>=fun Dc=>(bif !(Dc) then (some (Out.ret (false))) else (some (Out.ret (true)))))))))))
def mN (x0:bB) (x1:bB):Option (Bool):=
 an (S:=Unit) ((fT x0.On x1.On)>>=fun iw=>(bif !(iw) then (some (Out.ret (false))) else ((eM x0.Unit x1.Unit)>>=fun vI=>(bif !(vI) then (some (Out.ret (false))) else ((eM x0.ba x1.ba)>>=fun Iv=>(bif !(Iv) then (some (Out.ret (false))) else (some (Out.ret (true)))))))))
def oI (j7:Int) (av:Int) (lf:(List Int)):Option (Out (Int×Int×(List Int)) (Int×(List Int))):=
 (bif decide (av < (lf.length:Int)) then ((idx lf (av))>>=fun e9=>(some (Out.norm (bf (j7+(1:Int)),bf (av+(1:Int)),lf.set (av).toNat (j7))))) else (some (Out.exit 0 (j7,av,lf))))
def dK (x0:(List Int)) (x1:Int):Option (Int×(List Int)):=
 an (S:=Unit) (aj (ah 0 (ai (fun s=>oI s.1 s.2.1 s.2.2) (x1,(0:Int),x0))) (fun (j7,av,lf)=>(some (Out.ret ((j7,lf))))))
def oG (j7:Int) (av:Int) (lf:(List (List Int))):Option (Out (Int×Int×(List (List Int))) (Int×(List (List Int)))):=
 (bif decide (av < (lf.length:Int)) then ((idx lf (av))>>=fun zQ=>((dK zQ (j7))>>=fun yE=>(some (Out.norm (yE.1,bf (av+(1:Int)),lf.set (av).toNat yE.2))))) else (some (Out.exit 0 (j7,av,lf))))
def mJ (x0:(List (List Int))) (x1:Int):Option (Int×(List (List Int))):=
 an (S:=Unit) (aj (ah 0 (ai (fun s=>oG s.1 s.2.1 s.2.2) (x1,(0:Int),x0))) (fun (j7,av,lf)=>(some (Out.ret ((j7,lf))))))
def gS (x0:aH) (x1:Int):Option (Int×(List Int)×(List Int)×(List Int)×(List (List Int))):=
 an (S:=Unit) ((dK x0.aF (x1))>>=fun sw=>((dK x0.To (sw.1))>>=fun vI=>((dK x0.aG (vI.1))>>=fun BA=>((mJ x0.aC (BA.1))>>=fun sU=>(some (Out.ret ((sU.1,sw.2,vI.2,BA.2,sU.2))))))))
def iD (x0:aS) (x1:Int):Option (Int×(List Int)×(List Int)×(List Int)×(List (List Int))×(List Int)×(List Int)×(List Int)×(List (List Int))×(List Int)×(List Int)):=
 an (S:=Unit) ((gS x0.aB (x1))>>=fun w8=>((gS x0.aE (w8.1))>>=fun DB=>((dK x0.aD (DB.1))>>=fun Q6=>((dK x0.ab (Q6.1))>>=fun Q7=>(some (Out.ret ((Q7.1,w8.2.1,w8.2.2.1,w8.2.2.2.1,w8.2.2.2.2,DB.2.1,DB.2.2.1,DB.2.2.2.1,DB.2.2.2.2,Q6.2,Q7.2))))))))
def lJ (x0:bB) (x1:Int):Option (Int×(List Int)×(List Int)×(List Int)×(List (List Int))×(List Int)×(List Int)×(List Int)×(List (List Int))×(List Int)×(List Int)×(List Int)×(List Int)):=
 an (S:=Unit) ((iD x0.On (x1))>>=fun xL=>((dK x0.Unit (xL.1))>>=fun Q8=>((dK x0.ba (Q8.1))>>=fun GH=>(some (Out.ret ((GH.1,xL.2.1,xL.2.2.1,xL.2.2.2.1,xL.2.2.2.2.1,xL.2.2.2.2.2.1,xL.2.2.2.2.2.2.1,xL.2.2.2.2.2.2.2.1,xL.2.2.2.2.2.2.2.2.1,xL.2.2.2.2.2.2.2.2.2.1,xL.2.2.2.2.2.2.2.2.2.2,Q8.2,GH.2)))))))
def gH (x0:(List Int)) (j7:Int) (av:Int):Option (Out (Int×Int) (Int)):=
 (bif decide (av < (x0.length:Int)) then ((idx x0 (av))>>=fun e9=>(bif (e9) != (j7) then (some (Out.ret (((-1:Int))))) else (some (Out.norm (bf (j7+(1:Int)),bf (av+(1:Int))))))) else (some (Out.exit 0 (j7,av))))
def eF (x0:(List Int)) (x1:Int):Option (Int):=
 an (S:=Unit) (aj (ah 0 (ai (fun s=>gH x0 s.1 s.2) (x1,(0:Int)))) (fun (j7,av)=>(some (Out.ret (j7)))))
def oH (x0:(List (List Int))) (j7:Int) (av:Int):Option (Out (Int×Int) (Int)):=
 (bif decide (av < (x0.length:Int)) then ((idx x0 (av))>>=fun e9=>((eF e9 (j7))>>=fun iw=>(bif decide (iw < (0:Int)) then (some (Out.ret (((-1:Int))))) else (some (Out.norm (iw,bf (av+(1:Int)))))))) else (some (Out.exit 0 (j7,av))))
def mK (x0:(List (List Int))) (x1:Int):Option (Int):=
 an (S:=Unit) (aj (ah 0 (ai (fun s=>oH x0 s.1 s.2) (x1,(0:Int)))) (fun (j7,av)=>(some (Out.ret (j7)))))
def gT (x0:aH) (x1:Int):Option (Int):=
 an (S:=Unit) ((eF x0.aF (x1))>>=fun y8=>(bif decide (y8 < (0:Int)) then (some (Out.ret (((-1:Int))))) else ((eF x0.To (y8))>>=fun na=>(bif decide (na < (0:Int)) then (some (Out.ret (((-1:Int))))) else ((eF x0.aG (na))>>=fun ql=>(bif decide (ql < (0:Int)) then (some (Out.ret (((-1:Int))))) else ((mK x0.aC (ql))>>=fun nw=>(bif decide (nw < (0:Int)) then (some (Out.ret (((-1:Int))))) else (some (Out.ret (nw)))))))))))
def iE (x0:aS) (x1:Int):Option (Int):=
 an (S:=Unit) ((gT x0.aB (x1))>>=fun y8=>(bif decide (y8 < (0:Int)) then (some (Out.ret (((-1:Int))))) else ((gT x0.aE (y8))>>=fun na=>(bif decide (na < (0:Int)) then (some (Out.ret (((-1:Int))))) else ((eF x0.aD (na))>>=fun ql=>(bif decide (ql < (0:Int)) then (some (Out.ret (((-1:Int))))) else ((eF x0.ab (ql))>>=fun nw=>(bif decide (nw < (0:Int)) then (some (Out.ret (((-1:Int))))) else (some (Out.ret (nw)))))))))))
def eH (x0:bB):Option (Bool):=
 an (S:=Unit) ((mM x0 ((1048576:Int)))>>=fun uX=>(bif decide (uX < (0:Int)) then (some (Out.ret (true))) else ((iC x0)>>=fun sx=>((eC sx)>>=fun AE=>((iC x0)>>=fun KS=>((dL KS)>>=fun wJ=>((((fT wJ.1 AE.1)>>=fun Ta=>(bif !(Ta) then (some (true)) else (some ((wJ.2) != (AE.2))))))>>=fun Tb=>(bif Tb then (some (Out.ret (false))) else ((iC x0)>>=fun Tc=>((mN KS Tc)>>=fun Td=>(bif !(Td) then (some (Out.ret (false))) else ((lJ KS ((1:Int)))>>=fun Te=>(((bif decide (Te.1 < (0:Int)) then (some (true)) else ((fT wJ.1 AE.1)>>=fun Tf=>(bif !(Tf) then (some (true)) else (some ((wJ.2) != (AE.2)))))))>>=fun Tg=>(bif Tg then (some (Out.ret (false))) else ((iD wJ.1 ((1:Int)))>>=fun jm=>((iE (aS.mk (aH.mk wJ.1.aB.aD jm.2.1 jm.2.2.1 jm.2.2.2.1 jm.2.2.2.2.1) (aH.mk wJ.1.aE.aD jm.2.2.2.2.2.1 jm.2.2.2.2.2.2.1 jm.2.2.2.2.2.2.2.1 jm.2.2.2.2.2.2.2.2.1) jm.2.2.2.2.2.2.2.2.2.1 jm.2.2.2.2.2.2.2.2.2.2) ((1:Int)))>>=fun Ms=>(bif decide (Ms < (0:Int)) then (some (Out.ret (false))) else (bif (Ms) != (jm.1) then (some (Out.ret (false))) else ((iC x0)>>=fun Th=>((dL Th)>>=fun Mt=>((((fT Mt.1 AE.1)>>=fun Ti=>(bif !(Ti) then (some (true)) else (some ((Mt.2) != (AE.2))))))>>=fun Tj=>(bif Tj then (some (Out.ret (false))) else ((iE (aS.mk (aH.mk wJ.1.aB.aD jm.2.1 jm.2.2.1 jm.2.2.2.1 jm.2.2.2.2.1) (aH.mk wJ.1.aE.aD jm.2.2.2.2.2.1 jm.2.2.2.2.2.2.1 jm.2.2.2.2.2.2.2.1 jm.2.2.2.2.2.2.2.2.1) jm.2.2.2.2.2.2.2.2.2.1 jm.2.2.2.2.2.2.2.2.2.2) ((1:Int)))>>=fun Mu=>(bif decide (Mu < (0:Int)) then (some (Out.ret (false))) else (bif (Mu) != (jm.1) then (some (Out.ret (false))) else (some (Out.ret (true))))))))))))))))))))))))))))
end
end Go.Proofs.YtcnehblmgfbfoaaGreat
