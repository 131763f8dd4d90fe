/- Models, printed by a program: what each function computes, on plain data. No condition. -/
import Derived.Test.YtcnehblmgfbfoaaGreatLj
import Derived.Test.YtcnehblmgfbfoaaGreatLn
import Derived.Test.YtcnehblmgfbfoaaGreatLq
namespace Go.Proofs.YtcnehblmgfbfoaaGreat
open Go Go.Li
set_option linter.unusedVariables false
noncomputable section
structure aM where
 Code:(List Int)
 At:Int
 av:Int
structure aD where
 aA:Int
 aB:(List Int)
 To:(List Int)
 aF:(List Int)
 aC:(List (List Int))
structure bA where
 aB:Int
 To:Int
 ko:(List Int)
structure aN where
 aG:aD
 aH:aD
 aA:(List Int)
 ae:(List Int)
structure pA where
 aB:Int
 To:Int
def oC (x0:(List Int)):Option (Bool):=
 an (S:=Unit) (some (Out.ret ((decide ((x0.length:Int) > (4096:Int))))))
def lN (x0:(List Int)) (ca:Int) (Aj:Int):Option (Out (Int×Int) ((Option aM))):=
 (((bif decide (ca < (x0.length:Int)) then (some (decide (ca < (4096:Int)))) else (some (false))))>>=fun g14=>(bif g14 then ((pO .mul .u64 (Aj) ((1099511628211:Int)))>>=fun z20=>((idx x0 (ca))>>=fun ux=>((pO .add .u64 (z20) (IntKind.u64.wrap ux))>>=fun z23=>((pO .add .u64 (z23) ((7:Int)))>>=fun z24=>(some (Out.norm (ai (ca+(1:Int)),z24))))))) else (some (Out.exit 0 (ca,Aj)))))
def jK (x0:(List Int)):Option ((Option aM)):=
 an (S:=Unit) ((pO .add .u64 ((7019:Int)) (IntKind.u64.wrap ((x0.length:Int))))>>=fun z3=>(ah (ab 0 (aj (fun s=>lN x0 s.1 s.2) ((0:Int),z3))) (fun (ca,Aj)=>(some (Out.ret ((some (aM.mk x0 ((0:Int)) Aj))))))))
def bJ (x0:aM) (x1:Int):Option (Int×aM):=
 an (S:=Unit) (bif decide (x1 < (1:Int)) then (some (Out.ret ((((0:Int)),x0)))) else ((pO .mul .u64 (x0.av) ((6364136223846793005:Int)))>>=fun z9=>((pO .add .u64 (z9) ((1442695040888963407:Int)))>>=fun SC=>((pO .shr .u64 (SC) ((33:Int)))>>=fun SD=>((pO .and .u64 (SD) ((16777215:Int)))>>=fun Wv=>(bif decide (x0.At < (x0.Code.length:Int)) then ((idx x0.Code (x0.At))>>=fun FN=>((pO .rem .i64 (ai (IntKind.i64.wrap Wv+IntKind.i64.wrap FN)) (x1))>>=fun z30=>(some (Out.ret ((z30,(aM.mk x0.Code (ai (x0.At+(1:Int))) SC))))))) else ((pO .rem .i64 (IntKind.i64.wrap Wv) (x1))>>=fun z33=>(some (Out.ret ((z33,(aM.mk x0.Code x0.At SC))))))))))))
def iZ (x0:aM) (x1:Int) (dc:Int) (wB:Int) (wC:Int) (zA:(List Int)):Option (Out (Int×Int×Int×(List Int)) ((List (List Int))×aM)):=
 (bif decide (dc < x1) then ((bJ (aM.mk x0.Code wB wC) ((2:Int)))>>=fun SE=>((idx zA (dc))>>=fun e53=>(some (Out.norm (ai (dc+(1:Int)),SE.2.At,SE.2.av,zA.set (dc).toNat (SE.1)))))) else (some (Out.exit 2 (dc,wB,wC,zA))))
def jA (x0:aM) (x1:Int) (bm:(List (List Int))) (ri:Int) (nh:Int) (ni:Int):Option (Out ((List (List Int))×Int×Int×Int) ((List (List Int))×aM)):=
 (bif decide (ri < x1) then ((mk 8 (x1))>>=fun n21=>((idx (List.replicate n21 (0:Int)) (ri))>>=fun KQ=>(ah (ab 2 (aj (fun s=>iZ x0 x1 s.1 s.2.1 s.2.2.1 s.2.2.2) (ai (ri+(1:Int)),nh,ni,(List.replicate n21 (0:Int)).set (ri).toNat ((1:Int))))) (fun (dc,wB,wC,zA)=>((fits 24 (bm.length+1))>>=fun n78=>(some (Out.norm (bm++[zA],ai (ri+(1:Int)),wB,wC)))))))) else (some (Out.exit 0 (bm,ri,nh,ni))))
def lY (x1:Int) (da:Int) (e7:Int) (pR:Int) (si:(List (List Int))):Option (Out (Int×(List (List Int))) ((List (List Int))×aM)):=
 (bif decide (pR < x1) then ((((idx si (e7))>>=fun XI=>((idx XI (da))>>=fun MR=>(bif (MR) == ((1:Int)) then ((idx si (da))>>=fun XJ=>((idx XJ (pR))>>=fun MS=>(some ((MS) == ((1:Int)))))) else (some (false))))))>>=fun XK=>(bif XK then ((idx si (e7))>>=fun SF=>((idx SF (pR))>>=fun SG=>(some (Out.norm (ai (pR+(1:Int)),si.set (e7).toNat (SF.set (pR).toNat ((1:Int)))))))) else (some (Out.norm (ai (pR+(1:Int)),si))))) else (some (Out.exit 8 (pR,si))))
def lZ (x1:Int) (da:Int) (e7:Int) (Ak:(List (List Int))):Option (Out (Int×(List (List Int))) ((List (List Int))×aM)):=
 (bif decide (e7 < x1) then (ah (ab 8 (aj (fun s=>lY x1 da e7 s.1 s.2) ((0:Int),Ak))) (fun (pR,si)=>(some (Out.norm (ai (e7+(1:Int)),si))))) else (some (Out.exit 6 (e7,Ak))))
def mA (x1:Int) (da:Int) (Al:(List (List Int))):Option (Out (Int×(List (List Int))) ((List (List Int))×aM)):=
 (bif decide (da < x1) then (ah (ab 6 (aj (fun s=>lZ x1 da s.1 s.2) ((0:Int),Al))) (fun (e7,Ak)=>(some (Out.norm (ai (da+(1:Int)),Ak))))) else (some (Out.exit 4 (da,Al))))
def mB (x1:Int) (wZ:Int) (uM:Int) (wD:Int) (tY:(List (List Int))):Option (Out (Int×(List (List Int))) ((List (List Int))×aM)):=
 (bif decide (wD < x1) then ((((idx tY (uM))>>=fun XL=>((idx XL (wZ))>>=fun XM=>(bif (XM) == ((1:Int)) then ((idx tY (wZ))>>=fun XN=>((idx XN (wD))>>=fun XO=>(some ((XO) == ((1:Int)))))) else (some (false))))))>>=fun XP=>(bif XP then ((idx tY (uM))>>=fun SH=>((idx SH (wD))>>=fun C7=>(some (Out.norm (ai (wD+(1:Int)),tY.set (uM).toNat (SH.set (wD).toNat ((1:Int)))))))) else (some (Out.norm (ai (wD+(1:Int)),tY))))) else (some (Out.exit 8 (wD,tY))))
def mC (x1:Int) (wZ:Int) (uM:Int) (Cm:(List (List Int))):Option (Out (Int×(List (List Int))) ((List (List Int))×aM)):=
 (bif decide (uM < x1) then (ah (ab 8 (aj (fun s=>mB x1 wZ uM s.1 s.2) ((0:Int),Cm))) (fun (wD,tY)=>(some (Out.norm (ai (uM+(1:Int)),tY))))) else (some (Out.exit 6 (uM,Cm))))
def mD (x1:Int) (wZ:Int) (Cn:(List (List Int))):Option (Out (Int×(List (List Int))) ((List (List Int))×aM)):=
 (bif decide (wZ < x1) then (ah (ab 6 (aj (fun s=>mC x1 wZ s.1 s.2) ((0:Int),Cn))) (fun (uM,Cm)=>(some (Out.norm (ai (wZ+(1:Int)),Cm))))) else (some (Out.exit 4 (wZ,Cn))))
def lO (x1:Int) (w4:Int) (uN:Int) (tZ:Int) (sm:(List (List Int))):Option (Out (Int×(List (List Int))) ((List (List Int))×aM)):=
 (bif decide (tZ < x1) then ((((idx sm (uN))>>=fun XQ=>((idx XQ (w4))>>=fun vB=>(bif (vB) == ((1:Int)) then ((idx sm (w4))>>=fun MT=>((idx MT (tZ))>>=fun MU=>(some ((MU) == ((1:Int)))))) else (some (false))))))>>=fun XR=>(bif XR then ((idx sm (uN))>>=fun SI=>((idx SI (tZ))>>=fun ain=>(some (Out.norm (ai (tZ+(1:Int)),sm.set (uN).toNat (SI.set (tZ).toNat ((1:Int)))))))) else (some (Out.norm (ai (tZ+(1:Int)),sm))))) else (some (Out.exit 8 (tZ,sm))))
def mE (x1:Int) (w4:Int) (uN:Int) (Co:(List (List Int))):Option (Out (Int×(List (List Int))) ((List (List Int))×aM)):=
 (bif decide (uN < x1) then (ah (ab 8 (aj (fun s=>lO x1 w4 uN s.1 s.2) ((0:Int),Co))) (fun (tZ,sm)=>(some (Out.norm (ai (uN+(1:Int)),sm))))) else (some (Out.exit 6 (uN,Co))))
def mG (x1:Int) (w4:Int) (Cp:(List (List Int))):Option (Out (Int×(List (List Int))) ((List (List Int))×aM)):=
 (bif decide (w4 < x1) then (ah (ab 6 (aj (fun s=>mE x1 w4 s.1 s.2) ((0:Int),Cp))) (fun (uN,Co)=>(some (Out.norm (ai (w4+(1:Int)),Co))))) else (some (Out.exit 4 (w4,Cp))))
def fZ (x0:aM) (x1:Int):Option ((List (List Int))×aM):=
 an (S:=Unit) (ah (ab 0 (aj (fun s=>jA x0 x1 s.1 s.2.1 s.2.2.1 s.2.2.2) (([]:(List (List Int))),(0:Int),x0.At,x0.av))) (fun (bm,ri,nh,ni)=>(bif decide (x1 > (1:Int)) then ((bJ (aM.mk x0.Code nh ni) ((4:Int)))>>=fun KR=>(bif (KR.1) == ((0:Int)) then ((idx bm (ai (x1 - (1:Int))))>>=fun OT=>((bJ (aM.mk x0.Code KR.2.At KR.2.av) (x1))>>=fun zB=>((idx OT (zB.1))>>=fun um=>(ah (ab 4 (aj (fun s=>mA x1 s.1 s.2) ((0:Int),bm.set (ai (x1 - (1:Int))).toNat (OT.set (zB.1).toNat ((1:Int)))))) (fun (da,Al)=>(some (Out.ret ((Al,(aM.mk x0.Code zB.2.At zB.2.av)))))))))) else (ah (ab 4 (aj (fun s=>mD x1 s.1 s.2) ((0:Int),bm))) (fun (wZ,Cn)=>(some (Out.ret ((Cn,(aM.mk x0.Code KR.2.At KR.2.av))))))))) else (ah (ab 4 (aj (fun s=>mG x1 s.1 s.2) ((0:Int),bm))) (fun (w4,Cp)=>(some (Out.ret ((Cp,(aM.mk x0.Code nh ni))))))))))
def kW (x0:(List (List Int))) (ri:Int) (rj:(List Int)) (dc:Int) (kq:(List Int)) (mh:(List Int)):Option (Out ((List Int)×Int×(List Int)×(List Int)) (aD)):=
 (bif decide (dc < (x0.length:Int)) then ((fits 8 (rj.length+1))>>=fun n185=>((idx x0 (ri))>>=fun MW=>((idx MW (dc))>>=fun XS=>(bif (XS) == ((1:Int)) then ((fits 8 (kq.length+1))>>=fun n229=>((fits 8 (mh.length+1))>>=fun n265=>(some (Out.norm (rj++[(kq.length:Int)],ai (dc+(1:Int)),kq++[ri],mh++[dc]))))) else (some (Out.norm (rj++[(kq.length:Int)],ai (dc+(1:Int)),kq,mh))))))) else (some (Out.exit 2 (rj,dc,kq,mh))))
def kX (x0:(List (List Int))) (ca:(List (List Int))) (ri:Int) (ik:(List Int)) (jq:(List Int)):Option (Out ((List (List Int))×Int×(List Int)×(List Int)) (aD)):=
 (bif decide (ri < (x0.length:Int)) then (ah (ab 2 (aj (fun s=>kW x0 ri s.1 s.2.1 s.2.2.1 s.2.2.2) (([]:(List Int)),(0:Int),ik,jq))) (fun (rj,dc,kq,mh)=>((fits 24 (ca.length+1))>>=fun n306=>(some (Out.norm (ca++[rj],ai (ri+(1:Int)),kq,mh)))))) else (some (Out.exit 0 (ca,ri,ik,jq))))
def kY (x0:(List (List Int))) (ca:(List (List Int))) (da:Int) (nt:(List Int)):Option (Out (Int×(List Int)) (aD)):=
 (bif decide (da < (x0.length:Int)) then ((idx ca (da))>>=fun XT=>((idx XT (da))>>=fun SJ=>((fits 8 (nt.length+1))>>=fun aio=>(some (Out.norm (ai (da+(1:Int)),nt++[SJ])))))) else (some (Out.exit 4 (da,nt))))
def kZ (ca:(List (List Int))) (ik:(List Int)) (jq:(List Int)) (e7:Int) (pR:(List Int)) (n4:Int):Option (Out ((List Int)×Int) (aD)):=
 (bif decide (n4 < (ik.length:Int)) then ((idx jq (e7))>>=fun XU=>((idx ik (n4))>>=fun XV=>(bif (XU) == (XV) then ((idx ik (e7))>>=fun XW=>((idx ca (XW))>>=fun XX=>((idx jq (n4))>>=fun XY=>((idx XX (XY))>>=fun XZ=>((fits 8 (pR.length+1))>>=fun aip=>(some (Out.norm (pR++[XZ],ai (n4+(1:Int)))))))))) else ((fits 8 (pR.length+1))>>=fun aiq=>(some (Out.norm (pR++[(-1:Int)],ai (n4+(1:Int))))))))) else (some (Out.exit 8 (pR,n4))))
def lA (ca:(List (List Int))) (ik:(List Int)) (jq:(List Int)) (e7:Int) (vC:(List (List Int))):Option (Out (Int×(List (List Int))) (aD)):=
 (bif decide (e7 < (ik.length:Int)) then (ah (ab 8 (aj (fun s=>kZ ca ik jq e7 s.1 s.2) (([]:(List Int)),(0:Int)))) (fun (pR,n4)=>((fits 24 (vC.length+1))>>=fun air=>(some (Out.norm (ai (e7+(1:Int)),vC++[pR])))))) else (some (Out.exit 6 (e7,vC))))
def cN (x0:(List (List Int))):Option (aD):=
 an (S:=Unit) (ah (ab 0 (aj (fun s=>kX x0 s.1 s.2.1 s.2.2.1 s.2.2.2) (([]:(List (List Int))),(0:Int),([]:(List Int)),([]:(List Int))))) (fun (ca,ri,ik,jq)=>(ah (ab 4 (aj (fun s=>kY x0 ca s.1 s.2) ((0:Int),([]:(List Int))))) (fun (da,nt)=>(ah (ab 6 (aj (fun s=>lA ca ik jq s.1 s.2) ((0:Int),([]:(List (List Int)))))) (fun (e7,vC)=>(some (Out.ret ((aD.mk ((x0.length:Int)) ik jq nt vC))))))))))
def cF (x0:(List Int)):Option ((List Int)):=
 an (S:=Unit) ((fits 8 ((([]:(List Int))).length+x0.length))>>=fun n15=>(some (Out.ret ((([]:(List Int))++x0)))))
def cR (x0:(List Int)) (x1:(List Int)) (bm:Int):Option (Out (Int) (Bool)):=
 (((bif decide (bm < (x0.length:Int)) then (some (decide (bm < (x1.length:Int)))) else (some (false))))>>=fun g6=>(bif g6 then ((idx x0 (bm))>>=fun KS=>((idx x1 (bm))>>=fun sP=>(bif (KS) != (sP) then ((idx x0 (bm))>>=fun OU=>((idx x1 (bm))>>=fun ux=>(some (Out.ret ((decide (OU < ux))))))) else (some (Out.norm (ai (bm+(1:Int)))))))) else (some (Out.exit 0 (bm)))))
def jL (x0:(List Int)) (x1:(List Int)):Option (Bool):=
 an (S:=Unit) (ah (ab 0 (aj (cR x0 x1) ((0:Int)))) (fun bm=>(some (Out.ret ((decide ((x0.length:Int) < (x1.length:Int))))))))
def fV (x0:bA) (x1:bA):Option (Bool):=
 an (S:=Unit) (bif (x0.aB) != (x1.aB) then (some (Out.ret ((decide (x0.aB < x1.aB))))) else (bif (x0.To) != (x1.To) then (some (Out.ret ((decide (x0.To < x1.To))))) else ((jL x0.ko x1.ko)>>=fun zC=>(some (Out.ret (zC))))))
def iF (x0:Int) (s0:(List bA)) (s1:Int):Option (Out ((List bA)×Int) ((List bA))):=
 (bif decide (s1 < x0) then ((fits 40 (s0.length+1))>>=fun n26=>(some (Out.norm (s0++[bA.mk s1 s1 []],ai (s1+(1:Int)))))) else (some (Out.exit 0 (s0,s1))))
def fW (x1:(List Int)) (x2:(List Int)) (s1:Int) (s0:(List bA)) (s2:Int):Option (Out ((List bA)×Int) ((List bA))):=
 (bif decide (s2 < (x1.length:Int)) then ((idx x1 (s2))>>=fun KT=>((idx s0 (s1))>>=fun KU=>(bif (KT) == (KU.To) then ((idx s0 (s1))>>=fun SK=>((idx x2 (s2))>>=fun AU=>((idx s0 (s1))>>=fun SM=>((cF SM.ko)>>=fun zD=>((fits 8 (zD.length+1))>>=fun n72=>((fits 40 (s0.length+1))>>=fun n75=>(some (Out.norm (s0++[bA.mk SK.aB AU (zD++[s2])],ai (s2+(1:Int))))))))))) else (some (Out.norm (s0,ai (s2+(1:Int)))))))) else (some (Out.exit 4 (s0,s2))))
def iG (x1:(List Int)) (x2:(List Int)) (s0:(List bA)) (s1:Int):Option (Out ((List bA)×Int) ((List bA))):=
 (((bif decide (s1 < (s0.length:Int)) then (some (decide ((s0.length:Int)≤(40:Int)))) else (some (false))))>>=fun SN=>(bif SN then (ah (ab 4 (aj (fun s=>fW x1 x2 s1 s.1 s.2) (s0,(0:Int)))) (fun (s0,s2)=>(some (Out.norm (s0,ai (s1+(1:Int))))))) else (some (Out.exit 2 (s0,s1)))))
def iI (s0:(List bA)) (s1:Int):Option (Out ((List bA)×Int) ((List bA))):=
 (((bif decide ((0:Int) < s1) then ((idx s0 (s1))>>=fun AV=>((idx s0 (ai (s1 - (1:Int))))>>=fun Cq=>((fV AV Cq)>>=fun KV=>(some (KV))))) else (some (false))))>>=fun SP=>(bif SP then ((idx s0 (s1))>>=fun MX=>((idx s0 (ai (s1 - (1:Int))))>>=fun um=>((idx s0 (s1))>>=fun FP=>((idx (s0.set (s1).toNat um) (ai (s1 - (1:Int))))>>=fun MY=>(some (Out.norm ((s0.set (s1).toNat um).set (ai (s1 - (1:Int))).toNat MX,ai (s1 - (1:Int))))))))) else (some (Out.exit 8 (s0,s1)))))
def iJ (s0:(List bA)) (s1:Int):Option (Out ((List bA)×Int) ((List bA))):=
 (bif decide (s1 < (s0.length:Int)) then (ah (ab 8 (aj (fun s=>iI s.1 s.2) (s0,s1))) (fun (s0,s2)=>(some (Out.norm (s0,ai (s1+(1:Int))))))) else (some (Out.exit 6 (s0,s1))))
def iY (x0:Int) (x1:(List Int)) (x2:(List Int)):Option ((List bA)):=
 an (S:=Unit) (ah (ab 0 (aj (fun s=>iF x0 s.1 s.2) (([]:(List bA)),(0:Int)))) (fun (s0,s1)=>(ah (ab 2 (aj (fun s=>iG x1 x2 s.1 s.2) (s0,(0:Int)))) (fun (s0,s1)=>(ah (ab 6 (aj (fun s=>iJ s.1 s.2) (s0,(1:Int)))) (fun (s0,s1)=>(some (Out.ret (s0)))))))))
def cI (x0:aD):Option (Bool):=
 an (S:=Unit) (((bif decide (x0.aA≤(8:Int)) then (some (decide ((x0.aB.length:Int)≤(40:Int)))) else (some (false))))>>=fun g8=>(some (Out.ret (g8))))
def jD (x0:(List Int)) (x1:(List Int)) (bm:Int):Option (Out (Int) (Bool)):=
 (bif decide (bm < (x0.length:Int)) then ((idx x0 (bm))>>=fun sP=>((idx x1 (bm))>>=fun Cr=>(bif (sP) != (Cr) then (some (Out.ret (false))) else (some (Out.norm (ai (bm+(1:Int)))))))) else (some (Out.exit 0 (bm))))
def cT (x0:(List Int)) (x1:(List Int)):Option (Bool):=
 an (S:=Unit) (bif ((x0.length:Int)) != ((x1.length:Int)) then (some (Out.ret (false))) else (ah (ab 0 (aj (jD x0 x1) ((0:Int)))) (fun bm=>(some (Out.ret (true))))))
def gA (y8:(List bA)) (ep:Int) (jd:(List Int)) (je:(List Int)) (l9:(List Int)):Option (Out (Int×(List Int)×(List Int)×(List Int)) (aD)):=
 (bif decide (ep < (y8.length:Int)) then ((idx y8 (ep))>>=fun Bo=>((fits 8 (jd.length+1))>>=fun n134=>((idx y8 (ep))>>=fun FR=>((fits 8 (je.length+1))>>=fun n173=>((idx y8 (ep))>>=fun MZ=>(bif ((MZ.ko.length:Int)) == ((0:Int)) then ((idx y8 (ep))>>=fun FU=>((idx l9 (FU.aB))>>=fun X0=>(some (Out.norm (ai (ep+(1:Int)),jd++[Bo.aB],je++[FR.To],l9.set (FU.aB).toNat (ep)))))) else (some (Out.norm (ai (ep+(1:Int)),jd++[Bo.aB],je++[FR.To],l9))))))))) else (some (Out.exit 0 (ep,jd,je,l9))))
def gB (y8:(List bA)) (eh:Int) (tu:(List Int)) (vB:bA) (uO:Int) (ph:Int):Option (Out (Int×Int) (aD)):=
 (bif decide (ph < (y8.length:Int)) then ((((idx y8 (ph))>>=fun M0=>((idx y8 (eh))>>=fun M1=>(bif (M0.aB) == (M1.aB) then ((idx y8 (ph))>>=fun M3=>((cT M3.ko (tu++vB.ko))>>=fun M4=>(some (M4)))) else (some (false))))))>>=fun M5=>(bif M5 then (some (Out.norm (ph,ai (ph+(1:Int))))) else (some (Out.norm (uO,ai (ph+(1:Int))))))) else (some (Out.exit 6 (uO,ph))))
def gC (y8:(List bA)) (eh:Int) (me:(List Int)) (qh:Int):Option (Out ((List Int)×Int) (aD)):=
 (bif decide (qh < (y8.length:Int)) then ((idx y8 (eh))>>=fun M6=>((idx y8 (qh))>>=fun M7=>(bif (M6.To) == (M7.aB) then ((idx y8 (eh))>>=fun M8=>((cF M8.ko)>>=fun tu=>((idx y8 (qh))>>=fun vB=>((fits 8 (tu.length+vB.ko.length))>>=fun X1=>(ah (ab 6 (aj (fun s=>gB y8 eh tu vB s.1 s.2) ((-1:Int),(0:Int)))) (fun (uO,ph)=>((fits 8 (me.length+1))>>=fun X2=>(some (Out.norm (me++[uO],ai (qh+(1:Int)))))))))))) else ((fits 8 (me.length+1))>>=fun X3=>(some (Out.norm (me++[(-1:Int)],ai (qh+(1:Int))))))))) else (some (Out.exit 4 (me,qh))))
def eN (y8:(List bA)) (eh:Int) (nu:(List (List Int))):Option (Out (Int×(List (List Int))) (aD)):=
 (bif decide (eh < (y8.length:Int)) then (ah (ab 4 (aj (fun s=>gC y8 eh s.1 s.2) (([]:(List Int)),(0:Int)))) (fun (me,qh)=>((fits 24 (nu.length+1))>>=fun X4=>(some (Out.norm (ai (eh+(1:Int)),nu++[me])))))) else (some (Out.exit 2 (eh,nu))))
def dD (x0:Int) (x1:(List Int)) (x2:(List Int)):Option (aD):=
 an (S:=Unit) ((iY (x0) x1 x2)>>=fun y8=>((mk 8 (x0))>>=fun n36=>(ah (ab 0 (aj (fun s=>gA y8 s.1 s.2.1 s.2.2.1 s.2.2.2) ((0:Int),([]:(List Int)),([]:(List Int)),List.replicate n36 (0:Int)))) (fun (ep,jd,je,l9)=>((cI (aD.mk x0 jd je l9 (([]:(List (List Int))))))>>=fun M9=>(bif !(M9) then (some (Out.ret ((aD.mk x0 jd je l9 (([]:(List (List Int)))))))) else (ah (ab 2 (aj (fun s=>eN y8 s.1 s.2) ((0:Int),([]:(List (List Int)))))) (fun (eh,nu)=>(some (Out.ret ((aD.mk x0 jd je l9 nu))))))))))))
def fX (x0:aM):Option ((List (List Int))×aM):=
 an (S:=Unit) ((bJ x0 ((8:Int)))>>=fun y5=>(bif (y5.1) == ((0:Int)) then (some (Out.ret (((([[(0:Int)]]:(List (List Int)))),(aM.mk x0.Code y5.2.At y5.2.av))))) else (bif (y5.1) == ((1:Int)) then (some (Out.ret (((([[(0:Int),(1:Int)],[(1:Int),(0:Int)]]:(List (List Int)))),(aM.mk x0.Code y5.2.At y5.2.av))))) else (bif (y5.1) == ((2:Int)) then (some (Out.ret (((([[(0:Int),(1:Int)],[(1:Int),(1:Int)]]:(List (List Int)))),(aM.mk x0.Code y5.2.At y5.2.av))))) else (bif (y5.1) == ((3:Int)) then (some (Out.ret (((([[(0:Int),(1:Int),(2:Int)],[(1:Int),(2:Int),(0:Int)],[(2:Int),(0:Int),(1:Int)]]:(List (List Int)))),(aM.mk x0.Code y5.2.At y5.2.av))))) else (bif (y5.1) == ((4:Int)) then (some (Out.ret (((([[(0:Int),(1:Int),(2:Int)],[(1:Int),(1:Int),(2:Int)],[(2:Int),(2:Int),(2:Int)]]:(List (List Int)))),(aM.mk x0.Code y5.2.At y5.2.av))))) else (bif (y5.1) == ((5:Int)) then (some (Out.ret (((([[(0:Int),(1:Int),(2:Int)],[(1:Int),(1:Int),(2:Int)],[(2:Int),(1:Int),(2:Int)]]:(List (List Int)))),(aM.mk x0.Code y5.2.At y5.2.av))))) else (bif (y5.1) == ((6:Int)) then (some (Out.ret (((([[(0:Int),(1:Int),(2:Int),(3:Int)],[(1:Int),(0:Int),(2:Int),(3:Int)],[(2:Int),(3:Int),(2:Int),(3:Int)],[(3:Int),(2:Int),(2:Int),(3:Int)]]:(List (List Int)))),(aM.mk x0.Code y5.2.At y5.2.av))))) else (some (Out.ret (((([[(0:Int),(1:Int),(2:Int)],[(1:Int),(2:Int),(2:Int)],[(2:Int),(2:Int),(2:Int)]]:(List (List Int)))),(aM.mk x0.Code y5.2.At y5.2.av)))))))))))))
def gT (x0:(List (List Int))) (iq:(List (List Int))) (ca:Int):Option (Out ((List (List Int))×Int) ((List (List Int)))):=
 (bif decide (ca < (x0.length:Int)) then ((idx x0 (ca))>>=fun FW=>((cF FW)>>=fun ic=>((fits 24 (iq.length+1))>>=fun n49=>(some (Out.norm (iq++[ic],ai (ca+(1:Int)))))))) else (some (Out.exit 0 (iq,ca))))
def jM (x0:(List (List Int))):Option ((List (List Int))):=
 an (S:=Unit) (ah (ab 0 (aj (fun s=>gT x0 s.1 s.2) (([]:(List (List Int))),(0:Int)))) (fun (iq,ca)=>(some (Out.ret (iq)))))
def fY (x0:(List (List Int))):Option (aD):=
 an (S:=Unit) ((mk 8 ((x0.length:Int)))>>=fun n10=>((mk 8 ((x0.length:Int)))>>=fun n19=>((jM x0)>>=fun FX=>(some (Out.ret ((aD.mk ((1:Int)) (List.replicate n10 (0:Int)) (List.replicate n19 (0:Int)) ([(0:Int)]) FX)))))))
def kR:Option (aD):=
 an (S:=Unit) (some (Out.ret ((aD.mk ((2:Int)) (([(0:Int),(1:Int),(0:Int),(0:Int),(1:Int)]:(List Int))) (([(0:Int),(1:Int),(0:Int),(1:Int),(0:Int)]:(List Int))) (([(0:Int),(1:Int)]:(List Int))) (([[(0:Int),(-1:Int),(2:Int),(3:Int),(-1:Int)],[(-1:Int),(1:Int),(-1:Int),(-1:Int),(4:Int)],[(2:Int),(-1:Int),(2:Int),(3:Int),(-1:Int)],[(-1:Int),(3:Int),(-1:Int),(-1:Int),(2:Int)],[(4:Int),(-1:Int),(4:Int),(1:Int),(-1:Int)]]:(List (List Int))))))))
def gV (x0:aD):Option (aD):=
 an (S:=Unit) ((cF x0.aB)>>=fun ua=>((cF x0.To)>>=fun zC=>((cF x0.aF)>>=fun SR=>((jM x0.aC)>>=fun SS=>(some (Out.ret ((aD.mk x0.aA ua zC SR SS))))))))
def eP (x0:aD) (x1:aD) (gn:Int) (vD:(List Int)):Option (Out (Int×(List Int)) (aD)):=
 (bif decide (gn < x1.aA) then ((idx x1.aF (gn))>>=fun Na=>((fits 8 (vD.length+1))>>=fun n136=>(some (Out.norm (ai (gn+(1:Int)),vD++[ai (Na+(x0.aB.length:Int))]))))) else (some (Out.exit 0 (gn,vD))))
def eQ (x1:aD) (rS:Int) (fc:Int) (xn:(List (List Int))):Option (Out (Int×(List (List Int))) (aD)):=
 (bif decide (fc < (x1.aB.length:Int)) then ((idx xn (rS))>>=fun I3=>((fits 8 (I3.length+1))>>=fun n233=>((idx xn (rS))>>=fun ais=>(some (Out.norm (ai (fc+(1:Int)),xn.set (rS).toNat (I3++[(-1:Int)]))))))) else (some (Out.exit 4 (fc,xn))))
def eR (x1:aD) (rS:Int) (zE:(List (List Int))):Option (Out (Int×(List (List Int))) (aD)):=
 (bif decide (rS < (zE.length:Int)) then (ah (ab 4 (aj (fun s=>eQ x1 rS s.1 s.2) ((0:Int),zE))) (fun (fc,xn)=>(some (Out.norm (ai (rS+(1:Int)),xn))))) else (some (Out.exit 2 (rS,zE))))
def eS (x0:aD) (n4:(List Int)) (qU:Int):Option (Out ((List Int)×Int) (aD)):=
 (bif decide (qU < (x0.aB.length:Int)) then ((fits 8 (n4.length+1))>>=fun ait=>(some (Out.norm (n4++[(-1:Int)],ai (qU+(1:Int)))))) else (some (Out.exit 8 (n4,qU))))
def eU (x0:aD) (x1:aD) (gf:Int) (qi:(List Int)) (qD:Int):Option (Out ((List Int)×Int) (aD)):=
 (bif decide (qD < (x1.aB.length:Int)) then ((idx x1.aC (gf))>>=fun X5=>((idx X5 (qD))>>=fun Nb=>(bif decide (Nb ≥ (0:Int)) then ((fits 8 (qi.length+1))>>=fun aiu=>(some (Out.norm (qi++[ai (Nb+(x0.aB.length:Int))],ai (qD+(1:Int)))))) else ((fits 8 (qi.length+1))>>=fun aiv=>(some (Out.norm (qi++[Nb],ai (qD+(1:Int))))))))) else (some (Out.exit 10 (qi,qD))))
def eV (x0:aD) (x1:aD) (gf:Int) (vE:(List Int)) (vF:(List Int)) (vG:(List (List Int))):Option (Out (Int×(List Int)×(List Int)×(List (List Int))) (aD)):=
 (bif decide (gf < (x1.aB.length:Int)) then ((idx x1.aB (gf))>>=fun X6=>((fits 8 (vE.length+1))>>=fun n314=>((idx x1.To (gf))>>=fun MT=>((fits 8 (vF.length+1))>>=fun aiw=>(ah (ab 8 (aj (fun s=>eS x0 s.1 s.2) (([]:(List Int)),(0:Int)))) (fun (n4,qU)=>(ah (ab 10 (aj (fun s=>eU x0 x1 gf s.1 s.2) (n4,(0:Int)))) (fun (qi,qD)=>((fits 24 (vG.length+1))>>=fun aix=>(some (Out.norm (ai (gf+(1:Int)),vE++[ai (X6+x0.aA)],vF++[ai (MT+x0.aA)],vG++[qi])))))))))))) else (some (Out.exit 6 (gf,vE,vF,vG))))
def fB (x0:aD) (x1:aD):Option (aD):=
 an (S:=Unit) ((gV x0)>>=fun wE=>(ah (ab 0 (aj (fun s=>eP x0 x1 s.1 s.2) ((0:Int),wE.aF))) (fun (gn,vD)=>(ah (ab 2 (aj (fun s=>eR x1 s.1 s.2) ((0:Int),wE.aC))) (fun (rS,zE)=>(ah (ab 6 (aj (fun s=>eV x0 x1 s.1 s.2.1 s.2.2.1 s.2.2.2) ((0:Int),wE.aB,wE.To,zE))) (fun (gf,vE,vF,vG)=>(some (Out.ret ((aD.mk (ai (x0.aA+x1.aA)) vE vF vD vG)))))))))))
def dW (x0:aD) (x1:aD) (bp:Int) (dc:Int) (vH:(List Int)) (vI:(List Int)):Option (Out (Int×(List Int)×(List Int)) (aD)):=
 (bif decide (dc < x1.aA) then ((fits 8 (vH.length+1))>>=fun n181=>((fits 8 (vI.length+1))>>=fun n217=>(some (Out.norm (ai (dc+(1:Int)),vH++[bp],vI++[ai (x0.aA+dc)]))))) else (some (Out.exit 2 (dc,vH,vI))))
def dX (x0:aD) (x1:aD) (bp:Int) (mi:(List Int)) (pJ:(List Int)):Option (Out (Int×(List Int)×(List Int)) (aD)):=
 (bif decide (bp < x0.aA) then (ah (ab 2 (aj (fun s=>dW x0 x1 bp s.1 s.2.1 s.2.2) ((0:Int),mi,pJ))) (fun (dc,vH,vI)=>(some (Out.norm (ai (bp+(1:Int)),vH,vI))))) else (some (Out.exit 0 (bp,mi,pJ))))
def dY (x0:aD) (x1:aD) (ic:aD) (mi:(List Int)) (pJ:(List Int)) (fc:Int) (gf:(List Int)) (tE:Int):Option (Out ((List Int)×Int) (aD)):=
 (bif decide (tE < (mi.length:Int)) then ((idx pJ (fc))>>=fun X7=>((idx mi (tE))>>=fun X8=>(bif (X7) != (X8) then ((fits 8 (gf.length+1))>>=fun aiy=>(some (Out.norm (gf++[(-1:Int)],ai (tE+(1:Int)))))) else (((bif decide (fc < (ic.aB.length:Int)) then (some (decide (tE < (ic.aB.length:Int)))) else (some (false))))>>=fun X9=>(bif X9 then ((idx ic.aC (fc))>>=fun Nc=>((idx Nc (tE))>>=fun Ya=>((fits 8 (gf.length+1))>>=fun aiz=>(some (Out.norm (gf++[Ya],ai (tE+(1:Int)))))))) else ((idx mi (fc))>>=fun Nd=>((idx pJ (tE))>>=fun Nf=>((fits 8 (gf.length+1))>>=fun aiA=>(some (Out.norm (gf++[ai (ai (ai ((ic.aB.length:Int)+ai (Nd * x1.aA))+Nf) - x0.aA)],ai (tE+(1:Int))))))))))))) else (some (Out.exit 6 (gf,tE))))
def dZ (x0:aD) (x1:aD) (ic:aD) (mi:(List Int)) (pJ:(List Int)) (da:(List (List Int))) (fc:Int):Option (Out ((List (List Int))×Int) (aD)):=
 (bif decide (fc < (mi.length:Int)) then (ah (ab 6 (aj (fun s=>dY x0 x1 ic mi pJ fc s.1 s.2) (([]:(List Int)),(0:Int)))) (fun (gf,tE)=>((fits 24 (da.length+1))>>=fun aiB=>(some (Out.norm (da++[gf],ai (fc+(1:Int)))))))) else (some (Out.exit 4 (da,fc))))
def fF (x0:aD) (x1:aD):Option (aD):=
 an (S:=Unit) ((fB x0 x1)>>=fun ic=>(ah (ab 0 (aj (fun s=>dX x0 x1 s.1 s.2.1 s.2.2) ((0:Int),ic.aB,ic.To))) (fun (bp,mi,pJ)=>(ah (ab 4 (aj (fun s=>dZ x0 x1 ic mi pJ s.1 s.2) (([]:(List (List Int))),(0:Int)))) (fun (da,fc)=>(some (Out.ret ((aD.mk ic.aA mi pJ ic.aF da)))))))))
def mQ (x0:aD) (ca:Int) (nv:(List Int)) (mz:Int):Option (Out ((List Int)×Int) (aD)):=
 (bif decide (mz < (x0.aB.length:Int)) then ((idx x0.aC (mz))>>=fun Yb=>((idx Yb (ca))>>=fun Yc=>((fits 8 (nv.length+1))>>=fun n187=>(some (Out.norm (nv++[Yc],ai (mz+(1:Int)))))))) else (some (Out.exit 2 (nv,mz))))
def mR (x0:aD) (ca:Int) (vJ:(List (List Int))):Option (Out (Int×(List (List Int))) (aD)):=
 (bif decide (ca < (x0.aB.length:Int)) then (ah (ab 2 (aj (fun s=>mQ x0 ca s.1 s.2) (([]:(List Int)),(0:Int)))) (fun (nv,mz)=>((fits 24 (vJ.length+1))>>=fun n222=>(some (Out.norm (ai (ca+(1:Int)),vJ++[nv])))))) else (some (Out.exit 0 (ca,vJ))))
def nA (x0:aD):Option (aD):=
 an (S:=Unit) ((cF x0.To)>>=fun ic=>((cF x0.aB)>>=fun FY=>((cF x0.aF)>>=fun zF=>(ah (ab 0 (aj (fun s=>mR x0 s.1 s.2) ((0:Int),([]:(List (List Int)))))) (fun (ca,vJ)=>(some (Out.ret ((aD.mk x0.aA ic FY zF vJ)))))))))
def kB (zG:Int×aM) (mz:(List Int)) (rj:Int):Option (Out ((List Int)×Int) (aD×aM)):=
 (bif decide (rj < ai ((1:Int)+zG.1)) then ((fits 8 (mz.length+1))>>=fun Yd=>(some (Out.norm (mz++[(1:Int)],ai (rj+(1:Int)))))) else (some (Out.exit 3 (mz,rj))))
def kC (zG:Int×aM) (ca:(List (List Int))) (bm:Int):Option (Out ((List (List Int))×Int) (aD×aM)):=
 (bif decide (bm < ai ((1:Int)+zG.1)) then (ah (ab 3 (aj (fun s=>kB zG s.1 s.2) (([]:(List Int)),(0:Int)))) (fun (mz,rj)=>((fits 24 (ca.length+1))>>=fun aiC=>(some (Out.norm (ca++[mz],ai (bm+(1:Int)))))))) else (some (Out.exit 1 (ca,bm))))
def kD (x0:aM) (yh:Int×aM) (da:(List Int)) (fc:(List Int)) (me:Int) (wF:Int) (wG:Int):Option (Out ((List Int)×(List Int)×Int×Int×Int) (aD×aM)):=
 (bif decide (me > (0:Int)) then ((bJ (aM.mk x0.Code wF wG) (ai (ai ((2:Int)+yh.1) - (1:Int))))>>=fun Cs=>((fits 8 (da.length+1))>>=fun ahc=>((bJ (aM.mk x0.Code Cs.2.At Cs.2.av) (ai (ai (ai ((2:Int)+yh.1) - (1:Int)) - Cs.1)))>>=fun I4=>((fits 8 (fc.length+1))>>=fun ahd=>(some (Out.norm (da++[Cs.1],fc++[ai (ai (Cs.1+(1:Int))+I4.1)],ai (me - (1:Int)),I4.2.At,I4.2.av))))))) else (some (Out.exit 5 (da,fc,me,wF,wG))))
def eW (x0:aM):Option (aD×aM):=
 an (S:=Unit) ((bJ x0 ((12:Int)))>>=fun dx=>(bif (dx.1) == ((0:Int)) then ((bJ (aM.mk x0.Code dx.2.At dx.2.av) ((5:Int)))>>=fun SU=>((fZ (aM.mk x0.Code SU.2.At SU.2.av) (SU.1))>>=fun zC=>((cN zC.1)>>=fun SR=>(some (Out.ret ((SR,(aM.mk x0.Code zC.2.At zC.2.av)))))))) else (bif (dx.1) == ((1:Int)) then ((cN [[(1:Int),(1:Int)],[(0:Int),(1:Int)]])>>=fun y85=>(some (Out.ret ((y85,(aM.mk x0.Code dx.2.At dx.2.av)))))) else (bif (dx.1) == ((2:Int)) then ((cN [[(1:Int),(1:Int),(1:Int)],[(0:Int),(1:Int),(0:Int)],[(0:Int),(0:Int),(1:Int)]])>>=fun FZ=>(some (Out.ret ((FZ,(aM.mk x0.Code dx.2.At dx.2.av)))))) else (bif (dx.1) == ((3:Int)) then ((dD ((2:Int)) [(0:Int),(0:Int)] [(1:Int),(1:Int)])>>=fun Ye=>(some (Out.ret ((Ye,(aM.mk x0.Code dx.2.At dx.2.av)))))) else (bif (dx.1) == ((4:Int)) then ((fX (aM.mk x0.Code dx.2.At dx.2.av))>>=fun yi=>((fY yi.1)>>=fun Yf=>(some (Out.ret ((Yf,(aM.mk x0.Code yi.2.At yi.2.av))))))) else (bif (dx.1) == ((5:Int)) then ((bJ (aM.mk x0.Code dx.2.At dx.2.av) ((3:Int)))>>=fun zG=>(ah (ab 1 (aj (fun s=>kC zG s.1 s.2) (([]:(List (List Int))),(0:Int)))) (fun (ca,bm)=>((cN ca)>>=fun Yg=>(some (Out.ret ((Yg,(aM.mk x0.Code zG.2.At zG.2.av))))))))) else (bif (dx.1) == ((6:Int)) then ((dD ((3:Int)) [(0:Int),(1:Int),(0:Int)] [(1:Int),(2:Int),(2:Int)])>>=fun Yh=>(some (Out.ret ((Yh,(aM.mk x0.Code dx.2.At dx.2.av)))))) else (bif (dx.1) == ((7:Int)) then ((kR)>>=fun Yi=>(some (Out.ret ((Yi,(aM.mk x0.Code dx.2.At dx.2.av)))))) else (bif (dx.1) == ((8:Int)) then ((fX (aM.mk x0.Code dx.2.At dx.2.av))>>=fun Ng=>((fY Ng.1)>>=fun Yj=>((cN [[(1:Int)]])>>=fun Yk=>((fF Yj Yk)>>=fun Yl=>((nA Yl)>>=fun Ym=>(some (Out.ret ((Ym,(aM.mk x0.Code Ng.2.At Ng.2.av)))))))))) else (bif (dx.1) == ((9:Int)) then ((fX (aM.mk x0.Code dx.2.At dx.2.av))>>=fun Nh=>((fY Nh.1)>>=fun Yn=>((cN [[(1:Int)]])>>=fun Yo=>((fF Yn Yo)>>=fun Yp=>(some (Out.ret ((Yp,(aM.mk x0.Code Nh.2.At Nh.2.av))))))))) else (bif (dx.1) == ((10:Int)) then ((bJ (aM.mk x0.Code dx.2.At dx.2.av) ((2:Int)))>>=fun I5=>((fZ (aM.mk x0.Code I5.2.At I5.2.av) (ai ((2:Int)+I5.1)))>>=fun I6=>((cN I6.1)>>=fun U9=>(some (Out.ret ((U9,(aM.mk x0.Code I6.2.At I6.2.av)))))))) else ((bJ (aM.mk x0.Code dx.2.At dx.2.av) ((2:Int)))>>=fun yh=>((bJ (aM.mk x0.Code yh.2.At yh.2.av) ((4:Int)))>>=fun I7=>(ah (ab 5 (aj (fun s=>kD x0 yh s.1 s.2.1 s.2.2.1 s.2.2.2.1 s.2.2.2.2) (([]:(List Int)),([]:(List Int)),I7.1,I7.2.At,I7.2.av))) (fun (da,fc,me,wF,wG)=>((dD (ai ((2:Int)+yh.1)) da fc)>>=fun Va=>(some (Out.ret ((Va,(aM.mk x0.Code wF wG))))))))))))))))))))))
def cU (x0:aD) (x1:aD) (gn:Int) (rS:Int) (vK:(List Int)):Option (Out (Int×(List Int)) (aD)):=
 (bif decide (rS < x1.aA) then ((idx x0.aF (gn))>>=fun Yq=>((idx x1.aF (rS))>>=fun Yr=>((fits 8 (vK.length+1))>>=fun n186=>(some (Out.norm (ai (rS+(1:Int)),vK++[ai (ai (Yq * (x1.aB.length:Int))+Yr)])))))) else (some (Out.exit 2 (rS,vK))))
def cV (x0:aD) (x1:aD) (gn:Int) (yj:(List Int)):Option (Out (Int×(List Int)) (aD)):=
 (bif decide (gn < x0.aA) then (ah (ab 2 (aj (fun s=>cU x0 x1 gn s.1 s.2) ((0:Int),yj))) (fun (rS,vK)=>(some (Out.norm (ai (gn+(1:Int)),vK))))) else (some (Out.exit 0 (gn,yj))))
def cW (x0:aD) (x1:aD) (fc:Int) (gf:Int) (qU:Int) (qi:(List Int)) (qD:Int):Option (Out ((List Int)×Int) (aD)):=
 (bif decide (qD < (x1.aB.length:Int)) then ((((idx x0.aC (fc))>>=fun Ys=>((idx Ys (qU))>>=fun Yt=>(bif decide (Yt ≥ (0:Int)) then ((idx x1.aC (gf))>>=fun Yu=>((idx Yu (qD))>>=fun Yv=>(some (decide (Yv ≥ (0:Int)))))) else (some (false))))))>>=fun Yw=>(bif Yw then ((idx x0.aC (fc))>>=fun Yx=>((idx Yx (qU))>>=fun Yy=>((idx x1.aC (gf))>>=fun Yz=>((idx Yz (qD))>>=fun YA=>((fits 8 (qi.length+1))>>=fun aiD=>(some (Out.norm (qi++[ai (ai (Yy * (x1.aB.length:Int))+YA)],ai (qD+(1:Int)))))))))) else ((fits 8 (qi.length+1))>>=fun aiE=>(some (Out.norm (qi++[(-1:Int)],ai (qD+(1:Int)))))))) else (some (Out.exit 10 (qi,qD))))
def cX (x0:aD) (x1:aD) (fc:Int) (gf:Int) (n4:(List Int)) (qU:Int):Option (Out ((List Int)×Int) (aD)):=
 (bif decide (qU < (x0.aB.length:Int)) then (ah (ab 10 (aj (fun s=>cW x0 x1 fc gf qU s.1 s.2) (n4,(0:Int)))) (fun (qi,qD)=>(some (Out.norm (qi,ai (qU+(1:Int))))))) else (some (Out.exit 8 (n4,qU))))
def cY (x0:aD) (x1:aD) (fc:Int) (gf:Int) (vL:(List Int)) (vM:(List Int)) (vN:(List (List Int))):Option (Out (Int×(List Int)×(List Int)×(List (List Int))) (aD)):=
 (bif decide (gf < (x1.aB.length:Int)) then ((idx x0.aB (fc))>>=fun YB=>((idx x1.aB (gf))>>=fun YC=>((fits 8 (vL.length+1))>>=fun n318=>((idx x0.To (fc))>>=fun YD=>((idx x1.To (gf))>>=fun MU=>((fits 8 (vM.length+1))>>=fun aiF=>(ah (ab 8 (aj (fun s=>cX x0 x1 fc gf s.1 s.2) (([]:(List Int)),(0:Int)))) (fun (n4,qU)=>((fits 24 (vN.length+1))>>=fun aiG=>(some (Out.norm (ai (gf+(1:Int)),vL++[ai (ai (YB * x1.aA)+YC)],vM++[ai (ai (YD * x1.aA)+MU)],vN++[n4])))))))))))) else (some (Out.exit 6 (gf,vL,vM,vN))))
def cZ (x0:aD) (x1:aD) (fc:Int) (yk:(List Int)) (ym:(List Int)) (yn:(List (List Int))):Option (Out (Int×(List Int)×(List Int)×(List (List Int))) (aD)):=
 (bif decide (fc < (x0.aB.length:Int)) then (ah (ab 6 (aj (fun s=>cY x0 x1 fc s.1 s.2.1 s.2.2.1 s.2.2.2) ((0:Int),yk,ym,yn))) (fun (gf,vL,vM,vN)=>(some (Out.norm (ai (fc+(1:Int)),vL,vM,vN))))) else (some (Out.exit 4 (fc,yk,ym,yn))))
def cS (x0:aD) (x1:aD):Option (aD):=
 an (S:=Unit) (ah (ab 0 (aj (fun s=>cV x0 x1 s.1 s.2) ((0:Int),([]:(List Int))))) (fun (gn,yj)=>(ah (ab 4 (aj (fun s=>cZ x0 x1 s.1 s.2.1 s.2.2.1 s.2.2.2) ((0:Int),([]:(List Int)),([]:(List Int)),([]:(List (List Int)))))) (fun (fc,yk,ym,yn)=>(some (Out.ret ((aD.mk (ai (x0.aA * x1.aA)) yk ym yj yn))))))))
def lP (x0:aM) (x1:Int) (x2:Int) (bp:Int) (nh:Int) (ni:Int):Option (Out (Int×Int×Int) (aD×aM)):=
 (bif decide (bp < (12:Int)) then ((eW (aM.mk x0.Code nh ni))>>=fun uy=>((bJ (aM.mk x0.Code uy.2.At uy.2.av) ((5:Int)))>>=fun KW=>(bif (KW.1) == ((0:Int)) then ((eW (aM.mk x0.Code KW.2.At KW.2.av))>>=fun SV=>((fB uy.1 SV.1)>>=fun F4=>((bJ (aM.mk x0.Code SV.2.At SV.2.av) ((8:Int)))>>=fun Bp=>(bif (Bp.1) == ((0:Int)) then ((eW (aM.mk x0.Code Bp.2.At Bp.2.av))>>=fun F5=>((cS F4 F5.1)>>=fun I8=>(((bif decide (I8.aA≤x1) then (bif decide ((I8.aB.length:Int)≤x2) then ((cI I8)>>=fun YE=>(some (YE))) else (some (false))) else (some (false))))>>=fun YF=>(bif YF then (some (Out.ret ((I8,(aM.mk x0.Code F5.2.At F5.2.av))))) else (some (Out.norm (ai (bp+(1:Int)),F5.2.At,F5.2.av))))))) else (((bif decide (F4.aA≤x1) then (bif decide ((F4.aB.length:Int)≤x2) then ((cI F4)>>=fun I9=>(some (I9))) else (some (false))) else (some (false))))>>=fun YG=>(bif YG then (some (Out.ret ((F4,(aM.mk x0.Code Bp.2.At Bp.2.av))))) else (some (Out.norm (ai (bp+(1:Int)),Bp.2.At,Bp.2.av))))))))) else ((bJ (aM.mk x0.Code KW.2.At KW.2.av) ((8:Int)))>>=fun Bq=>(bif (Bq.1) == ((0:Int)) then ((eW (aM.mk x0.Code Bq.2.At Bq.2.av))>>=fun F6=>((cS uy.1 F6.1)>>=fun Ja=>(((bif decide (Ja.aA≤x1) then (bif decide ((Ja.aB.length:Int)≤x2) then ((cI Ja)>>=fun YH=>(some (YH))) else (some (false))) else (some (false))))>>=fun YI=>(bif YI then (some (Out.ret ((Ja,(aM.mk x0.Code F6.2.At F6.2.av))))) else (some (Out.norm (ai (bp+(1:Int)),F6.2.At,F6.2.av))))))) else (((bif decide (uy.1.aA≤x1) then (bif decide ((uy.1.aB.length:Int)≤x2) then ((cI uy.1)>>=fun YJ=>(some (YJ))) else (some (false))) else (some (false))))>>=fun YK=>(bif YK then (some (Out.ret ((uy.1,(aM.mk x0.Code Bq.2.At Bq.2.av))))) else (some (Out.norm (ai (bp+(1:Int)),Bq.2.At,Bq.2.av)))))))))) else (some (Out.exit 0 (bp,nh,ni))))
def gD (x0:aM) (x1:Int) (x2:Int):Option (aD×aM):=
 an (S:=Unit) (ah (ab 0 (aj (fun s=>lP x0 x1 x2 s.1 s.2.1 s.2.2) ((0:Int),x0.At,x0.av))) (fun (bp,nh,ni)=>((cN [[(1:Int)]])>>=fun YL=>(some (Out.ret ((YL,(aM.mk x0.Code nh ni))))))))
def lQ (x0:aD) (x1:Int):Option (Bool):=
 an (S:=Unit) ((idx x0.aB (x1))>>=fun e8=>((idx x0.aF (e8))>>=fun KX=>(some (Out.ret (((KX) == (x1)))))))
def kE (x0:aD) (iq:(List Int)) (ca:Int):Option (Out ((List Int)×Int) ((List Int))):=
 (bif decide (ca < (x0.aB.length:Int)) then ((lQ x0 (ca))>>=fun ic=>(bif !(ic) then ((fits 8 (iq.length+1))>>=fun n45=>(some (Out.norm (iq++[ca],ai (ca+(1:Int)))))) else (some (Out.norm (iq,ai (ca+(1:Int))))))) else (some (Out.exit 0 (iq,ca))))
def jX (x0:aD):Option ((List Int)):=
 an (S:=Unit) (ah (ab 0 (aj (fun s=>kE x0 s.1 s.2) (([]:(List Int)),(0:Int)))) (fun (iq,ca)=>(some (Out.ret (iq)))))
def gN (x0:aD) (x1:aD):Option (Bool):=
 an (S:=Unit) ((jX x0)>>=fun ua=>(bif decide ((ua.length:Int)≤(8:Int)) then (some (Out.ret ((decide ((x1.aB.length:Int)≤(16:Int)))))) else (some (Out.ret (false)))))
def mJ (x0:aD) (x1:Int) (x2:Int) (bp:(List Int)) (gn:Int):Option (Out ((List Int)×Int) ((List Int))):=
 (bif decide (gn < (x0.aB.length:Int)) then ((((idx x0.aB (gn))>>=fun e27=>(bif (e27) == (x1) then ((idx x0.To (gn))>>=fun SX=>(some ((SX) == (x2)))) else (some (false)))))>>=fun g25=>(bif g25 then ((fits 8 (bp.length+1))>>=fun n50=>(some (Out.norm (bp++[gn],ai (gn+(1:Int)))))) else (some (Out.norm (bp,ai (gn+(1:Int))))))) else (some (Out.exit 0 (bp,gn))))
def kQ (x0:aD) (x1:Int) (x2:Int):Option ((List Int)):=
 an (S:=Unit) (ah (ab 0 (aj (fun s=>mJ x0 x1 x2 s.1 s.2) (([]:(List Int)),(0:Int)))) (fun (bp,gn)=>(some (Out.ret (bp)))))
def nC (x0:aD) (x1:aD) (x2:(List Int)) (bp:Int):Option (Out (Int) (Bool)):=
 (bif decide (bp < (x0.aB.length:Int)) then ((idx x0.aB (bp))>>=fun KY=>((idx x0.To (bp))>>=fun KZ=>(bif decide (KY < (x2.length:Int)) then (bif decide (KZ < (x2.length:Int)) then ((idx x2 (KY))>>=fun KQ=>((idx x2 (KZ))>>=fun e33=>((kQ x1 (KQ) (e33))>>=fun F7=>(bif ((F7.length:Int)) == ((0:Int)) then (some (Out.ret (false))) else (some (Out.norm (ai (bp+(1:Int))))))))) else (some (Out.norm (ai (bp+(1:Int)))))) else (some (Out.norm (ai (bp+(1:Int)))))))) else (some (Out.exit 0 (bp))))
def kS (x0:aD) (x1:aD) (x2:(List Int)):Option (Bool):=
 an (S:=Unit) (ah (ab 0 (aj (nC x0 x1 x2) ((0:Int)))) (fun bp=>(some (Out.ret (true)))))
def lB (x0:aD) (x1:aD) (dc:Int) (rT:Bool) (da:Int) (lq:(List Int)):Option (Out (Bool×Int×(List Int)) (Bool×(List Int))):=
 (bif decide (da < (lq.length:Int)) then ((idx x0.aC (dc))>>=fun K0=>((idx K0 (da))>>=fun AU=>(((bif decide (AU < (0:Int)) then (some (true)) else ((idx lq (dc))>>=fun e69=>(bif decide (e69 < (0:Int)) then (some (true)) else ((idx lq (da))>>=fun AW=>(some (decide (AW < (0:Int)))))))))>>=fun g66=>(bif g66 then (some (Out.norm (rT,ai (da+(1:Int)),lq))) else ((idx lq (dc))>>=fun HR=>((idx x1.aC (HR))>>=fun Cu=>((idx lq (da))>>=fun AV=>((idx Cu (AV))>>=fun Ww=>((((idx lq (AU))>>=fun SY=>(bif decide (SY ≥ (0:Int)) then ((idx lq (AU))>>=fun SZ=>(some ((SZ) != (Ww)))) else (some (false)))))>>=fun g94=>(bif g94 then (some (Out.ret ((false,lq)))) else (((bif rT then (some (true)) else ((idx lq (AU))>>=fun Bo=>(some (decide (Bo < (0:Int)))))))>>=fun YM=>((idx lq (AU))>>=fun YN=>(some (Out.norm (YM,ai (da+(1:Int)),lq.set (AU).toNat (Ww)))))))))))))))) else (some (Out.exit 4 (rT,da,lq))))
def lC (x0:aD) (x1:aD) (rj:Bool) (dc:Int) (xp:(List Int)):Option (Out (Bool×Int×(List Int)) (Bool×(List Int))):=
 (bif decide (dc < (xp.length:Int)) then (ah (ab 4 (aj (fun s=>lB x0 x1 dc s.1 s.2.1 s.2.2) (rj,(0:Int),xp))) (fun (rT,da,lq)=>(some (Out.norm (rT,ai (dc+(1:Int)),lq))))) else (some (Out.exit 2 (rj,dc,xp))))
def lD (x0:aD) (x1:aD) (bp:Bool) (Am:(List Int)):Option (Out (Bool×(List Int)) (Bool×(List Int))):=
 (bif bp then (ah (ab 2 (aj (fun s=>lC x0 x1 s.1 s.2.1 s.2.2) (false,(0:Int),Am))) (fun (rj,dc,xp)=>(some (Out.norm (rj,xp))))) else (some (Out.exit 0 (bp,Am))))
def kT (x0:aD) (x1:aD) (x2:(List Int)):Option (Bool×(List Int)):=
 an (S:=Unit) (ah (ab 0 (aj (fun s=>lD x0 x1 s.1 s.2) (true,x2))) (fun (bp,Am)=>(some (Out.ret ((true,Am))))))
def mY (x3:(List Int)) (ca:Int):Option (Out (Int) ((List (List Int)))):=
 (((bif decide (ca < (x3.length:Int)) then ((idx x3 (ca))>>=fun S0=>(some (decide (S0 ≥ (0:Int))))) else (some (false))))>>=fun g32=>(bif g32 then (some (Out.norm (ai (ca+(1:Int))))) else (some (Out.exit 0 (ca)))))
def kF (rc:aD→aD→(List Int)→(List Int)→Int→(List (List Int))→Option ((List (List Int)))) (x0:aD) (x1:aD) (x2:(List Int)) (x3:(List Int)) (ca:Int) (HS:(List Int)) (nv:(List (List Int))) (An:Int):Option (Out ((List (List Int))×Int) ((List (List Int)))):=
 (((bif decide (An < (HS.length:Int)) then (some (decide ((nv.length:Int)≤(200:Int)))) else (some (false))))>>=fun YO=>(bif YO then ((cF x3)>>=fun S3=>((idx HS (An))>>=fun YP=>((idx S3 (ca))>>=fun aiH=>((kT x0 x1 (S3.set (ca).toNat (YP)))>>=fun S4=>(bif S4.1 then ((rc x0 x1 x2 S4.2 (ai (ca+(1:Int))) nv)>>=fun YQ=>(some (Out.norm (YQ,ai (An+(1:Int)))))) else (some (Out.norm (nv,ai (An+(1:Int)))))))))) else (some (Out.exit 2 (nv,An)))))
def iO (rc:aD→aD→(List Int)→(List Int)→Int→(List (List Int))→Option ((List (List Int)))) (x0:aD) (x1:aD) (x2:(List Int)) (x3:(List Int)) (x4:Int) (x5:(List (List Int))):Option ((List (List Int))):=
 an (S:=Unit) (ah (ab 0 (aj (mY x3) (x4))) (fun ca=>(bif (ca) == ((x3.length:Int)) then ((cF x3)>>=fun S5=>((fits 24 (x5.length+1))>>=fun n70=>(some (Out.ret ((x5++[S5])))))) else ((idx x0.aB (ca))>>=fun e75=>((idx x2 (e75))>>=fun e77=>((idx x0.To (ca))>>=fun HR=>((idx x2 (HR))>>=fun Cu=>((kQ x1 (e77) (Cu))>>=fun HS=>(ah (ab 2 (aj (fun s=>kF rc x0 x1 x2 x3 ca HS s.1 s.2) (x5,(0:Int)))) (fun (nv,An)=>(some (Out.ret (nv)))))))))))))
def eX:Nat→aD→aD→(List Int)→(List Int)→Int→(List (List Int))→Option ((List (List Int)))
 | 0=>fun _ _ _ _ _ _=>none
 | n+1=>iO (eX n)
def fG (x0:aD) (x1:aD) (x2:(List Int)) (x3:(List Int)):Option (aN):=
 an (S:=Unit) ((gV x0)>>=fun ic=>((gV x1)>>=fun y60=>((cF x2)>>=fun YR=>((cF x3)>>=fun YS=>(some (Out.ret ((aN.mk ic y60 YR YS))))))))
def kG (x0:aD) (ep:(List Int)) (Ed:Int):Option (Out ((List Int)×Int) ((List aN))):=
 (bif decide (Ed < (x0.aB.length:Int)) then ((fits 8 (ep.length+1))>>=fun n78=>(some (Out.norm (ep++[(-1:Int)],ai (Ed+(1:Int)))))) else (some (Out.exit 0 (ep,Ed))))
def kH (x0:aD) (x1:aD) (x2:(List Int)) (Ao:Int) (zH:(List Int)):Option (Out (Int×(List Int)) ((List aN))):=
 (bif decide (Ao < (x2.length:Int)) then ((idx x0.aF (Ao))>>=fun S6=>((idx x2 (Ao))>>=fun Jb=>((idx x1.aF (Jb))>>=fun Ni=>((idx zH (S6))>>=fun Jc=>(some (Out.norm (ai (Ao+(1:Int)),zH.set (S6).toNat (Ni)))))))) else (some (Out.exit 2 (Ao,zH))))
def kI (x0:aD) (x1:aD) (x2:(List Int)) (Je:(List (List Int))) (C8:(List aN)) (Cv:Int):Option (Out ((List aN)×Int) ((List aN))):=
 (((bif decide (Cv < (Je.length:Int)) then (some (decide ((C8.length:Int)≤(200:Int)))) else (some (false))))>>=fun YT=>(bif YT then ((idx Je (Cv))>>=fun YU=>((fG x0 x1 x2 YU)>>=fun YV=>((fits 256 (C8.length+1))>>=fun n290=>(some (Out.norm (C8++[YV],ai (Cv+(1:Int)))))))) else (some (Out.exit 4 (C8,Cv)))))
def kJ (rc:aD→aD→(List Int)→(List aN)→Option ((List aN))) (x0:aD) (x1:aD) (x2:(List Int)) (F8:(List aN)) (Cw:Int):Option (Out ((List aN)×Int) ((List aN))):=
 (((bif decide (Cw < x1.aA) then (some (decide ((F8.length:Int)≤(200:Int)))) else (some (false))))>>=fun YW=>(bif YW then ((cF x2)>>=fun Br=>((fits 8 (Br.length+1))>>=fun n342=>((rc x0 x1 (Br++[Cw]) F8)>>=fun YX=>(some (Out.norm (YX,ai (Cw+(1:Int)))))))) else (some (Out.exit 6 (F8,Cw)))))
def iP (rc:aD→aD→(List Int)→(List aN)→Option ((List aN))) (x0:aD) (x1:aD) (x2:(List Int)) (x3:(List aN)):Option ((List aN)):=
 an (S:=Unit) ((kS x0 x1 x2)>>=fun wE=>(bif !(wE) then (some (Out.ret (x3))) else (bif ((x2.length:Int)) == (x0.aA) then (ah (ab 0 (aj (fun s=>kG x0 s.1 s.2) (([]:(List Int)),(0:Int)))) (fun (ep,Ed)=>(ah (ab 2 (aj (fun s=>kH x0 x1 x2 s.1 s.2) ((0:Int),ep))) (fun (Ao,zH)=>((eX 64 x0 x1 x2 zH ((0:Int)) (([]:(List (List Int)))))>>=fun Je=>(ah (ab 4 (aj (fun s=>kI x0 x1 x2 Je s.1 s.2) (x3,(0:Int)))) (fun (C8,Cv)=>(some (Out.ret (C8)))))))))) else (ah (ab 6 (aj (fun s=>kJ rc x0 x1 x2 s.1 s.2) (x3,(0:Int)))) (fun (F8,Cw)=>(some (Out.ret (F8))))))))
def eY:Nat→aD→aD→(List Int)→(List aN)→Option ((List aN))
 | 0=>fun _ _ _ _=>none
 | n+1=>iP (eY n)
def gX (x0:aD) (x1:aD):Option ((List aN)):=
 an (S:=Unit) ((eY 64 x0 x1 (([]:(List Int))) (([]:(List aN))))>>=fun sn=>(some (Out.ret (sn))))
def jB (x0:aD) (x2:Int) (bp:(List Int)) (ep:Int):Option (Out ((List Int)×Int) (aN)):=
 (bif decide (ep < x0.aA) then ((fits 8 (bp.length+1))>>=fun n81=>(some (Out.norm (bp++[x2],ai (ep+(1:Int)))))) else (some (Out.exit 0 (bp,ep))))
def jC (x0:aD) (x1:aD) (x2:Int) (dc:(List Int)) (eh:Int):Option (Out ((List Int)×Int) (aN)):=
 (bif decide (eh < (x0.aB.length:Int)) then ((idx x1.aF (x2))>>=fun YY=>((fits 8 (dc.length+1))>>=fun n131=>(some (Out.norm (dc++[YY],ai (eh+(1:Int))))))) else (some (Out.exit 2 (dc,eh))))
def gE (x0:aD) (x1:aD) (x2:Int):Option (aN):=
 an (S:=Unit) (ah (ab 0 (aj (fun s=>jB x0 x2 s.1 s.2) (([]:(List Int)),(0:Int)))) (fun (bp,ep)=>(ah (ab 2 (aj (fun s=>jC x0 x1 x2 s.1 s.2) (([]:(List Int)),(0:Int)))) (fun (dc,eh)=>((fG x0 x1 bp dc)>>=fun YZ=>(some (Out.ret (YZ))))))))
def lR (x0:aD) (iq:(List Int)) (bm:Int):Option (Out ((List Int)×Int) (aN)):=
 (bif decide (bm < x0.aA) then ((fits 8 (iq.length+1))>>=fun n65=>(some (Out.norm (iq++[bm],ai (bm+(1:Int)))))) else (some (Out.exit 0 (iq,bm))))
def lS (x0:aD) (F9:(List Int)) (mz:Int):Option (Out ((List Int)×Int) (aN)):=
 (bif decide (mz < (x0.aB.length:Int)) then ((fits 8 (F9.length+1))>>=fun n107=>(some (Out.norm (F9++[mz],ai (mz+(1:Int)))))) else (some (Out.exit 2 (F9,mz))))
def eA (x0:aD):Option (aN):=
 an (S:=Unit) (ah (ab 0 (aj (fun s=>lR x0 s.1 s.2) (([]:(List Int)),(0:Int)))) (fun (iq,bm)=>(ah (ab 2 (aj (fun s=>lS x0 s.1 s.2) (([]:(List Int)),(0:Int)))) (fun (F9,mz)=>((fG x0 x0 iq F9)>>=fun Y0=>(some (Out.ret (Y0))))))))
def iK (x0:aM) (x1:aD) (x2:Int) (x3:Int):Option (aN×aM):=
 an (S:=Unit) ((gD x0 (x2) (x3))>>=fun cu=>((gN x1 cu.1)>>=fun y77=>(bif y77 then ((gX x1 cu.1)>>=fun S7=>(bif decide ((S7.length:Int) > (0:Int)) then ((bJ (aM.mk x0.Code cu.2.At cu.2.av) ((S7.length:Int)))>>=fun zB=>((idx S7 (zB.1))>>=fun um=>(some (Out.ret ((um,(aM.mk x0.Code zB.2.At zB.2.av))))))) else (bif decide (cu.1.aA > (0:Int)) then ((bJ (aM.mk x0.Code cu.2.At cu.2.av) ((2:Int)))>>=fun Ga=>(bif (Ga.1) == ((0:Int)) then ((bJ (aM.mk x0.Code Ga.2.At Ga.2.av) (cu.1.aA))>>=fun FZ=>((gE x1 cu.1 (FZ.1))>>=fun Y1=>(some (Out.ret ((Y1,(aM.mk x0.Code FZ.2.At FZ.2.av))))))) else ((eA x1)>>=fun Y2=>(some (Out.ret ((Y2,(aM.mk x0.Code Ga.2.At Ga.2.av)))))))) else ((eA x1)>>=fun Y3=>(some (Out.ret ((Y3,(aM.mk x0.Code cu.2.At cu.2.av))))))))) else (bif decide (cu.1.aA > (0:Int)) then ((bJ (aM.mk x0.Code cu.2.At cu.2.av) ((2:Int)))>>=fun Gb=>(bif (Gb.1) == ((0:Int)) then ((bJ (aM.mk x0.Code Gb.2.At Gb.2.av) (cu.1.aA))>>=fun Nj=>((gE x1 cu.1 (Nj.1))>>=fun Y4=>(some (Out.ret ((Y4,(aM.mk x0.Code Nj.2.At Nj.2.av))))))) else ((eA x1)>>=fun Y5=>(some (Out.ret ((Y5,(aM.mk x0.Code Gb.2.At Gb.2.av)))))))) else ((eA x1)>>=fun Y6=>(some (Out.ret ((Y6,(aM.mk x0.Code cu.2.At cu.2.av))))))))))
def lT (x0:aM) (x1:(List Int)):Option (Int×aM):=
 an (S:=Unit) ((bJ x0 ((x1.length:Int)))>>=fun y6=>((idx x1 (y6.1))>>=fun KS=>(some (Out.ret ((KS,(aM.mk x0.Code y6.2.At y6.2.av)))))))
def lU (x0:aM) (x1:aD):Option (aD×aM):=
 an (S:=Unit) ((gV x1)>>=fun cu=>((bJ x0 ((cu.aB.length:Int)))>>=fun xq=>((bJ (aM.mk x0.Code xq.2.At xq.2.av) ((8:Int)))>>=fun lg=>(bif (lg.1) == ((0:Int)) then ((lT (aM.mk x0.Code lg.2.At lg.2.av) ([ai (cu.aA+(1:Int)),(-1:Int),(9:Int)]))>>=fun S8=>(some (Out.ret (((aD.mk S8.1 cu.aB cu.To cu.aF cu.aC),(aM.mk x0.Code S8.2.At S8.2.av)))))) else (bif (lg.1) == ((1:Int)) then ((fits 8 (cu.aB.length+1))>>=fun n120=>(some (Out.ret (((aD.mk cu.aA (cu.aB++[(0:Int)]) cu.To cu.aF cu.aC),(aM.mk x0.Code lg.2.At lg.2.av)))))) else (bif (lg.1) == ((2:Int)) then (bif decide ((cu.aF.length:Int) > (0:Int)) then ((bJ (aM.mk x0.Code lg.2.At lg.2.av) (ai ((cu.aB.length:Int)+(1:Int))))>>=fun Nl=>((idx cu.aF ((0:Int)))>>=fun aiI=>(some (Out.ret (((aD.mk cu.aA cu.aB cu.To (cu.aF.set ((0:Int)).toNat (Nl.1)) cu.aC),(aM.mk x0.Code Nl.2.At Nl.2.av))))))) else (some (Out.ret ((cu,(aM.mk x0.Code lg.2.At lg.2.av)))))) else (bif (lg.1) == ((3:Int)) then (bif decide ((cu.aB.length:Int) > (0:Int)) then ((idx cu.aC (xq.1))>>=fun S9=>((bJ (aM.mk x0.Code lg.2.At lg.2.av) ((cu.aB.length:Int)))>>=fun Jf=>((bJ (aM.mk x0.Code Jf.2.At Jf.2.av) (ai ((cu.aB.length:Int)+(1:Int))))>>=fun Nn=>((idx S9 (Jf.1))>>=fun aiJ=>(some (Out.ret (((aD.mk cu.aA cu.aB cu.To cu.aF (cu.aC.set (xq.1).toNat (S9.set (Jf.1).toNat (ai (Nn.1 - (1:Int)))))),(aM.mk x0.Code Nn.2.At Nn.2.av))))))))) else (some (Out.ret ((cu,(aM.mk x0.Code lg.2.At lg.2.av)))))) else (bif (lg.1) == ((4:Int)) then (bif decide ((cu.aB.length:Int) > (0:Int)) then ((idx cu.aC (xq.1))>>=fun Ta=>((bJ (aM.mk x0.Code lg.2.At lg.2.av) ((cu.aB.length:Int)))>>=fun Jg=>((bJ (aM.mk x0.Code Jg.2.At Jg.2.av) (ai ((cu.aB.length:Int)+(1:Int))))>>=fun No=>((idx Ta (Jg.1))>>=fun aiK=>(some (Out.ret (((aD.mk cu.aA cu.aB cu.To cu.aF (cu.aC.set (xq.1).toNat (Ta.set (Jg.1).toNat (ai (No.1 - (1:Int)))))),(aM.mk x0.Code No.2.At No.2.av))))))))) else (some (Out.ret ((cu,(aM.mk x0.Code lg.2.At lg.2.av)))))) else (bif (lg.1) == ((5:Int)) then (bif decide ((cu.aB.length:Int) > (0:Int)) then ((idx cu.aC (xq.1))>>=fun Tb=>((bJ (aM.mk x0.Code lg.2.At lg.2.av) ((cu.aB.length:Int)))>>=fun Jh=>((bJ (aM.mk x0.Code Jh.2.At Jh.2.av) (ai ((cu.aB.length:Int)+(1:Int))))>>=fun Np=>((idx Tb (Jh.1))>>=fun aiL=>(some (Out.ret (((aD.mk cu.aA cu.aB cu.To cu.aF (cu.aC.set (xq.1).toNat (Tb.set (Jh.1).toNat (ai (Np.1 - (1:Int)))))),(aM.mk x0.Code Np.2.At Np.2.av))))))))) else (some (Out.ret ((cu,(aM.mk x0.Code lg.2.At lg.2.av)))))) else (bif (lg.1) == ((6:Int)) then (bif decide ((cu.aB.length:Int) > (0:Int)) then ((bJ (aM.mk x0.Code lg.2.At lg.2.av) (ai (cu.aA+(1:Int))))>>=fun Nq=>((idx cu.To (xq.1))>>=fun SJ=>(some (Out.ret (((aD.mk cu.aA cu.aB (cu.To.set (xq.1).toNat (Nq.1)) cu.aF cu.aC),(aM.mk x0.Code Nq.2.At Nq.2.av))))))) else (some (Out.ret ((cu,(aM.mk x0.Code lg.2.At lg.2.av)))))) else (bif decide ((cu.aB.length:Int) > (0:Int)) then ((idx cu.aC (xq.1))>>=fun Y7=>((tl Y7 ((1:Int)))>>=fun Y8=>((idx cu.aC (xq.1))>>=fun aiM=>(some (Out.ret (((aD.mk cu.aA cu.aB cu.To cu.aF (cu.aC.set (xq.1).toNat Y8)),(aM.mk x0.Code lg.2.At lg.2.av)))))))) else (some (Out.ret ((cu,(aM.mk x0.Code lg.2.At lg.2.av))))))))))))))))
def gF (x0:aM):Option (aN×aM):=
 an (S:=Unit) ((gD x0 ((4:Int)) ((10:Int)))>>=fun dx=>((iK (aM.mk x0.Code dx.2.At dx.2.av) dx.1 ((4:Int)) ((12:Int)))>>=fun qP=>((bJ (aM.mk x0.Code qP.2.At qP.2.av) ((30:Int)))>>=fun tv=>(bif (tv.1) == ((0:Int)) then ((lU (aM.mk x0.Code tv.2.At tv.2.av) qP.1.aG)>>=fun Nr=>(some (Out.ret (((aN.mk Nr.1 qP.1.aH qP.1.aA qP.1.ae),(aM.mk x0.Code Nr.2.At Nr.2.av)))))) else (bif (tv.1) == ((1:Int)) then (bif decide ((qP.1.ae.length:Int) > (0:Int)) then ((bJ (aM.mk x0.Code tv.2.At tv.2.av) ((qP.1.ae.length:Int)))>>=fun Br=>((bJ (aM.mk x0.Code Br.2.At Br.2.av) (ai ((qP.1.aH.aB.length:Int)+(1:Int))))>>=fun tu=>((idx qP.1.ae (Br.1))>>=fun aiN=>(some (Out.ret (((aN.mk qP.1.aG qP.1.aH qP.1.aA (qP.1.ae.set (Br.1).toNat (tu.1))),(aM.mk x0.Code tu.2.At tu.2.av)))))))) else (some (Out.ret ((qP.1,(aM.mk x0.Code tv.2.At tv.2.av)))))) else (bif (tv.1) == ((2:Int)) then ((fits 8 (qP.1.aA.length+1))>>=fun Yd=>(some (Out.ret (((aN.mk qP.1.aG qP.1.aH (qP.1.aA++[(0:Int)]) qP.1.ae),(aM.mk x0.Code tv.2.At tv.2.av)))))) else (some (Out.ret ((qP.1,(aM.mk x0.Code tv.2.At tv.2.av)))))))))))
def fO (x0:(List Int)):Option (aN×aN):=
 an (S:=Unit) ((jK x0)>>=fun ua=>(match ua with | none=>none | some m23=>((gD (aM.mk x0 m23.At m23.av) ((3:Int)) ((8:Int)))>>=fun sn=>((iK (aM.mk x0 sn.2.At sn.2.av) sn.1 ((2:Int)) ((5:Int)))>>=fun zD=>((bJ (aM.mk x0 zD.2.At zD.2.av) ((12:Int)))>>=fun yi=>(bif (yi.1) == ((0:Int)) then ((gF (aM.mk x0 yi.2.At yi.2.av))>>=fun Y9=>(some (Out.ret ((zD.1,Y9.1))))) else ((iK (aM.mk x0 yi.2.At yi.2.av) zD.1.aG ((2:Int)) ((5:Int)))>>=fun Za=>(some (Out.ret ((zD.1,Za.1)))))))))))
def bB (x0:aD):Option (Int):=
 an (S:=Unit) (some (Out.ret (((x0.aB.length:Int)))))
def dG (x0:Int) (x1:Int) (x2:Int):Option (Bool):=
 an (S:=Unit) (((bif decide (x0 ≥ x1) then (some (decide (x0≤x2))) else (some (false))))>>=fun g3=>(some (Out.ret (g3))))
def fU (x0:(List Int)) (x1:Int) (ep:Int):Option (Out (Int) (Bool)):=
 (bif decide (ep < (x0.length:Int)) then ((idx x0 (ep))>>=fun e9=>((dG (e9) ((0:Int)) (ai (x1 - (1:Int))))>>=fun Gc=>(bif !(Gc) then (some (Out.ret (false))) else (some (Out.norm (ai (ep+(1:Int)))))))) else (some (Out.exit 0 (ep))))
def dC (x0:(List Int)) (x1:Int):Option (Bool):=
 an (S:=Unit) (ah (ab 0 (aj (fU x0 x1) ((0:Int)))) (fun ep=>(some (Out.ret (true)))))
def fH (x0:aD) (x1:Int):Option (pA):=
 an (S:=Unit) ((idx x0.aB (x1))>>=fun e8=>((idx x0.To (x1))>>=fun KX=>(some (Out.ret ((pA.mk e8 KX))))))
def eB (x0:aD) (yo:Int):Option (Out (Int) (Bool)):=
 (bif decide (yo < (x0.aF.length:Int)) then ((idx x0.aF (yo))>>=fun Ge=>((fH x0 (Ge))>>=fun DN=>(bif !((DN.aB) == (yo) && (DN.To) == (yo)) then (some (Out.ret (false))) else (some (Out.norm (ai (yo+(1:Int)))))))) else (some (Out.exit 0 (yo))))
def eC (x0:aD) (y3:Int) (sQ:Int) (K1:(List Int)) (ub:Int):Option (Out (Int) (Bool)):=
 (bif decide (ub < (K1.length:Int)) then ((idx K1 (ub))>>=fun Cu=>((idx x0.To (sQ))>>=fun Tc=>((idx x0.aB (ub))>>=fun Td=>(bif (Tc) != (Td) then (bif (Cu) != ((-1:Int)) then (some (Out.ret (false))) else (some (Out.norm (ai (ub+(1:Int)))))) else ((((dG (Cu) ((0:Int)) (ai (y3 - (1:Int))))>>=fun Zb=>(bif !(Zb) then (some (true)) else ((fH x0 (Cu))>>=fun Te=>((idx x0.aB (sQ))>>=fun Jc=>((idx x0.To (ub))>>=fun um=>(some (!((Te.aB) == (Jc) && (Te.To) == (um))))))))))>>=fun g99=>(bif g99 then (some (Out.ret (false))) else (some (Out.norm (ai (ub+(1:Int))))))))))) else (some (Out.exit 4 (ub))))
def gG (x0:aD) (y3:Int) (sQ:Int):Option (Out (Int) (Bool)):=
 (bif decide (sQ < (x0.aC.length:Int)) then ((idx x0.aC (sQ))>>=fun K1=>(bif ((K1.length:Int)) != (y3) then (some (Out.ret (false))) else (ah (ab 4 (aj (eC x0 y3 sQ K1) ((0:Int)))) (fun ub=>(some (Out.norm (ai (sQ+(1:Int))))))))) else (some (Out.exit 2 (sQ))))
def fP (x0:aD):Option (Bool):=
 an (S:=Unit) ((bB x0)>>=fun y3=>((((dG (x0.aA) ((0:Int)) ((8:Int)))>>=fun y9=>(bif !(y9) then (some (true)) else (bif decide (y3 > (40:Int)) then (some (true)) else (bif ((x0.To.length:Int)) != (y3) then (some (true)) else ((dC x0.aB (x0.aA))>>=fun Tf=>(bif !(Tf) then (some (true)) else ((dC x0.To (x0.aA))>>=fun K2=>(some (!(K2)))))))))))>>=fun g7=>(bif g7 then (some (Out.ret (false))) else (((bif ((x0.aF.length:Int)) != (x0.aA) then (some (true)) else ((dC x0.aF (y3))>>=fun wE=>(bif !(wE) then (some (true)) else (some (((x0.aC.length:Int)) != (y3)))))))>>=fun g24=>(bif g24 then (some (Out.ret (false))) else (ah (ab 0 (aj (eB x0) ((0:Int)))) (fun yo=>(ah (ab 2 (aj (gG x0 y3) ((0:Int)))) (fun sQ=>(some (Out.ret (true))))))))))))
def bR (x0:aD) (x1:Int) (x2:Int):Option (Int):=
 an (S:=Unit) ((idx x0.aC (x1))>>=fun e3=>((idx e3 (x2))>>=fun KX=>(some (Out.ret (KX)))))
def fC (x0:aD) (y3:Int) (bp:Int):Option (Out (Int) (Int×Int×Int×Int)):=
 (bif decide (bp < y3) then ((((idx x0.aB (bp))>>=fun Tg=>((idx x0.aF (Tg))>>=fun Th=>((bR x0 (Th) (bp))>>=fun Cy=>(bif (Cy) != (bp) then (some (true)) else ((idx x0.To (bp))>>=fun FN=>((idx x0.aF (FN))>>=fun Cz=>((bR x0 (bp) (Cz))>>=fun zC=>(some ((zC) != (bp)))))))))))>>=fun g13=>(bif g13 then (some (Out.ret ((((1:Int)),bp,((0:Int)),((0:Int)))))) else (some (Out.norm (ai (bp+(1:Int))))))) else (some (Out.exit 0 (bp))))
def dI (x0:aD) (y3:Int) (dc:Int) (da:Int) (e7:Int):Option (Out (Int) (Int×Int×Int×Int)):=
 (bif decide (e7 < y3) then ((((bR x0 (da) (e7))>>=fun y63=>(bif decide (y63 ≥ (0:Int)) then ((bR x0 (dc) (da))>>=fun y66=>((bR x0 (y66) (e7))>>=fun y68=>((bR x0 (da) (e7))>>=fun Ti=>((bR x0 (dc) (Ti))>>=fun HT=>(some ((y68) != (HT))))))) else (some (false)))))>>=fun g61=>(bif g61 then (some (Out.ret ((((2:Int)),dc,da,e7)))) else (some (Out.norm (ai (e7+(1:Int))))))) else (some (Out.exit 6 (e7))))
def dJ (x0:aD) (y3:Int) (dc:Int) (da:Int):Option (Out (Int) (Int×Int×Int×Int)):=
 (bif decide (da < y3) then ((bR x0 (dc) (da))>>=fun zF=>(bif decide (zF < (0:Int)) then (some (Out.norm (ai (da+(1:Int))))) else (ah (ab 6 (aj (dI x0 y3 dc da) ((0:Int)))) (fun e7=>(some (Out.norm (ai (da+(1:Int))))))))) else (some (Out.exit 4 (da))))
def gY (x0:aD) (y3:Int) (dc:Int):Option (Out (Int) (Int×Int×Int×Int)):=
 (bif decide (dc < y3) then (ah (ab 4 (aj (dJ x0 y3 dc) ((0:Int)))) (fun da=>(some (Out.norm (ai (dc+(1:Int))))))) else (some (Out.exit 2 (dc))))
def gL (x0:aD):Option (Int×Int×Int×Int):=
 an (S:=Unit) ((bB x0)>>=fun y3=>(ah (ab 0 (aj (fC x0 y3) ((0:Int)))) (fun bp=>(ah (ab 2 (aj (gY x0 y3) ((0:Int)))) (fun dc=>(some (Out.ret ((((0:Int)),((0:Int)),((0:Int)),((0:Int)))))))))))
def dA (x0:aD):Option (Bool):=
 an (S:=Unit) ((fP x0)>>=fun y3=>(bif !(y3) then (some (Out.ret (false))) else ((gL x0)>>=fun dx=>(some (Out.ret (((dx.1) == ((0:Int)))))))))
def fQ (x0:(List aD)) (bp:Int):Option (Out (Int) (Bool)):=
 (bif decide (bp < (x0.length:Int)) then ((idx x0 (bp))>>=fun e9=>((dA e9)>>=fun cu=>(bif !(cu) then (some (Out.ret (false))) else (some (Out.norm (ai (bp+(1:Int)))))))) else (some (Out.exit 0 (bp))))
def fI (x0:(List aD)):Option (Bool):=
 an (S:=Unit) (ah (ab 0 (aj (fQ x0) ((0:Int)))) (fun bp=>(some (Out.ret (true)))))
def iQ (x0:aN) (yp:Int):Option (Out (Int) (Bool)):=
 (bif decide (yp < (x0.ae.length:Int)) then ((idx x0.ae (yp))>>=fun KQ=>((((idx x0.aH.aB (KQ))>>=fun Tj=>((idx x0.aG.aB (yp))>>=fun K3=>((idx x0.aA (K3))>>=fun Ge=>(bif (Tj) != (Ge) then (some (true)) else ((idx x0.aH.To (KQ))>>=fun e44=>((idx x0.aG.To (yp))>>=fun KT=>((idx x0.aA (KT))>>=fun e48=>(some ((e44) != (e48)))))))))))>>=fun g35=>(bif g35 then (some (Out.ret (false))) else (some (Out.norm (ai (yp+(1:Int)))))))) else (some (Out.exit 0 (yp))))
def iR (x0:aN) (xr:Int):Option (Out (Int) (Bool)):=
 (bif decide (xr < (x0.aG.aF.length:Int)) then ((idx x0.aG.aF (xr))>>=fun e64=>((idx x0.ae (e64))>>=fun Tk=>((idx x0.aA (xr))>>=fun Tl=>((idx x0.aH.aF (Tl))>>=fun AW=>(bif (Tk) != (AW) then (some (Out.ret (false))) else (some (Out.norm (ai (xr+(1:Int)))))))))) else (some (Out.exit 2 (xr))))
def iS (x0:aN) (uc:Int) (AV:(List Int)) (xt:Int):Option (Out (Int) (Bool)):=
 (bif decide (xt < (AV.length:Int)) then ((idx AV (xt))>>=fun Ji=>(((bif decide (Ji ≥ (0:Int)) then ((idx x0.ae (Ji))>>=fun FP=>((idx x0.ae (uc))>>=fun Ns=>((idx x0.ae (xt))>>=fun Na=>((bR x0.aH (Ns) (Na))>>=fun Zd=>(some ((FP) != (Zd))))))) else (some (false))))>>=fun Ze=>(bif Ze then (some (Out.ret (false))) else (some (Out.norm (ai (xt+(1:Int)))))))) else (some (Out.exit 6 (xt))))
def iU (x0:aN) (uc:Int):Option (Out (Int) (Bool)):=
 (bif decide (uc < (x0.aG.aC.length:Int)) then ((idx x0.aG.aC (uc))>>=fun AV=>(ah (ab 6 (aj (iS x0 uc AV) ((0:Int)))) (fun xt=>(some (Out.norm (ai (uc+(1:Int)))))))) else (some (Out.exit 4 (uc))))
def iA (x0:aN):Option (Bool):=
 an (S:=Unit) (((bif ((x0.aA.length:Int)) != (x0.aG.aA) then (some (true)) else ((bB x0.aG)>>=fun dx=>(bif ((x0.ae.length:Int)) != (dx) then (some (true)) else ((dC x0.aA (x0.aH.aA))>>=fun Gc=>(bif !(Gc) then (some (true)) else ((bB x0.aH)>>=fun ua=>((dC x0.ae (ua))>>=fun uy=>(some (!(uy)))))))))))>>=fun g7=>(bif g7 then (some (Out.ret (false))) else (ah (ab 0 (aj (iQ x0) ((0:Int)))) (fun yp=>(ah (ab 2 (aj (iR x0) ((0:Int)))) (fun xr=>(ah (ab 4 (aj (iU x0) ((0:Int)))) (fun uc=>(some (Out.ret (true)))))))))))
def dK (x0:aN):Option (Bool):=
 an (S:=Unit) ((((fI [x0.aG,x0.aH])>>=fun Tf=>(bif Tf then ((iA x0)>>=fun K2=>(some (K2))) else (some (false)))))>>=fun g12=>(some (Out.ret (g12))))
def gM (x0:(List aN)) (bp:Int):Option (Out (Int) (Bool)):=
 (bif decide (bp < (x0.length:Int)) then ((idx x0 (bp))>>=fun e9=>((dK e9)>>=fun F7=>(bif !(F7) then (some (Out.ret (false))) else (some (Out.norm (ai (bp+(1:Int)))))))) else (some (Out.exit 0 (bp))))
def eZ (x0:(List aN)):Option (Bool):=
 an (S:=Unit) (ah (ab 0 (aj (gM x0) ((0:Int)))) (fun bp=>(some (Out.ret (true)))))
def eD (x0:(List Int)) (x1:(List Int)) (gn:Int):Option (Out (Int) (Int)):=
 (bif decide (gn < (x0.length:Int)) then (bif (gn) == ((x1.length:Int)) then (some (Out.ret (((1:Int))))) else ((idx x0 (gn))>>=fun Cr=>((idx x1 (gn))>>=fun FW=>(bif (Cr) != (FW) then ((idx x0 (gn))>>=fun KY=>((idx x1 (gn))>>=fun KZ=>(bif decide (KY < KZ) then (some (Out.ret (((-1:Int))))) else (some (Out.ret (((1:Int)))))))) else (some (Out.norm (ai (gn+(1:Int))))))))) else (some (Out.exit 0 (gn))))
def nD (x0:(List Int)) (x1:(List Int)):Option (Int):=
 an (S:=Unit) (ah (ab 0 (aj (eD x0 x1) ((0:Int)))) (fun gn=>(bif decide ((x0.length:Int) < (x1.length:Int)) then (some (Out.ret (((-1:Int))))) else (some (Out.ret (((0:Int))))))))
def jN (x0:(List Int)) (x1:(List Int)):Option (Bool):=
 an (S:=Unit) ((nD x0 x1)>>=fun y3=>(some (Out.ret (((y3) == ((0:Int)))))))
def fT (x0:aD) (x1:aD) (Ap:Int):Option (Out (Int) (Bool)):=
 (bif decide (Ap < (x0.aC.length:Int)) then ((idx x0.aC (Ap))>>=fun OV=>((idx x1.aC (Ap))>>=fun S0=>((jN OV S0)>>=fun qP=>(bif !(qP) then (some (Out.ret (false))) else (some (Out.norm (ai (Ap+(1:Int))))))))) else (some (Out.exit 0 (Ap))))
def eI (x0:aD) (x1:aD):Option (Bool):=
 an (S:=Unit) (((bif (x0.aA) != (x1.aA) then (some (true)) else ((jN x0.aB x1.aB)>>=fun y6=>(bif !(y6) then (some (true)) else ((jN x0.To x1.To)>>=fun y9=>(bif !(y9) then (some (true)) else ((jN x0.aF x1.aF)>>=fun K4=>(bif !(K4) then (some (true)) else (some (((x0.aC.length:Int)) != ((x1.aC.length:Int))))))))))))>>=fun g3=>(bif g3 then (some (Out.ret (false))) else (ah (ab 0 (aj (fT x0 x1) ((0:Int)))) (fun Ap=>(some (Out.ret (true)))))))
def iC (x0:Int) (x1:Int) (x2:aD) (x3:Int) (x4:aD):Option (Int):=
 an (S:=Unit) ((pO .quo .i64 (x0) (x3))>>=fun z3=>((pO .quo .i64 (x1) (x3))>>=fun z4=>((bR x2 (z3) (z4))>>=fun y5=>((pO .rem .i64 (x0) (x3))>>=fun z7=>((pO .rem .i64 (x1) (x3))>>=fun z8=>((bR x4 (z7) (z8))>>=fun y9=>(some (Out.ret ((ai (ai (y5 * x3)+y9)))))))))))
def dL (x0:aD) (x1:(Int→Int→Option (Int))) (j9:Int) (K0:(List Int)) (qV:Int) (vO:(List (List Int))):Option (Out (Int×(List (List Int))) (aD)):=
 (bif decide (qV < (K0.length:Int)) then ((idx vO (j9))>>=fun AW=>((idx AW (qV))>>=fun HR=>((idx x0.To (j9))>>=fun OT=>((idx x0.aB (qV))>>=fun Tn=>(bif (OT) == (Tn) then ((idx (vO.set (j9).toNat (AW.set (qV).toNat ((-1:Int)))) (j9))>>=fun Jb=>((x1 (j9) (qV))>>=fun Zf=>((idx Jb (qV))>>=fun YN=>(some (Out.norm (ai (qV+(1:Int)),(vO.set (j9).toNat (AW.set (qV).toNat ((-1:Int)))).set (j9).toNat (Jb.set (qV).toNat (Zf)))))))) else (some (Out.norm (ai (qV+(1:Int)),vO.set (j9).toNat (AW.set (qV).toNat ((-1:Int))))))))))) else (some (Out.exit 2 (qV,vO))))
def dM (x0:aD) (x1:(Int→Int→Option (Int))) (y7:Int) (n11:Nat) (j9:Int) (xu:(List (List Int))):Option (Out (Int×(List (List Int))) (aD)):=
 (bif decide (j9 < ((List.replicate n11 ([]:(List Int))).length:Int)) then ((mk 8 (y7))>>=fun n35=>((idx xu (j9))>>=fun Wx=>((idx (xu.set (j9).toNat (List.replicate n35 (0:Int))) (j9))>>=fun K0=>(ah (ab 2 (aj (fun s=>dL x0 x1 j9 K0 s.1 s.2) ((0:Int),xu.set (j9).toNat (List.replicate n35 (0:Int))))) (fun (qV,vO)=>(some (Out.norm (ai (j9+(1:Int)),vO)))))))) else (some (Out.exit 0 (j9,xu))))
def cQ (x0:aD) (x1:(Int→Int→Option (Int))):Option (aD):=
 ED (R:=(aD)) ((bB x0)>>=fun y7=>((mk 24 (y7))>>=fun n11=>(ah (ab 0 (aj (fun s=>dM x0 x1 y7 n11 s.1 s.2) ((0:Int),List.replicate n11 ([]:(List Int))))) (fun (j9,xu)=>(some (Out.norm ((aD.mk x0.aA x0.aB x0.To x0.aF xu))))))))
def gP (x0:aD) (x1:aD) (wH:Int) (Aq:Int) (kq:(List Int)) (mh:(List Int)):Option (Out (Int×(List Int)×(List Int)) (aD×Bool)):=
 (bif decide (Aq < (x1.aB.length:Int)) then ((idx x0.aB (wH))>>=fun Nu=>((idx x1.aB (Aq))>>=fun Nv=>((fits 8 (kq.length+1))>>=fun n164=>((idx x0.To (wH))>>=fun SG=>((idx x1.To (Aq))>>=fun Zg=>((fits 8 (mh.length+1))>>=fun n202=>(some (Out.norm (ai (Aq+(1:Int)),kq++[ai (ai (Nu * x1.aA)+Nv)],mh++[ai (ai (SG * x1.aA)+Zg)]))))))))) else (some (Out.exit 2 (Aq,kq,mh))))
def gO (x0:aD) (x1:aD) (wH:Int) (ik:(List Int)) (jq:(List Int)):Option (Out (Int×(List Int)×(List Int)) (aD×Bool)):=
 (bif decide (wH < (x0.aB.length:Int)) then (ah (ab 2 (aj (fun s=>gP x0 x1 wH s.1 s.2.1 s.2.2) ((0:Int),ik,jq))) (fun (Aq,kq,mh)=>(some (Out.norm (ai (wH+(1:Int)),kq,mh))))) else (some (Out.exit 0 (wH,ik,jq))))
def gR (x1:aD) (ic:Int) (Nw:Int) (zI:Int) (vP:(List Int)):Option (Out (Int×(List Int)) (aD×Bool)):=
 (bif decide (zI < (x1.aF.length:Int)) then ((idx x1.aF (zI))>>=fun Zh=>((fits 8 (vP.length+1))>>=fun n325=>(some (Out.norm (ai (zI+(1:Int)),vP++[ai (ai (Nw * ic)+Zh)]))))) else (some (Out.exit 6 (zI,vP))))
def gQ (x0:aD) (x1:aD) (ic:Int) (zJ:Int) (nt:(List Int)):Option (Out (Int×(List Int)) (aD×Bool)):=
 (bif decide (zJ < (x0.aF.length:Int)) then ((idx x0.aF (zJ))>>=fun Nw=>(ah (ab 6 (aj (fun s=>gR x1 ic Nw s.1 s.2) ((0:Int),nt))) (fun (zI,vP)=>(some (Out.norm (ai (zJ+(1:Int)),vP)))))) else (some (Out.exit 4 (zJ,nt))))
def jH (x0:aD) (x1:aD):Option (aD×Bool):=
 an (S:=Unit) ((bB x1)>>=fun ic=>(((bif decide (ai (x0.aA * x1.aA) > (8:Int)) then (some (true)) else ((bB x0)>>=fun S5=>(some (decide (ai (S5 * ic) > (40:Int)))))))>>=fun Tp=>(bif Tp then (some (Out.ret (((aD.mk ((0:Int)) ([]) ([]) ([]) ([])),false)))) else (ah (ab 0 (aj (fun s=>gO x0 x1 s.1 s.2.1 s.2.2) ((0:Int),[],[]))) (fun (wH,ik,jq)=>(ah (ab 4 (aj (fun s=>gQ x0 x1 ic s.1 s.2) ((0:Int),[]))) (fun (zJ,nt)=>((cQ (aD.mk (ai (x0.aA * x1.aA)) ik jq nt (([]:(List (List Int))))) (fun a0 a1=>iC (a0) (a1) x0 ic x1))>>=fun I9=>(some (Out.ret (((aD.mk I9.aA ik jq nt I9.aC),true))))))))))))
def cM (x0:(List Int)):Option ((List Int)):=
 an (S:=Unit) ((fits 8 ((([]:(List Int))).length+x0.length))>>=fun n15=>(some (Out.ret ((([]:(List Int))++x0)))))
def iL (x0:(List (List Int))) (iq:(List (List Int))) (CA:Int):Option (Out ((List (List Int))×Int) ((List (List Int)))):=
 (bif decide (CA < (x0.length:Int)) then ((idx x0 (CA))>>=fun K5=>((cM K5)>>=fun Tq=>((fits 24 (iq.length+1))>>=fun n53=>(some (Out.norm (iq++[Tq],ai (CA+(1:Int)))))))) else (some (Out.exit 0 (iq,CA))))
def mO (x0:(List (List Int))):Option ((List (List Int))):=
 an (S:=Unit) ((mk 24 ((x0.length:Int)))>>=fun n3=>(ah (ab 0 (aj (fun s=>iL x0 s.1 s.2) (([]:(List (List Int))),(0:Int)))) (fun (iq,CA)=>(some (Out.ret (iq))))))
def fJ (x0:aD):Option (aD):=
 an (S:=Unit) ((cM x0.aB)>>=fun y8=>((cM x0.To)>>=fun K2=>((cM x0.aF)>>=fun wE=>((mO x0.aC)>>=fun Tr=>(some (Out.ret ((aD.mk x0.aA y8 K2 wE Tr))))))))
def fK (x0:aD) (x1:aD) (x2:(List Int)) (x3:(List Int)):Option (aN):=
 an (S:=Unit) ((fJ x0)>>=fun y8=>((fJ x1)>>=fun F7=>((cM x2)>>=fun y78=>((cM x3)>>=fun KV=>(some (Out.ret ((aN.mk y8 F7 y78 KV))))))))
def dU (x1:aN) (Bt:(List Int)) (pS:Int) (uY:(List Int)):Option (Out (Int×(List Int)) (aN×Int)):=
 (bif decide (pS < (Bt.length:Int)) then ((idx uY (pS))>>=fun Zi=>((idx x1.aA (pS))>>=fun MW=>((idx uY (pS))>>=fun Zj=>(some (Out.norm (ai (pS+(1:Int)),uY.set (pS).toNat (ai (ai (Zi * x1.aH.aA)+MW)))))))) else (some (Out.exit 0 (pS,uY))))
def dV (x1:aN) (Jj:(List Int)) (qE:Int) (uZ:(List Int)):Option (Out (Int×(List Int)) (aN×Int)):=
 (bif decide (qE < (Jj.length:Int)) then ((idx uZ (qE))>>=fun Zk=>((bB x1.aH)>>=fun Zm=>((idx x1.ae (qE))>>=fun Nx=>((idx uZ (qE))>>=fun Ts=>(some (Out.norm (ai (qE+(1:Int)),uZ.set (qE).toNat (ai (ai (Zk * Zm)+Nx))))))))) else (some (Out.exit 2 (qE,uZ))))
def hY (x0:aN) (x1:aN):Option (aN×Int):=
 an (S:=Unit) ((eZ [x0,x1])>>=fun Gf=>(bif !(Gf) then (some (Out.ret (((aN.mk (aD.mk ((0:Int)) ([]) ([]) ([]) ([])) (aD.mk ((0:Int)) ([]) ([]) ([]) ([])) ([]) ([])),((1:Int)))))) else ((eI x0.aG x1.aG)>>=fun FX=>(bif !(FX) then (some (Out.ret (((aN.mk (aD.mk ((0:Int)) ([]) ([]) ([]) ([])) (aD.mk ((0:Int)) ([]) ([]) ([]) ([])) ([]) ([])),((5:Int)))))) else ((jH x0.aH x1.aH)>>=fun zF=>(bif !(zF.2) then (some (Out.ret (((aN.mk (aD.mk ((0:Int)) ([]) ([]) ([]) ([])) (aD.mk ((0:Int)) ([]) ([]) ([]) ([])) ([]) ([])),((3:Int)))))) else ((cM x0.aA)>>=fun Bt=>((cM x0.ae)>>=fun Jj=>(ah (ab 0 (aj (fun s=>dU x1 Bt s.1 s.2) ((0:Int),Bt))) (fun (pS,uY)=>(ah (ab 2 (aj (fun s=>dV x1 Jj s.1 s.2) ((0:Int),Jj))) (fun (qE,uZ)=>((fK x0.aG zF.1 uY uZ)>>=fun Zo=>(some (Out.ret ((Zo,((0:Int)))))))))))))))))))
def nB (x0:Int) (x1:Int) (x2:Int):Option (Bool):=
 an (S:=Unit) (((bif decide (x0 ≥ x1) then (some (decide (x0≤x2))) else (some (false))))>>=fun g3=>(some (Out.ret (g3))))
def jY (x0:Int) (x1:(List Int)) (bm:Int):Option (Out (Int) (Bool)):=
 (bif decide (bm < (x1.length:Int)) then ((((idx x1 (bm))>>=fun Tt=>(bif decide (Tt < (0:Int)) then (some (true)) else ((idx x1 (bm))>>=fun sP=>(some (decide (sP ≥ x0)))))))>>=fun g9=>(bif g9 then (some (Out.ret (false))) else (some (Out.norm (ai (bm+(1:Int))))))) else (some (Out.exit 0 (bm))))
def gZ (x0:Int) (x1:(List Int)):Option (Bool):=
 an (S:=Unit) (ah (ab 0 (aj (jY x0 x1) ((0:Int)))) (fun bm=>(some (Out.ret (true)))))
def jO (x0:(List Int)) (x1:Int) (x2:Int):Option (Bool):=
 an (S:=Unit) (((bif ((x0.length:Int)) == (x1) then ((gZ (x2) x0)>>=fun y6=>(some (y6))) else (some (false))))>>=fun g3=>(some (Out.ret (g3))))
def jE (x0:aD) (ca:Int):Option (Out (Int) (Bool)):=
 (bif decide (ca < x0.aA) then ((((idx x0.aF (ca))>>=fun Wx=>((idx x0.aB (Wx))>>=fun e47=>(bif (e47) != (ca) then (some (true)) else ((idx x0.aF (ca))>>=fun KU=>((idx x0.To (KU))>>=fun e52=>(some ((e52) != (ca)))))))))>>=fun Tp=>(bif Tp then (some (Out.ret (false))) else (some (Out.norm (ai (ca+(1:Int))))))) else (some (Out.exit 0 (ca))))
def jF (x0:aD) (nv:Int) (w5:Int):Option (Out (Int) (Bool)):=
 (bif decide (w5 < (x0.aB.length:Int)) then ((idx x0.aC (nv))>>=fun e86=>((idx e86 (w5))>>=fun Cq=>((idx x0.To (nv))>>=fun Tn=>((idx x0.aB (w5))>>=fun SZ=>(bif (Tn) != (SZ) then (bif (Cq) != ((-1:Int)) then (some (Out.ret (false))) else (some (Out.norm (ai (w5+(1:Int)))))) else (((bif decide (Cq < (0:Int)) then (some (true)) else (bif decide (Cq ≥ (x0.aB.length:Int)) then (some (true)) else ((idx x0.aB (Cq))>>=fun MY=>((idx x0.aB (nv))>>=fun Zp=>(bif (MY) != (Zp) then (some (true)) else ((idx x0.To (Cq))>>=fun Zq=>((idx x0.To (w5))>>=fun Zr=>(some ((Zq) != (Zr)))))))))))>>=fun Zs=>(bif Zs then (some (Out.ret (false))) else (some (Out.norm (ai (w5+(1:Int)))))))))))) else (some (Out.exit 4 (w5))))
def lV (x0:aD) (nv:Int):Option (Out (Int) (Bool)):=
 (bif decide (nv < (x0.aB.length:Int)) then ((idx x0.aC (nv))>>=fun Tk=>(bif ((Tk.length:Int)) != ((x0.aB.length:Int)) then (some (Out.ret (false))) else (ah (ab 4 (aj (jF x0 nv) ((0:Int)))) (fun w5=>(some (Out.norm (ai (nv+(1:Int))))))))) else (some (Out.exit 2 (nv))))
def lW (x0:aD):Option (Bool):=
 an (S:=Unit) ((((nB (x0.aA) ((0:Int)) ((8:Int)))>>=fun K4=>(bif !(K4) then (some (true)) else (bif decide ((x0.aB.length:Int) > (40:Int)) then (some (true)) else ((jO x0.aB ((x0.aB.length:Int)) (x0.aA))>>=fun ua=>(bif !(ua) then (some (true)) else ((jO x0.To ((x0.aB.length:Int)) (x0.aA))>>=fun Cy=>(bif !(Cy) then (some (true)) else (some (((x0.aC.length:Int)) != ((x0.aB.length:Int))))))))))))>>=fun g10=>(bif g10 then (some (Out.ret (false))) else (((bif ((x0.aF.length:Int)) != (x0.aA) then (some (true)) else ((gZ ((x0.aB.length:Int)) x0.aF)>>=fun Gf=>(some (!(Gf))))))>>=fun g27=>(bif g27 then (some (Out.ret (false))) else (ah (ab 0 (aj (jE x0) ((0:Int)))) (fun ca=>(ah (ab 2 (aj (lV x0) ((0:Int)))) (fun nv=>(some (Out.ret (true)))))))))))
def iV (x0:aD) (bp:Int):Option (Out (Int) (Int×Int×Int×Int)):=
 (bif decide (bp < (x0.aB.length:Int)) then ((((idx x0.aB (bp))>>=fun FW=>((idx x0.aF (FW))>>=fun K5=>((idx x0.aC (K5))>>=fun FN=>((idx FN (bp))>>=fun e29=>(bif (e29) != (bp) then (some (true)) else ((idx x0.aC (bp))>>=fun OX=>((idx x0.To (bp))>>=fun K3=>((idx x0.aF (K3))>>=fun Ge=>((idx OX (Ge))>>=fun e43=>(some ((e43) != (bp)))))))))))))>>=fun g16=>(bif g16 then (some (Out.ret ((((1:Int)),bp,((0:Int)),((0:Int)))))) else (some (Out.norm (ai (bp+(1:Int))))))) else (some (Out.exit 0 (bp))))
def gH (x0:aD) (dc:Int) (da:Int) (e7:Int):Option (Out (Int) (Int×Int×Int×Int)):=
 (bif decide (e7 < (x0.aB.length:Int)) then ((((idx x0.To (da))>>=fun e82=>((idx x0.aB (e7))>>=fun e84=>(bif (e82) == (e84) then ((idx x0.aC (dc))>>=fun Td=>((idx Td (da))>>=fun e94=>((idx x0.aC (e94))>>=fun SY=>((idx SY (e7))>>=fun Ji=>((idx x0.aC (dc))>>=fun Zt=>((idx x0.aC (da))>>=fun Ns=>((idx Ns (e7))>>=fun Zu=>((idx Zt (Zu))>>=fun Jk=>(some ((Ji) != (Jk))))))))))) else (some (false))))))>>=fun g80=>(bif g80 then (some (Out.ret ((((2:Int)),dc,da,e7)))) else (some (Out.norm (ai (e7+(1:Int))))))) else (some (Out.exit 6 (e7))))
def gI (x0:aD) (dc:Int) (da:Int):Option (Out (Int) (Int×Int×Int×Int)):=
 (bif decide (da < (x0.aB.length:Int)) then ((idx x0.To (dc))>>=fun Tu=>((idx x0.aB (da))>>=fun e67=>(bif (Tu) != (e67) then (some (Out.norm (ai (da+(1:Int))))) else (ah (ab 6 (aj (gH x0 dc da) ((0:Int)))) (fun e7=>(some (Out.norm (ai (da+(1:Int)))))))))) else (some (Out.exit 4 (da))))
def lE (x0:aD) (dc:Int):Option (Out (Int) (Int×Int×Int×Int)):=
 (bif decide (dc < (x0.aB.length:Int)) then (ah (ab 4 (aj (gI x0 dc) ((0:Int)))) (fun da=>(some (Out.norm (ai (dc+(1:Int))))))) else (some (Out.exit 2 (dc))))
def kU (x0:aD):Option (Int×Int×Int×Int):=
 an (S:=Unit) (ah (ab 0 (aj (iV x0) ((0:Int)))) (fun bp=>(ah (ab 2 (aj (lE x0) ((0:Int)))) (fun dc=>(some (Out.ret ((((0:Int)),((0:Int)),((0:Int)),((0:Int))))))))))
def jZ (x0:aD):Option (Bool):=
 an (S:=Unit) ((lW x0)>>=fun y8=>(bif !(y8) then (some (Out.ret (false))) else ((kU x0)>>=fun y15=>(some (Out.ret (((y15.1) == ((0:Int)))))))))
def mS (x0:aN) (bm:Int):Option (Out (Int) (Bool)):=
 (bif decide (bm < (x0.aG.aB.length:Int)) then ((((idx x0.ae (bm))>>=fun Tl=>((idx x0.aH.aB (Tl))>>=fun AW=>((idx x0.aG.aB (bm))>>=fun e74=>((idx x0.aA (e74))>>=fun e76=>(bif (AW) != (e76) then (some (true)) else ((idx x0.ae (bm))>>=fun HR=>((idx x0.aH.To (HR))>>=fun Cu=>((idx x0.aG.To (bm))>>=fun e83=>((idx x0.aA (e83))>>=fun Tc=>(some ((Cu) != (Tc)))))))))))))>>=fun g68=>(bif g68 then (some (Out.ret (false))) else (some (Out.norm (ai (bm+(1:Int))))))) else (some (Out.exit 0 (bm))))
def mT (x0:aN) (mz:Int):Option (Out (Int) (Bool)):=
 (bif decide (mz < x0.aG.aA) then ((idx x0.aG.aF (mz))>>=fun Ni=>((idx x0.ae (Ni))>>=fun Jc=>((idx x0.aA (mz))>>=fun um=>((idx x0.aH.aF (um))>>=fun FP=>(bif (Jc) != (FP) then (some (Out.ret (false))) else (some (Out.norm (ai (mz+(1:Int)))))))))) else (some (Out.exit 2 (mz))))
def mU (x0:aN) (rT:Int) (Bv:Int):Option (Out (Int) (Bool)):=
 (bif decide (Bv < (x0.aG.aB.length:Int)) then ((((idx x0.aG.To (rT))>>=fun Nu=>((idx x0.aG.aB (Bv))>>=fun Nv=>(bif (Nu) == (Nv) then ((idx x0.aG.aC (rT))>>=fun Tv=>((idx Tv (Bv))>>=fun Zv=>((idx x0.ae (Zv))>>=fun Zw=>((idx x0.ae (rT))>>=fun MR=>((idx x0.aH.aC (MR))>>=fun Zx=>((idx x0.ae (Bv))>>=fun Zy=>((idx Zx (Zy))>>=fun Zz=>(some ((Zw) != (Zz)))))))))) else (some (false))))))>>=fun ZA=>(bif ZA then (some (Out.ret (false))) else (some (Out.norm (ai (Bv+(1:Int))))))) else (some (Out.exit 6 (Bv))))
def mV (x0:aN) (rT:Int):Option (Out (Int) (Bool)):=
 (bif decide (rT < (x0.aG.aB.length:Int)) then (ah (ab 6 (aj (mU x0 rT) ((0:Int)))) (fun Bv=>(some (Out.norm (ai (rT+(1:Int))))))) else (some (Out.exit 4 (rT))))
def lX (x0:aN):Option (Bool):=
 an (S:=Unit) ((((jZ x0.aG)>>=fun F7=>(bif !(F7) then (some (true)) else ((jZ x0.aH)>>=fun Tr=>(bif !(Tr) then (some (true)) else (bif ((x0.aA.length:Int)) != (x0.aG.aA) then (some (true)) else (some (((x0.ae.length:Int)) != ((x0.aG.aB.length:Int))))))))))>>=fun g33=>(bif g33 then (some (Out.ret (false))) else ((((gZ (x0.aH.aA) x0.aA)>>=fun SS=>(bif !(SS) then (some (true)) else ((gZ ((x0.aH.aB.length:Int)) x0.ae)>>=fun y52=>(some (!(y52)))))))>>=fun g47=>(bif g47 then (some (Out.ret (false))) else (ah (ab 0 (aj (mS x0) ((0:Int)))) (fun bm=>(ah (ab 2 (aj (mT x0) ((0:Int)))) (fun mz=>(ah (ab 4 (aj (mV x0) ((0:Int)))) (fun rT=>(some (Out.ret (true)))))))))))))
def kO (x0:aN) (x1:aN):Option (Int):=
 an (S:=Unit) ((((lX x0)>>=fun uy=>(bif !(uy) then (some (true)) else ((lX x1)>>=fun Tw=>(some (!(Tw)))))))>>=fun g16=>(bif g16 then (some (Out.ret (((1:Int))))) else (some (Out.ret (((0:Int)))))))
def oD (x0:(List (List Int))) (x1:(List (List Int))) (bm:Int):Option (Out (Int) (Bool)):=
 (bif decide (bm < (x0.length:Int)) then ((idx x0 (bm))>>=fun sP=>((idx x1 (bm))>>=fun ux=>((cT sP ux)>>=fun CB=>(bif !(CB) then (some (Out.ret (false))) else (some (Out.norm (ai (bm+(1:Int))))))))) else (some (Out.exit 0 (bm))))
def mW (x0:(List (List Int))) (x1:(List (List Int))):Option (Bool):=
 an (S:=Unit) (bif ((x0.length:Int)) != ((x1.length:Int)) then (some (Out.ret (false))) else (ah (ab 0 (aj (oD x0 x1) ((0:Int)))) (fun bm=>(some (Out.ret (true))))))
def jP (x0:aD) (x1:aD):Option (Bool):=
 an (S:=Unit) (((bif (x0.aA) == (x1.aA) then ((cT x0.aB x1.aB)>>=fun Cy=>(bif Cy then ((cT x0.To x1.To)>>=fun DO=>(bif DO then ((cT x0.aF x1.aF)>>=fun ic=>(bif ic then ((mW x0.aC x1.aC)>>=fun CB=>(some (CB))) else (some (false)))) else (some (false)))) else (some (false)))) else (some (false))))>>=fun g16=>(some (Out.ret (g16))))
def iE (x0:(List Int)) (x1:(List Int)) (x2:Int) (bp:(List Int)) (gn:Int):Option (Out ((List Int)×Int) ((List Int))):=
 (bif decide (gn < (x0.length:Int)) then ((idx x0 (gn))>>=fun FW=>((idx x1 (gn))>>=fun K5=>((fits 8 (bp.length+1))>>=fun n36=>(some (Out.norm (bp++[ai (ai (FW * x2)+K5)],ai (gn+(1:Int)))))))) else (some (Out.exit 0 (bp,gn))))
def kP (x0:(List Int)) (x1:(List Int)) (x2:Int):Option ((List Int)):=
 an (S:=Unit) (ah (ab 0 (aj (fun s=>iE x0 x1 x2 s.1 s.2) (([]:(List Int)),(0:Int)))) (fun (bp,gn)=>(some (Out.ret (bp)))))
def hJ (x0:aN) (x1:aN):Option (aN×Int):=
 an (S:=Unit) ((kO x0 x1)>>=fun ic=>(bif (ic) != ((0:Int)) then (some (Out.ret (((aN.mk (aD.mk ((0:Int)) ([]) ([]) ([]) ([])) (aD.mk ((0:Int)) ([]) ([]) ([]) ([])) ([]) ([])),ic)))) else ((jP x0.aG x1.aG)>>=fun FY=>(bif !(FY) then (some (Out.ret (((aN.mk (aD.mk ((0:Int)) ([]) ([]) ([]) ([])) (aD.mk ((0:Int)) ([]) ([]) ([]) ([])) ([]) ([])),((5:Int)))))) else ((cS x0.aH x1.aH)>>=fun DN=>((cI DN)>>=fun Tx=>(bif !(Tx) then (some (Out.ret (((aN.mk (aD.mk ((0:Int)) ([]) ([]) ([]) ([])) (aD.mk ((0:Int)) ([]) ([]) ([]) ([])) ([]) ([])),((3:Int)))))) else ((kP x0.aA x1.aA (x1.aH.aA))>>=fun Jl=>((kP x0.ae x1.ae ((x1.aH.aB.length:Int)))>>=fun ZB=>((fG x0.aG DN Jl ZB)>>=fun Jm=>(some (Out.ret ((Jm,((0:Int))))))))))))))))
def oE (x0:(List Int)) (x1:(List Int)) (bm:Int):Option (Out (Int) (Bool)):=
 (bif decide (bm < (x0.length:Int)) then ((idx x0 (bm))>>=fun sP=>((idx x1 (bm))>>=fun Cr=>(bif (sP) != (Cr) then (some (Out.ret (false))) else (some (Out.norm (ai (bm+(1:Int)))))))) else (some (Out.exit 0 (bm))))
def dE (x0:(List Int)) (x1:(List Int)):Option (Bool):=
 an (S:=Unit) (bif ((x0.length:Int)) != ((x1.length:Int)) then (some (Out.ret (false))) else (ah (ab 0 (aj (oE x0 x1) ((0:Int)))) (fun bm=>(some (Out.ret (true))))))
def kK (x0:(List (List Int))) (x1:(List (List Int))) (bm:Int):Option (Out (Int) (Bool)):=
 (bif decide (bm < (x0.length:Int)) then ((idx x0 (bm))>>=fun sP=>((idx x1 (bm))>>=fun ux=>((dE sP ux)>>=fun CB=>(bif !(CB) then (some (Out.ret (false))) else (some (Out.norm (ai (bm+(1:Int))))))))) else (some (Out.exit 0 (bm))))
def kA (x0:(List (List Int))) (x1:(List (List Int))):Option (Bool):=
 an (S:=Unit) (bif ((x0.length:Int)) != ((x1.length:Int)) then (some (Out.ret (false))) else (ah (ab 0 (aj (kK x0 x1) ((0:Int)))) (fun bm=>(some (Out.ret (true))))))
def eE (x0:aD) (x1:aD):Option (Bool):=
 an (S:=Unit) (((bif (x0.aA) == (x1.aA) then ((dE x0.aB x1.aB)>>=fun Cy=>(bif Cy then ((dE x0.To x1.To)>>=fun DO=>(bif DO then ((dE x0.aF x1.aF)>>=fun ic=>(bif ic then ((kA x0.aC x1.aC)>>=fun CB=>(some (CB))) else (some (false)))) else (some (false)))) else (some (false)))) else (some (false))))>>=fun g16=>(some (Out.ret (g16))))
def dB (x0:aN) (x1:aN):Option (Bool):=
 an (S:=Unit) ((((eE x0.aG x1.aG)>>=fun uy=>(bif uy then ((eE x0.aH x1.aH)>>=fun Tw=>(bif Tw then ((dE x0.aA x1.aA)>>=fun y24=>(bif y24 then ((dE x0.ae x1.ae)>>=fun wE=>(some (wE))) else (some (false)))) else (some (false)))) else (some (false)))))>>=fun g16=>(some (Out.ret (g16))))
def gU (n3:Nat) (ep:Int) (sR:(List Int)):Option (Out (Int×(List Int)) ((List Int))):=
 (bif decide (ep < ((List.replicate n3 (0:Int)).length:Int)) then ((idx sR (ep))>>=fun OU=>(some (Out.norm (ai (ep+(1:Int)),sR.set (ep).toNat (ep))))) else (some (Out.exit 0 (ep,sR))))
def jQ (x0:Int):Option ((List Int)):=
 an (S:=Unit) ((mk 8 (x0))>>=fun n3=>(ah (ab 0 (aj (fun s=>gU n3 s.1 s.2) ((0:Int),List.replicate n3 (0:Int)))) (fun (ep,sR)=>(some (Out.ret (sR))))))
def fD (x1:aD) (x3:(Int→Int→Option (Int))) (HT:(List Int)) (pS:Int) (zK:(List Int)):Option (Out (Int×(List Int)) (aN×Int)):=
 (bif decide (pS < (HT.length:Int)) then ((x3 (pS) (x1.aA))>>=fun Jn=>((idx zK (pS))>>=fun Tv=>(some (Out.norm (ai (pS+(1:Int)),zK.set (pS).toNat (Jn)))))) else (some (Out.exit 0 (pS,zK))))
def fE (x1:aD) (x3:(Int→Int→Option (Int))) (OY:(List Int)) (yq:Int) (zL:(List Int)):Option (Out (Int×(List Int)) (aN×Int)):=
 (bif decide (yq < (OY.length:Int)) then ((bB x1)>>=fun ZC=>((x3 (yq) (ZC))>>=fun ZD=>((idx zL (yq))>>=fun Zj=>(some (Out.norm (ai (yq+(1:Int)),zL.set (yq).toNat (ZD))))))) else (some (Out.exit 2 (yq,zL))))
def fL (x0:aD) (x1:aD) (x2:aD) (x3:(Int→Int→Option (Int))):Option (aN×Int):=
 an (S:=Unit) ((fI [x0,x1])>>=fun Gc=>(bif !(Gc) then (some (Out.ret (((aN.mk (aD.mk ((0:Int)) ([]) ([]) ([]) ([])) (aD.mk ((0:Int)) ([]) ([]) ([]) ([])) ([]) ([])),((1:Int)))))) else ((jH x0 x1)>>=fun DO=>(bif !(DO.2) then (some (Out.ret (((aN.mk (aD.mk ((0:Int)) ([]) ([]) ([]) ([])) (aD.mk ((0:Int)) ([]) ([]) ([]) ([])) ([]) ([])),((3:Int)))))) else ((jQ (DO.1.aA))>>=fun HT=>((bB DO.1)>>=fun HS=>((jQ (HS))>>=fun OY=>(ah (ab 0 (aj (fun s=>fD x1 x3 HT s.1 s.2) ((0:Int),HT))) (fun (pS,zK)=>(ah (ab 2 (aj (fun s=>fE x1 x3 OY s.1 s.2) ((0:Int),OY))) (fun (yq,zL)=>((fK DO.1 x2 zK zL)>>=fun ZE=>(some (Out.ret ((ZE,((0:Int))))))))))))))))))
def fA (x0:Int) (x1:Int):Option (Int):=
 an (S:=Unit) ((pO .quo .i64 (x0) (x1))>>=fun z3=>(some (Out.ret (z3))))
def fS (x0:aD) (x1:aD):Option (aN×Int):=
 an (S:=Unit) ((fL x0 x1 x0 (fun a0 a1=>fA (a0) (a1)))>>=fun ic=>(some (Out.ret ((ic.1,ic.2)))))
def eK (x0:Int) (x1:Int):Option (Int):=
 an (S:=Unit) ((pO .rem .i64 (x0) (x1))>>=fun z3=>(some (Out.ret (z3))))
def fM (x0:aD) (x1:aD):Option (aN×Int):=
 an (S:=Unit) ((fL x0 x1 x1 (fun a0 a1=>eK (a0) (a1)))>>=fun ic=>(some (Out.ret ((ic.1,ic.2)))))
def jR (x0:(List Int)) (x1:(List Int)) (qW:Int) (sR:(List Int)):Option (Out (Int×(List Int)) ((List Int))):=
 (bif decide (qW < (x0.length:Int)) then ((idx x0 (qW))>>=fun Th=>((idx x1 (Th))>>=fun ux=>((idx sR (qW))>>=fun KY=>(some (Out.norm (ai (qW+(1:Int)),sR.set (qW).toNat (ux))))))) else (some (Out.exit 0 (qW,sR))))
def mP (x0:(List Int)) (x1:(List Int)):Option ((List Int)):=
 an (S:=Unit) ((mk 8 ((x0.length:Int)))>>=fun n3=>(ah (ab 0 (aj (fun s=>jR x0 x1 s.1 s.2) ((0:Int),List.replicate n3 (0:Int)))) (fun (qW,sR)=>(some (Out.ret (sR))))))
def iB (x0:aN) (x1:aN):Option (aN):=
 an (S:=Unit) ((mP x0.aA x1.aA)>>=fun dx=>((mP x0.ae x1.ae)>>=fun Cy=>((fK x0.aG x1.aH dx Cy)>>=fun Tq=>(some (Out.ret (Tq))))))
def eH (x0:aN) (x1:aN):Option (aN×Int):=
 an (S:=Unit) ((eZ [x0,x1])>>=fun Gf=>(bif !(Gf) then (some (Out.ret (((aN.mk (aD.mk ((0:Int)) ([]) ([]) ([]) ([])) (aD.mk ((0:Int)) ([]) ([]) ([]) ([])) ([]) ([])),((1:Int)))))) else ((eI x0.aH x1.aG)>>=fun FX=>(bif !(FX) then (some (Out.ret (((aN.mk (aD.mk ((0:Int)) ([]) ([]) ([]) ([])) (aD.mk ((0:Int)) ([]) ([]) ([]) ([])) ([]) ([])),((5:Int)))))) else ((iB x0 x1)>>=fun zF=>(some (Out.ret ((zF,((0:Int)))))))))))
def eL (x0:(List Int)):Option (aN×aN):=
 an (S:=Unit) ((jK x0)>>=fun ua=>(match ua with | none=>none | some m23=>((gF (aM.mk x0 m23.At m23.av))>>=fun sn=>((jZ sn.1.aH)>>=fun ZF=>(bif !(ZF) then ((gF (aM.mk x0 sn.2.At sn.2.av))>>=fun Ny=>(some (Out.ret ((sn.1,Ny.1))))) else ((bJ (aM.mk x0 sn.2.At sn.2.av) ((12:Int)))>>=fun Gg=>(bif (Gg.1) == ((0:Int)) then ((gF (aM.mk x0 Gg.2.At Gg.2.av))>>=fun ZG=>(some (Out.ret ((sn.1,ZG.1))))) else ((gD (aM.mk x0 Gg.2.At Gg.2.av) ((3:Int)) ((6:Int)))>>=fun Jo=>((gN Jo.1 sn.1.aH)>>=fun ZH=>(bif ZH then ((gX Jo.1 sn.1.aH)>>=fun Nz=>(bif decide ((Nz.length:Int) > (0:Int)) then ((bJ (aM.mk x0 Jo.2.At Jo.2.av) ((Nz.length:Int)))>>=fun ZI=>((idx Nz (ZI.1))>>=fun ZJ=>(some (Out.ret ((sn.1,ZJ)))))) else ((eA sn.1.aH)>>=fun ZK=>(some (Out.ret ((sn.1,ZK))))))) else ((eA sn.1.aH)>>=fun Vb=>(some (Out.ret ((sn.1,Vb)))))))))))))))
def jI (x0:Int) (x1:Int) (x2:Int) (x3:aD) (x4:Int) (x5:aD) (x6:aD) (x7:Int):Option (Int):=
 an (S:=Unit) (((bif decide (x0 < x2) then (some (decide (x1 < x2))) else (some (false))))>>=fun g3=>(bif g3 then ((bR x3 (x0) (x1))>>=fun y9=>(some (Out.ret (y9)))) else ((dG (x0) (x2) (ai (x4 - (1:Int))))>>=fun Gc=>(bif Gc then ((bR x5 (ai (x0 - x2)) (ai (x1 - x2)))>>=fun uy=>(some (Out.ret ((ai (x2+uy)))))) else ((idx x6.aB (x0))>>=fun FN=>((idx x6.To (x1))>>=fun Cz=>(some (Out.ret ((ai (ai (ai (x4+ai (FN * x5.aA))+Cz) - x7)))))))))))
def iW (x0:aD) (x1:aD) (Ar:Int) (pK:(List Int)) (pL:(List Int)):Option (Out (Int×(List Int)×(List Int)) (aD×Bool)):=
 (bif decide (Ar < (x1.aB.length:Int)) then ((idx x1.aB (Ar))>>=fun ZL=>((fits 8 (pK.length+1))>>=fun n193=>((idx x1.To (Ar))>>=fun I3=>((fits 8 (pL.length+1))>>=fun n233=>(some (Out.norm (ai (Ar+(1:Int)),pK++[ai (x0.aA+ZL)],pL++[ai (x0.aA+I3)]))))))) else (some (Out.exit 0 (Ar,pK,pL))))
def iX (x1:aD) (ic:Int) (CC:Int) (lr:(List Int)):Option (Out (Int×(List Int)) (aD×Bool)):=
 (bif decide (CC < (x1.aF.length:Int)) then ((idx x1.aF (CC))>>=fun ZM=>((fits 8 (lr.length+1))>>=fun n323=>(some (Out.norm (ai (CC+(1:Int)),lr++[ai (ic+ZM)]))))) else (some (Out.exit 2 (CC,lr))))
def oS (x0:aD) (x1:aD) (yr:Int) (CD:Int) (vQ:(List Int)) (vR:(List Int)):Option (Out (Int×(List Int)×(List Int)) (aD×Bool)):=
 (bif decide (CD < x1.aA) then ((fits 8 (vQ.length+1))>>=fun aiO=>((fits 8 (vR.length+1))>>=fun aiP=>(some (Out.norm (ai (CD+(1:Int)),vQ++[yr],vR++[ai (x0.aA+CD)]))))) else (some (Out.exit 6 (CD,vQ,vR))))
def oT (x0:aD) (x1:aD) (yr:Int) (rU:(List Int)) (rV:(List Int)):Option (Out (Int×(List Int)×(List Int)) (aD×Bool)):=
 (bif decide (yr < x0.aA) then (ah (ab 6 (aj (fun s=>oS x0 x1 yr s.1 s.2.1 s.2.2) ((0:Int),rU,rV))) (fun (CD,vQ,vR)=>(some (Out.norm (ai (yr+(1:Int)),vQ,vR))))) else (some (Out.exit 4 (yr,rU,rV))))
def mZ (x0:aD) (x1:aD) (x2:Bool):Option (aD×Bool):=
 an (S:=Unit) ((bB x0)>>=fun ic=>((cM x0.aB)>>=fun Ti=>((cM x0.To)>>=fun y84=>((cM x0.aF)>>=fun y99=>(ah (ab 0 (aj (fun s=>iW x0 x1 s.1 s.2.1 s.2.2) ((0:Int),Ti,y84))) (fun (Ar,pK,pL)=>(ah (ab 2 (aj (fun s=>iX x1 ic s.1 s.2) ((0:Int),y99))) (fun (CC,lr)=>((bB (aD.mk (ai (x0.aA+x1.aA)) pK pL lr ([])))>>=fun Tz=>(bif x2 then (ah (ab 4 (aj (fun s=>oT x0 x1 s.1 s.2.1 s.2.2) ((0:Int),pK,pL))) (fun (yr,rU,rV)=>(((bif decide (ai (x0.aA+x1.aA) > (8:Int)) then (some (true)) else ((bB (aD.mk (ai (x0.aA+x1.aA)) rU rV lr ([])))>>=fun ZN=>(some (decide (ZN > (40:Int)))))))>>=fun ZO=>(bif ZO then (some (Out.ret (((aD.mk ((0:Int)) ([]) ([]) ([]) ([])),false)))) else ((cQ (aD.mk (ai (x0.aA+x1.aA)) rU rV lr (([]:(List (List Int))))) (fun a0 a1=>jI (a0) (a1) ic x0 Tz x1 (aD.mk (ai (x0.aA+x1.aA)) rU rV lr ([])) x0.aA))>>=fun TA=>(some (Out.ret (((aD.mk TA.aA rU rV lr TA.aC),true))))))))) else (((bif decide (ai (x0.aA+x1.aA) > (8:Int)) then (some (true)) else ((bB (aD.mk (ai (x0.aA+x1.aA)) pK pL lr ([])))>>=fun ZP=>(some (decide (ZP > (40:Int)))))))>>=fun ZQ=>(bif ZQ then (some (Out.ret (((aD.mk ((0:Int)) ([]) ([]) ([]) ([])),false)))) else ((cQ (aD.mk (ai (x0.aA+x1.aA)) pK pL lr (([]:(List (List Int))))) (fun a0 a1=>jI (a0) (a1) ic x0 Tz x1 (aD.mk (ai (x0.aA+x1.aA)) pK pL lr ([])) x0.aA))>>=fun TB=>(some (Out.ret (((aD.mk TB.aA pK pL lr TB.aC),true)))))))))))))))))
def gK (x0:aN) (x1:aN):Option (aN×Int):=
 an (S:=Unit) ((eZ [x0,x1])>>=fun Gf=>(bif !(Gf) then (some (Out.ret (((aN.mk (aD.mk ((0:Int)) ([]) ([]) ([]) ([])) (aD.mk ((0:Int)) ([]) ([]) ([]) ([])) ([]) ([])),((1:Int)))))) else ((eI x0.aH x1.aH)>>=fun FX=>(bif !(FX) then (some (Out.ret (((aN.mk (aD.mk ((0:Int)) ([]) ([]) ([]) ([])) (aD.mk ((0:Int)) ([]) ([]) ([]) ([])) ([]) ([])),((5:Int)))))) else ((mZ x0.aG x1.aG (false))>>=fun zF=>(bif !(zF.2) then (some (Out.ret (((aN.mk (aD.mk ((0:Int)) ([]) ([]) ([]) ([])) (aD.mk ((0:Int)) ([]) ([]) ([]) ([])) ([]) ([])),((3:Int)))))) else ((cM x0.aA)>>=fun Bt=>((fits 8 (Bt.length+x1.aA.length))>>=fun n130=>((cM x0.ae)>>=fun Jn=>((fits 8 (Jn.length+x1.ae.length))>>=fun n164=>((fK zF.1 x0.aH (Bt++x1.aA) (Jn++x1.ae))>>=fun ZR=>(some (Out.ret ((ZR,((0:Int)))))))))))))))))
def gJ (x0:aN) (x1:aN):Option (aN×Int):=
 an (S:=Unit) ((kO x0 x1)>>=fun ic=>(bif (ic) != ((0:Int)) then (some (Out.ret (((aN.mk (aD.mk ((0:Int)) ([]) ([]) ([]) ([])) (aD.mk ((0:Int)) ([]) ([]) ([]) ([])) ([]) ([])),ic)))) else ((jP x0.aH x1.aH)>>=fun FY=>(bif !(FY) then (some (Out.ret (((aN.mk (aD.mk ((0:Int)) ([]) ([]) ([]) ([])) (aD.mk ((0:Int)) ([]) ([]) ([]) ([])) ([]) ([])),((5:Int)))))) else ((fB x0.aG x1.aG)>>=fun DN=>((cI DN)>>=fun Tx=>(bif !(Tx) then (some (Out.ret (((aN.mk (aD.mk ((0:Int)) ([]) ([]) ([]) ([])) (aD.mk ((0:Int)) ([]) ([]) ([]) ([])) ([]) ([])),((3:Int)))))) else ((cF x0.aA)>>=fun Jl=>((fits 8 (Jl.length+x1.aA.length))>>=fun n129=>((cF x0.ae)>>=fun Jm=>((fits 8 (Jm.length+x1.ae.length))>>=fun n163=>((fG DN x0.aH (Jl++x1.aA) (Jm++x1.ae))>>=fun Ny=>(some (Out.ret ((Ny,((0:Int))))))))))))))))))
def iD (x0:Int) (iq:(List Int)) (ca:Int):Option (Out ((List Int)×Int) ((List Int))):=
 (bif decide (ca < x0) then ((fits 8 (iq.length+1))>>=fun n32=>(some (Out.norm (iq++[ca],ai (ca+(1:Int)))))) else (some (Out.exit 0 (iq,ca))))
def mN (x0:Int):Option ((List Int)):=
 an (S:=Unit) (ah (ab 0 (aj (fun s=>iD x0 s.1 s.2) (([]:(List Int)),(0:Int)))) (fun (iq,ca)=>(some (Out.ret (iq)))))
def jW (x0:aD) (x1:(List Int)):Option (Int):=
 an (S:=Unit) ((dA x0)>>=fun y3=>(bif !(y3) then (some (Out.ret (((1:Int))))) else ((bB x0)>>=fun dx=>((dC x1 (dx))>>=fun K4=>(bif !(K4) then (some (Out.ret (((2:Int))))) else (some (Out.ret (((0:Int))))))))))
def mH (x0:(List Int)) (iq:Int):Option (Out (Int) (Bool)):=
 (bif decide (iq < (x0.length:Int)) then ((idx x0 (ai (iq - (1:Int))))>>=fun e9=>((idx x0 (iq))>>=fun Tt=>(bif decide (e9 ≥ Tt) then (some (Out.ret (false))) else (some (Out.norm (ai (iq+(1:Int)))))))) else (some (Out.exit 0 (iq))))
def kN (x0:(List Int)):Option (Bool):=
 an (S:=Unit) (ah (ab 0 (aj (mH x0) ((1:Int)))) (fun iq=>(some (Out.ret (true)))))
def dH (x1:(List Int)) (qW:Int) (zM:(List Bool)):Option (Out (Int×(List Bool)) ((List Bool))):=
 (bif decide (qW < (x1.length:Int)) then ((idx x1 (qW))>>=fun ux=>((idx zM (ux))>>=fun KZ=>(some (Out.norm (ai (qW+(1:Int)),zM.set (ux).toNat (true)))))) else (some (Out.exit 0 (qW,zM))))
def eM (x0:aD) (x1:(List Int)):Option ((List Bool)):=
 an (S:=Unit) ((bB x0)>>=fun y3=>((mk 1 (y3))>>=fun n7=>(ah (ab 0 (aj (fun s=>dH x1 s.1 s.2) ((0:Int),List.replicate n7 false))) (fun (qW,zM)=>(some (Out.ret (zM)))))))
def dP (x0:aD) (x1:(List Int)) (dx:(List Bool)) (Cz:Int) (qE:Int):Option (Out (Int) (Bool)):=
 (bif decide (qE < (x1.length:Int)) then ((idx x1 (qE))>>=fun e54=>((bR x0 (Cz) (e54))>>=fun Wy=>(((bif decide (Wy ≥ (0:Int)) then ((idx dx (Wy))>>=fun Tu=>(some (!(Tu)))) else (some (false))))>>=fun g62=>(bif g62 then (some (Out.ret (false))) else (some (Out.norm (ai (qE+(1:Int))))))))) else (some (Out.exit 2 (qE))))
def dN (x0:aD) (x1:(List Int)) (dx:(List Bool)) (j9:Int):Option (Out (Int) (Bool)):=
 (bif decide (j9 < (x1.length:Int)) then ((idx x1 (j9))>>=fun Cz=>((((idx x0.aB (Cz))>>=fun SX=>((idx x0.aF (SX))>>=fun OX=>((idx dx (OX))>>=fun e34=>(bif !(e34) then (some (true)) else ((idx x0.To (Cz))>>=fun Tj=>((idx x0.aF (Tj))>>=fun K3=>((idx dx (K3))>>=fun Ge=>(some (!(Ge)))))))))))>>=fun g28=>(bif g28 then (some (Out.ret (false))) else (ah (ab 2 (aj (dP x0 x1 dx Cz) ((0:Int)))) (fun qE=>(some (Out.norm (ai (j9+(1:Int)))))))))) else (some (Out.exit 0 (j9))))
def cP (x0:aD) (x1:(List Int)):Option (Bool):=
 an (S:=Unit) ((kN x1)>>=fun y3=>(bif !(y3) then (some (Out.ret (false))) else ((eM x0 x1)>>=fun dx=>(ah (ab 0 (aj (dN x0 x1 dx) ((0:Int)))) (fun j9=>(some (Out.ret (true))))))))
def dQ (x1:(List Int)) (As:Int) (qp:(List Int)):Option (Out (Int×(List Int)) (aD×(List Int))):=
 (bif decide (As < (x1.length:Int)) then ((idx x1 (As))>>=fun OV=>((idx qp (OV))>>=fun OX=>(some (Out.norm (ai (As+(1:Int)),qp.set (OV).toNat (As)))))) else (some (Out.exit 0 (As,qp))))
def dR (x0:aD) (qp:(List Int)) (TC:(List Bool)) (eh:(List Int)) (uP:Int) (tw:(List Int)) (sS:(List Int)):Option (Out ((List Int)×Int×(List Int)×(List Int)) (aD×(List Int))):=
 (bif decide (uP < (x0.aF.length:Int)) then ((idx x0.aF (uP))>>=fun Jk=>((idx TC (Jk))>>=fun ZS=>(bif ZS then ((idx sS (uP))>>=fun aiQ=>((fits 8 (eh.length+1))>>=fun n156=>((idx qp (Jk))>>=fun MS=>((fits 8 (tw.length+1))>>=fun n188=>(some (Out.norm (eh++[uP],ai (uP+(1:Int)),tw++[MS],sS.set (uP).toNat ((eh.length:Int))))))))) else (some (Out.norm (eh,ai (uP+(1:Int)),tw,sS)))))) else (some (Out.exit 2 (eh,uP,tw,sS))))
def dT (x0:aD) (x1:(List Int)) (qp:(List Int)) (C7:Int) (yt:(List Int)) (xw:Int):Option (Out ((List Int)×Int) (aD×(List Int))):=
 (bif decide (xw < (x1.length:Int)) then ((idx x1 (xw))>>=fun Nc=>((bR x0 (C7) (Nc))>>=fun NB=>(bif decide (NB ≥ (0:Int)) then ((idx qp (NB))>>=fun ZT=>((fits 8 (yt.length+1))>>=fun aiR=>(some (Out.norm (yt++[ZT],ai (xw+(1:Int))))))) else ((fits 8 (yt.length+1))>>=fun aiS=>(some (Out.norm (yt++[NB],ai (xw+(1:Int))))))))) else (some (Out.exit 6 (yt,xw))))
def dS (x0:aD) (x1:(List Int)) (qp:(List Int)) (sS:(List Int)) (CE:Int) (vS:(List Int)) (vT:(List Int)) (vU:(List (List Int))):Option (Out (Int×(List Int)×(List Int)×(List (List Int))) (aD×(List Int))):=
 (bif decide (CE < (x1.length:Int)) then ((idx x1 (CE))>>=fun C7=>((idx x0.aB (C7))>>=fun Nx=>((idx sS (Nx))>>=fun Ts=>((fits 8 (vS.length+1))>>=fun n292=>((idx x0.To (C7))>>=fun ZU=>((idx sS (ZU))>>=fun ZV=>((fits 8 (vT.length+1))>>=fun n334=>(ah (ab 6 (aj (fun s=>dT x0 x1 qp C7 s.1 s.2) (([]:(List Int)),(0:Int)))) (fun (yt,xw)=>((fits 24 (vU.length+1))>>=fun aiT=>(some (Out.norm (ai (CE+(1:Int)),vS++[Ts],vT++[ZV],vU++[yt]))))))))))))) else (some (Out.exit 4 (CE,vS,vT,vU))))
def fR (x0:aD) (x1:(List Int)):Option (aD×(List Int)):=
 an (S:=Unit) ((bB x0)>>=fun y8=>((mk 8 (y8))>>=fun n12=>(ah (ab 0 (aj (fun s=>dQ x1 s.1 s.2) ((0:Int),List.replicate n12 (0:Int)))) (fun (As,qp)=>((eM x0 x1)>>=fun TC=>((mk 8 (x0.aA))>>=fun n60=>(ah (ab 2 (aj (fun s=>dR x0 qp TC s.1 s.2.1 s.2.2.1 s.2.2.2) (([]:(List Int)),(0:Int),[],List.replicate n60 (0:Int)))) (fun (eh,uP,tw,sS)=>(ah (ab 4 (aj (fun s=>dS x0 x1 qp sS s.1 s.2.1 s.2.2.1 s.2.2.2) ((0:Int),[],[],[]))) (fun (CE,vS,vT,vU)=>(some (Out.ret (((aD.mk ((eh.length:Int)) vS vT tw vU),eh))))))))))))))
def gS (x0:aD) (x1:(List Int)):Option (aD×Int):=
 an (S:=Unit) ((jW x0 x1)>>=fun ua=>(bif (ua) != ((0:Int)) then (some (Out.ret (((aD.mk ((0:Int)) ([]) ([]) ([]) ([])),ua)))) else ((cP x0 x1)>>=fun wE=>(bif !(wE) then (some (Out.ret (((aD.mk ((0:Int)) ([]) ([]) ([]) ([])),((5:Int)))))) else ((fR x0 x1)>>=fun FY=>(some (Out.ret ((FY.1,((0:Int)))))))))))
def fN (x0:aD) (x1:(List Int)):Option (aN×Int):=
 an (S:=Unit) ((gS x0 x1)>>=fun ua=>(bif (ua.2) != ((0:Int)) then (some (Out.ret (((aN.mk (aD.mk ((0:Int)) ([]) ([]) ([]) ([])) (aD.mk ((0:Int)) ([]) ([]) ([]) ([])) ([]) ([])),ua.2)))) else ((fR x0 x1)>>=fun lg=>((fK lg.1 x0 lg.2 x1)>>=fun ZW=>(some (Out.ret ((ZW,((0:Int))))))))))
def mI (x0:aN):Option (Bool):=
 an (S:=Unit) ((dK x0)>>=fun y8=>(some (Out.ret (y8))))
def jJ (x0:(List Int)):Option (Bool):=
 an (S:=Unit) ((oC x0)>>=fun y3=>(bif y3 then (some (Out.ret (true))) else ((fO x0)>>=fun dx=>((hY dx.1 dx.2)>>=fun NC=>((hJ dx.1 dx.2)>>=fun Jp=>(((bif (NC.2) != (Jp.2) then (some (true)) else ((dB NC.1 Jp.1)>>=fun Vc=>(some (!(Vc))))))>>=fun Vd=>(bif Vd then (some (Out.ret (false))) else (jn 57 () ((bif (NC.2) == ((0:Int)) then ((fS dx.1.aH dx.2.aH)>>=fun OZ=>((fM dx.1.aH dx.2.aH)>>=fun O0=>((eH Jp.1 OZ.1)>>=fun O1=>((eH Jp.1 O0.1)>>=fun O2=>(((bif (OZ.2) != ((0:Int)) then (some (true)) else (bif (O0.2) != ((0:Int)) then (some (true)) else (bif (O1.2) != ((0:Int)) then (some (true)) else (bif (O2.2) != ((0:Int)) then (some (true)) else ((dB O1.1 dx.1)>>=fun Ve=>(bif !(Ve) then (some (true)) else ((dB O2.1 dx.2)>>=fun Vf=>(some (!(Vf)))))))))))>>=fun Vg=>(bif Vg then (some (Out.ret (false))) else (some (Out.norm ())))))))) else (some (Out.norm ())))) (fun _=>((eL x0)>>=fun wI=>((gK wI.1 wI.2)>>=fun Jq=>((gJ wI.1 wI.2)>>=fun Au=>(((bif (Jq.2) != (Au.2) then (some (true)) else ((dB Jq.1 Au.1)>>=fun Vh=>(some (!(Vh))))))>>=fun Vi=>(bif Vi then (some (Out.ret (false))) else (bif (Jq.2) != ((0:Int)) then (some (Out.ret (true))) else ((mN ((wI.1.ae.length:Int)))>>=fun Vj=>((fN Au.1.aG Vj)>>=fun O3=>((eH O3.1 Au.1)>>=fun O4=>((mI Au.1)>>=fun Vk=>(bif Vk then (bif (O3.2) == ((0:Int)) then (bif (O4.2) == ((0:Int)) then ((dE O4.1.ae wI.1.ae)>>=fun Vl=>(bif Vl then ((tl Au.1.ae ((wI.1.ae.length:Int)))>>=fun Vm=>((dE Vm wI.2.ae)>>=fun Vn=>(some (Out.ret (Vn))))) else (some (Out.ret (false))))) else (some (Out.ret (false)))) else (some (Out.ret (false)))) else (some (Out.ret (false)))))))))))))))))))))))
structure cO where
 aG:aN
 aH:aN
 pj:(List Int)
end
end Go.Proofs.YtcnehblmgfbfoaaGreat
