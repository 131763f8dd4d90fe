/- Models, printed by a program: what each function computes, on plain data. No condition. -/
import Derived.Test.YtbmchcnkbonmkaaGreatLj
import Derived.Test.YtbmchcnkbonmkaaGreatLn
import Derived.Test.YtbmchcnkbonmkaaGreatLq
namespace Go.Proofs.YtbmchcnkbonmkaaGreat
open Go Go.Li
set_option linter.unusedVariables false
noncomputable section
structure aM where
 Code:(List Int)
 At:Int
 bb:Int
structure aG where
 aA:Int
 aC:(List Int)
 To:(List Int)
 aH:(List Int)
 aB:(List (List Int))
structure bJ where
 aC:Int
 To:Int
 mh:(List Int)
structure aJ where
 aE:aG
 aF:aG
 aA:(List Int)
 ah:(List Int)
structure sM where
 aC:Int
 To:Int
structure bF where
 dw:Int
 Second:Int
structure lD where
 eh:aJ
structure bD where
 da:Int
 ay:(List Int)
structure bX where
 F:aJ
 G:aJ
 Ao:Bool
 xl:Int
 Found:(List (List Int))
def sA (x0:(List Int)):Option (Bool):=
 ak (S:=Unit) (some (Out.ret ((decide ((x0.length:Int) > (4096:Int))))))
def oV (x0:(List Int)) (bn:Int) (CW:Int):Option (Out (Int×Int) ((Option aM))):=
 (((bif decide (bn < (x0.length:Int)) then (some (decide (bn < (4096:Int)))) else (some (false))))>>=fun g14=>(bif g14 then ((vY .mul .u64 (CW) ((1099511628211:Int)))>>=fun z20=>((idx x0 (bn))>>=fun On=>((vY .add .u64 (z20) (IntKind.u64.wrap On))>>=fun z23=>((vY .add .u64 (z23) ((7:Int)))>>=fun z24=>(some (Out.norm (aj (bn+(1:Int)),z24))))))) else (some (Out.exit 0 (bn,CW)))))
def oW (x0:(List Int)):Option ((Option aM)):=
 ak (S:=Unit) ((vY .add .u64 ((7019:Int)) (IntKind.u64.wrap ((x0.length:Int))))>>=fun z3=>(ae (ab 0 (af (fun s=>oV x0 s.1 s.2) ((0:Int),z3))) (fun (bn,CW)=>(some (Out.ret ((some (aM.mk x0 ((0:Int)) CW))))))))
def bN (x0:aM) (x1:Int):Option (Int×aM):=
 ak (S:=Unit) (bif decide (x1 < (1:Int)) then (some (Out.ret ((((0:Int)),x0)))) else ((vY .mul .u64 (x0.bb) ((6364136223846793005:Int)))>>=fun z9=>((vY .add .u64 (z9) ((1442695040888963407:Int)))>>=fun Xq=>((vY .shr .u64 (Xq) ((33:Int)))>>=fun Xr=>((vY .and .u64 (Xr) ((16777215:Int)))>>=fun z16=>(bif decide (x0.At < (x0.Code.length:Int)) then ((idx x0.Code (x0.At))>>=fun IS=>((vY .rem .i64 (aj (IntKind.i64.wrap z16+IntKind.i64.wrap IS)) (x1))>>=fun z30=>(some (Out.ret ((z30,(aM.mk x0.Code (aj (x0.At+(1:Int))) Xq))))))) else ((vY .rem .i64 (IntKind.i64.wrap z16) (x1))>>=fun z33=>(some (Out.ret ((z33,(aM.mk x0.Code x0.At Xq))))))))))))
def lP (x0:aM) (x1:Int) (cf:Int) (zu:Int) (zv:Int) (Cq:(List Int)):Option (Out (Int×Int×Int×(List Int)) ((List (List Int))×aM)):=
 (bif decide (cf < x1) then ((bN (aM.mk x0.Code zu zv) ((2:Int)))>>=fun IT=>((idx Cq (cf))>>=fun Te=>(some (Out.norm (aj (cf+(1:Int)),IT.2.At,IT.2.bb,Cq.set (cf).toNat (IT.1)))))) else (some (Out.exit 2 (cf,zu,zv,Cq))))
def lQ (x0:aM) (x1:Int) (aX:(List (List Int))) (cg:Int) (p5:Int) (p6:Int):Option (Out ((List (List Int))×Int×Int×Int) ((List (List Int))×aM)):=
 (bif decide (cg < x1) then ((mk 8 (x1))>>=fun n21=>((idx (List.replicate n21 (0:Int)) (cg))>>=fun GR=>(ae (ab 2 (af (fun s=>lP x0 x1 s.1 s.2.1 s.2.2.1 s.2.2.2) (aj (cg+(1:Int)),p5,p6,(List.replicate n21 (0:Int)).set (cg).toNat ((1:Int))))) (fun (cf,zu,zv,Cq)=>((fits 24 (aX.length+1))>>=fun n78=>(some (Out.norm (aX++[Cq],aj (cg+(1:Int)),zu,zv)))))))) else (some (Out.exit 0 (aX,cg,p5,p6))))
def pR (x1:Int) (cj:Int) (ec:Int) (l9:Int) (u4:(List (List Int))):Option (Out (Int×(List (List Int))) ((List (List Int))×aM)):=
 (bif decide (l9 < x1) then ((((idx u4 (ec))>>=fun acS=>((idx acS (cj))>>=fun QH=>(bif (QH) == ((1:Int)) then ((idx u4 (cj))>>=fun acT=>((idx acT (l9))>>=fun acU=>(some ((acU) == ((1:Int)))))) else (some (false))))))>>=fun acV=>(bif acV then ((idx u4 (ec))>>=fun Xs=>((idx Xs (l9))>>=fun aoS=>(some (Out.norm (aj (l9+(1:Int)),u4.set (ec).toNat (Xs.set (l9).toNat ((1:Int)))))))) else (some (Out.norm (aj (l9+(1:Int)),u4))))) else (some (Out.exit 8 (l9,u4))))
def pS (x1:Int) (cj:Int) (ec:Int) (CX:(List (List Int))):Option (Out (Int×(List (List Int))) ((List (List Int))×aM)):=
 (bif decide (ec < x1) then (ae (ab 8 (af (fun s=>pR x1 cj ec s.1 s.2) ((0:Int),CX))) (fun (l9,u4)=>(some (Out.norm (aj (ec+(1:Int)),u4))))) else (some (Out.exit 6 (ec,CX))))
def pT (x1:Int) (cj:Int) (CY:(List (List Int))):Option (Out (Int×(List (List Int))) ((List (List Int))×aM)):=
 (bif decide (cj < x1) then (ae (ab 6 (af (fun s=>pS x1 cj s.1 s.2) ((0:Int),CY))) (fun (ec,CX)=>(some (Out.norm (aj (cj+(1:Int)),CX))))) else (some (Out.exit 4 (cj,CY))))
def pU (x1:Int) (zY:Int) (xL:Int) (zw:Int) (wR:(List (List Int))):Option (Out (Int×(List (List Int))) ((List (List Int))×aM)):=
 (bif decide (zw < x1) then ((((idx wR (xL))>>=fun acW=>((idx acW (zY))>>=fun acX=>(bif (acX) == ((1:Int)) then ((idx wR (zY))>>=fun acY=>((idx acY (zw))>>=fun acZ=>(some ((acZ) == ((1:Int)))))) else (some (false))))))>>=fun ac0=>(bif ac0 then ((idx wR (xL))>>=fun Xt=>((idx Xt (zw))>>=fun aoT=>(some (Out.norm (aj (zw+(1:Int)),wR.set (xL).toNat (Xt.set (zw).toNat ((1:Int)))))))) else (some (Out.norm (aj (zw+(1:Int)),wR))))) else (some (Out.exit 8 (zw,wR))))
def pV (x1:Int) (zY:Int) (xL:Int) (EC:(List (List Int))):Option (Out (Int×(List (List Int))) ((List (List Int))×aM)):=
 (bif decide (xL < x1) then (ae (ab 8 (af (fun s=>pU x1 zY xL s.1 s.2) ((0:Int),EC))) (fun (zw,wR)=>(some (Out.norm (aj (xL+(1:Int)),wR))))) else (some (Out.exit 6 (xL,EC))))
def pW (x1:Int) (zY:Int) (ED:(List (List Int))):Option (Out (Int×(List (List Int))) ((List (List Int))×aM)):=
 (bif decide (zY < x1) then (ae (ab 6 (af (fun s=>pV x1 zY s.1 s.2) ((0:Int),ED))) (fun (xL,EC)=>(some (Out.norm (aj (zY+(1:Int)),EC))))) else (some (Out.exit 4 (zY,ED))))
def oX (x1:Int) (zZ:Int) (xM:Int) (wS:Int) (u5:(List (List Int))):Option (Out (Int×(List (List Int))) ((List (List Int))×aM)):=
 (bif decide (wS < x1) then ((((idx u5 (xM))>>=fun ac1=>((idx ac1 (zZ))>>=fun yA=>(bif (yA) == ((1:Int)) then ((idx u5 (zZ))>>=fun QI=>((idx QI (wS))>>=fun QJ=>(some ((QJ) == ((1:Int)))))) else (some (false))))))>>=fun ac2=>(bif ac2 then ((idx u5 (xM))>>=fun Xu=>((idx Xu (wS))>>=fun aoU=>(some (Out.norm (aj (wS+(1:Int)),u5.set (xM).toNat (Xu.set (wS).toNat ((1:Int)))))))) else (some (Out.norm (aj (wS+(1:Int)),u5))))) else (some (Out.exit 8 (wS,u5))))
def pX (x1:Int) (zZ:Int) (xM:Int) (EE:(List (List Int))):Option (Out (Int×(List (List Int))) ((List (List Int))×aM)):=
 (bif decide (xM < x1) then (ae (ab 8 (af (fun s=>oX x1 zZ xM s.1 s.2) ((0:Int),EE))) (fun (wS,u5)=>(some (Out.norm (aj (xM+(1:Int)),u5))))) else (some (Out.exit 6 (xM,EE))))
def pY (x1:Int) (zZ:Int) (EG:(List (List Int))):Option (Out (Int×(List (List Int))) ((List (List Int))×aM)):=
 (bif decide (zZ < x1) then (ae (ab 6 (af (fun s=>pX x1 zZ s.1 s.2) ((0:Int),EG))) (fun (xM,EE)=>(some (Out.norm (aj (zZ+(1:Int)),EE))))) else (some (Out.exit 4 (zZ,EG))))
def iS (x0:aM) (x1:Int):Option ((List (List Int))×aM):=
 ak (S:=Unit) (ae (ab 0 (af (fun s=>lQ x0 x1 s.1 s.2.1 s.2.2.1 s.2.2.2) (([]:(List (List Int))),(0:Int),x0.At,x0.bb))) (fun (aX,cg,p5,p6)=>(bif decide (x1 > (1:Int)) then ((bN (aM.mk x0.Code p5 p6) ((4:Int)))>>=fun Oo=>(bif (Oo.1) == ((0:Int)) then ((idx aX (aj (x1 - (1:Int))))>>=fun Tf=>((bN (aM.mk x0.Code Oo.2.At Oo.2.bb) (x1))>>=fun wx=>((idx Tf (wx.1))>>=fun xn=>(ae (ab 4 (af (fun s=>pT x1 s.1 s.2) ((0:Int),aX.set (aj (x1 - (1:Int))).toNat (Tf.set (wx.1).toNat ((1:Int)))))) (fun (cj,CY)=>(some (Out.ret ((CY,(aM.mk x0.Code wx.2.At wx.2.bb)))))))))) else (ae (ab 4 (af (fun s=>pW x1 s.1 s.2) ((0:Int),aX))) (fun (zY,ED)=>(some (Out.ret ((ED,(aM.mk x0.Code Oo.2.At Oo.2.bb))))))))) else (ae (ab 4 (af (fun s=>pY x1 s.1 s.2) ((0:Int),aX))) (fun (zZ,EG)=>(some (Out.ret ((EG,(aM.mk x0.Code p5 p6))))))))))
def iU (x0:(List (List Int))) (cg:Int) (ee:(List Int)) (cf:Int) (j4:(List Int)) (nj:(List Int)):Option (Out ((List Int)×Int×(List Int)×(List Int)) (aG)):=
 (bif decide (cf < (x0.length:Int)) then ((fits 8 (ee.length+1))>>=fun n185=>((idx x0 (cg))>>=fun QK=>((idx QK (cf))>>=fun QM=>(bif (QM) == ((1:Int)) then ((fits 8 (j4.length+1))>>=fun n229=>((fits 8 (nj.length+1))>>=fun n265=>(some (Out.norm (ee++[(j4.length:Int)],aj (cf+(1:Int)),j4++[cg],nj++[cf]))))) else (some (Out.norm (ee++[(j4.length:Int)],aj (cf+(1:Int)),j4,nj))))))) else (some (Out.exit 2 (ee,cf,j4,nj))))
def iV (x0:(List (List Int))) (bn:(List (List Int))) (cg:Int) (fq:(List Int)) (iq:(List Int)):Option (Out ((List (List Int))×Int×(List Int)×(List Int)) (aG)):=
 (bif decide (cg < (x0.length:Int)) then (ae (ab 2 (af (fun s=>iU x0 cg s.1 s.2.1 s.2.2.1 s.2.2.2) (([]:(List Int)),(0:Int),fq,iq))) (fun (ee,cf,j4,nj)=>((fits 24 (bn.length+1))>>=fun n306=>(some (Out.norm (bn++[ee],aj (cg+(1:Int)),j4,nj)))))) else (some (Out.exit 0 (bn,cg,fq,iq))))
def iW (x0:(List (List Int))) (bn:(List (List Int))) (cj:Int) (qp:(List Int)):Option (Out (Int×(List Int)) (aG)):=
 (bif decide (cj < (x0.length:Int)) then ((idx bn (cj))>>=fun QN=>((idx QN (cj))>>=fun My=>((fits 8 (qp.length+1))>>=fun ac3=>(some (Out.norm (aj (cj+(1:Int)),qp++[My])))))) else (some (Out.exit 4 (cj,qp))))
def iX (bn:(List (List Int))) (fq:(List Int)) (iq:(List Int)) (ec:Int) (l9:(List Int)) (ll:Int):Option (Out ((List Int)×Int) (aG)):=
 (bif decide (ll < (fq.length:Int)) then ((idx iq (ec))>>=fun QO=>((idx fq (ll))>>=fun QP=>(bif (QO) == (QP) then ((idx fq (ec))>>=fun QQ=>((idx bn (QQ))>>=fun QR=>((idx iq (ll))>>=fun QS=>((idx QR (QS))>>=fun QT=>((fits 8 (l9.length+1))>>=fun ac4=>(some (Out.norm (l9++[QT],aj (ll+(1:Int)))))))))) else ((fits 8 (l9.length+1))>>=fun ac5=>(some (Out.norm (l9++[(-1:Int)],aj (ll+(1:Int))))))))) else (some (Out.exit 8 (l9,ll))))
def iY (bn:(List (List Int))) (fq:(List Int)) (iq:(List Int)) (ec:Int) (qt:(List (List Int))):Option (Out (Int×(List (List Int))) (aG)):=
 (bif decide (ec < (fq.length:Int)) then (ae (ab 8 (af (fun s=>iX bn fq iq ec s.1 s.2) (([]:(List Int)),(0:Int)))) (fun (l9,ll)=>((fits 24 (qt.length+1))>>=fun ac6=>(some (Out.norm (aj (ec+(1:Int)),qt++[l9])))))) else (some (Out.exit 6 (ec,qt))))
def dB (x0:(List (List Int))):Option (aG):=
 ak (S:=Unit) (ae (ab 0 (af (fun s=>iV x0 s.1 s.2.1 s.2.2.1 s.2.2.2) (([]:(List (List Int))),(0:Int),([]:(List Int)),([]:(List Int))))) (fun (bn,cg,fq,iq)=>(ae (ab 4 (af (fun s=>iW x0 bn s.1 s.2) ((0:Int),([]:(List Int))))) (fun (cj,qp)=>(ae (ab 6 (af (fun s=>iY bn fq iq s.1 s.2) ((0:Int),([]:(List (List Int)))))) (fun (ec,qt)=>(some (Out.ret ((aG.mk ((x0.length:Int)) fq iq qp qt))))))))))
def cW (x0:(List Int)):Option ((List Int)):=
 ak (S:=Unit) ((fits 8 ((([]:(List Int))).length+x0.length))>>=fun n15=>(some (Out.ret ((([]:(List Int))++x0)))))
def dZ (x0:(List Int)) (x1:(List Int)) (aX:Int):Option (Out (Int) (Bool)):=
 (((bif decide (aX < (x0.length:Int)) then (some (decide (aX < (x1.length:Int)))) else (some (false))))>>=fun g6=>(bif g6 then ((idx x0 (aX))>>=fun Oq=>((idx x1 (aX))>>=fun yB=>(bif (Oq) != (yB) then ((idx x0 (aX))>>=fun K1=>((idx x1 (aX))>>=fun On=>(some (Out.ret ((decide (K1 < On))))))) else (some (Out.norm (aj (aX+(1:Int)))))))) else (some (Out.exit 0 (aX)))))
def lY (x0:(List Int)) (x1:(List Int)):Option (Bool):=
 ak (S:=Unit) (ae (ab 0 (af (dZ x0 x1) ((0:Int)))) (fun aX=>(some (Out.ret ((decide ((x0.length:Int) < (x1.length:Int))))))))
def iJ (x0:bJ) (x1:bJ):Option (Bool):=
 ak (S:=Unit) (bif (x0.aC) != (x1.aC) then (some (Out.ret ((decide (x0.aC < x1.aC))))) else (bif (x0.To) != (x1.To) then (some (Out.ret ((decide (x0.To < x1.To))))) else ((lY x0.mh x1.mh)>>=fun Ap=>(some (Out.ret (Ap))))))
def kH (x0:Int) (s0:(List bJ)) (s1:Int):Option (Out ((List bJ)×Int) ((List bJ))):=
 (bif decide (s1 < x0) then ((fits 40 (s0.length+1))>>=fun n26=>(some (Out.norm (s0++[bJ.mk s1 s1 []],aj (s1+(1:Int)))))) else (some (Out.exit 0 (s0,s1))))
def iK (x1:(List Int)) (x2:(List Int)) (s1:Int) (s0:(List bJ)) (s2:Int):Option (Out ((List bJ)×Int) ((List bJ))):=
 (bif decide (s2 < (x1.length:Int)) then ((idx x1 (s2))>>=fun EH=>((idx s0 (s1))>>=fun IU=>(bif (EH) == (IU.To) then ((idx s0 (s1))>>=fun Xv=>((idx x2 (s2))>>=fun BT=>((idx s0 (s1))>>=fun IV=>((cW IV.mh)>>=fun Ot=>((fits 8 (Ot.length+1))>>=fun n72=>((fits 40 (s0.length+1))>>=fun n75=>(some (Out.norm (s0++[bJ.mk Xv.aC BT (Ot++[s2])],aj (s2+(1:Int))))))))))) else (some (Out.norm (s0,aj (s2+(1:Int)))))))) else (some (Out.exit 4 (s0,s2))))
def kI (x1:(List Int)) (x2:(List Int)) (s0:(List bJ)) (s1:Int):Option (Out ((List bJ)×Int) ((List bJ))):=
 (((bif decide (s1 < (s0.length:Int)) then (some (decide ((s0.length:Int)≤(40:Int)))) else (some (false))))>>=fun Xw=>(bif Xw then (ae (ab 4 (af (fun s=>iK x1 x2 s1 s.1 s.2) (s0,(0:Int)))) (fun (s0,s2)=>(some (Out.norm (s0,aj (s1+(1:Int))))))) else (some (Out.exit 2 (s0,s1)))))
def kJ (s0:(List bJ)) (s1:Int):Option (Out ((List bJ)×Int) ((List bJ))):=
 (((bif decide ((0:Int) < s1) then ((idx s0 (s1))>>=fun BU=>((idx s0 (aj (s1 - (1:Int))))>>=fun EI=>((iJ BU EI)>>=fun Ou=>(some (Ou))))) else (some (false))))>>=fun Xx=>(bif Xx then ((idx s0 (s1))>>=fun QU=>((idx s0 (aj (s1 - (1:Int))))>>=fun xn=>((idx s0 (s1))>>=fun IW=>((idx (s0.set (s1).toNat xn) (aj (s1 - (1:Int))))>>=fun QV=>(some (Out.norm ((s0.set (s1).toNat xn).set (aj (s1 - (1:Int))).toNat QU,aj (s1 - (1:Int))))))))) else (some (Out.exit 8 (s0,s1)))))
def kK (s0:(List bJ)) (s1:Int):Option (Out ((List bJ)×Int) ((List bJ))):=
 (bif decide (s1 < (s0.length:Int)) then (ae (ab 8 (af (fun s=>kJ s.1 s.2) (s0,s1))) (fun (s0,s2)=>(some (Out.norm (s0,aj (s1+(1:Int))))))) else (some (Out.exit 6 (s0,s1))))
def lO (x0:Int) (x1:(List Int)) (x2:(List Int)):Option ((List bJ)):=
 ak (S:=Unit) (ae (ab 0 (af (fun s=>kH x0 s.1 s.2) (([]:(List bJ)),(0:Int)))) (fun (s0,s1)=>(ae (ab 2 (af (fun s=>kI x1 x2 s.1 s.2) (s0,(0:Int)))) (fun (s0,s1)=>(ae (ab 6 (af (fun s=>kK s.1 s.2) (s0,(1:Int)))) (fun (s0,s1)=>(some (Out.ret (s0)))))))))
def dP (x0:aG):Option (Bool):=
 ak (S:=Unit) (((bif decide (x0.aA≤(8:Int)) then (some (decide ((x0.aC.length:Int)≤(40:Int)))) else (some (false))))>>=fun g8=>(some (Out.ret (g8))))
def lS (x0:(List Int)) (x1:(List Int)) (aX:Int):Option (Out (Int) (Bool)):=
 (bif decide (aX < (x0.length:Int)) then ((idx x0 (aX))>>=fun yB=>((idx x1 (aX))>>=fun Dv=>(bif (yB) != (Dv) then (some (Out.ret (false))) else (some (Out.norm (aj (aX+(1:Int)))))))) else (some (Out.exit 0 (aX))))
def kL (x0:(List Int)) (x1:(List Int)):Option (Bool):=
 ak (S:=Unit) (bif ((x0.length:Int)) != ((x1.length:Int)) then (some (Out.ret (false))) else (ae (ab 0 (af (lS x0 x1) ((0:Int)))) (fun aX=>(some (Out.ret (true))))))
def iZ (y8:(List bJ)) (dp:Int) (j5:(List Int)) (j6:(List Int)) (n5:(List Int)):Option (Out (Int×(List Int)×(List Int)×(List Int)) (aG)):=
 (bif decide (dp < (y8.length:Int)) then ((idx y8 (dp))>>=fun DV=>((fits 8 (j5.length+1))>>=fun n134=>((idx y8 (dp))>>=fun IX=>((fits 8 (j6.length+1))>>=fun n173=>((idx y8 (dp))>>=fun QW=>(bif ((QW.mh.length:Int)) == ((0:Int)) then ((idx y8 (dp))>>=fun IY=>((idx n5 (IY.aC))>>=fun QY=>(some (Out.norm (aj (dp+(1:Int)),j5++[DV.aC],j6++[IX.To],n5.set (IY.aC).toNat (dp)))))) else (some (Out.norm (aj (dp+(1:Int)),j5++[DV.aC],j6++[IX.To],n5))))))))) else (some (Out.exit 0 (dp,j5,j6,n5))))
def jA (y8:(List bJ)) (jd:Int) (wy:(List Int)) (yA:bJ) (xN:Int) (lz:Int):Option (Out (Int×Int) (aG)):=
 (bif decide (lz < (y8.length:Int)) then ((((idx y8 (lz))>>=fun QZ=>((idx y8 (jd))>>=fun Q0=>(bif (QZ.aC) == (Q0.aC) then ((idx y8 (lz))>>=fun Q1=>((kL Q1.mh (wy++yA.mh))>>=fun Q2=>(some (Q2)))) else (some (false))))))>>=fun Q3=>(bif Q3 then (some (Out.norm (lz,aj (lz+(1:Int))))) else (some (Out.norm (xN,aj (lz+(1:Int))))))) else (some (Out.exit 6 (xN,lz))))
def jB (y8:(List bJ)) (jd:Int) (ot:(List Int)) (th:Int):Option (Out ((List Int)×Int) (aG)):=
 (bif decide (th < (y8.length:Int)) then ((idx y8 (jd))>>=fun Q4=>((idx y8 (th))>>=fun Q5=>(bif (Q4.To) == (Q5.aC) then ((idx y8 (jd))>>=fun Q6=>((cW Q6.mh)>>=fun wy=>((idx y8 (th))>>=fun yA=>((fits 8 (wy.length+yA.mh.length))>>=fun ac7=>(ae (ab 6 (af (fun s=>jA y8 jd wy yA s.1 s.2) ((-1:Int),(0:Int)))) (fun (xN,lz)=>((fits 8 (ot.length+1))>>=fun ac8=>(some (Out.norm (ot++[xN],aj (th+(1:Int)))))))))))) else ((fits 8 (ot.length+1))>>=fun ac9=>(some (Out.norm (ot++[(-1:Int)],aj (th+(1:Int))))))))) else (some (Out.exit 4 (ot,th))))
def fW (y8:(List bJ)) (jd:Int) (qu:(List (List Int))):Option (Out (Int×(List (List Int))) (aG)):=
 (bif decide (jd < (y8.length:Int)) then (ae (ab 4 (af (fun s=>jB y8 jd s.1 s.2) (([]:(List Int)),(0:Int)))) (fun (ot,th)=>((fits 24 (qu.length+1))>>=fun ada=>(some (Out.norm (aj (jd+(1:Int)),qu++[ot])))))) else (some (Out.exit 2 (jd,qu))))
def eQ (x0:Int) (x1:(List Int)) (x2:(List Int)):Option (aG):=
 ak (S:=Unit) ((lO (x0) x1 x2)>>=fun y8=>((mk 8 (x0))>>=fun n36=>(ae (ab 0 (af (fun s=>iZ y8 s.1 s.2.1 s.2.2.1 s.2.2.2) ((0:Int),([]:(List Int)),([]:(List Int)),List.replicate n36 (0:Int)))) (fun (dp,j5,j6,n5)=>((dP (aG.mk x0 j5 j6 n5 (([]:(List (List Int))))))>>=fun Q7=>(bif !(Q7) then (some (Out.ret ((aG.mk x0 j5 j6 n5 (([]:(List (List Int)))))))) else (ae (ab 2 (af (fun s=>fW y8 s.1 s.2) ((0:Int),([]:(List (List Int)))))) (fun (jd,qu)=>(some (Out.ret ((aG.mk x0 j5 j6 n5 qu))))))))))))
def iL (x0:aM):Option ((List (List Int))×aM):=
 ak (S:=Unit) ((bN x0 ((8:Int)))>>=fun y5=>(bif (y5.1) == ((0:Int)) then (some (Out.ret (((([[(0:Int)]]:(List (List Int)))),(aM.mk x0.Code y5.2.At y5.2.bb))))) else (bif (y5.1) == ((1:Int)) then (some (Out.ret (((([[(0:Int),(1:Int)],[(1:Int),(0:Int)]]:(List (List Int)))),(aM.mk x0.Code y5.2.At y5.2.bb))))) else (bif (y5.1) == ((2:Int)) then (some (Out.ret (((([[(0:Int),(1:Int)],[(1:Int),(1:Int)]]:(List (List Int)))),(aM.mk x0.Code y5.2.At y5.2.bb))))) else (bif (y5.1) == ((3:Int)) then (some (Out.ret (((([[(0:Int),(1:Int),(2:Int)],[(1:Int),(2:Int),(0:Int)],[(2:Int),(0:Int),(1:Int)]]:(List (List Int)))),(aM.mk x0.Code y5.2.At y5.2.bb))))) else (bif (y5.1) == ((4:Int)) then (some (Out.ret (((([[(0:Int),(1:Int),(2:Int)],[(1:Int),(1:Int),(2:Int)],[(2:Int),(2:Int),(2:Int)]]:(List (List Int)))),(aM.mk x0.Code y5.2.At y5.2.bb))))) else (bif (y5.1) == ((5:Int)) then (some (Out.ret (((([[(0:Int),(1:Int),(2:Int)],[(1:Int),(1:Int),(2:Int)],[(2:Int),(1:Int),(2:Int)]]:(List (List Int)))),(aM.mk x0.Code y5.2.At y5.2.bb))))) else (bif (y5.1) == ((6:Int)) then (some (Out.ret (((([[(0:Int),(1:Int),(2:Int),(3:Int)],[(1:Int),(0:Int),(2:Int),(3:Int)],[(2:Int),(3:Int),(2:Int),(3:Int)],[(3:Int),(2:Int),(2:Int),(3:Int)]]:(List (List Int)))),(aM.mk x0.Code y5.2.At y5.2.bb))))) else (some (Out.ret (((([[(0:Int),(1:Int),(2:Int)],[(1:Int),(2:Int),(2:Int)],[(2:Int),(2:Int),(2:Int)]]:(List (List Int)))),(aM.mk x0.Code y5.2.At y5.2.bb)))))))))))))
def jQ (x0:(List (List Int))) (ie:(List (List Int))) (bn:Int):Option (Out ((List (List Int))×Int) ((List (List Int)))):=
 (bif decide (bn < (x0.length:Int)) then ((idx x0 (bn))>>=fun K2=>((cW K2)>>=fun lu=>((fits 24 (ie.length+1))>>=fun n49=>(some (Out.norm (ie++[lu],aj (bn+(1:Int)))))))) else (some (Out.exit 0 (ie,bn))))
def lZ (x0:(List (List Int))):Option ((List (List Int))):=
 ak (S:=Unit) (ae (ab 0 (af (fun s=>jQ x0 s.1 s.2) (([]:(List (List Int))),(0:Int)))) (fun (ie,bn)=>(some (Out.ret (ie)))))
def iM (x0:(List (List Int))):Option (aG):=
 ak (S:=Unit) ((mk 8 ((x0.length:Int)))>>=fun n10=>((mk 8 ((x0.length:Int)))>>=fun n19=>((lZ x0)>>=fun Dw=>(some (Out.ret ((aG.mk ((1:Int)) (List.replicate n10 (0:Int)) (List.replicate n19 (0:Int)) ([(0:Int)]) Dw)))))))
def nR:Option (aG):=
 ak (S:=Unit) (some (Out.ret ((aG.mk ((2:Int)) (([(0:Int),(1:Int),(0:Int),(0:Int),(1:Int)]:(List Int))) (([(0:Int),(1:Int),(0:Int),(1:Int),(0:Int)]:(List Int))) (([(0:Int),(1:Int)]:(List Int))) (([[(0:Int),(-1:Int),(2:Int),(3:Int),(-1:Int)],[(-1:Int),(1:Int),(-1:Int),(-1:Int),(4:Int)],[(2:Int),(-1:Int),(2:Int),(3:Int),(-1:Int)],[(-1:Int),(3:Int),(-1:Int),(-1:Int),(2:Int)],[(4:Int),(-1:Int),(4:Int),(1:Int),(-1:Int)]]:(List (List Int))))))))
def jZ (x0:aG):Option (aG):=
 ak (S:=Unit) ((cW x0.aC)>>=fun s9=>((cW x0.To)>>=fun Ap=>((cW x0.aH)>>=fun IZ=>((lZ x0.aB)>>=fun Ov=>(some (Out.ret ((aG.mk x0.aA s9 Ap IZ Ov))))))))
def fX (x0:aG) (x1:aG) (ep:Int) (yC:(List Int)):Option (Out (Int×(List Int)) (aG)):=
 (bif decide (ep < x1.aA) then ((idx x1.aH (ep))>>=fun Q8=>((fits 8 (yC.length+1))>>=fun n136=>(some (Out.norm (aj (ep+(1:Int)),yC++[aj (Q8+(x0.aC.length:Int))]))))) else (some (Out.exit 0 (ep,yC))))
def fY (x1:aG) (n7:Int) (di:Int) (Aq:(List (List Int))):Option (Out (Int×(List (List Int))) (aG)):=
 (bif decide (di < (x1.aC.length:Int)) then ((idx Aq (n7))>>=fun Xy=>((fits 8 (Xy.length+1))>>=fun n233=>((idx Aq (n7))>>=fun aoV=>(some (Out.norm (aj (di+(1:Int)),Aq.set (n7).toNat (Xy++[(-1:Int)]))))))) else (some (Out.exit 4 (di,Aq))))
def fZ (x1:aG) (n7:Int) (Cr:(List (List Int))):Option (Out (Int×(List (List Int))) (aG)):=
 (bif decide (n7 < (Cr.length:Int)) then (ae (ab 4 (af (fun s=>fY x1 n7 s.1 s.2) ((0:Int),Cr))) (fun (di,Aq)=>(some (Out.norm (aj (n7+(1:Int)),Aq))))) else (some (Out.exit 2 (n7,Cr))))
def gA (x0:aG) (ll:(List Int)) (ue:Int):Option (Out ((List Int)×Int) (aG)):=
 (bif decide (ue < (x0.aC.length:Int)) then ((fits 8 (ll.length+1))>>=fun aoW=>(some (Out.norm (ll++[(-1:Int)],aj (ue+(1:Int)))))) else (some (Out.exit 8 (ll,ue))))
def gB (x0:aG) (x1:aG) (jf:Int) (tj:(List Int)) (tM:Int):Option (Out ((List Int)×Int) (aG)):=
 (bif decide (tM < (x1.aC.length:Int)) then ((idx x1.aB (jf))>>=fun adb=>((idx adb (tM))>>=fun Q9=>(bif decide (Q9 ≥ (0:Int)) then ((fits 8 (tj.length+1))>>=fun aoX=>(some (Out.norm (tj++[aj (Q9+(x0.aC.length:Int))],aj (tM+(1:Int)))))) else ((fits 8 (tj.length+1))>>=fun aoY=>(some (Out.norm (tj++[Q9],aj (tM+(1:Int))))))))) else (some (Out.exit 10 (tj,tM))))
def gC (x0:aG) (x1:aG) (jf:Int) (yD:(List Int)) (yE:(List Int)) (yF:(List (List Int))):Option (Out (Int×(List Int)×(List Int)×(List (List Int))) (aG)):=
 (bif decide (jf < (x1.aC.length:Int)) then ((idx x1.aC (jf))>>=fun ade=>((fits 8 (yD.length+1))>>=fun n314=>((idx x1.To (jf))>>=fun QI=>((fits 8 (yE.length+1))>>=fun aoZ=>(ae (ab 8 (af (fun s=>gA x0 s.1 s.2) (([]:(List Int)),(0:Int)))) (fun (ll,ue)=>(ae (ab 10 (af (fun s=>gB x0 x1 jf s.1 s.2) (ll,(0:Int)))) (fun (tj,tM)=>((fits 24 (yF.length+1))>>=fun ao0=>(some (Out.norm (aj (jf+(1:Int)),yD++[aj (ade+x0.aA)],yE++[aj (QI+x0.aA)],yF++[tj])))))))))))) else (some (Out.exit 6 (jf,yD,yE,yF))))
def iI (x0:aG) (x1:aG):Option (aG):=
 ak (S:=Unit) ((jZ x0)>>=fun Dx=>(ae (ab 0 (af (fun s=>fX x0 x1 s.1 s.2) ((0:Int),Dx.aH))) (fun (ep,yC)=>(ae (ab 2 (af (fun s=>fZ x1 s.1 s.2) ((0:Int),Dx.aB))) (fun (n7,Cr)=>(ae (ab 6 (af (fun s=>gC x0 x1 s.1 s.2.1 s.2.2.1 s.2.2.2) ((0:Int),Dx.aC,Dx.To,Cr))) (fun (jf,yD,yE,yF)=>(some (Out.ret ((aG.mk (aj (x0.aA+x1.aA)) yD yE yC yF)))))))))))
def fF (x0:aG) (x1:aG) (br:Int) (cf:Int) (yG:(List Int)) (yH:(List Int)):Option (Out (Int×(List Int)×(List Int)) (aG)):=
 (bif decide (cf < x1.aA) then ((fits 8 (yG.length+1))>>=fun n181=>((fits 8 (yH.length+1))>>=fun n217=>(some (Out.norm (aj (cf+(1:Int)),yG++[br],yH++[aj (x0.aA+cf)]))))) else (some (Out.exit 2 (cf,yG,yH))))
def fG (x0:aG) (x1:aG) (br:Int) (o5:(List Int)) (se:(List Int)):Option (Out (Int×(List Int)×(List Int)) (aG)):=
 (bif decide (br < x0.aA) then (ae (ab 2 (af (fun s=>fF x0 x1 br s.1 s.2.1 s.2.2) ((0:Int),o5,se))) (fun (cf,yG,yH)=>(some (Out.norm (aj (br+(1:Int)),yG,yH))))) else (some (Out.exit 0 (br,o5,se))))
def fH (x0:aG) (x1:aG) (lu:aG) (o5:(List Int)) (se:(List Int)) (di:Int) (jf:(List Int)) (wG:Int):Option (Out ((List Int)×Int) (aG)):=
 (bif decide (wG < (o5.length:Int)) then ((idx se (di))>>=fun adg=>((idx o5 (wG))>>=fun adh=>(bif (adg) != (adh) then ((fits 8 (jf.length+1))>>=fun ao1=>(some (Out.norm (jf++[(-1:Int)],aj (wG+(1:Int)))))) else (((bif decide (di < (lu.aC.length:Int)) then (some (decide (wG < (lu.aC.length:Int)))) else (some (false))))>>=fun adi=>(bif adi then ((idx lu.aB (di))>>=fun adj=>((idx adj (wG))>>=fun adk=>((fits 8 (jf.length+1))>>=fun ao2=>(some (Out.norm (jf++[adk],aj (wG+(1:Int)))))))) else ((idx o5 (di))>>=fun Ra=>((idx se (wG))>>=fun Rb=>((fits 8 (jf.length+1))>>=fun ao3=>(some (Out.norm (jf++[aj (aj (aj ((lu.aC.length:Int)+aj (Ra * x1.aA))+Rb) - x0.aA)],aj (wG+(1:Int))))))))))))) else (some (Out.exit 6 (jf,wG))))
def fI (x0:aG) (x1:aG) (lu:aG) (o5:(List Int)) (se:(List Int)) (cj:(List (List Int))) (di:Int):Option (Out ((List (List Int))×Int) (aG)):=
 (bif decide (di < (o5.length:Int)) then (ae (ab 6 (af (fun s=>fH x0 x1 lu o5 se di s.1 s.2) (([]:(List Int)),(0:Int)))) (fun (jf,wG)=>((fits 24 (cj.length+1))>>=fun ao4=>(some (Out.norm (cj++[jf],aj (di+(1:Int)))))))) else (some (Out.exit 4 (cj,di))))
def gK (x0:aG) (x1:aG):Option (aG):=
 ak (S:=Unit) ((iI x0 x1)>>=fun lu=>(ae (ab 0 (af (fun s=>fG x0 x1 s.1 s.2.1 s.2.2) ((0:Int),lu.aC,lu.To))) (fun (br,o5,se)=>(ae (ab 4 (af (fun s=>fI x0 x1 lu o5 se s.1 s.2) (([]:(List (List Int))),(0:Int)))) (fun (cj,di)=>(some (Out.ret ((aG.mk lu.aA o5 se lu.aH cj)))))))))
def lE (x0:aG) (bn:Int) (mz:(List Int)) (p3:Int):Option (Out ((List Int)×Int) (aG)):=
 (bif decide (p3 < (x0.aC.length:Int)) then ((idx x0.aB (p3))>>=fun adl=>((idx adl (bn))>>=fun adm=>((fits 8 (mz.length+1))>>=fun n187=>(some (Out.norm (mz++[adm],aj (p3+(1:Int)))))))) else (some (Out.exit 2 (mz,p3))))
def lF (x0:aG) (bn:Int) (yI:(List (List Int))):Option (Out (Int×(List (List Int))) (aG)):=
 (bif decide (bn < (x0.aC.length:Int)) then (ae (ab 2 (af (fun s=>lE x0 bn s.1 s.2) (([]:(List Int)),(0:Int)))) (fun (mz,p3)=>((fits 24 (yI.length+1))>>=fun n222=>(some (Out.norm (aj (bn+(1:Int)),yI++[mz])))))) else (some (Out.exit 0 (bn,yI))))
def iA (x0:aG):Option (aG):=
 ak (S:=Unit) ((cW x0.To)>>=fun lu=>((cW x0.aC)>>=fun Dy=>((cW x0.aH)>>=fun K3=>(ae (ab 0 (af (fun s=>lF x0 s.1 s.2) ((0:Int),([]:(List (List Int)))))) (fun (bn,yI)=>(some (Out.ret ((aG.mk x0.aA lu Dy K3 yI)))))))))
def nC (Cs:Int×aM) (p3:(List Int)) (ee:Int):Option (Out ((List Int)×Int) (aG×aM)):=
 (bif decide (ee < aj ((1:Int)+Cs.1)) then ((fits 8 (p3.length+1))>>=fun adn=>(some (Out.norm (p3++[(1:Int)],aj (ee+(1:Int)))))) else (some (Out.exit 3 (p3,ee))))
def nD (Cs:Int×aM) (bn:(List (List Int))) (aX:Int):Option (Out ((List (List Int))×Int) (aG×aM)):=
 (bif decide (aX < aj ((1:Int)+Cs.1)) then (ae (ab 3 (af (fun s=>nC Cs s.1 s.2) (([]:(List Int)),(0:Int)))) (fun (p3,ee)=>((fits 24 (bn.length+1))>>=fun ao5=>(some (Out.norm (bn++[p3],aj (aX+(1:Int)))))))) else (some (Out.exit 1 (bn,aX))))
def nE (x0:aM) (Bf:Int×aM) (cj:(List Int)) (di:(List Int)) (ot:Int) (zx:Int) (zy:Int):Option (Out ((List Int)×(List Int)×Int×Int×Int) (aG×aM)):=
 (bif decide (ot > (0:Int)) then ((bN (aM.mk x0.Code zx zy) (aj (aj ((2:Int)+Bf.1) - (1:Int))))>>=fun EJ=>((fits 8 (cj.length+1))>>=fun amc=>((bN (aM.mk x0.Code EJ.2.At EJ.2.bb) (aj (aj (aj ((2:Int)+Bf.1) - (1:Int)) - EJ.1)))>>=fun Mz=>((fits 8 (di.length+1))>>=fun amd=>(some (Out.norm (cj++[EJ.1],di++[aj (aj (EJ.1+(1:Int))+Mz.1)],aj (ot - (1:Int)),Mz.2.At,Mz.2.bb))))))) else (some (Out.exit 5 (cj,di,ot,zx,zy))))
def gD (x0:aM):Option (aG×aM):=
 ak (S:=Unit) ((bN x0 ((12:Int)))>>=fun ig=>(bif (ig.1) == ((0:Int)) then ((bN (aM.mk x0.Code ig.2.At ig.2.bb) ((5:Int)))>>=fun K4=>((iS (aM.mk x0.Code K4.2.At K4.2.bb) (K4.1))>>=fun Ap=>((dB Ap.1)>>=fun IZ=>(some (Out.ret ((IZ,(aM.mk x0.Code Ap.2.At Ap.2.bb)))))))) else (bif (ig.1) == ((1:Int)) then ((dB [[(1:Int),(1:Int)],[(0:Int),(1:Int)]])>>=fun Cu=>(some (Out.ret ((Cu,(aM.mk x0.Code ig.2.At ig.2.bb)))))) else (bif (ig.1) == ((2:Int)) then ((dB [[(1:Int),(1:Int),(1:Int)],[(0:Int),(1:Int),(0:Int)],[(0:Int),(0:Int),(1:Int)]])>>=fun I0=>(some (Out.ret ((I0,(aM.mk x0.Code ig.2.At ig.2.bb)))))) else (bif (ig.1) == ((3:Int)) then ((eQ ((2:Int)) [(0:Int),(0:Int)] [(1:Int),(1:Int)])>>=fun ado=>(some (Out.ret ((ado,(aM.mk x0.Code ig.2.At ig.2.bb)))))) else (bif (ig.1) == ((4:Int)) then ((iL (aM.mk x0.Code ig.2.At ig.2.bb))>>=fun Rc=>((iM Rc.1)>>=fun adp=>(some (Out.ret ((adp,(aM.mk x0.Code Rc.2.At Rc.2.bb))))))) else (bif (ig.1) == ((5:Int)) then ((bN (aM.mk x0.Code ig.2.At ig.2.bb) ((3:Int)))>>=fun Cs=>(ae (ab 1 (af (fun s=>nD Cs s.1 s.2) (([]:(List (List Int))),(0:Int)))) (fun (bn,aX)=>((dB bn)>>=fun adq=>(some (Out.ret ((adq,(aM.mk x0.Code Cs.2.At Cs.2.bb))))))))) else (bif (ig.1) == ((6:Int)) then ((eQ ((3:Int)) [(0:Int),(1:Int),(0:Int)] [(1:Int),(2:Int),(2:Int)])>>=fun adr=>(some (Out.ret ((adr,(aM.mk x0.Code ig.2.At ig.2.bb)))))) else (bif (ig.1) == ((7:Int)) then ((nR)>>=fun ads=>(some (Out.ret ((ads,(aM.mk x0.Code ig.2.At ig.2.bb)))))) else (bif (ig.1) == ((8:Int)) then ((iL (aM.mk x0.Code ig.2.At ig.2.bb))>>=fun Re=>((iM Re.1)>>=fun adu=>((dB [[(1:Int)]])>>=fun adv=>((gK adu adv)>>=fun adw=>((iA adw)>>=fun adx=>(some (Out.ret ((adx,(aM.mk x0.Code Re.2.At Re.2.bb)))))))))) else (bif (ig.1) == ((9:Int)) then ((iL (aM.mk x0.Code ig.2.At ig.2.bb))>>=fun Rf=>((iM Rf.1)>>=fun ady=>((dB [[(1:Int)]])>>=fun adz=>((gK ady adz)>>=fun adA=>(some (Out.ret ((adA,(aM.mk x0.Code Rf.2.At Rf.2.bb))))))))) else (bif (ig.1) == ((10:Int)) then ((bN (aM.mk x0.Code ig.2.At ig.2.bb) ((2:Int)))>>=fun MA=>((iS (aM.mk x0.Code MA.2.At MA.2.bb) (aj ((2:Int)+MA.1)))>>=fun MB=>((dB MB.1)>>=fun ZN=>(some (Out.ret ((ZN,(aM.mk x0.Code MB.2.At MB.2.bb)))))))) else ((bN (aM.mk x0.Code ig.2.At ig.2.bb) ((2:Int)))>>=fun Bf=>((bN (aM.mk x0.Code Bf.2.At Bf.2.bb) ((4:Int)))>>=fun MC=>(ae (ab 5 (af (fun s=>nE x0 Bf s.1 s.2.1 s.2.2.1 s.2.2.2.1 s.2.2.2.2) (([]:(List Int)),([]:(List Int)),MC.1,MC.2.At,MC.2.bb))) (fun (cj,di,ot,zx,zy)=>((eQ (aj ((2:Int)+Bf.1)) cj di)>>=fun ZO=>(some (Out.ret ((ZO,(aM.mk x0.Code zx zy))))))))))))))))))))))
def eG (x0:aG) (x1:aG) (ep:Int) (n7:Int) (yJ:(List Int)):Option (Out (Int×(List Int)) (aG)):=
 (bif decide (n7 < x1.aA) then ((idx x0.aH (ep))>>=fun adB=>((idx x1.aH (n7))>>=fun adC=>((fits 8 (yJ.length+1))>>=fun n186=>(some (Out.norm (aj (n7+(1:Int)),yJ++[aj (aj (adB * (x1.aC.length:Int))+adC)])))))) else (some (Out.exit 2 (n7,yJ))))
def eH (x0:aG) (x1:aG) (ep:Int) (Bi:(List Int)):Option (Out (Int×(List Int)) (aG)):=
 (bif decide (ep < x0.aA) then (ae (ab 2 (af (fun s=>eG x0 x1 ep s.1 s.2) ((0:Int),Bi))) (fun (n7,yJ)=>(some (Out.norm (aj (ep+(1:Int)),yJ))))) else (some (Out.exit 0 (ep,Bi))))
def eI (x0:aG) (x1:aG) (di:Int) (jf:Int) (ue:Int) (tj:(List Int)) (tM:Int):Option (Out ((List Int)×Int) (aG)):=
 (bif decide (tM < (x1.aC.length:Int)) then ((((idx x0.aB (di))>>=fun adD=>((idx adD (ue))>>=fun adE=>(bif decide (adE ≥ (0:Int)) then ((idx x1.aB (jf))>>=fun adF=>((idx adF (tM))>>=fun adG=>(some (decide (adG ≥ (0:Int)))))) else (some (false))))))>>=fun adH=>(bif adH then ((idx x0.aB (di))>>=fun adI=>((idx adI (ue))>>=fun adJ=>((idx x1.aB (jf))>>=fun adK=>((idx adK (tM))>>=fun adL=>((fits 8 (tj.length+1))>>=fun ao6=>(some (Out.norm (tj++[aj (aj (adJ * (x1.aC.length:Int))+adL)],aj (tM+(1:Int)))))))))) else ((fits 8 (tj.length+1))>>=fun ao7=>(some (Out.norm (tj++[(-1:Int)],aj (tM+(1:Int)))))))) else (some (Out.exit 10 (tj,tM))))
def eJ (x0:aG) (x1:aG) (di:Int) (jf:Int) (ll:(List Int)) (ue:Int):Option (Out ((List Int)×Int) (aG)):=
 (bif decide (ue < (x0.aC.length:Int)) then (ae (ab 10 (af (fun s=>eI x0 x1 di jf ue s.1 s.2) (ll,(0:Int)))) (fun (tj,tM)=>(some (Out.norm (tj,aj (ue+(1:Int))))))) else (some (Out.exit 8 (ll,ue))))
def eK (x0:aG) (x1:aG) (di:Int) (jf:Int) (yK:(List Int)) (yL:(List Int)) (yM:(List (List Int))):Option (Out (Int×(List Int)×(List Int)×(List (List Int))) (aG)):=
 (bif decide (jf < (x1.aC.length:Int)) then ((idx x0.aC (di))>>=fun adM=>((idx x1.aC (jf))>>=fun adN=>((fits 8 (yK.length+1))>>=fun n318=>((idx x0.To (di))>>=fun adO=>((idx x1.To (jf))>>=fun QJ=>((fits 8 (yL.length+1))>>=fun ao8=>(ae (ab 8 (af (fun s=>eJ x0 x1 di jf s.1 s.2) (([]:(List Int)),(0:Int)))) (fun (ll,ue)=>((fits 24 (yM.length+1))>>=fun ao9=>(some (Out.norm (aj (jf+(1:Int)),yK++[aj (aj (adM * x1.aA)+adN)],yL++[aj (aj (adO * x1.aA)+QJ)],yM++[ll])))))))))))) else (some (Out.exit 6 (jf,yK,yL,yM))))
def eL (x0:aG) (x1:aG) (di:Int) (Bj:(List Int)) (Bo:(List Int)) (Bp:(List (List Int))):Option (Out (Int×(List Int)×(List Int)×(List (List Int))) (aG)):=
 (bif decide (di < (x0.aC.length:Int)) then (ae (ab 6 (af (fun s=>eK x0 x1 di s.1 s.2.1 s.2.2.1 s.2.2.2) ((0:Int),Bj,Bo,Bp))) (fun (jf,yK,yL,yM)=>(some (Out.norm (aj (di+(1:Int)),yK,yL,yM))))) else (some (Out.exit 4 (di,Bj,Bo,Bp))))
def eV (x0:aG) (x1:aG):Option (aG):=
 ak (S:=Unit) (ae (ab 0 (af (fun s=>eH x0 x1 s.1 s.2) ((0:Int),([]:(List Int))))) (fun (ep,Bi)=>(ae (ab 4 (af (fun s=>eL x0 x1 s.1 s.2.1 s.2.2.1 s.2.2.2) ((0:Int),([]:(List Int)),([]:(List Int)),([]:(List (List Int)))))) (fun (di,Bj,Bo,Bp)=>(some (Out.ret ((aG.mk (aj (x0.aA * x1.aA)) Bj Bo Bi Bp))))))))
def oY (x0:aM) (x1:Int) (x2:Int) (br:Int) (p5:Int) (p6:Int):Option (Out (Int×Int×Int) (aG×aM)):=
 (bif decide (br < (12:Int)) then ((gD (aM.mk x0.Code p5 p6))>>=fun BV=>((bN (aM.mk x0.Code BV.2.At BV.2.bb) ((5:Int)))>>=fun Ow=>(bif (Ow.1) == ((0:Int)) then ((gD (aM.mk x0.Code Ow.2.At Ow.2.bb))>>=fun Xz=>((iI BV.1 Xz.1)>>=fun Bq=>((bN (aM.mk x0.Code Xz.2.At Xz.2.bb) ((8:Int)))>>=fun DW=>(bif (DW.1) == ((0:Int)) then ((gD (aM.mk x0.Code DW.2.At DW.2.bb))>>=fun I1=>((eV Bq I1.1)>>=fun MD=>(((bif decide (MD.aA≤x1) then (bif decide ((MD.aC.length:Int)≤x2) then ((dP MD)>>=fun adP=>(some (adP))) else (some (false))) else (some (false))))>>=fun adQ=>(bif adQ then (some (Out.ret ((MD,(aM.mk x0.Code I1.2.At I1.2.bb))))) else (some (Out.norm (aj (br+(1:Int)),I1.2.At,I1.2.bb))))))) else (((bif decide (Bq.aA≤x1) then (bif decide ((Bq.aC.length:Int)≤x2) then ((dP Bq)>>=fun adR=>(some (adR))) else (some (false))) else (some (false))))>>=fun adS=>(bif adS then (some (Out.ret ((Bq,(aM.mk x0.Code DW.2.At DW.2.bb))))) else (some (Out.norm (aj (br+(1:Int)),DW.2.At,DW.2.bb))))))))) else ((bN (aM.mk x0.Code Ow.2.At Ow.2.bb) ((8:Int)))>>=fun DX=>(bif (DX.1) == ((0:Int)) then ((gD (aM.mk x0.Code DX.2.At DX.2.bb))>>=fun I2=>((eV BV.1 I2.1)>>=fun ME=>(((bif decide (ME.aA≤x1) then (bif decide ((ME.aC.length:Int)≤x2) then ((dP ME)>>=fun adT=>(some (adT))) else (some (false))) else (some (false))))>>=fun adU=>(bif adU then (some (Out.ret ((ME,(aM.mk x0.Code I2.2.At I2.2.bb))))) else (some (Out.norm (aj (br+(1:Int)),I2.2.At,I2.2.bb))))))) else (((bif decide (BV.1.aA≤x1) then (bif decide ((BV.1.aC.length:Int)≤x2) then ((dP BV.1)>>=fun adV=>(some (adV))) else (some (false))) else (some (false))))>>=fun adW=>(bif adW then (some (Out.ret ((BV.1,(aM.mk x0.Code DX.2.At DX.2.bb))))) else (some (Out.norm (aj (br+(1:Int)),DX.2.At,DX.2.bb)))))))))) else (some (Out.exit 0 (br,p5,p6))))
def mA (x0:aM) (x1:Int) (x2:Int):Option (aG×aM):=
 ak (S:=Unit) (ae (ab 0 (af (fun s=>oY x0 x1 x2 s.1 s.2.1 s.2.2) ((0:Int),x0.At,x0.bb))) (fun (br,p5,p6)=>((dB [[(1:Int)]])>>=fun adX=>(some (Out.ret ((adX,(aM.mk x0.Code p5 p6))))))))
def oZ (x0:aG) (x1:Int):Option (Bool):=
 ak (S:=Unit) ((idx x0.aC (x1))>>=fun e8=>((idx x0.aH (e8))>>=fun Ox=>(some (Out.ret (((Ox) == (x1)))))))
def nF (x0:aG) (ie:(List Int)) (bn:Int):Option (Out ((List Int)×Int) ((List Int))):=
 (bif decide (bn < (x0.aC.length:Int)) then ((oZ x0 (bn))>>=fun lu=>(bif !(lu) then ((fits 8 (ie.length+1))>>=fun n45=>(some (Out.norm (ie++[bn],aj (bn+(1:Int)))))) else (some (Out.norm (ie,aj (bn+(1:Int))))))) else (some (Out.exit 0 (ie,bn))))
def mQ (x0:aG):Option ((List Int)):=
 ak (S:=Unit) (ae (ab 0 (af (fun s=>nF x0 s.1 s.2) (([]:(List Int)),(0:Int)))) (fun (ie,bn)=>(some (Out.ret (ie)))))
def lG (x0:aG) (x1:aG):Option (Bool):=
 ak (S:=Unit) ((mQ x0)>>=fun s9=>(bif decide ((s9.length:Int)≤(8:Int)) then (some (Out.ret ((decide ((x1.aC.length:Int)≤(16:Int)))))) else (some (Out.ret (false)))))
def gE (x0:aG) (x1:Int) (x2:Int) (br:(List Int)) (ep:Int):Option (Out ((List Int)×Int) ((List Int))):=
 (bif decide (ep < (x0.aC.length:Int)) then ((((idx x0.aC (ep))>>=fun GS=>(bif (GS) == (x1) then ((idx x0.To (ep))>>=fun XA=>(some ((XA) == (x2)))) else (some (false)))))>>=fun Oy=>(bif Oy then ((fits 8 (br.length+1))>>=fun n50=>(some (Out.norm (br++[ep],aj (ep+(1:Int)))))) else (some (Out.norm (br,aj (ep+(1:Int))))))) else (some (Out.exit 0 (br,ep))))
def dX (x0:aG) (x1:Int) (x2:Int):Option ((List Int)):=
 ak (S:=Unit) (ae (ab 0 (af (fun s=>gE x0 x1 x2 s.1 s.2) (([]:(List Int)),(0:Int)))) (fun (br,ep)=>(some (Out.ret (br)))))
def qV (x0:aG) (x1:aG) (x2:(List Int)) (br:Int):Option (Out (Int) (Bool)):=
 (bif decide (br < (x0.aC.length:Int)) then ((idx x0.aC (br))>>=fun K5=>((idx x0.To (br))>>=fun GU=>(bif decide (K5 < (x2.length:Int)) then (bif decide (GU < (x2.length:Int)) then ((idx x2 (K5))>>=fun GR=>((idx x2 (GU))>>=fun Oz=>((dX x1 (GR) (Oz))>>=fun OA=>(bif ((OA.length:Int)) == ((0:Int)) then (some (Out.ret (false))) else (some (Out.norm (aj (br+(1:Int))))))))) else (some (Out.norm (aj (br+(1:Int)))))) else (some (Out.norm (aj (br+(1:Int)))))))) else (some (Out.exit 0 (br))))
def nS (x0:aG) (x1:aG) (x2:(List Int)):Option (Bool):=
 ak (S:=Unit) (ae (ab 0 (af (qV x0 x1 x2) ((0:Int)))) (fun br=>(some (Out.ret (true)))))
def oE (x0:aG) (x1:aG) (cf:Int) (sS:Bool) (cj:Int) (nk:(List Int)):Option (Out (Bool×Int×(List Int)) (Bool×(List Int))):=
 (bif decide (cj < (nk.length:Int)) then ((idx x0.aB (cf))>>=fun yN=>((idx yN (cj))>>=fun BT=>(((bif decide (BT < (0:Int)) then (some (true)) else ((idx nk (cf))>>=fun XB=>(bif decide (XB < (0:Int)) then (some (true)) else ((idx nk (cj))>>=fun Dz=>(some (decide (Dz < (0:Int)))))))))>>=fun g66=>(bif g66 then (some (Out.norm (sS,aj (cj+(1:Int)),nk))) else ((idx nk (cf))>>=fun K6=>((idx x1.aB (K6))>>=fun Cv=>((idx nk (cj))>>=fun BU=>((idx Cv (BU))>>=fun e90=>((((idx nk (BT))>>=fun I3=>(bif decide (I3 ≥ (0:Int)) then ((idx nk (BT))>>=fun Tg=>(some ((Tg) != (e90)))) else (some (false)))))>>=fun g94=>(bif g94 then (some (Out.ret ((false,nk)))) else (((bif sS then (some (true)) else ((idx nk (BT))>>=fun DV=>(some (decide (DV < (0:Int)))))))>>=fun adY=>((idx nk (BT))>>=fun adZ=>(some (Out.norm (adY,aj (cj+(1:Int)),nk.set (BT).toNat (e90)))))))))))))))) else (some (Out.exit 4 (sS,cj,nk))))
def oF (x0:aG) (x1:aG) (ee:Bool) (cf:Int) (Ar:(List Int)):Option (Out (Bool×Int×(List Int)) (Bool×(List Int))):=
 (bif decide (cf < (Ar.length:Int)) then (ae (ab 4 (af (fun s=>oE x0 x1 cf s.1 s.2.1 s.2.2) (ee,(0:Int),Ar))) (fun (sS,cj,nk)=>(some (Out.norm (sS,aj (cf+(1:Int)),nk))))) else (some (Out.exit 2 (ee,cf,Ar))))
def oG (x0:aG) (x1:aG) (br:Bool) (CZ:(List Int)):Option (Out (Bool×(List Int)) (Bool×(List Int))):=
 (bif br then (ae (ab 2 (af (fun s=>oF x0 x1 s.1 s.2.1 s.2.2) (false,(0:Int),CZ))) (fun (ee,cf,Ar)=>(some (Out.norm (ee,Ar))))) else (some (Out.exit 0 (br,CZ))))
def nT (x0:aG) (x1:aG) (x2:(List Int)):Option (Bool×(List Int)):=
 ak (S:=Unit) (ae (ab 0 (af (fun s=>oG x0 x1 s.1 s.2) (true,x2))) (fun (br,CZ)=>(some (Out.ret ((true,CZ))))))
def qQ (x3:(List Int)) (bn:Int):Option (Out (Int) ((List (List Int)))):=
 (((bif decide (bn < (x3.length:Int)) then ((idx x3 (bn))>>=fun XC=>(some (decide (XC ≥ (0:Int))))) else (some (false))))>>=fun g32=>(bif g32 then (some (Out.norm (aj (bn+(1:Int))))) else (some (Out.exit 0 (bn)))))
def nG (rc:aG→aG→(List Int)→(List Int)→Int→(List (List Int))→Option ((List (List Int)))) (x0:aG) (x1:aG) (x2:(List Int)) (x3:(List Int)) (bn:Int) (Th:(List Int)) (mz:(List (List Int))) (mi:Int):Option (Out ((List (List Int))×Int) ((List (List Int)))):=
 (((bif decide (mi < (Th.length:Int)) then (some (decide ((mz.length:Int)≤(200:Int)))) else (some (false))))>>=fun ad0=>(bif ad0 then ((cW x3)>>=fun XD=>((idx Th (mi))>>=fun I4=>((idx XD (bn))>>=fun MG=>((nT x0 x1 (XD.set (bn).toNat (I4)))>>=fun DY=>(bif DY.1 then ((rc x0 x1 x2 DY.2 (aj (bn+(1:Int))) mz)>>=fun Rh=>(some (Out.norm (Rh,aj (mi+(1:Int)))))) else (some (Out.norm (mz,aj (mi+(1:Int)))))))))) else (some (Out.exit 2 (mz,mi)))))
def kU (rc:aG→aG→(List Int)→(List Int)→Int→(List (List Int))→Option ((List (List Int)))) (x0:aG) (x1:aG) (x2:(List Int)) (x3:(List Int)) (x4:Int) (x5:(List (List Int))):Option ((List (List Int))):=
 ak (S:=Unit) (ae (ab 0 (af (qQ x3) (x4))) (fun bn=>(bif (bn) == ((x3.length:Int)) then ((cW x3)>>=fun y46=>((fits 24 (x5.length+1))>>=fun n70=>(some (Out.ret ((x5++[y46])))))) else ((idx x0.aC (bn))>>=fun XE=>((idx x2 (XE))>>=fun e77=>((idx x0.To (bn))>>=fun K6=>((idx x2 (K6))>>=fun Cv=>((dX x1 (e77) (Cv))>>=fun Th=>(ae (ab 2 (af (fun s=>nG rc x0 x1 x2 x3 bn Th s.1 s.2) (x5,(0:Int)))) (fun (mz,mi)=>(some (Out.ret (mz)))))))))))))
def gF:Nat→aG→aG→(List Int)→(List Int)→Int→(List (List Int))→Option ((List (List Int)))
 | 0=>fun _ _ _ _ _ _=>none
 | n+1=>kU (gF n)
def jC (x0:aG) (x1:aG) (x2:(List Int)) (x3:(List Int)):Option (aJ):=
 ak (S:=Unit) ((jZ x0)>>=fun lu=>((jZ x1)>>=fun XF=>((cW x2)>>=fun ad1=>((cW x3)>>=fun ad2=>(some (Out.ret ((aJ.mk lu XF ad1 ad2))))))))
def nH (x0:aG) (dp:(List Int)) (lp:Int):Option (Out ((List Int)×Int) ((List aJ))):=
 (bif decide (lp < (x0.aC.length:Int)) then ((fits 8 (dp.length+1))>>=fun n78=>(some (Out.norm (dp++[(-1:Int)],aj (lp+(1:Int)))))) else (some (Out.exit 0 (dp,lp))))
def nI (x0:aG) (x1:aG) (x2:(List Int)) (uf:Int) (Cw:(List Int)):Option (Out (Int×(List Int)) ((List aJ))):=
 (bif decide (uf < (x2.length:Int)) then ((idx x0.aH (uf))>>=fun XG=>((idx x2 (uf))>>=fun FP=>((idx x1.aH (FP))>>=fun Ri=>((idx Cw (XG))>>=fun MH=>(some (Out.norm (aj (uf+(1:Int)),Cw.set (XG).toNat (Ri)))))))) else (some (Out.exit 2 (uf,Cw))))
def nJ (x0:aG) (x1:aG) (x2:(List Int)) (DZ:(List (List Int))) (FQ:(List aJ)) (EK:Int):Option (Out ((List aJ)×Int) ((List aJ))):=
 (((bif decide (EK < (DZ.length:Int)) then (some (decide ((FQ.length:Int)≤(200:Int)))) else (some (false))))>>=fun ad3=>(bif ad3 then ((idx DZ (EK))>>=fun ad4=>((jC x0 x1 x2 ad4)>>=fun ad5=>((fits 256 (FQ.length+1))>>=fun n290=>(some (Out.norm (FQ++[ad5],aj (EK+(1:Int)))))))) else (some (Out.exit 4 (FQ,EK)))))
def nK (rc:aG→aG→(List Int)→(List aJ)→Option ((List aJ))) (x0:aG) (x1:aG) (x2:(List Int)) (I5:(List aJ)) (EL:Int):Option (Out ((List aJ)×Int) ((List aJ))):=
 (((bif decide (EL < x1.aA) then (some (decide ((I5.length:Int)≤(200:Int)))) else (some (false))))>>=fun ad6=>(bif ad6 then ((cW x2)>>=fun D0=>((fits 8 (D0.length+1))>>=fun n342=>((rc x0 x1 (D0++[EL]) I5)>>=fun ad7=>(some (Out.norm (ad7,aj (EL+(1:Int)))))))) else (some (Out.exit 6 (I5,EL)))))
def kV (rc:aG→aG→(List Int)→(List aJ)→Option ((List aJ))) (x0:aG) (x1:aG) (x2:(List Int)) (x3:(List aJ)):Option ((List aJ)):=
 ak (S:=Unit) ((nS x0 x1 x2)>>=fun Dx=>(bif !(Dx) then (some (Out.ret (x3))) else (bif ((x2.length:Int)) == (x0.aA) then (ae (ab 0 (af (fun s=>nH x0 s.1 s.2) (([]:(List Int)),(0:Int)))) (fun (dp,lp)=>(ae (ab 2 (af (fun s=>nI x0 x1 x2 s.1 s.2) ((0:Int),dp))) (fun (uf,Cw)=>((gF 64 x0 x1 x2 Cw ((0:Int)) (([]:(List (List Int)))))>>=fun DZ=>(ae (ab 4 (af (fun s=>nJ x0 x1 x2 DZ s.1 s.2) (x3,(0:Int)))) (fun (FQ,EK)=>(some (Out.ret (FQ)))))))))) else (ae (ab 6 (af (fun s=>nK rc x0 x1 x2 s.1 s.2) (x3,(0:Int)))) (fun (I5,EL)=>(some (Out.ret (I5))))))))
def gG:Nat→aG→aG→(List Int)→(List aJ)→Option ((List aJ))
 | 0=>fun _ _ _ _=>none
 | n+1=>kV (gG n)
def nQ (x0:aG) (x1:aG):Option ((List aJ)):=
 ak (S:=Unit) ((gG 64 x0 x1 (([]:(List Int))) (([]:(List aJ))))>>=fun XH=>(some (Out.ret (XH))))
def fR (x0:aG) (x2:Int) (br:(List Int)) (dp:Int):Option (Out ((List Int)×Int) (aJ)):=
 (bif decide (dp < x0.aA) then ((fits 8 (br.length+1))>>=fun n81=>(some (Out.norm (br++[x2],aj (dp+(1:Int)))))) else (some (Out.exit 0 (br,dp))))
def fS (x0:aG) (x1:aG) (x2:Int) (cf:(List Int)) (jd:Int):Option (Out ((List Int)×Int) (aJ)):=
 (bif decide (jd < (x0.aC.length:Int)) then ((idx x1.aH (x2))>>=fun ad8=>((fits 8 (cf.length+1))>>=fun n131=>(some (Out.norm (cf++[ad8],aj (jd+(1:Int))))))) else (some (Out.exit 2 (cf,jd))))
def dF (x0:aG) (x1:aG) (x2:Int):Option (aJ):=
 ak (S:=Unit) (ae (ab 0 (af (fun s=>fR x0 x2 s.1 s.2) (([]:(List Int)),(0:Int)))) (fun (br,dp)=>(ae (ab 2 (af (fun s=>fS x0 x1 x2 s.1 s.2) (([]:(List Int)),(0:Int)))) (fun (cf,jd)=>((jC x0 x1 br cf)>>=fun ad9=>(some (Out.ret (ad9))))))))
def pA (x0:aG) (ie:(List Int)) (aX:Int):Option (Out ((List Int)×Int) (aJ)):=
 (bif decide (aX < x0.aA) then ((fits 8 (ie.length+1))>>=fun n65=>(some (Out.norm (ie++[aX],aj (aX+(1:Int)))))) else (some (Out.exit 0 (ie,aX))))
def pB (x0:aG) (I6:(List Int)) (p3:Int):Option (Out ((List Int)×Int) (aJ)):=
 (bif decide (p3 < (x0.aC.length:Int)) then ((fits 8 (I6.length+1))>>=fun n107=>(some (Out.norm (I6++[p3],aj (p3+(1:Int)))))) else (some (Out.exit 2 (I6,p3))))
def jD (x0:aG):Option (aJ):=
 ak (S:=Unit) (ae (ab 0 (af (fun s=>pA x0 s.1 s.2) (([]:(List Int)),(0:Int)))) (fun (ie,aX)=>(ae (ab 2 (af (fun s=>pB x0 s.1 s.2) (([]:(List Int)),(0:Int)))) (fun (I6,p3)=>((jC x0 x0 ie I6)>>=fun aea=>(some (Out.ret (aea))))))))
def pC (x0:aM) (x1:aG) (x2:Int) (x3:Int):Option (aJ×aM):=
 ak (S:=Unit) ((mA x0 (x2) (x3))>>=fun dc=>((lG x1 dc.1)>>=fun y77=>(bif y77 then ((nQ x1 dc.1)>>=fun XI=>(bif decide ((XI.length:Int) > (0:Int)) then ((bN (aM.mk x0.Code dc.2.At dc.2.bb) ((XI.length:Int)))>>=fun wx=>((idx XI (wx.1))>>=fun xn=>(some (Out.ret ((xn,(aM.mk x0.Code wx.2.At wx.2.bb))))))) else (bif decide (dc.1.aA > (0:Int)) then ((bN (aM.mk x0.Code dc.2.At dc.2.bb) ((2:Int)))>>=fun I7=>(bif (I7.1) == ((0:Int)) then ((bN (aM.mk x0.Code I7.2.At I7.2.bb) (dc.1.aA))>>=fun I0=>((dF x1 dc.1 (I0.1))>>=fun aeb=>(some (Out.ret ((aeb,(aM.mk x0.Code I0.2.At I0.2.bb))))))) else ((jD x1)>>=fun aec=>(some (Out.ret ((aec,(aM.mk x0.Code I7.2.At I7.2.bb)))))))) else ((jD x1)>>=fun aed=>(some (Out.ret ((aed,(aM.mk x0.Code dc.2.At dc.2.bb))))))))) else (bif decide (dc.1.aA > (0:Int)) then ((bN (aM.mk x0.Code dc.2.At dc.2.bb) ((2:Int)))>>=fun I8=>(bif (I8.1) == ((0:Int)) then ((bN (aM.mk x0.Code I8.2.At I8.2.bb) (dc.1.aA))>>=fun Rj=>((dF x1 dc.1 (Rj.1))>>=fun aee=>(some (Out.ret ((aee,(aM.mk x0.Code Rj.2.At Rj.2.bb))))))) else ((jD x1)>>=fun aef=>(some (Out.ret ((aef,(aM.mk x0.Code I8.2.At I8.2.bb)))))))) else ((jD x1)>>=fun aeg=>(some (Out.ret ((aeg,(aM.mk x0.Code dc.2.At dc.2.bb))))))))))
def pD (x0:aM) (x1:(List Int)):Option (Int×aM):=
 ak (S:=Unit) ((bN x0 ((x1.length:Int)))>>=fun y6=>((idx x1 (y6.1))>>=fun Oq=>(some (Out.ret ((Oq,(aM.mk x0.Code y6.2.At y6.2.bb)))))))
def pE (x0:aM) (x1:aG):Option (aG×aM):=
 ak (S:=Unit) ((jZ x1)>>=fun dc=>((bN x0 ((dc.aC.length:Int)))>>=fun xB=>((bN (aM.mk x0.Code xB.2.At xB.2.bb) ((8:Int)))>>=fun mb=>(bif (mb.1) == ((0:Int)) then ((pD (aM.mk x0.Code mb.2.At mb.2.bb) ([aj (dc.aA+(1:Int)),(-1:Int),(9:Int)]))>>=fun Cy=>(some (Out.ret (((aG.mk Cy.1 dc.aC dc.To dc.aH dc.aB),(aM.mk x0.Code Cy.2.At Cy.2.bb)))))) else (bif (mb.1) == ((1:Int)) then ((fits 8 (dc.aC.length+1))>>=fun n120=>(some (Out.ret (((aG.mk dc.aA (dc.aC++[(0:Int)]) dc.To dc.aH dc.aB),(aM.mk x0.Code mb.2.At mb.2.bb)))))) else (bif (mb.1) == ((2:Int)) then (bif decide ((dc.aH.length:Int) > (0:Int)) then ((bN (aM.mk x0.Code mb.2.At mb.2.bb) (aj ((dc.aC.length:Int)+(1:Int))))>>=fun I9=>((idx dc.aH ((0:Int)))>>=fun apa=>(some (Out.ret (((aG.mk dc.aA dc.aC dc.To (dc.aH.set ((0:Int)).toNat (I9.1)) dc.aB),(aM.mk x0.Code I9.2.At I9.2.bb))))))) else (some (Out.ret ((dc,(aM.mk x0.Code mb.2.At mb.2.bb)))))) else (bif (mb.1) == ((3:Int)) then (bif decide ((dc.aC.length:Int) > (0:Int)) then ((idx dc.aB (xB.1))>>=fun XJ=>((bN (aM.mk x0.Code mb.2.At mb.2.bb) ((dc.aC.length:Int)))>>=fun MI=>((bN (aM.mk x0.Code MI.2.At MI.2.bb) (aj ((dc.aC.length:Int)+(1:Int))))>>=fun Rk=>((idx XJ (MI.1))>>=fun apb=>(some (Out.ret (((aG.mk dc.aA dc.aC dc.To dc.aH (dc.aB.set (xB.1).toNat (XJ.set (MI.1).toNat (aj (Rk.1 - (1:Int)))))),(aM.mk x0.Code Rk.2.At Rk.2.bb))))))))) else (some (Out.ret ((dc,(aM.mk x0.Code mb.2.At mb.2.bb)))))) else (bif (mb.1) == ((4:Int)) then (bif decide ((dc.aC.length:Int) > (0:Int)) then ((idx dc.aB (xB.1))>>=fun XK=>((bN (aM.mk x0.Code mb.2.At mb.2.bb) ((dc.aC.length:Int)))>>=fun MJ=>((bN (aM.mk x0.Code MJ.2.At MJ.2.bb) (aj ((dc.aC.length:Int)+(1:Int))))>>=fun Rm=>((idx XK (MJ.1))>>=fun apc=>(some (Out.ret (((aG.mk dc.aA dc.aC dc.To dc.aH (dc.aB.set (xB.1).toNat (XK.set (MJ.1).toNat (aj (Rm.1 - (1:Int)))))),(aM.mk x0.Code Rm.2.At Rm.2.bb))))))))) else (some (Out.ret ((dc,(aM.mk x0.Code mb.2.At mb.2.bb)))))) else (bif (mb.1) == ((5:Int)) then (bif decide ((dc.aC.length:Int) > (0:Int)) then ((idx dc.aB (xB.1))>>=fun XL=>((bN (aM.mk x0.Code mb.2.At mb.2.bb) ((dc.aC.length:Int)))>>=fun MK=>((bN (aM.mk x0.Code MK.2.At MK.2.bb) (aj ((dc.aC.length:Int)+(1:Int))))>>=fun Ro=>((idx XL (MK.1))>>=fun apd=>(some (Out.ret (((aG.mk dc.aA dc.aC dc.To dc.aH (dc.aB.set (xB.1).toNat (XL.set (MK.1).toNat (aj (Ro.1 - (1:Int)))))),(aM.mk x0.Code Ro.2.At Ro.2.bb))))))))) else (some (Out.ret ((dc,(aM.mk x0.Code mb.2.At mb.2.bb)))))) else (bif (mb.1) == ((6:Int)) then (bif decide ((dc.aC.length:Int) > (0:Int)) then ((bN (aM.mk x0.Code mb.2.At mb.2.bb) (aj (dc.aA+(1:Int))))>>=fun Rp=>((idx dc.To (xB.1))>>=fun My=>(some (Out.ret (((aG.mk dc.aA dc.aC (dc.To.set (xB.1).toNat (Rp.1)) dc.aH dc.aB),(aM.mk x0.Code Rp.2.At Rp.2.bb))))))) else (some (Out.ret ((dc,(aM.mk x0.Code mb.2.At mb.2.bb)))))) else (bif decide ((dc.aC.length:Int) > (0:Int)) then ((idx dc.aB (xB.1))>>=fun aeh=>((tl aeh ((1:Int)))>>=fun aei=>((idx dc.aB (xB.1))>>=fun ape=>(some (Out.ret (((aG.mk dc.aA dc.aC dc.To dc.aH (dc.aB.set (xB.1).toNat aei)),(aM.mk x0.Code mb.2.At mb.2.bb)))))))) else (some (Out.ret ((dc,(aM.mk x0.Code mb.2.At mb.2.bb))))))))))))))))
def mB (x0:aM):Option (aJ×aM):=
 ak (S:=Unit) ((mA x0 ((4:Int)) ((10:Int)))>>=fun ig=>((pC (aM.mk x0.Code ig.2.At ig.2.bb) ig.1 ((4:Int)) ((12:Int)))>>=fun uI=>((bN (aM.mk x0.Code uI.2.At uI.2.bb) ((30:Int)))>>=fun wz=>(bif (wz.1) == ((0:Int)) then ((pE (aM.mk x0.Code wz.2.At wz.2.bb) uI.1.aE)>>=fun Rq=>(some (Out.ret (((aJ.mk Rq.1 uI.1.aF uI.1.aA uI.1.ah),(aM.mk x0.Code Rq.2.At Rq.2.bb)))))) else (bif (wz.1) == ((1:Int)) then (bif decide ((uI.1.ah.length:Int) > (0:Int)) then ((bN (aM.mk x0.Code wz.2.At wz.2.bb) ((uI.1.ah.length:Int)))>>=fun D0=>((bN (aM.mk x0.Code D0.2.At D0.2.bb) (aj ((uI.1.aF.aC.length:Int)+(1:Int))))>>=fun wy=>((idx uI.1.ah (D0.1))>>=fun apf=>(some (Out.ret (((aJ.mk uI.1.aE uI.1.aF uI.1.aA (uI.1.ah.set (D0.1).toNat (wy.1))),(aM.mk x0.Code wy.2.At wy.2.bb)))))))) else (some (Out.ret ((uI.1,(aM.mk x0.Code wz.2.At wz.2.bb)))))) else (bif (wz.1) == ((2:Int)) then ((fits 8 (uI.1.aA.length+1))>>=fun adn=>(some (Out.ret (((aJ.mk uI.1.aE uI.1.aF (uI.1.aA++[(0:Int)]) uI.1.ah),(aM.mk x0.Code wz.2.At wz.2.bb)))))) else (some (Out.ret ((uI.1,(aM.mk x0.Code wz.2.At wz.2.bb)))))))))))
def kW (x0:(List Int)):Option (aJ):=
 ak (S:=Unit) ((oW x0)>>=fun y8=>(match y8 with | none=>none | some m15=>((mB (aM.mk x0 m15.At m15.bb))>>=fun Ti=>(some (Out.ret (Ti.1))))))
def cH (x0:aG):Option (Int):=
 ak (S:=Unit) (some (Out.ret (((x0.aC.length:Int)))))
def eM (x0:Int) (x1:Int) (x2:Int):Option (Bool):=
 ak (S:=Unit) (((bif decide (x0 ≥ x1) then (some (decide (x0≤x2))) else (some (false))))>>=fun g3=>(some (Out.ret (g3))))
def iN (x0:(List Int)) (x1:Int) (dp:Int):Option (Out (Int) (Bool)):=
 (bif decide (dp < (x0.length:Int)) then ((idx x0 (dp))>>=fun e9=>((eM (e9) ((0:Int)) (aj (x1 - (1:Int))))>>=fun GV=>(bif !(GV) then (some (Out.ret (false))) else (some (Out.norm (aj (dp+(1:Int)))))))) else (some (Out.exit 0 (dp))))
def eW (x0:(List Int)) (x1:Int):Option (Bool):=
 ak (S:=Unit) (ae (ab 0 (af (iN x0 x1) ((0:Int)))) (fun dp=>(some (Out.ret (true)))))
def dT (x0:aG) (x1:Int):Option (sM):=
 ak (S:=Unit) ((idx x0.aC (x1))>>=fun e8=>((idx x0.To (x1))>>=fun Ox=>(some (Out.ret ((sM.mk e8 Ox))))))
def fJ (x0:aG) (Br:Int):Option (Out (Int) (Bool)):=
 (bif decide (Br < (x0.aH.length:Int)) then ((idx x0.aH (Br))>>=fun Ja=>((dT x0 (Ja))>>=fun y45=>(bif !((y45.aC) == (Br) && (y45.To) == (Br)) then (some (Out.ret (false))) else (some (Out.norm (aj (Br+(1:Int)))))))) else (some (Out.exit 0 (Br))))
def fK (x0:aG) (y3:Int) (vG:Int) (Jb:(List Int)) (wT:Int):Option (Out (Int) (Bool)):=
 (bif decide (wT < (Jb.length:Int)) then ((idx Jb (wT))>>=fun Cv=>((idx x0.To (vG))>>=fun XM=>((idx x0.aC (wT))>>=fun XN=>(bif (XM) != (XN) then (bif (Cv) != ((-1:Int)) then (some (Out.ret (false))) else (some (Out.norm (aj (wT+(1:Int)))))) else ((((eM (Cv) ((0:Int)) (aj (y3 - (1:Int))))>>=fun aej=>(bif !(aej) then (some (true)) else ((dT x0 (Cv))>>=fun ML=>((idx x0.aC (vG))>>=fun MH=>((idx x0.To (wT))>>=fun xn=>(some (!((ML.aC) == (MH) && (ML.To) == (xn))))))))))>>=fun g99=>(bif g99 then (some (Out.ret (false))) else (some (Out.norm (aj (wT+(1:Int))))))))))) else (some (Out.exit 4 (wT))))
def jE (x0:aG) (y3:Int) (vG:Int):Option (Out (Int) (Bool)):=
 (bif decide (vG < (x0.aB.length:Int)) then ((idx x0.aB (vG))>>=fun Jb=>(bif ((Jb.length:Int)) != (y3) then (some (Out.ret (false))) else (ae (ab 4 (af (fK x0 y3 vG Jb) ((0:Int)))) (fun wT=>(some (Out.norm (aj (vG+(1:Int))))))))) else (some (Out.exit 2 (vG))))
def gU (x0:aG):Option (Bool):=
 ak (S:=Unit) ((cH x0)>>=fun y3=>((((eM (x0.aA) ((0:Int)) ((8:Int)))>>=fun y9=>(bif !(y9) then (some (true)) else (bif decide (y3 > (40:Int)) then (some (true)) else (bif ((x0.To.length:Int)) != (y3) then (some (true)) else ((eW x0.aC (x0.aA))>>=fun K7=>(bif !(K7) then (some (true)) else ((eW x0.To (x0.aA))>>=fun As=>(some (!(As)))))))))))>>=fun g7=>(bif g7 then (some (Out.ret (false))) else (((bif ((x0.aH.length:Int)) != (x0.aA) then (some (true)) else ((eW x0.aH (y3))>>=fun Dx=>(bif !(Dx) then (some (true)) else (some (((x0.aB.length:Int)) != (y3)))))))>>=fun g24=>(bif g24 then (some (Out.ret (false))) else (ae (ab 0 (af (fJ x0) ((0:Int)))) (fun Br=>(ae (ab 2 (af (jE x0 y3) ((0:Int)))) (fun vG=>(some (Out.ret (true))))))))))))
def cG (x0:aG) (x1:Int) (x2:Int):Option (Int):=
 ak (S:=Unit) ((idx x0.aB (x1))>>=fun e3=>((idx e3 (x2))>>=fun Ox=>(some (Out.ret (Ox)))))
def gJ (x0:aG) (y3:Int) (br:Int):Option (Out (Int) (Int×Int×Int×Int)):=
 (bif decide (br < y3) then ((((idx x0.aC (br))>>=fun OB=>((idx x0.aH (OB))>>=fun e17=>((cG x0 (e17) (br))>>=fun GW=>(bif (GW) != (br) then (some (true)) else ((idx x0.To (br))>>=fun IS=>((idx x0.aH (IS))>>=fun Tj=>((cG x0 (br) (Tj))>>=fun Ap=>(some ((Ap) != (br)))))))))))>>=fun g13=>(bif g13 then (some (Out.ret ((((1:Int)),br,((0:Int)),((0:Int)))))) else (some (Out.norm (aj (br+(1:Int))))))) else (some (Out.exit 0 (br))))
def eX (x0:aG) (y3:Int) (cf:Int) (cj:Int) (ec:Int):Option (Out (Int) (Int×Int×Int×Int)):=
 (bif decide (ec < y3) then ((((cG x0 (cj) (ec))>>=fun XO=>(bif decide (XO ≥ (0:Int)) then ((cG x0 (cf) (cj))>>=fun y66=>((cG x0 (y66) (ec))>>=fun EM=>((cG x0 (cj) (ec))>>=fun y70=>((cG x0 (cf) (y70))>>=fun y72=>(some ((EM) != (y72))))))) else (some (false)))))>>=fun g61=>(bif g61 then (some (Out.ret ((((2:Int)),cf,cj,ec)))) else (some (Out.norm (aj (ec+(1:Int))))))) else (some (Out.exit 6 (ec))))
def eY (x0:aG) (y3:Int) (cf:Int) (cj:Int):Option (Out (Int) (Int×Int×Int×Int)):=
 (bif decide (cj < y3) then ((cG x0 (cf) (cj))>>=fun K3=>(bif decide (K3 < (0:Int)) then (some (Out.norm (aj (cj+(1:Int))))) else (ae (ab 6 (af (eX x0 y3 cf cj) ((0:Int)))) (fun ec=>(some (Out.norm (aj (cj+(1:Int))))))))) else (some (Out.exit 4 (cj))))
def kB (x0:aG) (y3:Int) (cf:Int):Option (Out (Int) (Int×Int×Int×Int)):=
 (bif decide (cf < y3) then (ae (ab 4 (af (eY x0 y3 cf) ((0:Int)))) (fun cj=>(some (Out.norm (aj (cf+(1:Int))))))) else (some (Out.exit 2 (cf))))
def jN (x0:aG):Option (Int×Int×Int×Int):=
 ak (S:=Unit) ((cH x0)>>=fun y3=>(ae (ab 0 (af (gJ x0 y3) ((0:Int)))) (fun br=>(ae (ab 2 (af (kB x0 y3) ((0:Int)))) (fun cf=>(some (Out.ret ((((0:Int)),((0:Int)),((0:Int)),((0:Int)))))))))))
def eN (x0:aG):Option (Bool):=
 ak (S:=Unit) ((gU x0)>>=fun y3=>(bif !(y3) then (some (Out.ret (false))) else ((jN x0)>>=fun ig=>(some (Out.ret (((ig.1) == ((0:Int)))))))))
def gV (x0:(List aG)) (br:Int):Option (Out (Int) (Bool)):=
 (bif decide (br < (x0.length:Int)) then ((idx x0 (br))>>=fun e9=>((eN e9)>>=fun dc=>(bif !(dc) then (some (Out.ret (false))) else (some (Out.norm (aj (br+(1:Int)))))))) else (some (Out.exit 0 (br))))
def jR (x0:(List aG)):Option (Bool):=
 ak (S:=Unit) (ae (ab 0 (af (gV x0) ((0:Int)))) (fun br=>(some (Out.ret (true)))))
def kX (x0:aJ) (Bt:Int):Option (Out (Int) (Bool)):=
 (bif decide (Bt < (x0.ah.length:Int)) then ((idx x0.ah (Bt))>>=fun GR=>((((idx x0.aF.aC (GR))>>=fun OC=>((idx x0.aE.aC (Bt))>>=fun Jc=>((idx x0.aA (Jc))>>=fun Ja=>(bif (OC) != (Ja) then (some (true)) else ((idx x0.aF.To (GR))>>=fun EN=>((idx x0.aE.To (Bt))>>=fun EH=>((idx x0.aA (EH))>>=fun xC=>(some ((EN) != (xC)))))))))))>>=fun g35=>(bif g35 then (some (Out.ret (false))) else (some (Out.norm (aj (Bt+(1:Int)))))))) else (some (Out.exit 0 (Bt))))
def kY (x0:aJ) (Au:Int):Option (Out (Int) (Bool)):=
 (bif decide (Au < (x0.aE.aH.length:Int)) then ((idx x0.aE.aH (Au))>>=fun XP=>((idx x0.ah (XP))>>=fun OD=>((idx x0.aA (Au))>>=fun XQ=>((idx x0.aF.aH (XQ))>>=fun Dz=>(bif (OD) != (Dz) then (some (Out.ret (false))) else (some (Out.norm (aj (Au+(1:Int)))))))))) else (some (Out.exit 2 (Au))))
def kZ (x0:aJ) (wU:Int) (BU:(List Int)) (Aw:Int):Option (Out (Int) (Bool)):=
 (bif decide (Aw < (BU.length:Int)) then ((idx BU (Aw))>>=fun MN=>(((bif decide (MN ≥ (0:Int)) then ((idx x0.ah (MN))>>=fun IW=>((idx x0.ah (wU))>>=fun Rs=>((idx x0.ah (Aw))>>=fun Q8=>((cG x0.aF (Rs) (Q8))>>=fun aek=>(some ((IW) != (aek))))))) else (some (false))))>>=fun ael=>(bif ael then (some (Out.ret (false))) else (some (Out.norm (aj (Aw+(1:Int)))))))) else (some (Out.exit 6 (Aw))))
def lA (x0:aJ) (wU:Int):Option (Out (Int) (Bool)):=
 (bif decide (wU < (x0.aE.aB.length:Int)) then ((idx x0.aE.aB (wU))>>=fun BU=>(ae (ab 6 (af (kZ x0 wU BU) ((0:Int)))) (fun Aw=>(some (Out.norm (aj (wU+(1:Int)))))))) else (some (Out.exit 4 (wU))))
def kE (x0:aJ):Option (Bool):=
 ak (S:=Unit) (((bif ((x0.aA.length:Int)) != (x0.aE.aA) then (some (true)) else ((cH x0.aE)>>=fun ig=>(bif ((x0.ah.length:Int)) != (ig) then (some (true)) else ((eW x0.aA (x0.aF.aA))>>=fun GV=>(bif !(GV) then (some (true)) else ((cH x0.aF)>>=fun s9=>((eW x0.ah (s9))>>=fun BV=>(some (!(BV)))))))))))>>=fun g7=>(bif g7 then (some (Out.ret (false))) else (ae (ab 0 (af (kX x0) ((0:Int)))) (fun Bt=>(ae (ab 2 (af (kY x0) ((0:Int)))) (fun Au=>(ae (ab 4 (af (lA x0) ((0:Int)))) (fun wU=>(some (Out.ret (true)))))))))))
def dA (x0:aJ):Option (Bool):=
 ak (S:=Unit) ((((jR [x0.aE,x0.aF])>>=fun K7=>(bif K7 then ((kE x0)>>=fun As=>(some (As))) else (some (false)))))>>=fun g12=>(some (Out.ret (g12))))
def qR (x0:aJ) (x1:(aJ→Option (Bool))):Option (Bool×Int):=
 ak (S:=Unit) ((dA x0)>>=fun y3=>(bif !(y3) then (some (Out.ret ((false,((1:Int)))))) else ((x1 x0)>>=fun ig=>(some (Out.ret ((ig,((0:Int)))))))))
def fL (x0:aG) (x1:Int) (x2:Int) (br:(List Int)) (p4:Int):Option (Out ((List Int)×Int) ((List Int))):=
 (bif decide (p4 < (x0.aC.length:Int)) then ((((idx x0.aC (p4))>>=fun IS=>(bif (IS) == (x1) then ((idx x0.To (p4))>>=fun GU=>(some ((GU) == (x2)))) else (some (false)))))>>=fun g20=>(bif g20 then ((fits 8 (br.length+1))>>=fun n44=>(some (Out.norm (br++[p4],aj (p4+(1:Int)))))) else (some (Out.norm (br,aj (p4+(1:Int))))))) else (some (Out.exit 0 (br,p4))))
def fP (x0:aG) (x1:Int) (x2:Int):Option ((List Int)):=
 ak (S:=Unit) (ae (ab 0 (af (fun s=>fL x0 x1 x2 s.1 s.2) (([]:(List Int)),(0:Int)))) (fun (br,p4)=>(some (Out.ret (br)))))
def jS (n3:Nat) (dp:Int) (vH:(List Int)):Option (Out (Int×(List Int)) ((List Int))):=
 (bif decide (dp < ((List.replicate n3 (0:Int)).length:Int)) then ((idx vH (dp))>>=fun K1=>(some (Out.norm (aj (dp+(1:Int)),vH.set (dp).toNat (dp))))) else (some (Out.exit 0 (dp,vH))))
def kM (x0:Int):Option ((List Int)):=
 ak (S:=Unit) ((mk 8 (x0))>>=fun n3=>(ae (ab 0 (af (fun s=>jS n3 s.1 s.2) ((0:Int),List.replicate n3 (0:Int)))) (fun (dp,vH)=>(some (Out.ret (vH))))))
def nU (x0:Int):Option ((List Int)):=
 ak (S:=Unit) ((kM (x0))>>=fun y3=>(some (Out.ret (y3))))
def eZ (x0:aG) (x1:Int) (aX:(List Int)) (Bv:Int):Option (Out ((List Int)×Int) ((List Int))):=
 (bif decide (Bv < (x0.aC.length:Int)) then ((idx x0.aC (Bv))>>=fun K2=>(bif (K2) == (x1) then ((fits 8 (aX.length+1))>>=fun n39=>(some (Out.norm (aX++[Bv],aj (Bv+(1:Int)))))) else (some (Out.norm (aX,aj (Bv+(1:Int))))))) else (some (Out.exit 0 (aX,Bv))))
def fT (x0:aG) (x1:Int):Option ((List Int)):=
 ak (S:=Unit) (ae (ab 0 (af (fun s=>eZ x0 x1 s.1 s.2) (([]:(List Int)),(0:Int)))) (fun (aX,Bv)=>(some (Out.ret (aX)))))
def fw (x0:(List bF)) (x1:bF) (ep:Int):Option (Out (Int) (Int)):=
 (bif decide (ep < (x0.length:Int)) then ((idx x0 (ep))>>=fun Dv=>(bif ((x1.dw) == (Dv.dw) && (x1.Second) == (Dv.Second)) then (some (Out.ret (ep))) else (some (Out.norm (aj (ep+(1:Int))))))) else (some (Out.exit 0 (ep))))
def gn (x0:(List bF)) (x1:bF):Option (Int):=
 ak (S:=Unit) (ae (ab 0 (af (fw x0 x1) ((0:Int)))) (fun ep=>(some (Out.ret (((-1:Int)))))))
def dQ (x0:(List bF)) (x1:bF):Option (Int):=
 ak (S:=Unit) ((gn x0 x1)>>=fun y8=>(some (Out.ret (y8))))
def lR (z6:Int) (ou:(List Int)):Option (Out (Int×(List Int)) (Int×(List Int))):=
 ((idx ou (z6))>>=fun e4=>(bif (e4) != (z6) then ((idx ou (z6))>>=fun e9=>((idx ou (e9))>>=fun Je=>((idx ou (z6))>>=fun e13=>((idx (ou.set (z6).toNat (Je)) (z6))>>=fun K1=>(some (Out.norm (K1,ou.set (z6).toNat (Je)))))))) else (some (Out.exit 0 (z6,ou)))))
def gH (x0:(List Int)) (x1:Int):Option (Int×(List Int)):=
 ak (S:=Unit) (ae (ab 0 (af (fun s=>lR s.1 s.2) (x1,x0))) (fun (z6,ou)=>(some (Out.ret ((z6,ou))))))
def jF (x0:(List Int)) (x1:Int) (x2:Int):Option (Bool×(List Int)):=
 ak (S:=Unit) ((gH x0 (x1))>>=fun y4=>((gH y4.2 (x2))>>=fun ES=>((idx ES.2 ((if (ES.1) > (y4.1) then (ES.1) else (y4.1))))>>=fun K2=>(some (Out.ret ((((y4.1) != (ES.1)),ES.2.set ((if (ES.1) > (y4.1) then (ES.1) else (y4.1))).toNat ((if (ES.1) < (y4.1) then (ES.1) else (y4.1))))))))))
def pZ (x0:(List Int)) (p4:Int) (zA:(List (Int×Int))) (yO:(List Int)):Option (Out (Int×(List (Int×Int))×(List Int)) ((List Int))):=
 (bif decide (p4 < (x0.length:Int)) then ((idx x0 (p4))>>=fun GU=>(bif !((nr zA GU).isSome) then ((idx yO (p4))>>=fun Tk=>(some (Out.norm (aj (p4+(1:Int)),vl zA GU ((zA.length:Int)),yO.set (p4).toNat ((zA.length:Int)))))) else ((idx yO (p4))>>=fun xC=>(some (Out.norm (aj (p4+(1:Int)),zA,yO.set (p4).toNat ((nr zA GU).getD 0))))))) else (some (Out.exit 0 (p4,zA,yO))))
def qD (x0:(List Int)):Option ((List Int)):=
 ak (S:=Unit) ((mk 8 ((x0.length:Int)))>>=fun n9=>(ae (ab 0 (af (fun s=>pZ x0 s.1 s.2.1 s.2.2) ((0:Int),([]:(List (Int×Int))),List.replicate n9 (0:Int)))) (fun (p4,zA,yO)=>(some (Out.ret (yO))))))
def jG (x0:(List Int)) (lp:Int) (ou:(List Int)) (vH:(List Int)):Option (Out (Int×(List Int)×(List Int)) ((List Int)×(List Int))):=
 (bif decide (lp < (x0.length:Int)) then ((gH ou (lp))>>=fun dc=>((idx vH (lp))>>=fun GR=>(some (Out.norm (aj (lp+(1:Int)),dc.2,vH.set (lp).toNat (dc.1)))))) else (some (Out.exit 0 (lp,ou,vH))))
def gW (x0:(List Int)):Option ((List Int)×(List Int)):=
 ak (S:=Unit) ((mk 8 ((x0.length:Int)))>>=fun n3=>(ae (ab 0 (af (fun s=>jG x0 s.1 s.2.1 s.2.2) ((0:Int),x0,List.replicate n3 (0:Int)))) (fun (lp,ou,vH)=>((qD vH)>>=fun y40=>(some (Out.ret ((y40,ou))))))))
def iB (x0:(List Int)) (ie:Int) (ep:Int):Option (Out (Int×Int) (Int)):=
 (bif decide (ep < (x0.length:Int)) then ((idx x0 (ep))>>=fun Je=>(some (Out.norm ((if (aj (Je+(1:Int))) > (ie) then (aj (Je+(1:Int))) else (ie)),aj (ep+(1:Int)))))) else (some (Out.exit 0 (ie,ep))))
def dY (x0:(List Int)):Option (Int):=
 ak (S:=Unit) (ae (ab 0 (af (fun s=>iB x0 s.1 s.2) ((0:Int),(0:Int)))) (fun (ie,ep)=>(some (Out.ret (ie)))))
def dU (l:List Int) (y:Int) (s:List bF×Int):Option (Out (List bF×Int) Bool):=
 (bif decide (s.2 < (l.length:Int)) then ((idx l (s.2))>>=fun e49=>((fits 16 (s.1.length+1))>>=fun n55=>(some (Out.norm (s.1++[bF.mk y e49],aj (s.2+(1:Int))))))) else (some (Out.exit 4 s)))
def dV (x0:aJ) (x:Int) (s:List bF×Int):Option (Out (List bF×Int) Bool):=
 (bif decide (s.2 < (x0.aA.length:Int)) then ((idx x0.aA (s.2))>>=fun Tk=>((fP x0.aF (x) (Tk))>>=fun y44=>(ae (ab 4 (af (fun t=>dU y44 s.2 t) (s.1,(0:Int)))) (fun t=>(some (Out.norm (t.1,aj (s.2+(1:Int))))))))) else (some (Out.exit 2 s)))
def qZ (x0:aJ) (ob:List bF) (i:Int) (p:bF) (us:List Int) (s:List Int×Int):Option (Out (List Int×Int) Bool):=
 (bif decide (s.2 < (us.length:Int)) then ((idx us (s.2))>>=fun ET=>((idx x0.aE.To (ET))>>=fun Jf=>((idx x0.ah (ET))>>=fun I3=>((cG x0.aF (p.Second) (I3))>>=fun OF=>((dQ ob (bF.mk Jf OF))>>=fun XR=>((jF s.1 (i) (XR))>>=fun Ru=>(some (Out.norm (Ru.2,aj (s.2+(1:Int))))))))))) else (some (Out.exit 8 s)))
def rA (x0:aJ) (ob:List bF) (s:List Int×Int):Option (Out (List Int×Int) Bool):=
 (bif decide (s.2 < (ob.length:Int)) then ((idx ob (s.2))>>=fun Cz=>((fT x0.aE (Cz.dw))>>=fun mb=>(ae (ab 8 (af (fun t=>qZ x0 ob s.2 Cz mb t) (s.1,(0:Int)))) (fun t=>(some (Out.norm (t.1,aj (s.2+(1:Int))))))))) else (some (Out.exit 6 s)))
def nB (x0:aJ) (s:Int):Option (Out Int Bool):=
 (bif decide (s < x0.aF.aA) then (ae (ab 2 (af (fun t=>dV x0 s t) (([]:List bF),(0:Int)))) (fun t=>((nU ((t.1.length:Int)))>>=fun XF=>(ae (ab 6 (af (fun r=>rA x0 t.1 r) (XF,(0:Int)))) (fun r=>((gW r.1)>>=fun ML=>((dY ML.1)>>=fun aem=>(bif (aem) != ((1:Int)) then (some (Out.ret (false))) else (some (Out.norm (aj (s+(1:Int))))))))))))) else (some (Out.exit 0 s)))
def eR (x0:aJ):Option (Bool):=
 ak (S:=Unit) (ae (ab 0 (af (fun s=>nB x0 s) (0:Int))) (fun s=>(some (Out.ret (true)))))
def kN (x0:aJ):Option (Bool×Int):=
 ak (S:=Unit) ((qR x0 (fun a0=>eR a0))>>=fun y8=>(some (Out.ret ((y8.1,y8.2)))))
def qS (x0:Int) (x1:Int) (x2:Int):Option (Bool):=
 ak (S:=Unit) (((bif decide (x0 ≥ x1) then (some (decide (x0≤x2))) else (some (false))))>>=fun g3=>(some (Out.ret (g3))))
def mR (x0:Int) (x1:(List Int)) (aX:Int):Option (Out (Int) (Bool)):=
 (bif decide (aX < (x1.length:Int)) then ((((idx x1 (aX))>>=fun Je=>(bif decide (Je < (0:Int)) then (some (true)) else ((idx x1 (aX))>>=fun yB=>(some (decide (yB ≥ x0)))))))>>=fun g9=>(bif g9 then (some (Out.ret (false))) else (some (Out.norm (aj (aX+(1:Int))))))) else (some (Out.exit 0 (aX))))
def kC (x0:Int) (x1:(List Int)):Option (Bool):=
 ak (S:=Unit) (ae (ab 0 (af (mR x0 x1) ((0:Int)))) (fun aX=>(some (Out.ret (true)))))
def mD (x0:(List Int)) (x1:Int) (x2:Int):Option (Bool):=
 ak (S:=Unit) (((bif ((x0.length:Int)) == (x1) then ((kC (x2) x0)>>=fun y6=>(some (y6))) else (some (false))))>>=fun g3=>(some (Out.ret (g3))))
def lT (x0:aG) (bn:Int):Option (Out (Int) (Bool)):=
 (bif decide (bn < x0.aA) then ((((idx x0.aH (bn))>>=fun K8=>((idx x0.aC (K8))>>=fun e47=>(bif (e47) != (bn) then (some (true)) else ((idx x0.aH (bn))>>=fun IU=>((idx x0.To (IU))>>=fun OG=>(some ((OG) != (bn)))))))))>>=fun g43=>(bif g43 then (some (Out.ret (false))) else (some (Out.norm (aj (bn+(1:Int))))))) else (some (Out.exit 0 (bn))))
def lU (x0:aG) (mz:Int) (z7:Int):Option (Out (Int) (Bool)):=
 (bif decide (z7 < (x0.aC.length:Int)) then ((idx x0.aB (mz))>>=fun Jf=>((idx Jf (z7))>>=fun EI=>((idx x0.To (mz))>>=fun BW=>((idx x0.aC (z7))>>=fun Tg=>(bif (BW) != (Tg) then (bif (EI) != ((-1:Int)) then (some (Out.ret (false))) else (some (Out.norm (aj (z7+(1:Int)))))) else (((bif decide (EI < (0:Int)) then (some (true)) else (bif decide (EI ≥ (x0.aC.length:Int)) then (some (true)) else ((idx x0.aC (EI))>>=fun QV=>((idx x0.aC (mz))>>=fun aen=>(bif (QV) != (aen) then (some (true)) else ((idx x0.To (EI))>>=fun aeo=>((idx x0.To (z7))>>=fun aep=>(some ((aeo) != (aep)))))))))))>>=fun aeq=>(bif aeq then (some (Out.ret (false))) else (some (Out.norm (aj (z7+(1:Int)))))))))))) else (some (Out.exit 4 (z7))))
def pF (x0:aG) (mz:Int):Option (Out (Int) (Bool)):=
 (bif decide (mz < (x0.aC.length:Int)) then ((idx x0.aB (mz))>>=fun OD=>(bif ((OD.length:Int)) != ((x0.aC.length:Int)) then (some (Out.ret (false))) else (ae (ab 4 (af (lU x0 mz) ((0:Int)))) (fun z7=>(some (Out.norm (aj (mz+(1:Int))))))))) else (some (Out.exit 2 (mz))))
def pG (x0:aG):Option (Bool):=
 ak (S:=Unit) ((((qS (x0.aA) ((0:Int)) ((8:Int)))>>=fun y12=>(bif !(y12) then (some (true)) else (bif decide ((x0.aC.length:Int) > (40:Int)) then (some (true)) else ((mD x0.aC ((x0.aC.length:Int)) (x0.aA))>>=fun s9=>(bif !(s9) then (some (true)) else ((mD x0.To ((x0.aC.length:Int)) (x0.aA))>>=fun GW=>(bif !(GW) then (some (true)) else (some (((x0.aB.length:Int)) != ((x0.aC.length:Int))))))))))))>>=fun g10=>(bif g10 then (some (Out.ret (false))) else (((bif ((x0.aH.length:Int)) != (x0.aA) then (some (true)) else ((kC ((x0.aC.length:Int)) x0.aH)>>=fun K9=>(some (!(K9))))))>>=fun g27=>(bif g27 then (some (Out.ret (false))) else (ae (ab 0 (af (lT x0) ((0:Int)))) (fun bn=>(ae (ab 2 (af (pF x0) ((0:Int)))) (fun mz=>(some (Out.ret (true)))))))))))
def lB (x0:aG) (br:Int):Option (Out (Int) (Int×Int×Int×Int)):=
 (bif decide (br < (x0.aC.length:Int)) then ((((idx x0.aC (br))>>=fun K2=>((idx x0.aH (K2))>>=fun OH=>((idx x0.aB (OH))>>=fun IS=>((idx IS (br))>>=fun Jg=>(bif (Jg) != (br) then (some (true)) else ((idx x0.aB (br))>>=fun EU=>((idx x0.To (br))>>=fun Jc=>((idx x0.aH (Jc))>>=fun Ja=>((idx EU (Ja))>>=fun XS=>(some ((XS) != (br)))))))))))))>>=fun g16=>(bif g16 then (some (Out.ret ((((1:Int)),br,((0:Int)),((0:Int)))))) else (some (Out.norm (aj (br+(1:Int))))))) else (some (Out.exit 0 (br))))
def jH (x0:aG) (cf:Int) (cj:Int) (ec:Int):Option (Out (Int) (Int×Int×Int×Int)):=
 (bif decide (ec < (x0.aC.length:Int)) then ((((idx x0.To (cj))>>=fun e82=>((idx x0.aC (ec))>>=fun XT=>(bif (e82) == (XT) then ((idx x0.aB (cf))>>=fun XN=>((idx XN (cj))>>=fun e94=>((idx x0.aB (e94))>>=fun I3=>((idx I3 (ec))>>=fun MN=>((idx x0.aB (cf))>>=fun aer=>((idx x0.aB (cj))>>=fun Rs=>((idx Rs (ec))>>=fun aes=>((idx aer (aes))>>=fun aet=>(some ((MN) != (aet))))))))))) else (some (false))))))>>=fun XU=>(bif XU then (some (Out.ret ((((2:Int)),cf,cj,ec)))) else (some (Out.norm (aj (ec+(1:Int))))))) else (some (Out.exit 6 (ec))))
def jI (x0:aG) (cf:Int) (cj:Int):Option (Out (Int) (Int×Int×Int×Int)):=
 (bif decide (cj < (x0.aC.length:Int)) then ((idx x0.To (cf))>>=fun Lb=>((idx x0.aC (cj))>>=fun Cz=>(bif (Lb) != (Cz) then (some (Out.norm (aj (cj+(1:Int))))) else (ae (ab 6 (af (jH x0 cf cj) ((0:Int)))) (fun ec=>(some (Out.norm (aj (cj+(1:Int)))))))))) else (some (Out.exit 4 (cj))))
def oH (x0:aG) (cf:Int):Option (Out (Int) (Int×Int×Int×Int)):=
 (bif decide (cf < (x0.aC.length:Int)) then (ae (ab 4 (af (jI x0 cf) ((0:Int)))) (fun cj=>(some (Out.norm (aj (cf+(1:Int))))))) else (some (Out.exit 2 (cf))))
def nV (x0:aG):Option (Int×Int×Int×Int):=
 ak (S:=Unit) (ae (ab 0 (af (lB x0) ((0:Int)))) (fun br=>(ae (ab 2 (af (oH x0) ((0:Int)))) (fun cf=>(some (Out.ret ((((0:Int)),((0:Int)),((0:Int)),((0:Int))))))))))
def pH (x0:aG):Option (Bool):=
 ak (S:=Unit) ((pG x0)>>=fun y8=>(bif !(y8) then (some (Out.ret (false))) else ((nV x0)>>=fun OI=>(some (Out.ret (((OI.1) == ((0:Int)))))))))
def qJ (x0:aJ) (aX:Int):Option (Out (Int) (Bool)):=
 (bif decide (aX < (x0.aE.aC.length:Int)) then ((((idx x0.ah (aX))>>=fun XQ=>((idx x0.aF.aC (XQ))>>=fun Dz=>((idx x0.aE.aC (aX))>>=fun e74=>((idx x0.aA (e74))>>=fun ET=>(bif (Dz) != (ET) then (some (true)) else ((idx x0.ah (aX))>>=fun K6=>((idx x0.aF.To (K6))>>=fun Cv=>((idx x0.aE.To (aX))>>=fun e83=>((idx x0.aA (e83))>>=fun XM=>(some ((Cv) != (XM)))))))))))))>>=fun g68=>(bif g68 then (some (Out.ret (false))) else (some (Out.norm (aj (aX+(1:Int))))))) else (some (Out.exit 0 (aX))))
def qK (x0:aJ) (p3:Int):Option (Out (Int) (Bool)):=
 (bif decide (p3 < x0.aE.aA) then ((idx x0.aE.aH (p3))>>=fun Ri=>((idx x0.ah (Ri))>>=fun MH=>((idx x0.aA (p3))>>=fun xn=>((idx x0.aF.aH (xn))>>=fun IW=>(bif (MH) != (IW) then (some (Out.ret (false))) else (some (Out.norm (aj (p3+(1:Int)))))))))) else (some (Out.exit 2 (p3))))
def qL (x0:aJ) (sS:Int) (D1:Int):Option (Out (Int) (Bool)):=
 (bif decide (D1 < (x0.aE.aC.length:Int)) then ((((idx x0.aE.To (sS))>>=fun Rv=>((idx x0.aE.aC (D1))>>=fun aeu=>(bif (Rv) == (aeu) then ((idx x0.aE.aB (sS))>>=fun Jh=>((idx Jh (D1))>>=fun Rw=>((idx x0.ah (Rw))>>=fun Rx=>((idx x0.ah (sS))>>=fun QH=>((idx x0.aF.aB (QH))>>=fun aev=>((idx x0.ah (D1))>>=fun Ry=>((idx aev (Ry))>>=fun aew=>(some ((Rx) != (aew)))))))))) else (some (false))))))>>=fun aex=>(bif aex then (some (Out.ret (false))) else (some (Out.norm (aj (D1+(1:Int))))))) else (some (Out.exit 6 (D1))))
def qM (x0:aJ) (sS:Int):Option (Out (Int) (Bool)):=
 (bif decide (sS < (x0.aE.aC.length:Int)) then (ae (ab 6 (af (qL x0 sS) ((0:Int)))) (fun D1=>(some (Out.norm (aj (sS+(1:Int))))))) else (some (Out.exit 4 (sS))))
def pI (x0:aJ):Option (Bool):=
 ak (S:=Unit) ((((pH x0.aE)>>=fun OA=>(bif !(OA) then (some (true)) else ((pH x0.aF)>>=fun XV=>(bif !(XV) then (some (true)) else (bif ((x0.aA.length:Int)) != (x0.aE.aA) then (some (true)) else (some (((x0.ah.length:Int)) != ((x0.aE.aC.length:Int))))))))))>>=fun g33=>(bif g33 then (some (Out.ret (false))) else ((((kC (x0.aF.aA) x0.aA)>>=fun Ov=>(bif !(Ov) then (some (true)) else ((kC ((x0.aF.aC.length:Int)) x0.ah)>>=fun y52=>(some (!(y52)))))))>>=fun g47=>(bif g47 then (some (Out.ret (false))) else (ae (ab 0 (af (qJ x0) ((0:Int)))) (fun aX=>(ae (ab 2 (af (qK x0) ((0:Int)))) (fun p3=>(ae (ab 4 (af (qM x0) ((0:Int)))) (fun sS=>(some (Out.ret (true)))))))))))))
def qE:Option (aG):=
 ak (S:=Unit) ((dB [[(1:Int)]])>>=fun BV=>(some (Out.ret (BV))))
def nW (x0:aG) (x1:Int):Option (aJ):=
 ak (S:=Unit) ((qE)>>=fun s9=>((dF s9 x0 (x1))>>=fun IT=>(some (Out.ret (IT)))))
def gL (cg:Int) (ee:Int) (Tl:(List Int)) (Ji:(List (List Int))) (cj:Int):Option (Out ((List (List Int))×Int) ((List (List Int)))):=
 (bif decide (cj < (Tl.length:Int)) then ((idx Tl (cj))>>=fun Cv=>((fits 24 (Ji.length+1))>>=fun n94=>(some (Out.norm (Ji++[([cg,ee,Cv]:(List Int))],aj (cj+(1:Int))))))) else (some (Out.exit 4 (Ji,cj))))
def gM (x0:aJ) (x1:aJ) (cg:Int) (mz:(List (List Int))) (ee:Int):Option (Out ((List (List Int))×Int) ((List (List Int)))):=
 (bif decide (ee < x1.aE.aA) then ((idx x0.aA (cg))>>=fun xC=>((idx x1.aA (ee))>>=fun IU=>((dX x0.aF (xC) (IU))>>=fun Tl=>(ae (ab 4 (af (fun s=>gL cg ee Tl s.1 s.2) (mz,(0:Int)))) (fun (Ji,cj)=>(some (Out.norm (Ji,aj (ee+(1:Int)))))))))) else (some (Out.exit 2 (mz,ee))))
def gN (x0:aJ) (x1:aJ) (aX:(List (List Int))) (cg:Int):Option (Out ((List (List Int))×Int) ((List (List Int)))):=
 (bif decide (cg < x0.aE.aA) then (ae (ab 2 (af (fun s=>gM x0 x1 cg s.1 s.2) (aX,(0:Int)))) (fun (mz,ee)=>(some (Out.norm (mz,aj (cg+(1:Int))))))) else (some (Out.exit 0 (aX,cg))))
def lV (x0:aJ) (x1:aJ):Option ((List (List Int))):=
 ak (S:=Unit) (ae (ab 0 (af (fun s=>gN x0 x1 s.1 s.2) (([]:(List (List Int))),(0:Int)))) (fun (aX,cg)=>(some (Out.ret (aX)))))
def gO (x0:aG) (x1:Int) (x2:Int):Option (Int):=
 ak (S:=Unit) ((idx x0.aB (x1))>>=fun e8=>((idx e8 (x2))>>=fun OB=>(some (Out.ret (OB)))))
def nL (x0:aJ) (x1:aJ) (ep:Int) (n7:Int) (xC:(List Int)) (yN:(List Int)) (EM:(List Int)) (Cy:(List Int)) (zB:Int) (FR:(List (List Int))) (lz:Int):Option (Out ((List (List Int))×Int) ((List (List Int)))):=
 (bif decide (lz < (Cy.length:Int)) then ((idx EM (zB))>>=fun aey=>((idx x0.ah (aey))>>=fun aez=>((idx yN ((2:Int)))>>=fun Rz=>((gO x0.aF (aez) (Rz))>>=fun aeA=>((idx xC ((2:Int)))>>=fun aeB=>((idx Cy (lz))>>=fun aeC=>((idx x1.ah (aeC))>>=fun Jh=>((gO x0.aF (aeB) (Jh))>>=fun Rh=>(bif (aeA) == (Rh) then ((idx EM (zB))>>=fun Rw=>((idx Cy (lz))>>=fun Rx=>((fits 24 (FR.length+1))>>=fun n167=>(some (Out.norm (FR++[([ep,n7,Rw,Rx]:(List Int))],aj (lz+(1:Int)))))))) else (some (Out.norm (FR,aj (lz+(1:Int)))))))))))))) else (some (Out.exit 6 (FR,lz))))
def fQ (x0:aJ) (x1:aJ) (ep:Int) (n7:Int) (xC:(List Int)) (yN:(List Int)) (EM:(List Int)) (Cy:(List Int)) (sS:(List (List Int))) (zB:Int):Option (Out ((List (List Int))×Int) ((List (List Int)))):=
 (bif decide (zB < (EM.length:Int)) then (ae (ab 6 (af (fun s=>nL x0 x1 ep n7 xC yN EM Cy zB s.1 s.2) (sS,(0:Int)))) (fun (FR,lz)=>(some (Out.norm (FR,aj (zB+(1:Int))))))) else (some (Out.exit 4 (sS,zB))))
def nM (x0:aJ) (x1:aJ) (x2:(List (List Int))) (ep:Int) (ee:(List (List Int))) (n7:Int):Option (Out ((List (List Int))×Int) ((List (List Int)))):=
 (bif decide (n7 < (x2.length:Int)) then ((idx x2 (ep))>>=fun xC=>((idx x2 (n7))>>=fun yN=>((idx xC ((0:Int)))>>=fun XP=>((idx yN ((0:Int)))>>=fun IV=>((dX x0.aE (XP) (IV))>>=fun EM=>((idx xC ((1:Int)))>>=fun e73=>((idx yN ((1:Int)))>>=fun XE=>((dX x1.aE (e73) (XE))>>=fun Cy=>(ae (ab 4 (af (fun s=>fQ x0 x1 ep n7 xC yN EM Cy s.1 s.2) (ee,(0:Int)))) (fun (sS,zB)=>(some (Out.norm (sS,aj (n7+(1:Int))))))))))))))) else (some (Out.exit 2 (ee,n7))))
def nN (x0:aJ) (x1:aJ) (x2:(List (List Int))) (br:(List (List Int))) (ep:Int):Option (Out ((List (List Int))×Int) ((List (List Int)))):=
 (bif decide (ep < (x2.length:Int)) then (ae (ab 2 (af (fun s=>nM x0 x1 x2 ep s.1 s.2) (br,(0:Int)))) (fun (ee,n7)=>(some (Out.norm (ee,aj (ep+(1:Int))))))) else (some (Out.exit 0 (br,ep))))
def mS (x0:aJ) (x1:aJ) (x2:(List (List Int))):Option ((List (List Int))):=
 ak (S:=Unit) (ae (ab 0 (af (fun s=>nN x0 x1 x2 s.1 s.2) (([]:(List (List Int))),(0:Int)))) (fun (br,ep)=>(some (Out.ret (br)))))
def qW (x0:(List Int)) (x1:Int) (aX:Int):Option (Out (Int) (Int)):=
 (bif decide (aX < (x0.length:Int)) then ((idx x0 (aX))>>=fun e9=>(bif (e9) == (x1) then (some (Out.ret (aX))) else (some (Out.norm (aj (aX+(1:Int))))))) else (some (Out.exit 0 (aX))))
def nX (x0:(List Int)) (x1:Int):Option (Int):=
 ak (S:=Unit) (ae (ab 0 (af (qW x0 x1) ((0:Int)))) (fun aX=>(some (Out.ret (((-1:Int)))))))
def gP (x0:(List Int)) (ie:(List Int)) (bn:(List Int)) (aX:Int):Option (Out ((List Int)×(List Int)×Int) ((List Int))):=
 (bif decide (aX < (x0.length:Int)) then ((idx x0 (aX))>>=fun Jg=>((nX bn (Jg))>>=fun GX=>(bif decide (GX < (0:Int)) then ((idx x0 (aX))>>=fun Tk=>((fits 8 (bn.length+1))>>=fun n57=>((fits 8 (ie.length+1))>>=fun n77=>(some (Out.norm (ie++[(bn.length:Int)],bn++[Tk],aj (aX+(1:Int)))))))) else ((fits 8 (ie.length+1))>>=fun n99=>(some (Out.norm (ie++[GX],bn,aj (aX+(1:Int))))))))) else (some (Out.exit 0 (ie,bn,aX))))
def gX (x0:(List Int)):Option ((List Int)):=
 ak (S:=Unit) (ae (ab 0 (af (fun s=>gP x0 s.1 s.2.1 s.2.2) (([]:(List Int)),([]:(List Int)),(0:Int)))) (fun (ie,bn,aX)=>(some (Out.ret (ie)))))
def jT (x0:Int) (aX:(List Int)) (cg:Int):Option (Out ((List Int)×Int) ((List Int))):=
 (bif decide (cg < x0) then ((fits 8 (aX.length+1))>>=fun n32=>(some (Out.norm (aX++[cg],aj (cg+(1:Int)))))) else (some (Out.exit 0 (aX,cg))))
def pJ (DA:Int) (Lb:Int) (di:Int) (wV:(List Int)):Option (Out (Int×(List Int)) ((List Int))):=
 (((bif decide (di < (wV.length:Int)) then (some ((DA) != (Lb))) else (some (false))))>>=fun XW=>(bif XW then ((idx wV (di))>>=fun OJ=>(bif (OJ) == (Lb) then ((idx wV (di))>>=fun e83=>(some (Out.norm (aj (di+(1:Int)),wV.set (di).toNat (DA))))) else (some (Out.norm (aj (di+(1:Int)),wV))))) else (some (Out.exit 4 (di,wV)))))
def jU (x1:(List (List Int))) (ee:Int) (Ax:(List Int)):Option (Out (Int×(List Int)) ((List Int))):=
 (bif decide (ee < (x1.length:Int)) then ((idx x1 (ee))>>=fun K8=>((idx K8 ((0:Int)))>>=fun OG=>((idx Ax (OG))>>=fun DA=>((idx x1 (ee))>>=fun XX=>((idx XX ((1:Int)))>>=fun e63=>((idx Ax (e63))>>=fun Lb=>(ae (ab 4 (af (fun s=>pJ DA Lb s.1 s.2) ((0:Int),Ax))) (fun (di,wV)=>(some (Out.norm (aj (ee+(1:Int)),wV))))))))))) else (some (Out.exit 2 (ee,Ax))))
def jJ (x0:Int) (x1:(List (List Int))):Option ((List Int)):=
 ak (S:=Unit) (ae (ab 0 (af (fun s=>jT x0 s.1 s.2) (([]:(List Int)),(0:Int)))) (fun (aX,cg)=>(ae (ab 2 (af (fun s=>jU x1 s.1 s.2) ((0:Int),aX))) (fun (ee,Ax)=>((gX Ax)>>=fun OF=>(some (Out.ret (OF))))))))
def gI (Jj:(List (List Int))) (ee:(List (List Int))) (cf:Int):Option (Out ((List (List Int))×Int) (Bool)):=
 (bif decide (cf < (Jj.length:Int)) then ((idx Jj (cf))>>=fun aeD=>((idx aeD ((0:Int)))>>=fun aeE=>((idx Jj (cf))>>=fun QY=>((idx QY ((1:Int)))>>=fun aeF=>((fits 24 (ee.length+1))>>=fun n220=>(some (Out.norm (ee++[([aeE,aeF]:(List Int))],aj (cf+(1:Int)))))))))) else (some (Out.exit 2 (ee,cf))))
def jK (MO:(List Int)) (di:Int):Option (Out (Int) (Bool)):=
 (bif decide (di < (MO.length:Int)) then ((idx MO (di))>>=fun aeG=>(bif (aeG) != ((0:Int)) then (some (Out.ret (false))) else (some (Out.norm (aj (di+(1:Int))))))) else (some (Out.exit 4 (di))))
def qX (x0:aJ) (ie:Int):Option (Out (Int) (Bool)):=
 (bif decide (ie < x0.aF.aA) then ((nW x0.aF (ie))>>=fun K7=>((lV K7 x0)>>=fun Bq=>((mS K7 x0 Bq)>>=fun Jj=>(ae (ab 2 (af (fun s=>gI Jj s.1 s.2) (([]:(List (List Int))),(0:Int)))) (fun (ee,cf)=>((jJ ((Bq.length:Int)) ee)>>=fun MO=>(ae (ab 4 (af (jK MO) ((0:Int)))) (fun di=>(bif ((Bq.length:Int)) == ((0:Int)) then (some (Out.ret (false))) else (some (Out.norm (aj (ie+(1:Int)))))))))))))) else (some (Out.exit 0 (ie))))
def nY (x0:aJ):Option (Bool):=
 ak (S:=Unit) (ae (ab 0 (af (qX x0) ((0:Int)))) (fun ie=>(some (Out.ret (true)))))
def kO (x0:aJ):Option (Bool×Int):=
 ak (S:=Unit) ((pI x0)>>=fun y8=>(bif !(y8) then (some (Out.ret ((false,((1:Int)))))) else ((nY x0)>>=fun OI=>(some (Out.ret ((OI,((0:Int)))))))))
def mT (x0:aJ):Option (Bool):=
 ak (S:=Unit) ((dA x0)>>=fun y8=>(some (Out.ret (y8))))
def eA (x0:(List Int)):Option ((List Int)):=
 ak (S:=Unit) ((fits 8 ((([]:(List Int))).length+x0.length))>>=fun n15=>(some (Out.ret ((([]:(List Int))++x0)))))
def eB (x0:Int) (x1:Int) (x2:aG):Option (Int):=
 ak (S:=Unit) ((cG x2 (x1) (x0))>>=fun y3=>(some (Out.ret (y3))))
def kD (x0:aG) (x1:(Int→Int→Option (Int))) (qz:Int) (yN:(List Int)) (ug:Int) (yP:(List (List Int))):Option (Out (Int×(List (List Int))) (aG)):=
 (bif decide (ug < (yN.length:Int)) then ((idx yP (qz))>>=fun Dz=>((idx Dz (ug))>>=fun K6=>((idx x0.To (qz))>>=fun Tf=>((idx x0.aC (ug))>>=fun BW=>(bif (Tf) == (BW) then ((idx (yP.set (qz).toNat (Dz.set (ug).toNat ((-1:Int)))) (qz))>>=fun FP=>((x1 (qz) (ug))>>=fun aeH=>((idx FP (ug))>>=fun adZ=>(some (Out.norm (aj (ug+(1:Int)),(yP.set (qz).toNat (Dz.set (ug).toNat ((-1:Int)))).set (qz).toNat (FP.set (ug).toNat (aeH)))))))) else (some (Out.norm (aj (ug+(1:Int)),yP.set (qz).toNat (Dz.set (ug).toNat ((-1:Int))))))))))) else (some (Out.exit 2 (ug,yP))))
def fA (x0:aG) (x1:(Int→Int→Option (Int))) (y7:Int) (n11:Nat) (qz:Int) (Ay:(List (List Int))):Option (Out (Int×(List (List Int))) (aG)):=
 (bif decide (qz < ((List.replicate n11 ([]:(List Int))).length:Int)) then ((mk 8 (y7))>>=fun n35=>((idx Ay (qz))>>=fun K8=>((idx (Ay.set (qz).toNat (List.replicate n35 (0:Int))) (qz))>>=fun yN=>(ae (ab 2 (af (fun s=>kD x0 x1 qz yN s.1 s.2) ((0:Int),Ay.set (qz).toNat (List.replicate n35 (0:Int))))) (fun (ug,yP)=>(some (Out.norm (aj (qz+(1:Int)),yP)))))))) else (some (Out.exit 0 (qz,Ay))))
def fU (x0:aG) (x1:(Int→Int→Option (Int))):Option (aG):=
 Fu (R:=(aG)) ((cH x0)>>=fun y7=>((mk 24 (y7))>>=fun n11=>(ae (ab 0 (af (fun s=>fA x0 x1 y7 n11 s.1 s.2) ((0:Int),List.replicate n11 ([]:(List Int))))) (fun (qz,Ay)=>(some (Out.norm ((aG.mk x0.aA x0.aC x0.To x0.aH Ay))))))))
def lH (x0:aG):Option (aG):=
 ak (S:=Unit) ((eA x0.To)>>=fun lu=>((eA x0.aC)>>=fun Dy=>((eA x0.aH)>>=fun K3=>((fU (aG.mk x0.aA lu Dy K3 (([]:(List (List Int))))) (fun a0 a1=>eB (a0) (a1) x0))>>=fun xB=>(some (Out.ret ((aG.mk xB.aA lu Dy K3 xB.aB))))))))
def kP (x0:(List (List Int))) (ie:(List (List Int))) (j3:Int):Option (Out ((List (List Int))×Int) ((List (List Int)))):=
 (bif decide (j3 < (x0.length:Int)) then ((idx x0 (j3))>>=fun OH=>((eA OH)>>=fun y29=>((fits 24 (ie.length+1))>>=fun n53=>(some (Out.norm (ie++[y29],aj (j3+(1:Int)))))))) else (some (Out.exit 0 (ie,j3))))
def qF (x0:(List (List Int))):Option ((List (List Int))):=
 ak (S:=Unit) ((mk 24 ((x0.length:Int)))>>=fun n3=>(ae (ab 0 (af (fun s=>kP x0 s.1 s.2) (([]:(List (List Int))),(0:Int)))) (fun (ie,j3)=>(some (Out.ret (ie))))))
def gQ (x0:aG):Option (aG):=
 ak (S:=Unit) ((eA x0.aC)>>=fun y8=>((eA x0.To)>>=fun As=>((eA x0.aH)>>=fun Dx=>((qF x0.aB)>>=fun XV=>(some (Out.ret ((aG.mk x0.aA y8 As Dx XV))))))))
def mE (x0:aG) (x1:aG) (x2:(List Int)) (x3:(List Int)):Option (aJ):=
 ak (S:=Unit) ((gQ x0)>>=fun y8=>((gQ x1)>>=fun OA=>((eA x2)>>=fun XY=>((eA x3)>>=fun Ou=>(some (Out.ret ((aJ.mk y8 OA XY Ou))))))))
def eE (x0:aJ):Option (aJ):=
 ak (S:=Unit) ((lH x0.aE)>>=fun y9=>((lH x0.aF)>>=fun IZ=>((mE y9 IZ x0.aA x0.ah)>>=fun aeI=>(some (Out.ret (aeI))))))
def iC (x0:aJ):Option (aJ×Int):=
 ak (S:=Unit) ((dA x0)>>=fun s9=>(bif !(s9) then (some (Out.ret (((aJ.mk (aG.mk ((0:Int)) ([]) ([]) ([]) ([])) (aG.mk ((0:Int)) ([]) ([]) ([]) ([])) ([]) ([])),((1:Int)))))) else ((eE x0)>>=fun lu=>(some (Out.ret ((lu,((0:Int)))))))))
def mU (x0:aJ):Option (Bool×Int):=
 ak (S:=Unit) ((dA x0)>>=fun y8=>(bif !(y8) then (some (Out.ret ((false,((1:Int)))))) else ((eE x0)>>=fun OI=>((eR OI)>>=fun aeJ=>(some (Out.ret ((aeJ,((0:Int))))))))))
def nZ (x0:aG):Option (aJ):=
 ak (S:=Unit) ((kM (x0.aA))>>=fun y8=>((cH x0)>>=fun As=>((kM (As))>>=fun y21=>((mE x0 x0 y8 y21)>>=fun GX=>(some (Out.ret (GX)))))))
def iD (x0:aG):Option (aJ×Int):=
 ak (S:=Unit) ((eN x0)>>=fun s9=>(bif !(s9) then (some (Out.ret (((aJ.mk (aG.mk ((0:Int)) ([]) ([]) ([]) ([])) (aG.mk ((0:Int)) ([]) ([]) ([]) ([])) ([]) ([])),((1:Int)))))) else ((nZ x0)>>=fun lu=>(some (Out.ret ((lu,((0:Int)))))))))
def iO (x0:aJ):Option aJ:=
 ak (S:=Unit) ((eE x0)>>=fun y5=>(some (Out.ret (y5))))
def dE:Option Unit:=
 ak (S:=Unit) (some (Out.ret ()))
def dK (x0:List Int) (x1:List bD) (x2:Int):Option (Bool×List bD):=
 ak (S:=Unit) ((eA x0)>>=fun y8=>((fits 32 (x1.length+1))>>=fun n11=>(some (Out.ret (decide (((x1++[bD.mk x2 y8]).length:Int)≤(400:Int)),x1++[bD.mk x2 y8])))))
def mV {ρ:Type} (x0:aJ) (x:Int) (cs:List Int) (s:Int):Option (Out Int ρ):=
 (bif decide (s < (x0.ah.length:Int)) then ((idx x0.ah (s))>>=fun Te=>((idx x0.aE.aC (s))>>=fun OK=>((idx x0.aE.To (s))>>=fun Cz=>((bif (if Cz > OK then Cz else OK) == (x) then ((idx cs (OK))>>=fun OJ=>((cG x0.aF (OJ) (Te))>>=fun y80=>((idx cs (Cz))>>=fun XT=>(some ((y80) != (XT)))))) else (some (false)))>>=fun XZ=>(bif XZ then (some (Out.exit 1 s)) else (some (Out.norm (aj (s+(1:Int)))))))))) else (some (Out.exit 2 s)))
def kQ {σ:Type} (rc:Int→List Int→σ→Option (Bool×List Int×σ)) (x0:aJ) (x:Int) (l:List Int) (s:Int×List Int×σ):Option (Out (Int×List Int×σ) (Bool×List Int×σ)):=
 (bif decide (s.1 < (l.length:Int)) then ((idx l (s.1))>>=fun Jc=>((idx s.2.1 (x))>>=fun _=>(GL 2 1 (af (fun s2=>mV x0 x (s.2.1.set (x).toNat (Jc)) s2) (0:Int)) (fun _=>((rc (aj (x+(1:Int))) (s.2.1.set (x).toNat (Jc)) s.2.2)>>=fun OL=>(bif !(OL.1) then (some (Out.ret (false,OL.2.1,OL.2.2))) else (some (Out.norm (aj (s.1+(1:Int)),OL.2.1,OL.2.2)))))) (fun _=>(some (Out.norm (aj (s.1+(1:Int)),s.2.1.set (x).toNat (Jc),s.2.2))))))) else (some (Out.exit 0 s)))
def oA {σ:Type} (fo:List Int→σ→Option (Bool×σ)) (x0:aJ) (xa:Int) (rc:Int→List Int→σ→Option (Bool×List Int×σ)) (x:Int) (cs:List Int) (st:σ):Option (Bool×List Int×σ):=
 ak (S:=Unit) (bif (x) == (x0.aE.aA) then ((fo cs st)>>=fun Ti=>(some (Out.ret (Ti.1,cs,Ti.2)))) else ((idx x0.aA (x))>>=fun Oz=>((fP x0.aF (xa) (Oz))>>=fun y34=>(ae (ab 0 (af (fun s=>kQ rc x0 x y34 s) ((0:Int),cs,st))) (fun s=>(some (Out.ret (true,s.2.1,s.2.2))))))))
def fB {σ:Type} (fo:List Int→σ→Option (Bool×σ)) (x0:aJ) (xa:Int):Nat→Int→List Int→σ→Option (Bool×List Int×σ)
 | 0=>fun _ _ _=>none
 | n+1=>oA fo x0 xa (fB fo x0 xa n)
def rB {σ:Type} (fo:List Int→σ→Option (Bool×σ)) (x0:aJ) (xa:Int) (st:σ):Option (Bool×σ):=
 ak (S:=Unit) ((mk 8 (x0.aA.length:Int))>>=fun n22=>((fB fo x0 xa 64 (0:Int) (List.replicate n22 (0:Int)) st)>>=fun lu=>(some (Out.ret (lu.1,lu.2.2)))))
def oI (x0:aJ) (s:Int×List bD):Option (Out (Int×List bD) (List bD×Bool)):=
 (bif decide (s.1 < (x0.aF.aA)) then ((rB (fun a0 a1=>dK a0 a1 s.1) x0 (s.1) s.2)>>=fun K4=>(bif !(K4.1) then (some (Out.ret (([]:List bD),false))) else (some (Out.norm (aj (s.1+(1:Int)),K4.2))))) else (some (Out.exit 0 s)))
def gZ (x0:aJ):Option (List bD×Bool):=
 ak (S:=Unit) (ae (ab 0 (af (fun s=>oI x0 s) ((0:Int),([]:List bD)))) (fun s=>(some (Out.ret (s.2,true)))))
def oJ (x0:aJ) (x1 x2:bD) (u:Int) (s:Int):Option (Out Int (List Int)):=
 (bif decide (s < (x2.ay.length:Int)) then ((idx x2.ay (s))>>=fun XC=>((cG x0.aF (u) (XC))>>=fun Dw=>((idx x1.ay (s))>>=fun EN=>(bif (Dw) != (EN) then (some (Out.exit 1 s)) else (some (Out.norm (aj (s+(1:Int))))))))) else (some (Out.exit 2 s)))
def jL (x0:aJ) (x1 x2:bD) (l:List Int) (s:List Int×Int):Option (Out (List Int×Int) (List Int)):=
 (bif decide (s.2 < (l.length:Int)) then ((idx l (s.2))>>=fun GS=>(GL 2 1 (af (fun s2=>oJ x0 x1 x2 GS s2) (0:Int)) (fun _=>((fits 8 (s.1.length+1))>>=fun n50=>(some (Out.norm (s.1++[GS],aj (s.2+(1:Int))))))) (fun _=>(some (Out.norm (s.1,aj (s.2+(1:Int)))))))) else (some (Out.exit 0 s)))
def oB (x0:aJ) (x1 x2:bD):Option (List Int):=
 ak (S:=Unit) ((fP x0.aF (x1.da) (x2.da))>>=fun Tn=>(ae (ab 0 (af (fun s=>jL x0 x1 x2 Tn s) (([]:List Int),(0:Int)))) (fun s=>(some (Out.ret (s.1))))))
def jO (x0:aJ) (x1:(List bD)) (x2:bD) (j3:Int):Option (Out (Int) (Bool)):=
 (bif decide (j3 < (x1.length:Int)) then ((idx x1 (j3))>>=fun yB=>((oB x0 yB x2)>>=fun GX=>(bif ((GX.length:Int)) != ((1:Int)) then (some (Out.ret (false))) else (some (Out.norm (aj (j3+(1:Int)))))))) else (some (Out.exit 0 (j3))))
def jM (x0:aJ) (x1:(List bD)) (x2:bD):Option (Bool):=
 ak (S:=Unit) (ae (ab 0 (af (jO x0 x1 x2) ((0:Int)))) (fun j3=>(some (Out.ret (true)))))
def kR (x0:aJ) (x1:Int) (l:List bD) (s:List bD×Int):Option (Out (List bD×Int) (List bD×Bool)):=
 (bif decide (s.2 < (l.length:Int)) then ((idx l (s.2))>>=fun Tj=>((bif decide ((s.1.length:Int) < (x1)) then ((jM x0 l Tj)>>=fun XH=>(some (XH))) else (some (false)))>>=fun g29=>(bif g29 then ((fits 32 (s.1.length+1))>>=fun n38=>(some (Out.norm (s.1++[Tj],aj (s.2+(1:Int)))))) else (some (Out.norm (s.1,aj (s.2+(1:Int)))))))) else (some (Out.exit 0 s)))
def qG (x0:aJ) (x1:Int):Option ((List bD)×Bool):=
 ak (S:=Unit) ((gZ x0)>>=fun GV=>(bif !(GV.2) then (some (Out.ret (([]:List bD),false))) else (ae (ab 0 (af (fun s=>kR x0 x1 GV.1 s) (([]:List bD),(0:Int)))) (fun s=>(some (Out.ret (s.1,true)))))))
def qT (x0:aJ):Option (bD×Int):=
 ak (S:=Unit) ((qG x0 ((1:Int)))>>=fun y8=>(bif !(y8.2) then (some (Out.ret (((bD.mk ((0:Int)) ([])),((3:Int)))))) else (bif ((y8.1.length:Int)) == ((0:Int)) then (some (Out.ret (((bD.mk ((0:Int)) ([])),((4:Int)))))) else ((idx y8.1 ((0:Int)))>>=fun Oz=>(some (Out.ret ((Oz,((0:Int))))))))))
def mW (x0:aJ):Option (bD×Int):=
 ak (S:=Unit) ((dA x0)>>=fun y4=>(bif !(y4) then (some (Out.ret (((bD.mk ((0:Int)) ([])),((1:Int)))))) else ((iO x0)>>=fun y7=>(dE>>=fun _=>((qT y7)>>=fun y9=>(some (Out.ret ((y9.1,y9.2)))))))))
def qU (x0:aJ):Option (aJ):=
 ak (S:=Unit) ((iA x0.aE)>>=fun s9=>((iA x0.aF)>>=fun IT=>((jC s9 IT x0.aA x0.ah)>>=fun y94=>(some (Out.ret (y94))))))
def fC (x0:aG) (x1:Int) (aX:(List Int)) (cg:Int):Option (Out ((List Int)×Int) ((List Int))):=
 (bif decide (cg < (x0.aC.length:Int)) then ((((idx x0.aC (cg))>>=fun GS=>((idx x0.To (x1))>>=fun Jg=>(bif (GS) == (Jg) then ((idx x0.To (cg))>>=fun EU=>((idx x0.aC (x1))>>=fun EV=>(bif (EU) == (EV) then ((idx x0.aB (x1))>>=fun OC=>((idx OC (cg))>>=fun EN=>((idx x0.aC (x1))>>=fun EH=>((idx x0.aH (EH))>>=fun xC=>(some ((EN) == (xC))))))) else (some (false))))) else (some (false))))))>>=fun Oy=>(bif Oy then ((fits 8 (aX.length+1))>>=fun n68=>(some (Out.norm (aX++[cg],aj (cg+(1:Int)))))) else (some (Out.norm (aX,aj (cg+(1:Int))))))) else (some (Out.exit 0 (aX,cg))))
def jP (x0:aG) (x1:Int):Option ((List Int)):=
 ak (S:=Unit) (ae (ab 0 (af (fun s=>fC x0 x1 s.1 s.2) (([]:(List Int)),(0:Int)))) (fun (aX,cg)=>(some (Out.ret (aX)))))
def fV (x0:aG) (x1:Int) (aX:(List Int)) (cg:Int):Option (Out ((List Int)×Int) ((List Int))):=
 (bif decide (cg < (x0.aC.length:Int)) then ((((idx x0.aC (cg))>>=fun GS=>((idx x0.To (x1))>>=fun Jg=>(bif (GS) == (Jg) then ((idx x0.To (cg))>>=fun EU=>((idx x0.aC (x1))>>=fun EV=>(bif (EU) == (EV) then ((idx x0.aB (cg))>>=fun OC=>((idx OC (x1))>>=fun EN=>((idx x0.To (x1))>>=fun EH=>((idx x0.aH (EH))>>=fun xC=>(some ((EN) == (xC))))))) else (some (false))))) else (some (false))))))>>=fun Oy=>(bif Oy then ((fits 8 (aX.length+1))>>=fun n68=>(some (Out.norm (aX++[cg],aj (cg+(1:Int)))))) else (some (Out.norm (aX,aj (cg+(1:Int))))))) else (some (Out.exit 0 (aX,cg))))
def lC (x0:aG) (x1:Int):Option ((List Int)):=
 ak (S:=Unit) (ae (ab 0 (af (fun s=>fV x0 x1 s.1 s.2) (([]:(List Int)),(0:Int)))) (fun (aX,cg)=>(some (Out.ret (aX)))))
def mX (x0:(List Int)) (x1:Int) (aX:Int):Option (Out (Int) (Bool)):=
 (bif decide (aX < (x0.length:Int)) then ((idx x0 (aX))>>=fun e9=>(bif (e9) == (x1) then (some (Out.ret (true))) else (some (Out.norm (aj (aX+(1:Int))))))) else (some (Out.exit 0 (aX))))
def qH (x0:(List Int)) (x1:Int):Option (Bool):=
 ak (S:=Unit) (ae (ab 0 (af (mX x0 x1) ((0:Int)))) (fun aX=>(some (Out.ret (false)))))
def gR (y8:(List Int)) (As:(List Int)) (br:Int):Option (Out (Int) (Int)):=
 (bif decide (br < (y8.length:Int)) then ((idx y8 (br))>>=fun EV=>((qH As (EV))>>=fun Dy=>(bif Dy then ((idx y8 (br))>>=fun Ja=>(some (Out.ret (Ja)))) else (some (Out.norm (aj (br+(1:Int)))))))) else (some (Out.exit 0 (br))))
def jV (x0:aG) (x1:Int):Option (Int):=
 ak (S:=Unit) ((jP x0 (x1))>>=fun y8=>((lC x0 (x1))>>=fun As=>(ae (ab 0 (af (gR y8 As) ((0:Int)))) (fun br=>(some (Out.ret (((-1:Int)))))))))
def iP (x0:aJ) (x1:aJ) (x2:(List Int)) (x3:Int):Option (Bool):=
 ak (S:=Unit) ((idx x0.ah (x3))>>=fun XS=>((idx x0.aF.aB (XS))>>=fun K8=>((idx x0.aE.To (x3))>>=fun OG=>((idx x2 (OG))>>=fun DA=>((idx K8 (DA))>>=fun XX=>((idx x0.aE.aC (x3))>>=fun e58=>((idx x2 (e58))>>=fun OK=>((idx x0.aF.aB (OK))>>=fun BT=>((idx x1.ah (x3))>>=fun XB=>((idx BT (XB))>>=fun e71=>(some (Out.ret (((XX) == (e71)))))))))))))))
def jW (x0:bX) (x2:Int) (Cu:(List Int)) (BW:Int) (wH:Bool) (mi:Int):Option (Out (Bool×Int) ((List Int))):=
 (((bif wH then (some (decide (mi < (x0.F.ah.length:Int)))) else (some (false))))>>=fun aeK=>(bif aeK then ((idx x0.F.aE.aC (mi))>>=fun I4=>((idx x0.F.aE.To (mi))>>=fun MG=>(((bif (I4) != (x2) then (bif (MG) != (x2) then (some (true)) else ((idx (Cu.set (x2).toNat (BW)) (I4))>>=fun Rz=>(bif decide (Rz < (0:Int)) then (some (true)) else ((idx (Cu.set (x2).toNat (BW)) (MG))>>=fun Rv=>(bif decide (Rv < (0:Int)) then (some (true)) else ((iP x0.F x0.G (Cu.set (x2).toNat (BW)) (mi))>>=fun I9=>(some (I9)))))))) else ((idx (Cu.set (x2).toNat (BW)) (I4))>>=fun X0=>(bif decide (X0 < (0:Int)) then (some (true)) else ((idx (Cu.set (x2).toNat (BW)) (MG))>>=fun aeL=>(bif decide (aeL < (0:Int)) then (some (true)) else ((iP x0.F x0.G (Cu.set (x2).toNat (BW)) (mi))>>=fun aeM=>(some (aeM)))))))))>>=fun aeN=>(some (Out.norm (aeN,aj (mi+(1:Int)))))))) else (some (Out.exit 2 (wH,mi)))))
def gS (x0:bX) (x1:(List Int)) (x2:Int) (Dw:(List Int)) (lp:(List Int)) (j3:Int):Option (Out ((List Int)×Int) ((List Int))):=
 (bif decide (j3 < (Dw.length:Int)) then (((bif x0.Ao then ((idx Dw (j3))>>=fun ET=>((jV x0.F.aF (ET))>>=fun XY=>(some (decide (XY < (0:Int)))))) else (some (false))))>>=fun XZ=>(bif XZ then (some (Out.norm (lp,aj (j3+(1:Int))))) else ((cW x1)>>=fun Cu=>((idx Dw (j3))>>=fun BW=>((idx Cu (x2))>>=fun Tg=>(ae (ab 2 (af (fun s=>jW x0 x2 Cu BW s.1 s.2) (true,(0:Int)))) (fun (wH,mi)=>(bif wH then ((idx Dw (j3))>>=fun Ry=>((fits 8 (lp.length+1))>>=fun n184=>(some (Out.norm (lp++[Ry],aj (j3+(1:Int))))))) else (some (Out.norm (lp,aj (j3+(1:Int))))))))))))) else (some (Out.exit 0 (lp,j3))))
def gY (x0:bX) (x1:(List Int)) (x2:Int):Option ((List Int)):=
 ak (S:=Unit) ((idx x0.F.aA (x2))>>=fun GR=>((idx x0.G.aA (x2))>>=fun EV=>((dX x0.F.aF (GR) (EV))>>=fun Dw=>(ae (ab 0 (af (fun s=>gS x0 x1 x2 Dw s.1 s.2) (([]:(List Int)),(0:Int)))) (fun (lp,j3)=>(some (Out.ret (lp))))))))
def lJ (x0:bX) (x1:(List Int)) (bn:Int) (aX:Int):Option (Out (Int×Int) (bX)):=
 (bif decide (aX ≥ (0:Int)) then ((idx x1 (aX))>>=fun EV=>(bif (EV) == ((-1:Int)) then ((gY x0 x1 (aX))>>=fun y41=>(bif ((y41.length:Int)) == ((0:Int)) then (some (Out.ret (x0))) else (some (Out.norm (aX,aj (aX - (1:Int))))))) else (some (Out.norm (bn,aj (aX - (1:Int))))))) else (some (Out.exit 0 (bn,aX))))
def hY (rc:bX→(List Int)→Option (bX)) (x0:bX) (x1:(List Int)) (bn:Int) (wx:(List Int)) (ee:Int) (zD:Int) (zE:Int) (xO:Int) (xP:Int) (xQ:Bool) (vI:Int) (vJ:(List (List Int))):Option (Out (Int×Int×Int×Int×Int×Bool×Int×(List (List Int))) (bX)):=
 (((bif decide (ee < (wx.length:Int)) then (some (decide ((vJ.length:Int) < vI))) else (some (false))))>>=fun aeO=>(bif aeO then ((cW x1)>>=fun X1=>((idx wx (ee))>>=fun Jh=>((idx X1 (bn))>>=fun X0=>((rc (bX.mk (aJ.mk (aG.mk zD x0.F.aE.aC x0.F.aE.To x0.F.aE.aH x0.F.aE.aB) (aG.mk zE x0.F.aF.aC x0.F.aF.To x0.F.aF.aH x0.F.aF.aB) x0.F.aA x0.F.ah) (aJ.mk (aG.mk xO x0.G.aE.aC x0.G.aE.To x0.G.aE.aH x0.G.aE.aB) (aG.mk xP x0.G.aF.aC x0.G.aF.To x0.G.aF.aH x0.G.aF.aB) x0.G.aA x0.G.ah) xQ vI vJ) (X1.set (bn).toNat (Jh)))>>=fun D2=>(some (Out.norm (aj (ee+(1:Int)),D2.F.aE.aA,D2.F.aF.aA,D2.G.aE.aA,D2.G.aF.aA,D2.Ao,D2.xl,D2.Found))))))) else (some (Out.exit 2 (ee,zD,zE,xO,xP,xQ,vI,vJ)))))
def pK (rc:bX→(List Int)→Option (bX)) (x0:bX) (x1:(List Int)):Option (bX):=
 Fu (R:=(bX)) (ae (ab 0 (af (fun s=>lJ x0 x1 s.1 s.2) ((-1:Int),aj ((x1.length:Int) - (1:Int))))) (fun (bn,aX)=>(bif decide (bn < (0:Int)) then ((cW x1)>>=fun y61=>((fits 24 (x0.Found.length+1))>>=fun n89=>(some (Out.ret ((bX.mk x0.F x0.G x0.Ao x0.xl (x0.Found++[y61]))))))) else ((gY x0 x1 (bn))>>=fun wx=>(ae (ab 2 (af (fun s=>hY rc x0 x1 bn wx s.1 s.2.1 s.2.2.1 s.2.2.2.1 s.2.2.2.2.1 s.2.2.2.2.2.1 s.2.2.2.2.2.2.1 s.2.2.2.2.2.2.2) ((0:Int),x0.F.aE.aA,x0.F.aF.aA,x0.G.aE.aA,x0.G.aF.aA,x0.Ao,x0.xl,x0.Found))) (fun (ee,zD,zE,xO,xP,xQ,vI,vJ)=>(some (Out.norm ((bX.mk (aJ.mk (aG.mk zD x0.F.aE.aC x0.F.aE.To x0.F.aE.aH x0.F.aE.aB) (aG.mk zE x0.F.aF.aC x0.F.aF.To x0.F.aF.aH x0.F.aF.aB) x0.F.aA x0.F.ah) (aJ.mk (aG.mk xO x0.G.aE.aC x0.G.aE.To x0.G.aE.aH x0.G.aE.aB) (aG.mk xP x0.G.aF.aC x0.G.aF.To x0.G.aF.aH x0.G.aF.aB) x0.G.aA x0.G.ah) xQ vI vJ))))))))))
def fM:Nat→bX→(List Int)→Option (bX)
 | 0=>fun _ _=>none
 | n+1=>pK (fM n)
def pL (x0:aJ) (lp:(List (List Int))) (j3:Int):Option (Out ((List (List Int))×Int) ((List (List Int)))):=
 (bif decide (j3 < (x0.aE.aC.length:Int)) then ((idx x0.aE.aC (j3))>>=fun Te=>((idx x0.aE.To (j3))>>=fun yN=>((fits 24 (lp.length+1))>>=fun n68=>(some (Out.norm (lp++[([Te,yN]:(List Int))],aj (j3+(1:Int)))))))) else (some (Out.exit 0 (lp,j3))))
def pM (Jk:(List Int)) (mi:Int) (Bw:(List Int)) (C0:Int):Option (Out ((List Int)×Int) ((List (List Int)))):=
 (bif decide (C0 < (Jk.length:Int)) then ((idx Jk (C0))>>=fun aeP=>(bif (aeP) == (mi) then ((fits 8 (Bw.length+1))>>=fun n191=>(some (Out.norm (Bw++[(-1:Int)],aj (C0+(1:Int)))))) else ((fits 8 (Bw.length+1))>>=fun n219=>(some (Out.norm (Bw++[(-2:Int)],aj (C0+(1:Int)))))))) else (some (Out.exit 4 (Bw,C0))))
def pN (x0:aJ) (x1:aJ) (x2:Bool) (Jk:(List Int)) (wH:(List Int)) (mi:Int):Option (Out ((List Int)×Int) ((List (List Int)))):=
 (bif decide (mi < (Jk.length:Int)) then ((fits 8 (wH.length+1))>>=fun n132=>(ae (ab 4 (af (fun s=>pM Jk mi s.1 s.2) (([]:(List Int)),(0:Int)))) (fun (Bw,C0)=>((fM 64 (bX.mk x0 x1 x2 ((1:Int)) (([]:(List (List Int))))) Bw)>>=fun aeQ=>(bif ((aeQ.Found.length:Int)) == ((0:Int)) then (some (Out.ret ((([]:(List (List Int))))))) else (some (Out.norm (wH++[(-1:Int)],aj (mi+(1:Int)))))))))) else (some (Out.exit 2 (wH,mi))))
def mG (x0:aJ) (x1:aJ) (x2:Bool) (x3:Int):Option ((List (List Int))):=
 ak (S:=Unit) (ae (ab 0 (af (fun s=>pL x0 s.1 s.2) (([]:(List (List Int))),(0:Int)))) (fun (lp,j3)=>((jJ (x0.aE.aA) lp)>>=fun Jk=>(ae (ab 2 (af (fun s=>pN x0 x1 x2 Jk s.1 s.2) (([]:(List Int)),(0:Int)))) (fun (wH,mi)=>((fM 64 (bX.mk x0 x1 x2 x3 (([]:(List (List Int))))) wH)>>=fun aeR=>(some (Out.ret (aeR.Found)))))))))
def oL (x:Int) (K9:List (List Int)) (s:List bD×Int):Option (Out (List bD×Int) (List bD)):=
 (bif decide (s.2 < (K9.length:Int)) then ((idx K9 (s.2))>>=fun e42=>((fits 32 (s.1.length+1))>>=fun n45=>(some (Out.norm (s.1++[bD.mk x e42],aj (s.2+(1:Int))))))) else (some (Out.exit 2 s)))
def oM (x0:aJ) (s:List bD×Int):Option (Out (List bD×Int) (List bD)):=
 ((bif decide (s.2 < (x0.aF.aA)) then (some (decide ((s.1.length:Int)≤(400:Int)))) else (some (false)))>>=fun g13=>(bif g13 then ((dF x0.aE x0.aF (s.2))>>=fun lu=>((mG lu x0 (false) (aj ((401:Int) - (s.1.length:Int))))>>=fun K9=>(ae (ab 2 (af (fun s2=>oL s.2 K9 s2) (s.1,(0:Int)))) (fun s2=>(some (Out.norm (s2.1,aj (s.2+(1:Int))))))))) else (some (Out.exit 0 s))))
def lK (x0:aJ):Option ((List bD)):=
 ak (S:=Unit) (ae (ab 0 (af (fun s=>oM x0 s) (([]:List bD),(0:Int)))) (fun s=>(some (Out.ret (s.1)))))
def pO (x0:aJ):Option ((List bD)×Int):=
 ak (S:=Unit) ((lK x0)>>=fun y8=>(bif decide ((y8.length:Int) > (400:Int)) then (some (Out.ret ((([]),((3:Int)))))) else (some (Out.ret ((y8,((0:Int))))))))
def jX (x0:aJ) (x1:bD) (x2:bD) (lu:(List Int)) (dp:Int) (jd:Bool) (uf:Int):Option (Out (Bool×Int) ((List Int))):=
 (((bif decide (uf < (x1.ay.length:Int)) then (some (jd)) else (some (false))))>>=fun XU=>(bif XU then ((idx lu (dp))>>=fun Jf=>((idx x2.ay (uf))>>=fun BU=>((gO x0.aF (Jf) (BU))>>=fun y90=>((idx x1.ay (uf))>>=fun e92=>(some (Out.norm ((y90) == (e92),aj (uf+(1:Int))))))))) else (some (Out.exit 2 (jd,uf)))))
def jY (x0:aJ) (x1:bD) (x2:bD) (lu:(List Int)) (ep:(List Int)) (dp:Int):Option (Out ((List Int)×Int) ((List Int))):=
 (bif decide (dp < (lu.length:Int)) then (ae (ab 2 (af (fun s=>jX x0 x1 x2 lu dp s.1 s.2) (true,(0:Int)))) (fun (jd,uf)=>(bif jd then ((idx lu (dp))>>=fun FP=>((fits 8 (ep.length+1))>>=fun n122=>(some (Out.norm (ep++[FP],aj (dp+(1:Int))))))) else (some (Out.norm (ep,aj (dp+(1:Int)))))))) else (some (Out.exit 0 (ep,dp))))
def pP (x0:aJ) (x1:bD) (x2:bD):Option ((List Int)):=
 ak (S:=Unit) ((dX x0.aF (x1.da) (x2.da))>>=fun lu=>(ae (ab 0 (af (fun s=>jY x0 x1 x2 lu s.1 s.2) (([]:(List Int)),(0:Int)))) (fun (ep,dp)=>(some (Out.ret (ep))))))
def iE (x0:aJ) (x1:(List bD)) (x2:bD) (br:Int):Option (Out (Int) (Bool)):=
 (bif decide (br < (x1.length:Int)) then ((idx x1 (br))>>=fun K5=>((pP x0 K5 x2)>>=fun GX=>(bif ((GX.length:Int)) != ((1:Int)) then (some (Out.ret (false))) else (some (Out.norm (aj (br+(1:Int)))))))) else (some (Out.exit 0 (br))))
def kG (x0:aJ) (x1:(List bD)) (x2:bD):Option (Bool):=
 ak (S:=Unit) (ae (ab 0 (af (iE x0 x1 x2) ((0:Int)))) (fun br=>(some (Out.ret (true)))))
def oN (x0:aJ) (s9:(List bD)×Int) (cg:Int):Option (Out (Int) (bD×Int)):=
 (bif decide (cg < (s9.1.length:Int)) then ((idx s9.1 (cg))>>=fun EN=>((kG x0 s9.1 EN)>>=fun Ov=>(bif Ov then ((idx s9.1 (cg))>>=fun DA=>(some (Out.ret ((DA,((0:Int))))))) else (some (Out.norm (aj (cg+(1:Int)))))))) else (some (Out.exit 0 (cg))))
def lL (x0:aJ):Option (bD×Int):=
 ak (S:=Unit) ((pO x0)>>=fun s9=>(bif (s9.2) != ((0:Int)) then (some (Out.ret (((bD.mk ((0:Int)) ([])),s9.2)))) else (ae (ab 0 (af (oN x0 s9) ((0:Int)))) (fun cg=>(some (Out.ret (((bD.mk ((0:Int)) ([])),((4:Int))))))))))
def mY (x0:aJ):Option (bD×Int):=
 ak (S:=Unit) ((pI x0)>>=fun s9=>(bif !(s9) then (some (Out.ret (((bD.mk ((0:Int)) ([])),((1:Int)))))) else ((qU x0)>>=fun lu=>((lL lu)>>=fun DZ=>(some (Out.ret ((DZ.1,DZ.2))))))))
def sB (x0:(List Int)) (x1:(List Int)) (aX:Int):Option (Out (Int) (Bool)):=
 (bif decide (aX < (x0.length:Int)) then ((idx x0 (aX))>>=fun yB=>((idx x1 (aX))>>=fun Dv=>(bif (yB) != (Dv) then (some (Out.ret (false))) else (some (Out.norm (aj (aX+(1:Int)))))))) else (some (Out.exit 0 (aX))))
def qN (x0:(List Int)) (x1:(List Int)):Option (Bool):=
 ak (S:=Unit) (bif ((x0.length:Int)) != ((x1.length:Int)) then (some (Out.ret (false))) else (ae (ab 0 (af (sB x0 x1) ((0:Int)))) (fun aX=>(some (Out.ret (true))))))
def lW (x0:bD) (x1:bD):Option (Bool):=
 ak (S:=Unit) (((bif (x0.da) == (x1.da) then ((qN x0.ay x1.ay)>>=fun GW=>(some (GW))) else (some (false))))>>=fun g16=>(some (Out.ret (g16))))
def lM (x0:(List Int)) (x1:(List Int)) (aX:(List Int)) (cg:Int):Option (Out ((List Int)×Int) ((List Int))):=
 (bif decide (cg < (x0.length:Int)) then ((((idx x0 (cg))>>=fun OH=>(bif decide (OH < (0:Int)) then (some (true)) else ((idx x0 (cg))>>=fun K5=>(some (decide (K5 ≥ (x1.length:Int))))))))>>=fun g18=>(bif g18 then (some (Out.ret (([])))) else ((idx x0 (cg))>>=fun XA=>((idx x1 (XA))>>=fun EU=>((fits 8 (aX.length+1))>>=fun n48=>(some (Out.norm (aX++[EU],aj (cg+(1:Int)))))))))) else (some (Out.exit 0 (aX,cg))))
def pQ (x0:(List Int)) (x1:(List Int)):Option ((List Int)):=
 ak (S:=Unit) (ae (ab 0 (af (fun s=>lM x0 x1 s.1 s.2) (([]:(List Int)),(0:Int)))) (fun (aX,cg)=>(some (Out.ret (aX)))))
def mZ (x0:aJ) (x1:bD) (C1:Int):Option (Out (Int) (Bool)):=
 (bif decide (C1 < (x1.ay.length:Int)) then ((idx x1.ay (C1))>>=fun EU=>((dT x0.aF (EU))>>=fun Dy=>((idx x0.aA (C1))>>=fun e38=>(bif !((Dy.aC) == (x1.da) && (Dy.To) == (e38)) then (some (Out.ret (false))) else (some (Out.norm (aj (C1+(1:Int))))))))) else (some (Out.exit 0 (C1))))
def nA (x0:aJ) (x1:bD) (By:Int):Option (Out (Int) (Bool)):=
 (bif decide (By < (x0.ah.length:Int)) then ((idx x0.ah (By))>>=fun DA=>((idx x0.aE.aC (By))>>=fun e59=>((idx x1.ay (e59))>>=fun Jb=>((cG x0.aF (Jb) (DA))>>=fun XO=>((idx x0.aE.To (By))>>=fun IV=>((idx x1.ay (IV))>>=fun OD=>(bif (XO) != (OD) then (some (Out.ret (false))) else (some (Out.norm (aj (By+(1:Int)))))))))))) else (some (Out.exit 2 (By))))
def qI (x0:aJ) (x1:bD):Option (Bool):=
 ak (S:=Unit) ((((eM (x1.da) ((0:Int)) (aj (x0.aF.aA - (1:Int))))>>=fun GV=>(bif !(GV) then (some (true)) else (bif ((x1.ay.length:Int)) != ((x0.aA.length:Int)) then (some (true)) else ((cH x0.aF)>>=fun As=>((eW x1.ay (As))>>=fun GW=>(some (!(GW)))))))))>>=fun g11=>(bif g11 then (some (Out.ret (false))) else (ae (ab 0 (af (mZ x0 x1) ((0:Int)))) (fun C1=>(ae (ab 2 (af (nA x0 x1) ((0:Int)))) (fun By=>(some (Out.ret (true)))))))))
def oO (x0:lD) (x1:(List bD)) (dp:Int):Option (Out (Int) (Int)):=
 (bif decide (dp < (x1.length:Int)) then ((idx x1 (dp))>>=fun e9=>((dE)>>=fun lu=>((qI x0.eh e9)>>=fun Ap=>(bif !(Ap) then (some (Out.ret (((5:Int))))) else (some (Out.norm (aj (dp+(1:Int))))))))) else (some (Out.exit 0 (dp))))
def oC (x0:lD) (x1:(List bD)):Option (Int):=
 ak (S:=Unit) (ae (ab 0 (af (oO x0 x1) ((0:Int)))) (fun dp=>(some (Out.ret (((0:Int)))))))
def iQ (x0:lD) (x1:bD):Option (Bool×Int):=
 ak (S:=Unit) ((oC x0 [x1])>>=fun ig=>(bif (ig) != ((0:Int)) then (some (Out.ret ((false,ig)))) else ((dE)>>=fun GW=>((gZ x0.eh)>>=fun Tn=>(bif !(Tn.2) then (some (Out.ret ((false,((3:Int)))))) else ((dE)>>=fun Dy=>((jM x0.eh Tn.1 x1)>>=fun IZ=>(some (Out.ret ((IZ,((0:Int)))))))))))))
def iR (x0:aJ) (x1:bD):Option (Bool×Int):=
 ak (S:=Unit) ((dA x0)>>=fun y6=>(bif !(y6) then (some (Out.ret ((false,(1:Int))))) else ((iO x0)>>=fun y8=>((iQ (lD.mk y8) x1)>>=fun ig=>(some (Out.ret ((ig.1,ig.2))))))))
def iG (x0:(List Int)):Option (Bool):=
 ak (S:=Unit) ((sA x0)>>=fun y3=>(bif y3 then (some (Out.ret (true))) else ((kW x0)>>=fun ig=>((kN ig)>>=fun RA=>((kO ig)>>=fun DY=>(((bif (RA.2) != (DY.2) then (some (true)) else (some (!((RA.1) == (DY.1))))))>>=fun aeS=>(bif aeS then (some (Out.ret (false))) else (bif (RA.2) != ((0:Int)) then ((mT ig)>>=fun RB=>(some (Out.ret ((!(RB)))))) else ((iC ig)>>=fun X2=>((mU X2.1)>>=fun X3=>(((bif (X2.2) != ((0:Int)) then (some (true)) else (bif (X3.2) != ((0:Int)) then (some (true)) else (some (!((X3.1) == (DY.1)))))))>>=fun aeT=>(bif aeT then (some (Out.ret (false))) else (bif !(DY.1) then (some (Out.ret (true))) else ((iD ig.aF)>>=fun RC=>((mW RC.1)>>=fun RD=>((mY RC.1)>>=fun MP=>(((bif (RC.2) != ((0:Int)) then (some (true)) else (bif (RD.2) != (MP.2) then (some (true)) else ((lW RD.1 MP.1)>>=fun aeU=>(some (!(aeU)))))))>>=fun aeV=>(bif aeV then (some (Out.ret (false))) else (bif (RD.2) != ((0:Int)) then (some (Out.ret (true))) else ((pQ ig.aA MP.1.ay)>>=fun aeW=>((iR ig (bD.mk MP.1.da aeW))>>=fun RE=>(((bif (RE.2) == ((3:Int)) then (some (true)) else (bif (RE.2) == ((0:Int)) then (some (RE.1)) else (some (false)))))>>=fun aeX=>(some (Out.ret (aeX)))))))))))))))))))))))))
structure cM where
 aE:aJ
 aF:aJ
 fc:(List Int)
end
end Go.Proofs.YtbmchcnkbonmkaaGreat
