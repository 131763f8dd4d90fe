/- Models, printed by a program: what each function computes, on plain data. No condition. -/
import Derived.Test.YtkcpiblgpnjanaaGreatLj
import Derived.Test.YtkcpiblgpnjanaaGreatLn
import Derived.Test.YtkcpiblgpnjanaaGreatLq
namespace Go.Proofs.YtkcpiblgpnjanaaGreat
open Go Go.Li
set_option linter.unusedVariables false
noncomputable section
structure aL where
 Code:(List Int)
 At:Int
 av:Int
structure aI where
 aE:Int
 aG:(List Int)
 To:(List Int)
 aJ:(List Int)
 aF:(List (List Int))
structure bY where
 aG:Int
 To:Int
 lu:(List Int)
structure aN where
 aA:aI
 aC:aI
 aE:(List Int)
 ae:(List Int)
structure dH where
 F:aN
 G:aN
 xU:Bool
 u5:Int
 Found:(List (List Int))
structure aP where
 aA:aN
 aC:aN
 ag:(List Int)
structure rO where
 aG:Int
 To:Int
def rC (x0:(List Int)):Option (Bool):=
 ao (S:=Unit) (some (Out.ret ((decide ((x0.length:Int) > (4096:Int))))))
def nX (x0:(List Int)) (b9:Int) (B6:Int):Option (Out (Int×Int) ((Option aL))):=
 (((bif decide (b9 < (x0.length:Int)) then (some (decide (b9 < (4096:Int)))) else (some (false))))>>=fun g14=>(bif g14 then ((uM .mul .u64 (B6) ((1099511628211:Int)))>>=fun z20=>((idx x0 (b9))>>=fun w9=>((uM .add .u64 (z20) (IntKind.u64.wrap w9))>>=fun z23=>((uM .add .u64 (z23) ((7:Int)))>>=fun z24=>(some (Out.norm (ak (b9+(1:Int)),z24))))))) else (some (Out.exit 0 (b9,B6)))))
def nY (x0:(List Int)):Option ((Option aL)):=
 ao (S:=Unit) ((uM .add .u64 ((7019:Int)) (IntKind.u64.wrap ((x0.length:Int))))>>=fun z3=>(ai (af 0 (aj (fun s=>nX x0 s.1 s.2) ((0:Int),z3))) (fun (b9,B6)=>(some (Out.ret ((some (aL.mk x0 ((0:Int)) B6))))))))
def bZ (x0:aL) (x1:Int):Option (Int×aL):=
 ao (S:=Unit) (bif decide (x1 < (1:Int)) then (some (Out.ret ((((0:Int)),x0)))) else ((uM .mul .u64 (x0.av) ((6364136223846793005:Int)))>>=fun z9=>((uM .add .u64 (z9) ((1442695040888963407:Int)))>>=fun Vp=>((uM .shr .u64 (Vp) ((33:Int)))>>=fun Vq=>((uM .and .u64 (Vq) ((16777215:Int)))>>=fun YZ=>(bif decide (x0.At < (x0.Code.length:Int)) then ((idx x0.Code (x0.At))>>=fun Hv=>((uM .rem .i64 (ak (IntKind.i64.wrap YZ+IntKind.i64.wrap Hv)) (x1))>>=fun z30=>(some (Out.ret ((z30,(aL.mk x0.Code (ak (x0.At+(1:Int))) Vp))))))) else ((uM .rem .i64 (IntKind.i64.wrap YZ) (x1))>>=fun z33=>(some (Out.ret ((z33,(aL.mk x0.Code x0.At Vp))))))))))))
def lG (x0:aL) (x1:Int) (dw:Int) (xV:Int) (xW:Int) (Bw:(List Int)):Option (Out (Int×Int×Int×(List Int)) ((List (List Int))×aL)):=
 (bif decide (dw < x1) then ((bZ (aL.mk x0.Code xV xW) ((2:Int)))>>=fun Vs=>((idx Bw (dw))>>=fun Y0=>(some (Out.norm (ak (dw+(1:Int)),Vs.2.At,Vs.2.av,Bw.set (dw).toNat (Vs.1)))))) else (some (Out.exit 2 (dw,xV,xW,Bw))))
def lH (x0:aL) (x1:Int) (aX:(List (List Int))) (fj:Int) (ot:Int) (ou:Int):Option (Out ((List (List Int))×Int×Int×Int) ((List (List Int))×aL)):=
 (bif decide (fj < x1) then ((mk 8 (x1))>>=fun n21=>((idx (List.replicate n21 (0:Int)) (fj))>>=fun Hx=>(ai (af 2 (aj (fun s=>lG x0 x1 s.1 s.2.1 s.2.2.1 s.2.2.2) (ak (fj+(1:Int)),ot,ou,(List.replicate n21 (0:Int)).set (fj).toNat ((1:Int))))) (fun (dw,xV,xW,Bw)=>((fits 24 (aX.length+1))>>=fun n78=>(some (Out.norm (aX++[Bw],ak (fj+(1:Int)),xV,xW)))))))) else (some (Out.exit 0 (aX,fj,ot,ou))))
def pA (x1:Int) (dp:Int) (gh:Int) (qx:Int) (tQ:(List (List Int))):Option (Out (Int×(List (List Int))) ((List (List Int))×aL)):=
 (bif decide (qx < x1) then ((((idx tQ (gh))>>=fun aav=>((idx aav (dp))>>=fun PI=>(bif (PI) == ((1:Int)) then ((idx tQ (dp))>>=fun aaw=>((idx aaw (qx))>>=fun aax=>(some ((aax) == ((1:Int)))))) else (some (false))))))>>=fun aay=>(bif aay then ((idx tQ (gh))>>=fun Vt=>((idx Vt (qx))>>=fun amG=>(some (Out.norm (ak (qx+(1:Int)),tQ.set (gh).toNat (Vt.set (qx).toNat ((1:Int)))))))) else (some (Out.norm (ak (qx+(1:Int)),tQ))))) else (some (Out.exit 8 (qx,tQ))))
def pB (x1:Int) (dp:Int) (gh:Int) (B7:(List (List Int))):Option (Out (Int×(List (List Int))) ((List (List Int))×aL)):=
 (bif decide (gh < x1) then (ai (af 8 (aj (fun s=>pA x1 dp gh s.1 s.2) ((0:Int),B7))) (fun (qx,tQ)=>(some (Out.norm (ak (gh+(1:Int)),tQ))))) else (some (Out.exit 6 (gh,B7))))
def pC (x1:Int) (dp:Int) (B8:(List (List Int))):Option (Out (Int×(List (List Int))) ((List (List Int))×aL)):=
 (bif decide (dp < x1) then (ai (af 6 (aj (fun s=>pB x1 dp s.1 s.2) ((0:Int),B8))) (fun (gh,B7)=>(some (Out.norm (ak (dp+(1:Int)),B7))))) else (some (Out.exit 4 (dp,B8))))
def pD (x1:Int) (yF:Int) (wz:Int) (xX:Int) (vJ:(List (List Int))):Option (Out (Int×(List (List Int))) ((List (List Int))×aL)):=
 (bif decide (xX < x1) then ((((idx vJ (wz))>>=fun aaz=>((idx aaz (yF))>>=fun aaA=>(bif (aaA) == ((1:Int)) then ((idx vJ (yF))>>=fun aaB=>((idx aaB (xX))>>=fun aaC=>(some ((aaC) == ((1:Int)))))) else (some (false))))))>>=fun aaD=>(bif aaD then ((idx vJ (wz))>>=fun Vu=>((idx Vu (xX))>>=fun amH=>(some (Out.norm (ak (xX+(1:Int)),vJ.set (wz).toNat (Vu.set (xX).toNat ((1:Int)))))))) else (some (Out.norm (ak (xX+(1:Int)),vJ))))) else (some (Out.exit 8 (xX,vJ))))
def pE (x1:Int) (yF:Int) (wz:Int) (DP:(List (List Int))):Option (Out (Int×(List (List Int))) ((List (List Int))×aL)):=
 (bif decide (wz < x1) then (ai (af 8 (aj (fun s=>pD x1 yF wz s.1 s.2) ((0:Int),DP))) (fun (xX,vJ)=>(some (Out.norm (ak (wz+(1:Int)),vJ))))) else (some (Out.exit 6 (wz,DP))))
def pF (x1:Int) (yF:Int) (DQ:(List (List Int))):Option (Out (Int×(List (List Int))) ((List (List Int))×aL)):=
 (bif decide (yF < x1) then (ai (af 6 (aj (fun s=>pE x1 yF s.1 s.2) ((0:Int),DQ))) (fun (wz,DP)=>(some (Out.norm (ak (yF+(1:Int)),DP))))) else (some (Out.exit 4 (yF,DQ))))
def nZ (x1:Int) (yG:Int) (wA:Int) (vK:Int) (tR:(List (List Int))):Option (Out (Int×(List (List Int))) ((List (List Int))×aL)):=
 (bif decide (vK < x1) then ((((idx tR (wA))>>=fun aaE=>((idx aaE (yG))>>=fun xa=>(bif (xa) == ((1:Int)) then ((idx tR (yG))>>=fun PJ=>((idx PJ (vK))>>=fun PK=>(some ((PK) == ((1:Int)))))) else (some (false))))))>>=fun aaF=>(bif aaF then ((idx tR (wA))>>=fun Vv=>((idx Vv (vK))>>=fun amI=>(some (Out.norm (ak (vK+(1:Int)),tR.set (wA).toNat (Vv.set (vK).toNat ((1:Int)))))))) else (some (Out.norm (ak (vK+(1:Int)),tR))))) else (some (Out.exit 8 (vK,tR))))
def pG (x1:Int) (yG:Int) (wA:Int) (DR:(List (List Int))):Option (Out (Int×(List (List Int))) ((List (List Int))×aL)):=
 (bif decide (wA < x1) then (ai (af 8 (aj (fun s=>nZ x1 yG wA s.1 s.2) ((0:Int),DR))) (fun (vK,tR)=>(some (Out.norm (ak (wA+(1:Int)),tR))))) else (some (Out.exit 6 (wA,DR))))
def pH (x1:Int) (yG:Int) (DS:(List (List Int))):Option (Out (Int×(List (List Int))) ((List (List Int))×aL)):=
 (bif decide (yG < x1) then (ai (af 6 (aj (fun s=>pG x1 yG s.1 s.2) ((0:Int),DS))) (fun (wA,DR)=>(some (Out.norm (ak (yG+(1:Int)),DR))))) else (some (Out.exit 4 (yG,DS))))
def jE (x0:aL) (x1:Int):Option ((List (List Int))×aL):=
 ao (S:=Unit) (ai (af 0 (aj (fun s=>lH x0 x1 s.1 s.2.1 s.2.2.1 s.2.2.2) (([]:(List (List Int))),(0:Int),x0.At,x0.av))) (fun (aX,fj,ot,ou)=>(bif decide (x1 > (1:Int)) then ((bZ (aL.mk x0.Code ot ou) ((4:Int)))>>=fun Nf=>(bif (Nf.1) == ((0:Int)) then ((idx aX (ak (x1 - (1:Int))))>>=fun Y1=>((bZ (aL.mk x0.Code Nf.2.At Nf.2.av) (x1))>>=fun u6=>((idx Y1 (u6.1))>>=fun vX=>(ai (af 4 (aj (fun s=>pC x1 s.1 s.2) ((0:Int),aX.set (ak (x1 - (1:Int))).toNat (Y1.set (u6.1).toNat ((1:Int)))))) (fun (dp,B8)=>(some (Out.ret ((B8,(aL.mk x0.Code u6.2.At u6.2.av)))))))))) else (ai (af 4 (aj (fun s=>pF x1 s.1 s.2) ((0:Int),aX))) (fun (yF,DQ)=>(some (Out.ret ((DQ,(aL.mk x0.Code Nf.2.At Nf.2.av))))))))) else (ai (af 4 (aj (fun s=>pH x1 s.1 s.2) ((0:Int),aX))) (fun (yG,DS)=>(some (Out.ret ((DS,(aL.mk x0.Code ot ou))))))))))
def nH (x0:(List (List Int))) (fj:Int) (lv:(List Int)) (dw:Int) (sE:(List Int)) (u7:(List Int)):Option (Out ((List Int)×Int×(List Int)×(List Int)) (aI)):=
 (bif decide (dw < (x0.length:Int)) then ((fits 8 (lv.length+1))>>=fun n185=>((idx x0 (fj))>>=fun aaG=>((idx aaG (dw))>>=fun aaH=>(bif (aaH) == ((1:Int)) then ((fits 8 (sE.length+1))>>=fun n229=>((fits 8 (u7.length+1))>>=fun n265=>(some (Out.norm (lv++[(sE.length:Int)],ak (dw+(1:Int)),sE++[fj],u7++[dw]))))) else (some (Out.norm (lv++[(sE.length:Int)],ak (dw+(1:Int)),sE,u7))))))) else (some (Out.exit 2 (lv,dw,sE,u7))))
def nI (x0:(List (List Int))) (b9:(List (List Int))) (fj:Int) (np:(List Int)) (qp:(List Int)):Option (Out ((List (List Int))×Int×(List Int)×(List Int)) (aI)):=
 (bif decide (fj < (x0.length:Int)) then (ai (af 2 (aj (fun s=>nH x0 fj s.1 s.2.1 s.2.2.1 s.2.2.2) (([]:(List Int)),(0:Int),np,qp))) (fun (lv,dw,sE,u7)=>((fits 24 (b9.length+1))>>=fun n306=>(some (Out.norm (b9++[lv],ak (fj+(1:Int)),sE,u7)))))) else (some (Out.exit 0 (b9,fj,np,qp))))
def nJ (x0:(List (List Int))) (b9:(List (List Int))) (dp:Int) (xc:(List Int)):Option (Out (Int×(List Int)) (aI)):=
 (bif decide (dp < (x0.length:Int)) then ((idx b9 (dp))>>=fun aaI=>((idx aaI (dp))>>=fun Vw=>((fits 8 (xc.length+1))>>=fun amJ=>(some (Out.norm (ak (dp+(1:Int)),xc++[Vw])))))) else (some (Out.exit 4 (dp,xc))))
def nK (b9:(List (List Int))) (np:(List Int)) (qp:(List Int)) (gh:Int) (qx:(List Int)) (pj:Int):Option (Out ((List Int)×Int) (aI)):=
 (bif decide (pj < (np.length:Int)) then ((idx qp (gh))>>=fun aaJ=>((idx np (pj))>>=fun aaK=>(bif (aaJ) == (aaK) then ((idx np (gh))>>=fun aaL=>((idx b9 (aaL))>>=fun aaM=>((idx qp (pj))>>=fun aaN=>((idx aaM (aaN))>>=fun aaO=>((fits 8 (qx.length+1))>>=fun amK=>(some (Out.norm (qx++[aaO],ak (pj+(1:Int)))))))))) else ((fits 8 (qx.length+1))>>=fun amL=>(some (Out.norm (qx++[(-1:Int)],ak (pj+(1:Int))))))))) else (some (Out.exit 8 (qx,pj))))
def nL (b9:(List (List Int))) (np:(List Int)) (qp:(List Int)) (gh:Int) (xd:(List (List Int))):Option (Out (Int×(List (List Int))) (aI)):=
 (bif decide (gh < (np.length:Int)) then (ai (af 8 (aj (fun s=>nK b9 np qp gh s.1 s.2) (([]:(List Int)),(0:Int)))) (fun (qx,pj)=>((fits 24 (xd.length+1))>>=fun amM=>(some (Out.norm (ak (gh+(1:Int)),xd++[qx])))))) else (some (Out.exit 6 (gh,xd))))
def fE (x0:(List (List Int))):Option (aI):=
 ao (S:=Unit) (ai (af 0 (aj (fun s=>nI x0 s.1 s.2.1 s.2.2.1 s.2.2.2) (([]:(List (List Int))),(0:Int),([]:(List Int)),([]:(List Int))))) (fun (b9,fj,np,qp)=>(ai (af 4 (aj (fun s=>nJ x0 b9 s.1 s.2) ((0:Int),([]:(List Int))))) (fun (dp,xc)=>(ai (af 6 (aj (fun s=>nL b9 np qp s.1 s.2) ((0:Int),([]:(List (List Int)))))) (fun (gh,xd)=>(some (Out.ret ((aI.mk ((x0.length:Int)) np qp xc xd))))))))))
def dR (x0:(List Int)):Option ((List Int)):=
 ao (S:=Unit) ((fits 8 ((([]:(List Int))).length+x0.length))>>=fun n15=>(some (Out.ret ((([]:(List Int))++x0)))))
def fL (x0:(List Int)) (x1:(List Int)) (aX:Int):Option (Out (Int) (Bool)):=
 (((bif decide (aX < (x0.length:Int)) then (some (decide (aX < (x1.length:Int)))) else (some (false))))>>=fun g6=>(bif g6 then ((idx x0 (aX))>>=fun Nh=>((idx x1 (aX))>>=fun uB=>(bif (Nh) != (uB) then ((idx x0 (aX))>>=fun Hy=>((idx x1 (aX))>>=fun w9=>(some (Out.ret ((decide (Hy < w9))))))) else (some (Out.norm (ak (aX+(1:Int)))))))) else (some (Out.exit 0 (aX)))))
def lT (x0:(List Int)) (x1:(List Int)):Option (Bool):=
 ao (S:=Unit) (ai (af 0 (aj (fL x0 x1) ((0:Int)))) (fun aX=>(some (Out.ret ((decide ((x0.length:Int) < (x1.length:Int))))))))
def jA (x0:bY) (x1:bY):Option (Bool):=
 ao (S:=Unit) (bif (x0.aG) != (x1.aG) then (some (Out.ret ((decide (x0.aG < x1.aG))))) else (bif (x0.To) != (x1.To) then (some (Out.ret ((decide (x0.To < x1.To))))) else ((lT x0.lu x1.lu)>>=fun xY=>(some (Out.ret (xY))))))
def kM (x0:Int) (s0:(List bY)) (s1:Int):Option (Out ((List bY)×Int) ((List bY))):=
 (bif decide (s1 < x0) then ((fits 40 (s0.length+1))>>=fun n26=>(some (Out.norm (s0++[bY.mk s1 s1 []],ak (s1+(1:Int)))))) else (some (Out.exit 0 (s0,s1))))
def jB (x1:(List Int)) (x2:(List Int)) (s1:Int) (s0:(List bY)) (s2:Int):Option (Out ((List bY)×Int) ((List bY))):=
 (bif decide (s2 < (x1.length:Int)) then ((idx x1 (s2))>>=fun By=>((idx s0 (s1))>>=fun Ni=>(bif (By) == (Ni.To) then ((idx s0 (s1))>>=fun Vx=>((idx x2 (s2))>>=fun AH=>((idx s0 (s1))>>=fun JE=>((dR JE.lu)>>=fun Nj=>((fits 8 (Nj.length+1))>>=fun n72=>((fits 40 (s0.length+1))>>=fun n75=>(some (Out.norm (s0++[bY.mk Vx.aG AH (Nj++[s2])],ak (s2+(1:Int))))))))))) else (some (Out.norm (s0,ak (s2+(1:Int)))))))) else (some (Out.exit 4 (s0,s2))))
def kN (x1:(List Int)) (x2:(List Int)) (s0:(List bY)) (s1:Int):Option (Out ((List bY)×Int) ((List bY))):=
 (((bif decide (s1 < (s0.length:Int)) then (some (decide ((s0.length:Int)≤(40:Int)))) else (some (false))))>>=fun Vy=>(bif Vy then (ai (af 4 (aj (fun s=>jB x1 x2 s1 s.1 s.2) (s0,(0:Int)))) (fun (s0,s2)=>(some (Out.norm (s0,ak (s1+(1:Int))))))) else (some (Out.exit 2 (s0,s1)))))
def kO (s0:(List bY)) (s1:Int):Option (Out ((List bY)×Int) ((List bY))):=
 (((bif decide ((0:Int) < s1) then ((idx s0 (s1))>>=fun CA=>((idx s0 (ak (s1 - (1:Int))))>>=fun DU=>((jA CA DU)>>=fun Nl=>(some (Nl))))) else (some (false))))>>=fun Vz=>(bif Vz then ((idx s0 (s1))>>=fun PL=>((idx s0 (ak (s1 - (1:Int))))>>=fun vX=>((idx s0 (s1))>>=fun Hz=>((idx (s0.set (s1).toNat vX) (ak (s1 - (1:Int))))>>=fun PM=>(some (Out.norm ((s0.set (s1).toNat vX).set (ak (s1 - (1:Int))).toNat PL,ak (s1 - (1:Int))))))))) else (some (Out.exit 8 (s0,s1)))))
def kP (s0:(List bY)) (s1:Int):Option (Out ((List bY)×Int) ((List bY))):=
 (bif decide (s1 < (s0.length:Int)) then (ai (af 8 (aj (fun s=>kO s.1 s.2) (s0,s1))) (fun (s0,s2)=>(some (Out.norm (s0,ak (s1+(1:Int))))))) else (some (Out.exit 6 (s0,s1))))
def lE (x0:Int) (x1:(List Int)) (x2:(List Int)):Option ((List bY)):=
 ao (S:=Unit) (ai (af 0 (aj (fun s=>kM x0 s.1 s.2) (([]:(List bY)),(0:Int)))) (fun (s0,s1)=>(ai (af 2 (aj (fun s=>kN x1 x2 s.1 s.2) (s0,(0:Int)))) (fun (s0,s1)=>(ai (af 6 (aj (fun s=>kP s.1 s.2) (s0,(1:Int)))) (fun (s0,s1)=>(some (Out.ret (s0)))))))))
def fF (x0:aI):Option (Bool):=
 ao (S:=Unit) (((bif decide (x0.aE≤(8:Int)) then (some (decide ((x0.aG.length:Int)≤(40:Int)))) else (some (false))))>>=fun g8=>(some (Out.ret (g8))))
def lL (x0:(List Int)) (x1:(List Int)) (aX:Int):Option (Out (Int) (Bool)):=
 (bif decide (aX < (x0.length:Int)) then ((idx x0 (aX))>>=fun uB=>((idx x1 (aX))>>=fun DV=>(bif (uB) != (DV) then (some (Out.ret (false))) else (some (Out.norm (ak (aX+(1:Int)))))))) else (some (Out.exit 0 (aX))))
def fG (x0:(List Int)) (x1:(List Int)):Option (Bool):=
 ao (S:=Unit) (bif ((x0.length:Int)) != ((x1.length:Int)) then (some (Out.ret (false))) else (ai (af 0 (aj (lL x0 x1) ((0:Int)))) (fun aX=>(some (Out.ret (true))))))
def jF (y8:(List bY)) (jb:Int) (jr:(List Int)) (js:(List Int)) (nb:(List Int)):Option (Out (Int×(List Int)×(List Int)×(List Int)) (aI)):=
 (bif decide (jb < (y8.length:Int)) then ((idx y8 (jb))>>=fun CX=>((fits 8 (jr.length+1))>>=fun n134=>((idx y8 (jb))>>=fun HA=>((fits 8 (js.length+1))>>=fun n173=>((idx y8 (jb))>>=fun PN=>(bif ((PN.lu.length:Int)) == ((0:Int)) then ((idx y8 (jb))>>=fun HB=>((idx nb (HB.aG))>>=fun aaP=>(some (Out.norm (ak (jb+(1:Int)),jr++[CX.aG],js++[HA.To],nb.set (HB.aG).toNat (jb)))))) else (some (Out.norm (ak (jb+(1:Int)),jr++[CX.aG],js++[HA.To],nb))))))))) else (some (Out.exit 0 (jb,jr,js,nb))))
def jG (y8:(List bY)) (jk:Int) (u9:(List Int)) (xa:bY) (wB:Int) (qh:Int):Option (Out (Int×Int) (aI)):=
 (bif decide (qh < (y8.length:Int)) then ((((idx y8 (qh))>>=fun PO=>((idx y8 (jk))>>=fun PQ=>(bif (PO.aG) == (PQ.aG) then ((idx y8 (qh))>>=fun PR=>((fG PR.lu (u9++xa.lu))>>=fun HC=>(some (HC)))) else (some (false))))))>>=fun PS=>(bif PS then (some (Out.norm (qh,ak (qh+(1:Int))))) else (some (Out.norm (wB,ak (qh+(1:Int))))))) else (some (Out.exit 6 (wB,qh))))
def jH (y8:(List bY)) (jk:Int) (nj:(List Int)) (rS:Int):Option (Out ((List Int)×Int) (aI)):=
 (bif decide (rS < (y8.length:Int)) then ((idx y8 (jk))>>=fun PT=>((idx y8 (rS))>>=fun PU=>(bif (PT.To) == (PU.aG) then ((idx y8 (jk))>>=fun PV=>((dR PV.lu)>>=fun u9=>((idx y8 (rS))>>=fun xa=>((fits 8 (u9.length+xa.lu.length))>>=fun aaQ=>(ai (af 6 (aj (fun s=>jG y8 jk u9 xa s.1 s.2) ((-1:Int),(0:Int)))) (fun (wB,qh)=>((fits 8 (nj.length+1))>>=fun aaR=>(some (Out.norm (nj++[wB],ak (rS+(1:Int)))))))))))) else ((fits 8 (nj.length+1))>>=fun aaS=>(some (Out.norm (nj++[(-1:Int)],ak (rS+(1:Int))))))))) else (some (Out.exit 4 (nj,rS))))
def gY (y8:(List bY)) (jk:Int) (oK:(List (List Int))):Option (Out (Int×(List (List Int))) (aI)):=
 (bif decide (jk < (y8.length:Int)) then (ai (af 4 (aj (fun s=>jH y8 jk s.1 s.2) (([]:(List Int)),(0:Int)))) (fun (nj,rS)=>((fits 24 (oK.length+1))>>=fun aaT=>(some (Out.norm (ak (jk+(1:Int)),oK++[nj])))))) else (some (Out.exit 2 (jk,oK))))
def fT (x0:Int) (x1:(List Int)) (x2:(List Int)):Option (aI):=
 ao (S:=Unit) ((lE (x0) x1 x2)>>=fun y8=>((mk 8 (x0))>>=fun n36=>(ai (af 0 (aj (fun s=>jF y8 s.1 s.2.1 s.2.2.1 s.2.2.2) ((0:Int),([]:(List Int)),([]:(List Int)),List.replicate n36 (0:Int)))) (fun (jb,jr,js,nb)=>((fF (aI.mk x0 jr js nb (([]:(List (List Int))))))>>=fun PW=>(bif !(PW) then (some (Out.ret ((aI.mk x0 jr js nb (([]:(List (List Int)))))))) else (ai (af 2 (aj (fun s=>gY y8 s.1 s.2) ((0:Int),([]:(List (List Int)))))) (fun (jk,oK)=>(some (Out.ret ((aI.mk x0 jr js nb oK))))))))))))
def jC (x0:aL):Option ((List (List Int))×aL):=
 ao (S:=Unit) ((bZ x0 ((8:Int)))>>=fun y5=>(bif (y5.1) == ((0:Int)) then (some (Out.ret (((([[(0:Int)]]:(List (List Int)))),(aL.mk x0.Code y5.2.At y5.2.av))))) else (bif (y5.1) == ((1:Int)) then (some (Out.ret (((([[(0:Int),(1:Int)],[(1:Int),(0:Int)]]:(List (List Int)))),(aL.mk x0.Code y5.2.At y5.2.av))))) else (bif (y5.1) == ((2:Int)) then (some (Out.ret (((([[(0:Int),(1:Int)],[(1:Int),(1:Int)]]:(List (List Int)))),(aL.mk x0.Code y5.2.At y5.2.av))))) else (bif (y5.1) == ((3:Int)) then (some (Out.ret (((([[(0:Int),(1:Int),(2:Int)],[(1:Int),(2:Int),(0:Int)],[(2:Int),(0:Int),(1:Int)]]:(List (List Int)))),(aL.mk x0.Code y5.2.At y5.2.av))))) else (bif (y5.1) == ((4:Int)) then (some (Out.ret (((([[(0:Int),(1:Int),(2:Int)],[(1:Int),(1:Int),(2:Int)],[(2:Int),(2:Int),(2:Int)]]:(List (List Int)))),(aL.mk x0.Code y5.2.At y5.2.av))))) else (bif (y5.1) == ((5:Int)) then (some (Out.ret (((([[(0:Int),(1:Int),(2:Int)],[(1:Int),(1:Int),(2:Int)],[(2:Int),(1:Int),(2:Int)]]:(List (List Int)))),(aL.mk x0.Code y5.2.At y5.2.av))))) else (bif (y5.1) == ((6:Int)) then (some (Out.ret (((([[(0:Int),(1:Int),(2:Int),(3:Int)],[(1:Int),(0:Int),(2:Int),(3:Int)],[(2:Int),(3:Int),(2:Int),(3:Int)],[(3:Int),(2:Int),(2:Int),(3:Int)]]:(List (List Int)))),(aL.mk x0.Code y5.2.At y5.2.av))))) else (some (Out.ret (((([[(0:Int),(1:Int),(2:Int)],[(1:Int),(2:Int),(2:Int)],[(2:Int),(2:Int),(2:Int)]]:(List (List Int)))),(aL.mk x0.Code y5.2.At y5.2.av)))))))))))))
def jW (x0:(List (List Int))) (ke:(List (List Int))) (b9:Int):Option (Out ((List (List Int))×Int) ((List (List Int)))):=
 (bif decide (b9 < (x0.length:Int)) then ((idx x0 (b9))>>=fun HD=>((dR HD)>>=fun nz=>((fits 24 (ke.length+1))>>=fun n49=>(some (Out.norm (ke++[nz],ak (b9+(1:Int)))))))) else (some (Out.exit 0 (ke,b9))))
def lU (x0:(List (List Int))):Option ((List (List Int))):=
 ao (S:=Unit) (ai (af 0 (aj (fun s=>jW x0 s.1 s.2) (([]:(List (List Int))),(0:Int)))) (fun (ke,b9)=>(some (Out.ret (ke)))))
def jD (x0:(List (List Int))):Option (aI):=
 ao (S:=Unit) ((mk 8 ((x0.length:Int)))>>=fun n10=>((mk 8 ((x0.length:Int)))>>=fun n19=>((lU x0)>>=fun AI=>(some (Out.ret ((aI.mk ((1:Int)) (List.replicate n10 (0:Int)) (List.replicate n19 (0:Int)) ([(0:Int)]) AI)))))))
def mZ:Option (aI):=
 ao (S:=Unit) (some (Out.ret ((aI.mk ((2:Int)) (([(0:Int),(1:Int),(0:Int),(0:Int),(1:Int)]:(List Int))) (([(0:Int),(1:Int),(0:Int),(1:Int),(0:Int)]:(List Int))) (([(0:Int),(1:Int)]:(List Int))) (([[(0:Int),(-1:Int),(2:Int),(3:Int),(-1:Int)],[(-1:Int),(1:Int),(-1:Int),(-1:Int),(4:Int)],[(2:Int),(-1:Int),(2:Int),(3:Int),(-1:Int)],[(-1:Int),(3:Int),(-1:Int),(-1:Int),(2:Int)],[(4:Int),(-1:Int),(4:Int),(1:Int),(-1:Int)]]:(List (List Int))))))))
def kE (x0:aI):Option (aI):=
 ao (S:=Unit) ((dR x0.aG)>>=fun sT=>((dR x0.To)>>=fun xY=>((dR x0.aJ)>>=fun VA=>((lU x0.aF)>>=fun VB=>(some (Out.ret ((aI.mk x0.aE sT xY VA VB))))))))
def gZ (x0:aI) (x1:aI) (ir:Int) (xe:(List Int)):Option (Out (Int×(List Int)) (aI)):=
 (bif decide (ir < x1.aE) then ((idx x1.aJ (ir))>>=fun PX=>((fits 8 (xe.length+1))>>=fun n136=>(some (Out.norm (ak (ir+(1:Int)),xe++[ak (PX+(x0.aG.length:Int))]))))) else (some (Out.exit 0 (ir,xe))))
def hJ (x1:aI) (tk:Int) (ef:Int) (y4:(List (List Int))):Option (Out (Int×(List (List Int))) (aI)):=
 (bif decide (ef < (x1.aG.length:Int)) then ((idx y4 (tk))>>=fun VC=>((fits 8 (VC.length+1))>>=fun n233=>((idx y4 (tk))>>=fun amN=>(some (Out.norm (ak (ef+(1:Int)),y4.set (tk).toNat (VC++[(-1:Int)]))))))) else (some (Out.exit 4 (ef,y4))))
def hY (x1:aI) (tk:Int) (Bz:(List (List Int))):Option (Out (Int×(List (List Int))) (aI)):=
 (bif decide (tk < (Bz.length:Int)) then (ai (af 4 (aj (fun s=>hJ x1 tk s.1 s.2) ((0:Int),Bz))) (fun (ef,y4)=>(some (Out.norm (ak (tk+(1:Int)),y4))))) else (some (Out.exit 2 (tk,Bz))))
def iA (x0:aI) (pj:(List Int)) (sN:Int):Option (Out ((List Int)×Int) (aI)):=
 (bif decide (sN < (x0.aG.length:Int)) then ((fits 8 (pj.length+1))>>=fun amO=>(some (Out.norm (pj++[(-1:Int)],ak (sN+(1:Int)))))) else (some (Out.exit 8 (pj,sN))))
def iB (x0:aI) (x1:aI) (iq:Int) (rT:(List Int)) (se:Int):Option (Out ((List Int)×Int) (aI)):=
 (bif decide (se < (x1.aG.length:Int)) then ((idx x1.aF (iq))>>=fun aaU=>((idx aaU (se))>>=fun PY=>(bif decide (PY ≥ (0:Int)) then ((fits 8 (rT.length+1))>>=fun amP=>(some (Out.norm (rT++[ak (PY+(x0.aG.length:Int))],ak (se+(1:Int)))))) else ((fits 8 (rT.length+1))>>=fun amQ=>(some (Out.norm (rT++[PY],ak (se+(1:Int))))))))) else (some (Out.exit 10 (rT,se))))
def iC (x0:aI) (x1:aI) (iq:Int) (xf:(List Int)) (xg:(List Int)) (xh:(List (List Int))):Option (Out (Int×(List Int)×(List Int)×(List (List Int))) (aI)):=
 (bif decide (iq < (x1.aG.length:Int)) then ((idx x1.aG (iq))>>=fun aaV=>((fits 8 (xf.length+1))>>=fun n314=>((idx x1.To (iq))>>=fun PJ=>((fits 8 (xg.length+1))>>=fun amR=>(ai (af 8 (aj (fun s=>iA x0 s.1 s.2) (([]:(List Int)),(0:Int)))) (fun (pj,sN)=>(ai (af 10 (aj (fun s=>iB x0 x1 iq s.1 s.2) (pj,(0:Int)))) (fun (rT,se)=>((fits 24 (xh.length+1))>>=fun amS=>(some (Out.norm (ak (iq+(1:Int)),xf++[ak (aaV+x0.aE)],xg++[ak (PJ+x0.aE)],xh++[rT])))))))))))) else (some (Out.exit 6 (iq,xf,xg,xh))))
def iY (x0:aI) (x1:aI):Option (aI):=
 ao (S:=Unit) ((kE x0)>>=fun uQ=>(ai (af 0 (aj (fun s=>gZ x0 x1 s.1 s.2) ((0:Int),uQ.aJ))) (fun (ir,xe)=>(ai (af 2 (aj (fun s=>hY x1 s.1 s.2) ((0:Int),uQ.aF))) (fun (tk,Bz)=>(ai (af 6 (aj (fun s=>iC x0 x1 s.1 s.2.1 s.2.2.1 s.2.2.2) ((0:Int),uQ.aG,uQ.To,Bz))) (fun (iq,xf,xg,xh)=>(some (Out.ret ((aI.mk (ak (x0.aE+x1.aE)) xf xg xe xh)))))))))))
def gI (x0:aI) (x1:aI) (bm:Int) (dw:Int) (xi:(List Int)) (xj:(List Int)):Option (Out (Int×(List Int)×(List Int)) (aI)):=
 (bif decide (dw < x1.aE) then ((fits 8 (xi.length+1))>>=fun n181=>((fits 8 (xj.length+1))>>=fun n217=>(some (Out.norm (ak (dw+(1:Int)),xi++[bm],xj++[ak (x0.aE+dw)]))))) else (some (Out.exit 2 (dw,xi,xj))))
def gJ (x0:aI) (x1:aI) (bm:Int) (nq:(List Int)) (qt:(List Int)):Option (Out (Int×(List Int)×(List Int)) (aI)):=
 (bif decide (bm < x0.aE) then (ai (af 2 (aj (fun s=>gI x0 x1 bm s.1 s.2.1 s.2.2) ((0:Int),nq,qt))) (fun (dw,xi,xj)=>(some (Out.norm (ak (bm+(1:Int)),xi,xj))))) else (some (Out.exit 0 (bm,nq,qt))))
def gK (x0:aI) (x1:aI) (nz:aI) (nq:(List Int)) (qt:(List Int)) (ef:Int) (iq:(List Int)) (vl:Int):Option (Out ((List Int)×Int) (aI)):=
 (bif decide (vl < (nq.length:Int)) then ((idx qt (ef))>>=fun aaW=>((idx nq (vl))>>=fun aaX=>(bif (aaW) != (aaX) then ((fits 8 (iq.length+1))>>=fun amT=>(some (Out.norm (iq++[(-1:Int)],ak (vl+(1:Int)))))) else (((bif decide (ef < (nz.aG.length:Int)) then (some (decide (vl < (nz.aG.length:Int)))) else (some (false))))>>=fun aaY=>(bif aaY then ((idx nz.aF (ef))>>=fun aaZ=>((idx aaZ (vl))>>=fun aa0=>((fits 8 (iq.length+1))>>=fun amU=>(some (Out.norm (iq++[aa0],ak (vl+(1:Int)))))))) else ((idx nq (ef))>>=fun PZ=>((idx qt (vl))>>=fun BA=>((fits 8 (iq.length+1))>>=fun amV=>(some (Out.norm (iq++[ak (ak (ak ((nz.aG.length:Int)+ak (PZ * x1.aE))+BA) - x0.aE)],ak (vl+(1:Int))))))))))))) else (some (Out.exit 6 (iq,vl))))
def gL (x0:aI) (x1:aI) (nz:aI) (nq:(List Int)) (qt:(List Int)) (dp:(List (List Int))) (ef:Int):Option (Out ((List (List Int))×Int) (aI)):=
 (bif decide (ef < (nq.length:Int)) then (ai (af 6 (aj (fun s=>gK x0 x1 nz nq qt ef s.1 s.2) (([]:(List Int)),(0:Int)))) (fun (iq,vl)=>((fits 24 (dp.length+1))>>=fun amW=>(some (Out.norm (dp++[iq],ak (ef+(1:Int)))))))) else (some (Out.exit 4 (dp,ef))))
def iL (x0:aI) (x1:aI):Option (aI):=
 ao (S:=Unit) ((iY x0 x1)>>=fun nz=>(ai (af 0 (aj (fun s=>gJ x0 x1 s.1 s.2.1 s.2.2) ((0:Int),nz.aG,nz.To))) (fun (bm,nq,qt)=>(ai (af 4 (aj (fun s=>gL x0 x1 nz nq qt s.1 s.2) (([]:(List (List Int))),(0:Int)))) (fun (dp,ef)=>(some (Out.ret ((aI.mk nz.aE nq qt nz.aJ dp)))))))))
def pO (x0:aI) (b9:Int) (o3:(List Int)) (n8:Int):Option (Out ((List Int)×Int) (aI)):=
 (bif decide (n8 < (x0.aG.length:Int)) then ((idx x0.aF (n8))>>=fun aa1=>((idx aa1 (b9))>>=fun aa2=>((fits 8 (o3.length+1))>>=fun n187=>(some (Out.norm (o3++[aa2],ak (n8+(1:Int)))))))) else (some (Out.exit 2 (o3,n8))))
def pP (x0:aI) (b9:Int) (xk:(List (List Int))):Option (Out (Int×(List (List Int))) (aI)):=
 (bif decide (b9 < (x0.aG.length:Int)) then (ai (af 2 (aj (fun s=>pO x0 b9 s.1 s.2) (([]:(List Int)),(0:Int)))) (fun (o3,n8)=>((fits 24 (xk.length+1))>>=fun n222=>(some (Out.norm (ak (b9+(1:Int)),xk++[o3])))))) else (some (Out.exit 0 (b9,xk))))
def pZ (x0:aI):Option (aI):=
 ao (S:=Unit) ((dR x0.To)>>=fun nz=>((dR x0.aG)>>=fun VD=>((dR x0.aJ)>>=fun HE=>(ai (af 0 (aj (fun s=>pP x0 s.1 s.2) ((0:Int),([]:(List (List Int)))))) (fun (b9,xk)=>(some (Out.ret ((aI.mk x0.aE nz VD HE xk)))))))))
def mM (BB:Int×aL) (n8:(List Int)) (lv:Int):Option (Out ((List Int)×Int) (aI×aL)):=
 (bif decide (lv < ak ((1:Int)+BB.1)) then ((fits 8 (n8.length+1))>>=fun aa3=>(some (Out.norm (n8++[(1:Int)],ak (lv+(1:Int)))))) else (some (Out.exit 3 (n8,lv))))
def mN (BB:Int×aL) (b9:(List (List Int))) (aX:Int):Option (Out ((List (List Int))×Int) (aI×aL)):=
 (bif decide (aX < ak ((1:Int)+BB.1)) then (ai (af 3 (aj (fun s=>mM BB s.1 s.2) (([]:(List Int)),(0:Int)))) (fun (n8,lv)=>((fits 24 (b9.length+1))>>=fun amX=>(some (Out.norm (b9++[n8],ak (aX+(1:Int)))))))) else (some (Out.exit 1 (b9,aX))))
def mO (x0:aL) (z7:Int×aL) (dp:(List Int)) (ef:(List Int)) (nj:Int) (xZ:Int) (x6:Int):Option (Out ((List Int)×(List Int)×Int×Int×Int) (aI×aL)):=
 (bif decide (nj > (0:Int)) then ((bZ (aL.mk x0.Code xZ x6) (ak (ak ((2:Int)+z7.1) - (1:Int))))>>=fun DW=>((fits 8 (dp.length+1))>>=fun ala=>((bZ (aL.mk x0.Code DW.2.At DW.2.av) (ak (ak (ak ((2:Int)+z7.1) - (1:Int)) - DW.1)))>>=fun KW=>((fits 8 (ef.length+1))>>=fun ald=>(some (Out.norm (dp++[DW.1],ef++[ak (ak (DW.1+(1:Int))+KW.1)],ak (nj - (1:Int)),KW.2.At,KW.2.av))))))) else (some (Out.exit 5 (dp,ef,nj,xZ,x6))))
def iD (x0:aL):Option (aI×aL):=
 ao (S:=Unit) ((bZ x0 ((12:Int)))>>=fun dg=>(bif (dg.1) == ((0:Int)) then ((bZ (aL.mk x0.Code dg.2.At dg.2.av) ((5:Int)))>>=fun HF=>((jE (aL.mk x0.Code HF.2.At HF.2.av) (HF.1))>>=fun xY=>((fE xY.1)>>=fun VA=>(some (Out.ret ((VA,(aL.mk x0.Code xY.2.At xY.2.av)))))))) else (bif (dg.1) == ((1:Int)) then ((fE [[(1:Int),(1:Int)],[(0:Int),(1:Int)]])>>=fun BC=>(some (Out.ret ((BC,(aL.mk x0.Code dg.2.At dg.2.av)))))) else (bif (dg.1) == ((2:Int)) then ((fE [[(1:Int),(1:Int),(1:Int)],[(0:Int),(1:Int),(0:Int)],[(0:Int),(0:Int),(1:Int)]])>>=fun HG=>(some (Out.ret ((HG,(aL.mk x0.Code dg.2.At dg.2.av)))))) else (bif (dg.1) == ((3:Int)) then ((fT ((2:Int)) [(0:Int),(0:Int)] [(1:Int),(1:Int)])>>=fun aa4=>(some (Out.ret ((aa4,(aL.mk x0.Code dg.2.At dg.2.av)))))) else (bif (dg.1) == ((4:Int)) then ((jC (aL.mk x0.Code dg.2.At dg.2.av))>>=fun P1=>((jD P1.1)>>=fun aa5=>(some (Out.ret ((aa5,(aL.mk x0.Code P1.2.At P1.2.av))))))) else (bif (dg.1) == ((5:Int)) then ((bZ (aL.mk x0.Code dg.2.At dg.2.av) ((3:Int)))>>=fun BB=>(ai (af 1 (aj (fun s=>mN BB s.1 s.2) (([]:(List (List Int))),(0:Int)))) (fun (b9,aX)=>((fE b9)>>=fun aa6=>(some (Out.ret ((aa6,(aL.mk x0.Code BB.2.At BB.2.av))))))))) else (bif (dg.1) == ((6:Int)) then ((fT ((3:Int)) [(0:Int),(1:Int),(0:Int)] [(1:Int),(2:Int),(2:Int)])>>=fun aa7=>(some (Out.ret ((aa7,(aL.mk x0.Code dg.2.At dg.2.av)))))) else (bif (dg.1) == ((7:Int)) then ((mZ)>>=fun aa8=>(some (Out.ret ((aa8,(aL.mk x0.Code dg.2.At dg.2.av)))))) else (bif (dg.1) == ((8:Int)) then ((jC (aL.mk x0.Code dg.2.At dg.2.av))>>=fun P3=>((jD P3.1)>>=fun aa9=>((fE [[(1:Int)]])>>=fun aba=>((iL aa9 aba)>>=fun abb=>((pZ abb)>>=fun abc=>(some (Out.ret ((abc,(aL.mk x0.Code P3.2.At P3.2.av)))))))))) else (bif (dg.1) == ((9:Int)) then ((jC (aL.mk x0.Code dg.2.At dg.2.av))>>=fun P4=>((jD P4.1)>>=fun abd=>((fE [[(1:Int)]])>>=fun abe=>((iL abd abe)>>=fun abf=>(some (Out.ret ((abf,(aL.mk x0.Code P4.2.At P4.2.av))))))))) else (bif (dg.1) == ((10:Int)) then ((bZ (aL.mk x0.Code dg.2.At dg.2.av) ((2:Int)))>>=fun KX=>((jE (aL.mk x0.Code KX.2.At KX.2.av) (ak ((2:Int)+KX.1)))>>=fun KY=>((fE KY.1)>>=fun XR=>(some (Out.ret ((XR,(aL.mk x0.Code KY.2.At KY.2.av)))))))) else ((bZ (aL.mk x0.Code dg.2.At dg.2.av) ((2:Int)))>>=fun z7=>((bZ (aL.mk x0.Code z7.2.At z7.2.av) ((4:Int)))>>=fun KZ=>(ai (af 5 (aj (fun s=>mO x0 z7 s.1 s.2.1 s.2.2.1 s.2.2.2.1 s.2.2.2.2) (([]:(List Int)),([]:(List Int)),KZ.1,KZ.2.At,KZ.2.av))) (fun (dp,ef,nj,xZ,x6)=>((fT (ak ((2:Int)+z7.1)) dp ef)>>=fun XS=>(some (Out.ret ((XS,(aL.mk x0.Code xZ x6))))))))))))))))))))))
def fN (x0:aI) (x1:aI) (ir:Int) (tk:Int) (xl:(List Int)):Option (Out (Int×(List Int)) (aI)):=
 (bif decide (tk < x1.aE) then ((idx x0.aJ (ir))>>=fun abg=>((idx x1.aJ (tk))>>=fun abh=>((fits 8 (xl.length+1))>>=fun n186=>(some (Out.norm (ak (tk+(1:Int)),xl++[ak (ak (abg * (x1.aG.length:Int))+abh)])))))) else (some (Out.exit 2 (tk,xl))))
def fO (x0:aI) (x1:aI) (ir:Int) (z8:(List Int)):Option (Out (Int×(List Int)) (aI)):=
 (bif decide (ir < x0.aE) then (ai (af 2 (aj (fun s=>fN x0 x1 ir s.1 s.2) ((0:Int),z8))) (fun (tk,xl)=>(some (Out.norm (ak (ir+(1:Int)),xl))))) else (some (Out.exit 0 (ir,z8))))
def fP (x0:aI) (x1:aI) (ef:Int) (iq:Int) (sN:Int) (rT:(List Int)) (se:Int):Option (Out ((List Int)×Int) (aI)):=
 (bif decide (se < (x1.aG.length:Int)) then ((((idx x0.aF (ef))>>=fun abi=>((idx abi (sN))>>=fun abj=>(bif decide (abj ≥ (0:Int)) then ((idx x1.aF (iq))>>=fun abk=>((idx abk (se))>>=fun abl=>(some (decide (abl ≥ (0:Int)))))) else (some (false))))))>>=fun abm=>(bif abm then ((idx x0.aF (ef))>>=fun abn=>((idx abn (sN))>>=fun abo=>((idx x1.aF (iq))>>=fun abp=>((idx abp (se))>>=fun abq=>((fits 8 (rT.length+1))>>=fun amY=>(some (Out.norm (rT++[ak (ak (abo * (x1.aG.length:Int))+abq)],ak (se+(1:Int)))))))))) else ((fits 8 (rT.length+1))>>=fun amZ=>(some (Out.norm (rT++[(-1:Int)],ak (se+(1:Int)))))))) else (some (Out.exit 10 (rT,se))))
def fQ (x0:aI) (x1:aI) (ef:Int) (iq:Int) (pj:(List Int)) (sN:Int):Option (Out ((List Int)×Int) (aI)):=
 (bif decide (sN < (x0.aG.length:Int)) then (ai (af 10 (aj (fun s=>fP x0 x1 ef iq sN s.1 s.2) (pj,(0:Int)))) (fun (rT,se)=>(some (Out.norm (rT,ak (sN+(1:Int))))))) else (some (Out.exit 8 (pj,sN))))
def fR (x0:aI) (x1:aI) (ef:Int) (iq:Int) (xn:(List Int)) (xo:(List Int)) (xp:(List (List Int))):Option (Out (Int×(List Int)×(List Int)×(List (List Int))) (aI)):=
 (bif decide (iq < (x1.aG.length:Int)) then ((idx x0.aG (ef))>>=fun abr=>((idx x1.aG (iq))>>=fun abt=>((fits 8 (xn.length+1))>>=fun n318=>((idx x0.To (ef))>>=fun abu=>((idx x1.To (iq))>>=fun PK=>((fits 8 (xo.length+1))>>=fun am0=>(ai (af 8 (aj (fun s=>fQ x0 x1 ef iq s.1 s.2) (([]:(List Int)),(0:Int)))) (fun (pj,sN)=>((fits 24 (xp.length+1))>>=fun am1=>(some (Out.norm (ak (iq+(1:Int)),xn++[ak (ak (abr * x1.aE)+abt)],xo++[ak (ak (abu * x1.aE)+PK)],xp++[pj])))))))))))) else (some (Out.exit 6 (iq,xn,xo,xp))))
def fS (x0:aI) (x1:aI) (ef:Int) (Aa:(List Int)) (Ab:(List Int)) (Ac:(List (List Int))):Option (Out (Int×(List Int)×(List Int)×(List (List Int))) (aI)):=
 (bif decide (ef < (x0.aG.length:Int)) then (ai (af 6 (aj (fun s=>fR x0 x1 ef s.1 s.2.1 s.2.2.1 s.2.2.2) ((0:Int),Aa,Ab,Ac))) (fun (iq,xn,xo,xp)=>(some (Out.norm (ak (ef+(1:Int)),xn,xo,xp))))) else (some (Out.exit 4 (ef,Aa,Ab,Ac))))
def fX (x0:aI) (x1:aI):Option (aI):=
 ao (S:=Unit) (ai (af 0 (aj (fun s=>fO x0 x1 s.1 s.2) ((0:Int),([]:(List Int))))) (fun (ir,z8)=>(ai (af 4 (aj (fun s=>fS x0 x1 s.1 s.2.1 s.2.2.1 s.2.2.2) ((0:Int),([]:(List Int)),([]:(List Int)),([]:(List (List Int)))))) (fun (ef,Aa,Ab,Ac)=>(some (Out.ret ((aI.mk (ak (x0.aE * x1.aE)) Aa Ab z8 Ac))))))))
def oA (x0:aL) (x1:Int) (x2:Int) (bm:Int) (ot:Int) (ou:Int):Option (Out (Int×Int×Int) (aI×aL)):=
 (bif decide (bm < (12:Int)) then ((iD (aL.mk x0.Code ot ou))>>=fun tS=>((bZ (aL.mk x0.Code tS.2.At tS.2.av) ((5:Int)))>>=fun Nn=>(bif (Nn.1) == ((0:Int)) then ((iD (aL.mk x0.Code Nn.2.At Nn.2.av))>>=fun VE=>((iY tS.1 VE.1)>>=fun HH=>((bZ (aL.mk x0.Code VE.2.At VE.2.av) ((8:Int)))>>=fun CY=>(bif (CY.1) == ((0:Int)) then ((iD (aL.mk x0.Code CY.2.At CY.2.av))>>=fun HI=>((fX HH HI.1)>>=fun K0=>(((bif decide (K0.aE≤x1) then (bif decide ((K0.aG.length:Int)≤x2) then ((fF K0)>>=fun abv=>(some (abv))) else (some (false))) else (some (false))))>>=fun abw=>(bif abw then (some (Out.ret ((K0,(aL.mk x0.Code HI.2.At HI.2.av))))) else (some (Out.norm (ak (bm+(1:Int)),HI.2.At,HI.2.av))))))) else (((bif decide (HH.aE≤x1) then (bif decide ((HH.aG.length:Int)≤x2) then ((fF HH)>>=fun abx=>(some (abx))) else (some (false))) else (some (false))))>>=fun aby=>(bif aby then (some (Out.ret ((HH,(aL.mk x0.Code CY.2.At CY.2.av))))) else (some (Out.norm (ak (bm+(1:Int)),CY.2.At,CY.2.av))))))))) else ((bZ (aL.mk x0.Code Nn.2.At Nn.2.av) ((8:Int)))>>=fun CZ=>(bif (CZ.1) == ((0:Int)) then ((iD (aL.mk x0.Code CZ.2.At CZ.2.av))>>=fun HJ=>((fX tS.1 HJ.1)>>=fun K1=>(((bif decide (K1.aE≤x1) then (bif decide ((K1.aG.length:Int)≤x2) then ((fF K1)>>=fun abz=>(some (abz))) else (some (false))) else (some (false))))>>=fun abA=>(bif abA then (some (Out.ret ((K1,(aL.mk x0.Code HJ.2.At HJ.2.av))))) else (some (Out.norm (ak (bm+(1:Int)),HJ.2.At,HJ.2.av))))))) else (((bif decide (tS.1.aE≤x1) then (bif decide ((tS.1.aG.length:Int)≤x2) then ((fF tS.1)>>=fun abB=>(some (abB))) else (some (false))) else (some (false))))>>=fun abC=>(bif abC then (some (Out.ret ((tS.1,(aL.mk x0.Code CZ.2.At CZ.2.av))))) else (some (Out.norm (ak (bm+(1:Int)),CZ.2.At,CZ.2.av)))))))))) else (some (Out.exit 0 (bm,ot,ou))))
def lV (x0:aL) (x1:Int) (x2:Int):Option (aI×aL):=
 ao (S:=Unit) (ai (af 0 (aj (fun s=>oA x0 x1 x2 s.1 s.2.1 s.2.2) ((0:Int),x0.At,x0.av))) (fun (bm,ot,ou)=>((fE [[(1:Int)]])>>=fun abD=>(some (Out.ret ((abD,(aL.mk x0.Code ot ou))))))))
def oB (x0:aI) (x1:Int):Option (Bool):=
 ao (S:=Unit) ((idx x0.aG (x1))>>=fun e8=>((idx x0.aJ (e8))>>=fun No=>(some (Out.ret (((No) == (x1)))))))
def mP (x0:aI) (ke:(List Int)) (b9:Int):Option (Out ((List Int)×Int) ((List Int))):=
 (bif decide (b9 < (x0.aG.length:Int)) then ((oB x0 (b9))>>=fun nz=>(bif !(nz) then ((fits 8 (ke.length+1))>>=fun n45=>(some (Out.norm (ke++[b9],ak (b9+(1:Int)))))) else (some (Out.norm (ke,ak (b9+(1:Int))))))) else (some (Out.exit 0 (ke,b9))))
def mI (x0:aI):Option ((List Int)):=
 ao (S:=Unit) (ai (af 0 (aj (fun s=>mP x0 s.1 s.2) (([]:(List Int)),(0:Int)))) (fun (ke,b9)=>(some (Out.ret (ke)))))
def iS (x0:aI) (x1:aI):Option (Bool):=
 ao (S:=Unit) ((mI x0)>>=fun sT=>(bif decide ((sT.length:Int)≤(8:Int)) then (some (Out.ret ((decide ((x1.aG.length:Int)≤(16:Int)))))) else (some (Out.ret (false)))))
def pJ (x0:aI) (x1:Int) (x2:Int) (bm:(List Int)) (ir:Int):Option (Out ((List Int)×Int) ((List Int))):=
 (bif decide (ir < (x0.aG.length:Int)) then ((((idx x0.aG (ir))>>=fun FE=>(bif (FE) == (x1) then ((idx x0.To (ir))>>=fun VF=>(some ((VF) == (x2)))) else (some (false)))))>>=fun HK=>(bif HK then ((fits 8 (bm.length+1))>>=fun n50=>(some (Out.norm (bm++[ir],ak (ir+(1:Int)))))) else (some (Out.norm (bm,ak (ir+(1:Int))))))) else (some (Out.exit 0 (bm,ir))))
def lF (x0:aI) (x1:Int) (x2:Int):Option ((List Int)):=
 ao (S:=Unit) (ai (af 0 (aj (fun s=>pJ x0 x1 x2 s.1 s.2) (([]:(List Int)),(0:Int)))) (fun (bm,ir)=>(some (Out.ret (bm)))))
def qB (x0:aI) (x1:aI) (x2:(List Int)) (bm:Int):Option (Out (Int) (Bool)):=
 (bif decide (bm < (x0.aG.length:Int)) then ((idx x0.aG (bm))>>=fun Np=>((idx x0.To (bm))>>=fun FG=>(bif decide (Np < (x2.length:Int)) then (bif decide (FG < (x2.length:Int)) then ((idx x2 (Np))>>=fun Hx=>((idx x2 (FG))>>=fun e33=>((lF x1 (Hx) (e33))>>=fun DX=>(bif ((DX.length:Int)) == ((0:Int)) then (some (Out.ret (false))) else (some (Out.norm (ak (bm+(1:Int))))))))) else (some (Out.norm (ak (bm+(1:Int)))))) else (some (Out.norm (ak (bm+(1:Int)))))))) else (some (Out.exit 0 (bm))))
def nA (x0:aI) (x1:aI) (x2:(List Int)):Option (Bool):=
 ao (S:=Unit) (ai (af 0 (aj (qB x0 x1 x2) ((0:Int)))) (fun bm=>(some (Out.ret (true)))))
def nM (x0:aI) (x1:aI) (dw:Int) (tn:Bool) (dp:Int) (mh:(List Int)):Option (Out (Bool×Int×(List Int)) (Bool×(List Int))):=
 (bif decide (dp < (mh.length:Int)) then ((idx x0.aF (dw))>>=fun VG=>((idx VG (dp))>>=fun AH=>(((bif decide (AH < (0:Int)) then (some (true)) else ((idx mh (dw))>>=fun VH=>(bif decide (VH < (0:Int)) then (some (true)) else ((idx mh (dp))>>=fun Nq=>(some (decide (Nq < (0:Int)))))))))>>=fun g66=>(bif g66 then (some (Out.norm (tn,ak (dp+(1:Int)),mh))) else ((idx mh (dw))>>=fun Nr=>((idx x1.aF (Nr))>>=fun DY=>((idx mh (dp))>>=fun CA=>((idx DY (CA))>>=fun Y2=>((((idx mh (AH))>>=fun VI=>(bif decide (VI ≥ (0:Int)) then ((idx mh (AH))>>=fun RH=>(some ((RH) != (Y2)))) else (some (false)))))>>=fun g94=>(bif g94 then (some (Out.ret ((false,mh)))) else (((bif tn then (some (true)) else ((idx mh (AH))>>=fun CX=>(some (decide (CX < (0:Int)))))))>>=fun abE=>((idx mh (AH))>>=fun am2=>(some (Out.norm (abE,ak (dp+(1:Int)),mh.set (AH).toNat (Y2)))))))))))))))) else (some (Out.exit 4 (tn,dp,mh))))
def nN (x0:aI) (x1:aI) (lv:Bool) (dw:Int) (za:(List Int)):Option (Out (Bool×Int×(List Int)) (Bool×(List Int))):=
 (bif decide (dw < (za.length:Int)) then (ai (af 4 (aj (fun s=>nM x0 x1 dw s.1 s.2.1 s.2.2) (lv,(0:Int),za))) (fun (tn,dp,mh)=>(some (Out.norm (tn,ak (dw+(1:Int)),mh))))) else (some (Out.exit 2 (lv,dw,za))))
def nO (x0:aI) (x1:aI) (bm:Bool) (B9:(List Int)):Option (Out (Bool×(List Int)) (Bool×(List Int))):=
 (bif bm then (ai (af 2 (aj (fun s=>nN x0 x1 s.1 s.2.1 s.2.2) (false,(0:Int),B9))) (fun (lv,dw,za)=>(some (Out.norm (lv,za))))) else (some (Out.exit 0 (bm,B9))))
def nB (x0:aI) (x1:aI) (x2:(List Int)):Option (Bool×(List Int)):=
 ao (S:=Unit) (ai (af 0 (aj (fun s=>nO x0 x1 s.1 s.2) (true,x2))) (fun (bm,B9)=>(some (Out.ret ((true,B9))))))
def pY (x3:(List Int)) (b9:Int):Option (Out (Int) ((List (List Int)))):=
 (((bif decide (b9 < (x3.length:Int)) then ((idx x3 (b9))>>=fun Nu=>(some (decide (Nu ≥ (0:Int))))) else (some (false))))>>=fun g32=>(bif g32 then (some (Out.norm (ak (b9+(1:Int))))) else (some (Out.exit 0 (b9)))))
def mQ (rc:aI→aI→(List Int)→(List Int)→Int→(List (List Int))→Option ((List (List Int)))) (x0:aI) (x1:aI) (x2:(List Int)) (x3:(List Int)) (b9:Int) (RI:(List Int)) (o3:(List (List Int))) (ly:Int):Option (Out ((List (List Int))×Int) ((List (List Int)))):=
 (((bif decide (ly < (RI.length:Int)) then (some (decide ((o3.length:Int)≤(200:Int)))) else (some (false))))>>=fun abF=>(bif abF then ((dR x3)>>=fun VJ=>((idx RI (ly))>>=fun HM=>((idx VJ (b9))>>=fun K2=>((nB x0 x1 (VJ.set (b9).toNat (HM)))>>=fun K3=>(bif K3.1 then ((rc x0 x1 x2 K3.2 (ak (b9+(1:Int))) o3)>>=fun abG=>(some (Out.norm (abG,ak (ly+(1:Int)))))) else (some (Out.norm (o3,ak (ly+(1:Int)))))))))) else (some (Out.exit 2 (o3,ly)))))
def kT (rc:aI→aI→(List Int)→(List Int)→Int→(List (List Int))→Option ((List (List Int)))) (x0:aI) (x1:aI) (x2:(List Int)) (x3:(List Int)) (x4:Int) (x5:(List (List Int))):Option ((List (List Int))):=
 ao (S:=Unit) (ai (af 0 (aj (pY x3) (x4))) (fun b9=>(bif (b9) == ((x3.length:Int)) then ((dR x3)>>=fun VK=>((fits 24 (x5.length+1))>>=fun n70=>(some (Out.ret ((x5++[VK])))))) else ((idx x0.aG (b9))>>=fun e75=>((idx x2 (e75))>>=fun e77=>((idx x0.To (b9))>>=fun Nr=>((idx x2 (Nr))>>=fun DY=>((lF x1 (e77) (DY))>>=fun RI=>(ai (af 2 (aj (fun s=>mQ rc x0 x1 x2 x3 b9 RI s.1 s.2) (x5,(0:Int)))) (fun (o3,ly)=>(some (Out.ret (o3)))))))))))))
def iE:Nat→aI→aI→(List Int)→(List Int)→Int→(List (List Int))→Option ((List (List Int)))
 | 0=>fun _ _ _ _ _ _=>none
 | n+1=>kT (iE n)
def jI (x0:aI) (x1:aI) (x2:(List Int)) (x3:(List Int)):Option (aN):=
 ao (S:=Unit) ((kE x0)>>=fun nz=>((kE x1)>>=fun y60=>((dR x2)>>=fun abH=>((dR x3)>>=fun abI=>(some (Out.ret ((aN.mk nz y60 abH abI))))))))
def mR (x0:aI) (jb:(List Int)) (pq:Int):Option (Out ((List Int)×Int) ((List aN))):=
 (bif decide (pq < (x0.aG.length:Int)) then ((fits 8 (jb.length+1))>>=fun n78=>(some (Out.norm (jb++[(-1:Int)],ak (pq+(1:Int)))))) else (some (Out.exit 0 (jb,pq))))
def mS (x0:aI) (x1:aI) (x2:(List Int)) (Ca:Int) (BD:(List Int)):Option (Out (Int×(List Int)) ((List aN))):=
 (bif decide (Ca < (x2.length:Int)) then ((idx x0.aJ (Ca))>>=fun VL=>((idx x2 (Ca))>>=fun abJ=>((idx x1.aJ (abJ))>>=fun P5=>((idx BD (VL))>>=fun K4=>(some (Out.norm (ak (Ca+(1:Int)),BD.set (VL).toNat (P5)))))))) else (some (Out.exit 2 (Ca,BD))))
def mT (x0:aI) (x1:aI) (x2:(List Int)) (K5:(List (List Int))) (EE:(List aN)) (DZ:Int):Option (Out ((List aN)×Int) ((List aN))):=
 (((bif decide (DZ < (K5.length:Int)) then (some (decide ((EE.length:Int)≤(200:Int)))) else (some (false))))>>=fun abK=>(bif abK then ((idx K5 (DZ))>>=fun abL=>((jI x0 x1 x2 abL)>>=fun abM=>((fits 256 (EE.length+1))>>=fun n290=>(some (Out.norm (EE++[abM],ak (DZ+(1:Int)))))))) else (some (Out.exit 4 (EE,DZ)))))
def mU (rc:aI→aI→(List Int)→(List aN)→Option ((List aN))) (x0:aI) (x1:aI) (x2:(List Int)) (HP:(List aN)) (D0:Int):Option (Out ((List aN)×Int) ((List aN))):=
 (((bif decide (D0 < x1.aE) then (some (decide ((HP.length:Int)≤(200:Int)))) else (some (false))))>>=fun abN=>(bif abN then ((dR x2)>>=fun C0=>((fits 8 (C0.length+1))>>=fun n342=>((rc x0 x1 (C0++[D0]) HP)>>=fun abO=>(some (Out.norm (abO,ak (D0+(1:Int)))))))) else (some (Out.exit 6 (HP,D0)))))
def kU (rc:aI→aI→(List Int)→(List aN)→Option ((List aN))) (x0:aI) (x1:aI) (x2:(List Int)) (x3:(List aN)):Option ((List aN)):=
 ao (S:=Unit) ((nA x0 x1 x2)>>=fun uQ=>(bif !(uQ) then (some (Out.ret (x3))) else (bif ((x2.length:Int)) == (x0.aE) then (ai (af 0 (aj (fun s=>mR x0 s.1 s.2) (([]:(List Int)),(0:Int)))) (fun (jb,pq)=>(ai (af 2 (aj (fun s=>mS x0 x1 x2 s.1 s.2) ((0:Int),jb))) (fun (Ca,BD)=>((iE 64 x0 x1 x2 BD ((0:Int)) (([]:(List (List Int)))))>>=fun K5=>(ai (af 4 (aj (fun s=>mT x0 x1 x2 K5 s.1 s.2) (x3,(0:Int)))) (fun (EE,DZ)=>(some (Out.ret (EE)))))))))) else (ai (af 6 (aj (fun s=>mU rc x0 x1 x2 s.1 s.2) (x3,(0:Int)))) (fun (HP,D0)=>(some (Out.ret (HP))))))))
def iF:Nat→aI→aI→(List Int)→(List aN)→Option ((List aN))
 | 0=>fun _ _ _ _=>none
 | n+1=>kU (iF n)
def kF (x0:aI) (x1:aI):Option ((List aN)):=
 ao (S:=Unit) ((iF 64 x0 x1 (([]:(List Int))) (([]:(List aN))))>>=fun sg=>(some (Out.ret (sg))))
def lJ (x0:aI) (x2:Int) (bm:(List Int)) (jb:Int):Option (Out ((List Int)×Int) (aN)):=
 (bif decide (jb < x0.aE) then ((fits 8 (bm.length+1))>>=fun n81=>(some (Out.norm (bm++[x2],ak (jb+(1:Int)))))) else (some (Out.exit 0 (bm,jb))))
def lK (x0:aI) (x1:aI) (x2:Int) (dw:(List Int)) (jk:Int):Option (Out ((List Int)×Int) (aN)):=
 (bif decide (jk < (x0.aG.length:Int)) then ((idx x1.aJ (x2))>>=fun abP=>((fits 8 (dw.length+1))>>=fun n131=>(some (Out.norm (dw++[abP],ak (jk+(1:Int))))))) else (some (Out.exit 2 (dw,jk))))
def jJ (x0:aI) (x1:aI) (x2:Int):Option (aN):=
 ao (S:=Unit) (ai (af 0 (aj (fun s=>lJ x0 x2 s.1 s.2) (([]:(List Int)),(0:Int)))) (fun (bm,jb)=>(ai (af 2 (aj (fun s=>lK x0 x1 x2 s.1 s.2) (([]:(List Int)),(0:Int)))) (fun (dw,jk)=>((jI x0 x1 bm dw)>>=fun abQ=>(some (Out.ret (abQ))))))))
def oC (x0:aI) (ke:(List Int)) (aX:Int):Option (Out ((List Int)×Int) (aN)):=
 (bif decide (aX < x0.aE) then ((fits 8 (ke.length+1))>>=fun n65=>(some (Out.norm (ke++[aX],ak (aX+(1:Int)))))) else (some (Out.exit 0 (ke,aX))))
def oD (x0:aI) (HQ:(List Int)) (n8:Int):Option (Out ((List Int)×Int) (aN)):=
 (bif decide (n8 < (x0.aG.length:Int)) then ((fits 8 (HQ.length+1))>>=fun n107=>(some (Out.norm (HQ++[n8],ak (n8+(1:Int)))))) else (some (Out.exit 2 (HQ,n8))))
def jK (x0:aI):Option (aN):=
 ao (S:=Unit) (ai (af 0 (aj (fun s=>oC x0 s.1 s.2) (([]:(List Int)),(0:Int)))) (fun (ke,aX)=>(ai (af 2 (aj (fun s=>oD x0 s.1 s.2) (([]:(List Int)),(0:Int)))) (fun (HQ,n8)=>((jI x0 x0 ke HQ)>>=fun abR=>(some (Out.ret (abR))))))))
def oE (x0:aL) (x1:aI) (x2:Int) (x3:Int):Option (aN×aL):=
 ao (S:=Unit) ((lV x0 (x2) (x3))>>=fun de=>((iS x1 de.1)>>=fun y77=>(bif y77 then ((kF x1 de.1)>>=fun Nv=>(bif decide ((Nv.length:Int) > (0:Int)) then ((bZ (aL.mk x0.Code de.2.At de.2.av) ((Nv.length:Int)))>>=fun u6=>((idx Nv (u6.1))>>=fun vX=>(some (Out.ret ((vX,(aL.mk x0.Code u6.2.At u6.2.av))))))) else (bif decide (de.1.aE > (0:Int)) then ((bZ (aL.mk x0.Code de.2.At de.2.av) ((2:Int)))>>=fun HR=>(bif (HR.1) == ((0:Int)) then ((bZ (aL.mk x0.Code HR.2.At HR.2.av) (de.1.aE))>>=fun HG=>((jJ x1 de.1 (HG.1))>>=fun abS=>(some (Out.ret ((abS,(aL.mk x0.Code HG.2.At HG.2.av))))))) else ((jK x1)>>=fun abT=>(some (Out.ret ((abT,(aL.mk x0.Code HR.2.At HR.2.av)))))))) else ((jK x1)>>=fun abU=>(some (Out.ret ((abU,(aL.mk x0.Code de.2.At de.2.av))))))))) else (bif decide (de.1.aE > (0:Int)) then ((bZ (aL.mk x0.Code de.2.At de.2.av) ((2:Int)))>>=fun HS=>(bif (HS.1) == ((0:Int)) then ((bZ (aL.mk x0.Code HS.2.At HS.2.av) (de.1.aE))>>=fun P6=>((jJ x1 de.1 (P6.1))>>=fun P7=>(some (Out.ret ((P7,(aL.mk x0.Code P6.2.At P6.2.av))))))) else ((jK x1)>>=fun abV=>(some (Out.ret ((abV,(aL.mk x0.Code HS.2.At HS.2.av)))))))) else ((jK x1)>>=fun abW=>(some (Out.ret ((abW,(aL.mk x0.Code de.2.At de.2.av))))))))))
def lW (x0:aL) (x1:(List Int)):Option (Int×aL):=
 ao (S:=Unit) ((bZ x0 ((x1.length:Int)))>>=fun y6=>((idx x1 (y6.1))>>=fun Nh=>(some (Out.ret ((Nh,(aL.mk x0.Code y6.2.At y6.2.av)))))))
def oF (x0:aL) (x1:aI):Option (aI×aL):=
 ao (S:=Unit) ((kE x1)>>=fun de=>((bZ x0 ((de.aG.length:Int)))>>=fun zb=>((bZ (aL.mk x0.Code zb.2.At zb.2.av) ((8:Int)))>>=fun nh=>(bif (nh.1) == ((0:Int)) then ((lW (aL.mk x0.Code nh.2.At nh.2.av) ([ak (de.aE+(1:Int)),(-1:Int),(9:Int)]))>>=fun VM=>(some (Out.ret (((aI.mk VM.1 de.aG de.To de.aJ de.aF),(aL.mk x0.Code VM.2.At VM.2.av)))))) else (bif (nh.1) == ((1:Int)) then ((fits 8 (de.aG.length+1))>>=fun n120=>(some (Out.ret (((aI.mk de.aE (de.aG++[(0:Int)]) de.To de.aJ de.aF),(aL.mk x0.Code nh.2.At nh.2.av)))))) else (bif (nh.1) == ((2:Int)) then (bif decide ((de.aJ.length:Int) > (0:Int)) then ((bZ (aL.mk x0.Code nh.2.At nh.2.av) (ak ((de.aG.length:Int)+(1:Int))))>>=fun HT=>((idx de.aJ ((0:Int)))>>=fun am3=>(some (Out.ret (((aI.mk de.aE de.aG de.To (de.aJ.set ((0:Int)).toNat (HT.1)) de.aF),(aL.mk x0.Code HT.2.At HT.2.av))))))) else (some (Out.ret ((de,(aL.mk x0.Code nh.2.At nh.2.av)))))) else (bif (nh.1) == ((3:Int)) then (bif decide ((de.aG.length:Int) > (0:Int)) then ((idx de.aF (zb.1))>>=fun VN=>((bZ (aL.mk x0.Code nh.2.At nh.2.av) ((de.aG.length:Int)))>>=fun K6=>((bZ (aL.mk x0.Code K6.2.At K6.2.av) (ak ((de.aG.length:Int)+(1:Int))))>>=fun P8=>((idx VN (K6.1))>>=fun am4=>(some (Out.ret (((aI.mk de.aE de.aG de.To de.aJ (de.aF.set (zb.1).toNat (VN.set (K6.1).toNat (ak (P8.1 - (1:Int)))))),(aL.mk x0.Code P8.2.At P8.2.av))))))))) else (some (Out.ret ((de,(aL.mk x0.Code nh.2.At nh.2.av)))))) else (bif (nh.1) == ((4:Int)) then (bif decide ((de.aG.length:Int) > (0:Int)) then ((idx de.aF (zb.1))>>=fun VO=>((bZ (aL.mk x0.Code nh.2.At nh.2.av) ((de.aG.length:Int)))>>=fun K7=>((bZ (aL.mk x0.Code K7.2.At K7.2.av) (ak ((de.aG.length:Int)+(1:Int))))>>=fun P9=>((idx VO (K7.1))>>=fun am5=>(some (Out.ret (((aI.mk de.aE de.aG de.To de.aJ (de.aF.set (zb.1).toNat (VO.set (K7.1).toNat (ak (P9.1 - (1:Int)))))),(aL.mk x0.Code P9.2.At P9.2.av))))))))) else (some (Out.ret ((de,(aL.mk x0.Code nh.2.At nh.2.av)))))) else (bif (nh.1) == ((5:Int)) then (bif decide ((de.aG.length:Int) > (0:Int)) then ((idx de.aF (zb.1))>>=fun VP=>((bZ (aL.mk x0.Code nh.2.At nh.2.av) ((de.aG.length:Int)))>>=fun K8=>((bZ (aL.mk x0.Code K8.2.At K8.2.av) (ak ((de.aG.length:Int)+(1:Int))))>>=fun Qa=>((idx VP (K8.1))>>=fun am6=>(some (Out.ret (((aI.mk de.aE de.aG de.To de.aJ (de.aF.set (zb.1).toNat (VP.set (K8.1).toNat (ak (Qa.1 - (1:Int)))))),(aL.mk x0.Code Qa.2.At Qa.2.av))))))))) else (some (Out.ret ((de,(aL.mk x0.Code nh.2.At nh.2.av)))))) else (bif (nh.1) == ((6:Int)) then (bif decide ((de.aG.length:Int) > (0:Int)) then ((bZ (aL.mk x0.Code nh.2.At nh.2.av) (ak (de.aE+(1:Int))))>>=fun Qb=>((idx de.To (zb.1))>>=fun Vw=>(some (Out.ret (((aI.mk de.aE de.aG (de.To.set (zb.1).toNat (Qb.1)) de.aJ de.aF),(aL.mk x0.Code Qb.2.At Qb.2.av))))))) else (some (Out.ret ((de,(aL.mk x0.Code nh.2.At nh.2.av)))))) else (bif decide ((de.aG.length:Int) > (0:Int)) then ((idx de.aF (zb.1))>>=fun abX=>((tl abX ((1:Int)))>>=fun abY=>((idx de.aF (zb.1))>>=fun am7=>(some (Out.ret (((aI.mk de.aE de.aG de.To de.aJ (de.aF.set (zb.1).toNat abY)),(aL.mk x0.Code nh.2.At nh.2.av)))))))) else (some (Out.ret ((de,(aL.mk x0.Code nh.2.At nh.2.av))))))))))))))))
def lX (x0:aL):Option (aN×aL):=
 ao (S:=Unit) ((lV x0 ((4:Int)) ((10:Int)))>>=fun dg=>((oE (aL.mk x0.Code dg.2.At dg.2.av) dg.1 ((4:Int)) ((12:Int)))>>=fun sF=>((bZ (aL.mk x0.Code sF.2.At sF.2.av) ((30:Int)))>>=fun va=>(bif (va.1) == ((0:Int)) then ((oF (aL.mk x0.Code va.2.At va.2.av) sF.1.aA)>>=fun Qc=>(some (Out.ret (((aN.mk Qc.1 sF.1.aC sF.1.aE sF.1.ae),(aL.mk x0.Code Qc.2.At Qc.2.av)))))) else (bif (va.1) == ((1:Int)) then (bif decide ((sF.1.ae.length:Int) > (0:Int)) then ((bZ (aL.mk x0.Code va.2.At va.2.av) ((sF.1.ae.length:Int)))>>=fun C0=>((bZ (aL.mk x0.Code C0.2.At C0.2.av) (ak ((sF.1.aC.aG.length:Int)+(1:Int))))>>=fun u9=>((idx sF.1.ae (C0.1))>>=fun am8=>(some (Out.ret (((aN.mk sF.1.aA sF.1.aC sF.1.aE (sF.1.ae.set (C0.1).toNat (u9.1))),(aL.mk x0.Code u9.2.At u9.2.av)))))))) else (some (Out.ret ((sF.1,(aL.mk x0.Code va.2.At va.2.av)))))) else (bif (va.1) == ((2:Int)) then ((fits 8 (sF.1.aE.length+1))>>=fun aa3=>(some (Out.ret (((aN.mk sF.1.aA sF.1.aC (sF.1.aE++[(0:Int)]) sF.1.ae),(aL.mk x0.Code va.2.At va.2.av)))))) else (some (Out.ret ((sF.1,(aL.mk x0.Code va.2.At va.2.av)))))))))))
def qA (x0:Int) (x1:Int) (x2:Int):Option (Bool):=
 ao (S:=Unit) (((bif decide (x0 ≥ x1) then (some (decide (x0≤x2))) else (some (false))))>>=fun g3=>(some (Out.ret (g3))))
def mJ (x0:Int) (x1:(List Int)) (aX:Int):Option (Out (Int) (Bool)):=
 (bif decide (aX < (x1.length:Int)) then ((((idx x1 (aX))>>=fun VR=>(bif decide (VR < (0:Int)) then (some (true)) else ((idx x1 (aX))>>=fun uB=>(some (decide (uB ≥ x0)))))))>>=fun g9=>(bif g9 then (some (Out.ret (false))) else (some (Out.norm (ak (aX+(1:Int))))))) else (some (Out.exit 0 (aX))))
def iZ (x0:Int) (x1:(List Int)):Option (Bool):=
 ao (S:=Unit) (ai (af 0 (aj (mJ x0 x1) ((0:Int)))) (fun aX=>(some (Out.ret (true)))))
def lY (x0:(List Int)) (x1:Int) (x2:Int):Option (Bool):=
 ao (S:=Unit) (((bif ((x0.length:Int)) == (x1) then ((iZ (x2) x0)>>=fun y6=>(some (y6))) else (some (false))))>>=fun g3=>(some (Out.ret (g3))))
def lM (x0:aI) (b9:Int):Option (Out (Int) (Bool)):=
 (bif decide (b9 < x0.aE) then ((((idx x0.aJ (b9))>>=fun Nw=>((idx x0.aG (Nw))>>=fun VS=>(bif (VS) != (b9) then (some (true)) else ((idx x0.aJ (b9))>>=fun Ni=>((idx x0.To (Ni))>>=fun Nx=>(some ((Nx) != (b9)))))))))>>=fun g43=>(bif g43 then (some (Out.ret (false))) else (some (Out.norm (ak (b9+(1:Int))))))) else (some (Out.exit 0 (b9))))
def lN (x0:aI) (o3:Int) (yH:Int):Option (Out (Int) (Bool)):=
 (bif decide (yH < (x0.aG.length:Int)) then ((idx x0.aF (o3))>>=fun e86=>((idx e86 (yH))>>=fun DU=>((idx x0.To (o3))>>=fun CB=>((idx x0.aG (yH))>>=fun RH=>(bif (CB) != (RH) then (bif (DU) != ((-1:Int)) then (some (Out.ret (false))) else (some (Out.norm (ak (yH+(1:Int)))))) else (((bif decide (DU < (0:Int)) then (some (true)) else (bif decide (DU ≥ (x0.aG.length:Int)) then (some (true)) else ((idx x0.aG (DU))>>=fun PM=>((idx x0.aG (o3))>>=fun abZ=>(bif (PM) != (abZ) then (some (true)) else ((idx x0.To (DU))>>=fun ab0=>((idx x0.To (yH))>>=fun ab1=>(some ((ab0) != (ab1)))))))))))>>=fun ab2=>(bif ab2 then (some (Out.ret (false))) else (some (Out.norm (ak (yH+(1:Int)))))))))))) else (some (Out.exit 4 (yH))))
def oG (x0:aI) (o3:Int):Option (Out (Int) (Bool)):=
 (bif decide (o3 < (x0.aG.length:Int)) then ((idx x0.aF (o3))>>=fun VT=>(bif ((VT.length:Int)) != ((x0.aG.length:Int)) then (some (Out.ret (false))) else (ai (af 4 (aj (lN x0 o3) ((0:Int)))) (fun yH=>(some (Out.norm (ak (o3+(1:Int))))))))) else (some (Out.exit 2 (o3))))
def oH (x0:aI):Option (Bool):=
 ao (S:=Unit) ((((qA (x0.aE) ((0:Int)) ((8:Int)))>>=fun HU=>(bif !(HU) then (some (true)) else (bif decide ((x0.aG.length:Int) > (40:Int)) then (some (true)) else ((lY x0.aG ((x0.aG.length:Int)) (x0.aE))>>=fun sT=>(bif !(sT) then (some (true)) else ((lY x0.To ((x0.aG.length:Int)) (x0.aE))>>=fun qi=>(bif !(qi) then (some (true)) else (some (((x0.aF.length:Int)) != ((x0.aG.length:Int))))))))))))>>=fun g10=>(bif g10 then (some (Out.ret (false))) else (((bif ((x0.aJ.length:Int)) != (x0.aE) then (some (true)) else ((iZ ((x0.aG.length:Int)) x0.aJ)>>=fun Ny=>(some (!(Ny))))))>>=fun g27=>(bif g27 then (some (Out.ret (false))) else (ai (af 0 (aj (lM x0) ((0:Int)))) (fun b9=>(ai (af 2 (aj (oG x0) ((0:Int)))) (fun o3=>(some (Out.ret (true)))))))))))
def kV (x0:aI) (bm:Int):Option (Out (Int) (Int×Int×Int×Int)):=
 (bif decide (bm < (x0.aG.length:Int)) then ((((idx x0.aG (bm))>>=fun HD=>((idx x0.aJ (HD))>>=fun Nz=>((idx x0.aF (Nz))>>=fun Hv=>((idx Hv (bm))>>=fun HW=>(bif (HW) != (bm) then (some (true)) else ((idx x0.aF (bm))>>=fun NB=>((idx x0.To (bm))>>=fun NC=>((idx x0.aJ (NC))>>=fun HX=>((idx NB (HX))>>=fun FH=>(some ((FH) != (bm)))))))))))))>>=fun g16=>(bif g16 then (some (Out.ret ((((1:Int)),bm,((0:Int)),((0:Int)))))) else (some (Out.norm (ak (bm+(1:Int))))))) else (some (Out.exit 0 (bm))))
def jL (x0:aI) (dw:Int) (dp:Int) (gh:Int):Option (Out (Int) (Int×Int×Int×Int)):=
 (bif decide (gh < (x0.aG.length:Int)) then ((((idx x0.To (dp))>>=fun e82=>((idx x0.aG (gh))>>=fun e84=>(bif (e82) == (e84) then ((idx x0.aF (dw))>>=fun VU=>((idx VU (dp))>>=fun e94=>((idx x0.aF (e94))>>=fun VI=>((idx VI (gh))>>=fun K9=>((idx x0.aF (dw))>>=fun ab3=>((idx x0.aF (dp))>>=fun Qd=>((idx Qd (gh))>>=fun ab4=>((idx ab3 (ab4))>>=fun ab5=>(some ((K9) != (ab5))))))))))) else (some (false))))))>>=fun g80=>(bif g80 then (some (Out.ret ((((2:Int)),dw,dp,gh)))) else (some (Out.norm (ak (gh+(1:Int))))))) else (some (Out.exit 6 (gh))))
def jM (x0:aI) (dw:Int) (dp:Int):Option (Out (Int) (Int×Int×Int×Int)):=
 (bif decide (dp < (x0.aG.length:Int)) then ((idx x0.To (dw))>>=fun JF=>((idx x0.aG (dp))>>=fun e67=>(bif (JF) != (e67) then (some (Out.norm (ak (dp+(1:Int))))) else (ai (af 6 (aj (jL x0 dw dp) ((0:Int)))) (fun gh=>(some (Out.norm (ak (dp+(1:Int)))))))))) else (some (Out.exit 4 (dp))))
def nP (x0:aI) (dw:Int):Option (Out (Int) (Int×Int×Int×Int)):=
 (bif decide (dw < (x0.aG.length:Int)) then (ai (af 4 (aj (jM x0 dw) ((0:Int)))) (fun dp=>(some (Out.norm (ak (dw+(1:Int))))))) else (some (Out.exit 2 (dw))))
def nC (x0:aI):Option (Int×Int×Int×Int):=
 ao (S:=Unit) (ai (af 0 (aj (kV x0) ((0:Int)))) (fun bm=>(ai (af 2 (aj (nP x0) ((0:Int)))) (fun dw=>(some (Out.ret ((((0:Int)),((0:Int)),((0:Int)),((0:Int))))))))))
def oI (x0:aI):Option (Bool):=
 ao (S:=Unit) ((oH x0)>>=fun y8=>(bif !(y8) then (some (Out.ret (false))) else ((nC x0)>>=fun ND=>(some (Out.ret (((ND.1) == ((0:Int)))))))))
def pQ (x0:aN) (aX:Int):Option (Out (Int) (Bool)):=
 (bif decide (aX < (x0.aA.aG.length:Int)) then ((((idx x0.ae (aX))>>=fun VV=>((idx x0.aC.aG (VV))>>=fun Nq=>((idx x0.aA.aG (aX))>>=fun e74=>((idx x0.aE (e74))>>=fun VW=>(bif (Nq) != (VW) then (some (true)) else ((idx x0.ae (aX))>>=fun Nr=>((idx x0.aC.To (Nr))>>=fun DY=>((idx x0.aA.To (aX))>>=fun Y3=>((idx x0.aE (Y3))>>=fun VX=>(some ((DY) != (VX)))))))))))))>>=fun g68=>(bif g68 then (some (Out.ret (false))) else (some (Out.norm (ak (aX+(1:Int))))))) else (some (Out.exit 0 (aX))))
def pR (x0:aN) (n8:Int):Option (Out (Int) (Bool)):=
 (bif decide (n8 < x0.aA.aE) then ((idx x0.aA.aJ (n8))>>=fun P5=>((idx x0.ae (P5))>>=fun K4=>((idx x0.aE (n8))>>=fun vX=>((idx x0.aC.aJ (vX))>>=fun Hz=>(bif (K4) != (Hz) then (some (Out.ret (false))) else (some (Out.norm (ak (n8+(1:Int)))))))))) else (some (Out.exit 2 (n8))))
def pS (x0:aN) (tn:Int) (C1:Int):Option (Out (Int) (Bool)):=
 (bif decide (C1 < (x0.aA.aG.length:Int)) then ((((idx x0.aA.To (tn))>>=fun Qe=>((idx x0.aA.aG (C1))>>=fun ab6=>(bif (Qe) == (ab6) then ((idx x0.aA.aF (tn))>>=fun Qf=>((idx Qf (C1))>>=fun ab7=>((idx x0.ae (ab7))>>=fun ab8=>((idx x0.ae (tn))>>=fun PI=>((idx x0.aC.aF (PI))>>=fun ab9=>((idx x0.ae (C1))>>=fun Qh=>((idx ab9 (Qh))>>=fun aca=>(some ((ab8) != (aca)))))))))) else (some (false))))))>>=fun acb=>(bif acb then (some (Out.ret (false))) else (some (Out.norm (ak (C1+(1:Int))))))) else (some (Out.exit 6 (C1))))
def pT (x0:aN) (tn:Int):Option (Out (Int) (Bool)):=
 (bif decide (tn < (x0.aA.aG.length:Int)) then (ai (af 6 (aj (pS x0 tn) ((0:Int)))) (fun C1=>(some (Out.norm (ak (tn+(1:Int))))))) else (some (Out.exit 4 (tn))))
def jX (x0:aN):Option (Bool):=
 ao (S:=Unit) ((((oI x0.aA)>>=fun DX=>(bif !(DX) then (some (true)) else ((oI x0.aC)>>=fun NG=>(bif !(NG) then (some (true)) else (bif ((x0.aE.length:Int)) != (x0.aA.aE) then (some (true)) else (some (((x0.ae.length:Int)) != ((x0.aA.aG.length:Int))))))))))>>=fun VY=>(bif VY then (some (Out.ret (false))) else ((((iZ (x0.aC.aE) x0.aE)>>=fun VB=>(bif !(VB) then (some (true)) else ((iZ ((x0.aC.aG.length:Int)) x0.ae)>>=fun y52=>(some (!(y52)))))))>>=fun g47=>(bif g47 then (some (Out.ret (false))) else (ai (af 0 (aj (pQ x0) ((0:Int)))) (fun aX=>(ai (af 2 (aj (pR x0) ((0:Int)))) (fun n8=>(ai (af 4 (aj (pT x0) ((0:Int)))) (fun tn=>(some (Out.ret (true)))))))))))))
def oJ (x0:aL):Option (aN×aN×aL):=
 ao (S:=Unit) ((lX x0)>>=fun qi=>((bZ (aL.mk x0.Code qi.2.At qi.2.av) ((12:Int)))>>=fun vb=>(bif (vb.1) == ((0:Int)) then ((lX (aL.mk x0.Code vb.2.At vb.2.av))>>=fun Qi=>(some (Out.ret ((qi.1,Qi.1,(aL.mk x0.Code Qi.2.At Qi.2.av)))))) else (bif (vb.1) == ((1:Int)) then (some (Out.ret ((qi.1,qi.1,(aL.mk x0.Code vb.2.At vb.2.av))))) else (bif (vb.1) == ((2:Int)) then (some (Out.ret ((qi.1,qi.1,(aL.mk x0.Code vb.2.At vb.2.av))))) else ((((jX qi.1)>>=fun HC=>(bif HC then ((iS qi.1.aA qi.1.aC)>>=fun acd=>(some (acd))) else (some (false)))))>>=fun ace=>(bif ace then ((kF qi.1.aA qi.1.aC)>>=fun VZ=>((bZ (aL.mk x0.Code vb.2.At vb.2.av) ((VZ.length:Int)))>>=fun Qj=>((idx VZ (Qj.1))>>=fun acf=>(some (Out.ret ((qi.1,acf,(aL.mk x0.Code Qj.2.At Qj.2.av)))))))) else (some (Out.ret ((qi.1,qi.1,(aL.mk x0.Code vb.2.At vb.2.av))))))))))))
def rD (x0:(List (List Int))) (x1:(List (List Int))) (aX:Int):Option (Out (Int) (Bool)):=
 (bif decide (aX < (x0.length:Int)) then ((idx x0 (aX))>>=fun uB=>((idx x1 (aX))>>=fun w9=>((fG uB w9)>>=fun D1=>(bif !(D1) then (some (Out.ret (false))) else (some (Out.norm (ak (aX+(1:Int))))))))) else (some (Out.exit 0 (aX))))
def pU (x0:(List (List Int))) (x1:(List (List Int))):Option (Bool):=
 ao (S:=Unit) (bif ((x0.length:Int)) != ((x1.length:Int)) then (some (Out.ret (false))) else (ai (af 0 (aj (rD x0 x1) ((0:Int)))) (fun aX=>(some (Out.ret (true))))))
def jN (x0:aI) (x1:aI):Option (Bool):=
 ao (S:=Unit) (((bif (x0.aE) == (x1.aE) then ((fG x0.aG x1.aG)>>=fun qi=>(bif qi then ((fG x0.To x1.To)>>=fun JG=>(bif JG then ((fG x0.aJ x1.aJ)>>=fun nz=>(bif nz then ((pU x0.aF x1.aF)>>=fun D1=>(some (D1))) else (some (false)))) else (some (false)))) else (some (false)))) else (some (false))))>>=fun g16=>(some (Out.ret (g16))))
def jO (x0:aN) (x1:aN):Option (Bool):=
 ao (S:=Unit) ((((jN x0.aA x1.aA)>>=fun tS=>(bif tS then ((jN x0.aC x1.aC)>>=fun D2=>(some (D2))) else (some (false)))))>>=fun g16=>(some (Out.ret (g16))))
def qC (x0:(List Int)) (x1:Int) (aX:Int):Option (Out (Int) (Int)):=
 (bif decide (aX < (x0.length:Int)) then ((idx x0 (aX))>>=fun e9=>(bif (e9) == (x1) then (some (Out.ret (aX))) else (some (Out.norm (ak (aX+(1:Int))))))) else (some (Out.exit 0 (aX))))
def nD (x0:(List Int)) (x1:Int):Option (Int):=
 ao (S:=Unit) (ai (af 0 (aj (qC x0 x1) ((0:Int)))) (fun aX=>(some (Out.ret (((-1:Int)))))))
def lZ (x0:(List Int)) (ke:(List Int)) (b9:(List Int)) (aX:Int):Option (Out ((List Int)×(List Int)×Int) ((List Int))):=
 (bif decide (aX < (x0.length:Int)) then ((idx x0 (aX))>>=fun HW=>((nD b9 (HW))>>=fun Y4=>(bif decide (Y4 < (0:Int)) then ((idx x0 (aX))>>=fun V0=>((fits 8 (b9.length+1))>>=fun n57=>((fits 8 (ke.length+1))>>=fun n77=>(some (Out.norm (ke++[(b9.length:Int)],b9++[V0],ak (aX+(1:Int)))))))) else ((fits 8 (ke.length+1))>>=fun n99=>(some (Out.norm (ke++[Y4],b9,ak (aX+(1:Int))))))))) else (some (Out.exit 0 (ke,b9,aX))))
def lO (x0:(List Int)):Option ((List Int)):=
 ao (S:=Unit) (ai (af 0 (aj (fun s=>lZ x0 s.1 s.2.1 s.2.2) (([]:(List Int)),([]:(List Int)),(0:Int)))) (fun (ke,b9,aX)=>(some (Out.ret (ke)))))
def oL (x0:Int) (aX:(List Int)) (fj:Int):Option (Out ((List Int)×Int) ((List Int))):=
 (bif decide (fj < x0) then ((fits 8 (aX.length+1))>>=fun n32=>(some (Out.norm (aX++[fj],ak (fj+(1:Int)))))) else (some (Out.exit 0 (aX,fj))))
def oM (JH:Int) (JF:Int) (ef:Int) (vL:(List Int)):Option (Out (Int×(List Int)) ((List Int))):=
 (((bif decide (ef < (vL.length:Int)) then (some ((JH) != (JF))) else (some (false))))>>=fun g72=>(bif g72 then ((idx vL (ef))>>=fun e78=>(bif (e78) == (JF) then ((idx vL (ef))>>=fun Y3=>(some (Out.norm (ak (ef+(1:Int)),vL.set (ef).toNat (JH))))) else (some (Out.norm (ak (ef+(1:Int)),vL))))) else (some (Out.exit 4 (ef,vL)))))
def oN (x1:(List (List Int))) (lv:Int) (zd:(List Int)):Option (Out (Int×(List Int)) ((List Int))):=
 (bif decide (lv < (x1.length:Int)) then ((idx x1 (lv))>>=fun Nw=>((idx Nw ((0:Int)))>>=fun Nx=>((idx zd (Nx))>>=fun JH=>((idx x1 (lv))>>=fun V1=>((idx V1 ((1:Int)))>>=fun e63=>((idx zd (e63))>>=fun JF=>(ai (af 4 (aj (fun s=>oM JH JF s.1 s.2) ((0:Int),zd))) (fun (ef,vL)=>(some (Out.norm (ak (lv+(1:Int)),vL))))))))))) else (some (Out.exit 2 (lv,zd))))
def oO (x0:Int) (x1:(List (List Int))):Option ((List Int)):=
 ao (S:=Unit) (ai (af 0 (aj (fun s=>oL x0 s.1 s.2) (([]:(List Int)),(0:Int)))) (fun (aX,fj)=>(ai (af 2 (aj (fun s=>oN x1 s.1 s.2) ((0:Int),aX))) (fun (lv,zd)=>((lO zd)>>=fun y97=>(some (Out.ret (y97))))))))
def qI (x0:aI) (x1:Int) (aX:(List Int)) (fj:Int):Option (Out ((List Int)×Int) ((List Int))):=
 (bif decide (fj < (x0.aG.length:Int)) then ((((idx x0.aG (fj))>>=fun FE=>((idx x0.To (x1))>>=fun HW=>(bif (FE) == (HW) then ((idx x0.To (fj))>>=fun NB=>((idx x0.aG (x1))>>=fun BE=>(bif (NB) == (BE) then ((idx x0.aF (x1))>>=fun D3=>((idx D3 (fj))>>=fun HY=>((idx x0.aG (x1))>>=fun By=>((idx x0.aJ (By))>>=fun NH=>(some ((HY) == (NH))))))) else (some (false))))) else (some (false))))))>>=fun HK=>(bif HK then ((fits 8 (aX.length+1))>>=fun Y5=>(some (Out.norm (aX++[fj],ak (fj+(1:Int)))))) else (some (Out.norm (aX,ak (fj+(1:Int))))))) else (some (Out.exit 0 (aX,fj))))
def pI (x0:aI) (x1:Int):Option ((List Int)):=
 ao (S:=Unit) (ai (af 0 (aj (fun s=>qI x0 x1 s.1 s.2) (([]:(List Int)),(0:Int)))) (fun (aX,fj)=>(some (Out.ret (aX)))))
def qN (x0:aI) (x1:Int) (aX:(List Int)) (fj:Int):Option (Out ((List Int)×Int) ((List Int))):=
 (bif decide (fj < (x0.aG.length:Int)) then ((((idx x0.aG (fj))>>=fun FE=>((idx x0.To (x1))>>=fun HW=>(bif (FE) == (HW) then ((idx x0.To (fj))>>=fun NB=>((idx x0.aG (x1))>>=fun BE=>(bif (NB) == (BE) then ((idx x0.aF (fj))>>=fun D3=>((idx D3 (x1))>>=fun HY=>((idx x0.To (x1))>>=fun By=>((idx x0.aJ (By))>>=fun NH=>(some ((HY) == (NH))))))) else (some (false))))) else (some (false))))))>>=fun HK=>(bif HK then ((fits 8 (aX.length+1))>>=fun Y5=>(some (Out.norm (aX++[fj],ak (fj+(1:Int)))))) else (some (Out.norm (aX,ak (fj+(1:Int))))))) else (some (Out.exit 0 (aX,fj))))
def qD (x0:aI) (x1:Int):Option ((List Int)):=
 ao (S:=Unit) (ai (af 0 (aj (fun s=>qN x0 x1 s.1 s.2) (([]:(List Int)),(0:Int)))) (fun (aX,fj)=>(some (Out.ret (aX)))))
def rL (x0:(List Int)) (x1:Int) (aX:Int):Option (Out (Int) (Bool)):=
 (bif decide (aX < (x0.length:Int)) then ((idx x0 (aX))>>=fun e9=>(bif (e9) == (x1) then (some (Out.ret (true))) else (some (Out.norm (ak (aX+(1:Int))))))) else (some (Out.exit 0 (aX))))
def rB (x0:(List Int)) (x1:Int):Option (Bool):=
 ao (S:=Unit) (ai (af 0 (aj (rL x0 x1) ((0:Int)))) (fun aX=>(some (Out.ret (false)))))
def qS (y8:(List Int)) (D4:(List Int)) (bm:Int):Option (Out (Int) (Int)):=
 (bif decide (bm < (y8.length:Int)) then ((idx y8 (bm))>>=fun BE=>((rB D4 (BE))>>=fun VD=>(bif VD then ((idx y8 (bm))>>=fun HX=>(some (Out.ret (HX)))) else (some (Out.norm (ak (bm+(1:Int)))))))) else (some (Out.exit 0 (bm))))
def qG (x0:aI) (x1:Int):Option (Int):=
 ao (S:=Unit) ((pI x0 (x1))>>=fun y8=>((qD x0 (x1))>>=fun D4=>(ai (af 0 (aj (qS y8 D4) ((0:Int)))) (fun bm=>(some (Out.ret (((-1:Int)))))))))
def fU (x0:aN) (x1:aN) (x2:(List Int)) (x3:Int):Option (Bool):=
 ao (S:=Unit) ((idx x0.ae (x3))>>=fun FH=>((idx x0.aC.aF (FH))>>=fun Nw=>((idx x0.aA.To (x3))>>=fun Nx=>((idx x2 (Nx))>>=fun JH=>((idx Nw (JH))>>=fun V1=>((idx x0.aA.aG (x3))>>=fun e58=>((idx x2 (e58))>>=fun e60=>((idx x0.aC.aF (e60))>>=fun AH=>((idx x1.ae (x3))>>=fun VH=>((idx AH (VH))>>=fun e71=>(some (Out.ret (((V1) == (e71)))))))))))))))
def mA (x0:dH) (x2:Int) (BC:(List Int)) (CB:Int) (vm:Bool) (ly:Int):Option (Out (Bool×Int) ((List Int))):=
 (((bif vm then (some (decide (ly < (x0.F.ae.length:Int)))) else (some (false))))>>=fun acg=>(bif acg then ((idx x0.F.aA.aG (ly))>>=fun HM=>((idx x0.F.aA.To (ly))>>=fun K2=>(((bif (HM) != (x2) then (bif (K2) != (x2) then (some (true)) else ((idx (BC.set (x2).toNat (CB)) (HM))>>=fun ach=>(bif decide (ach < (0:Int)) then (some (true)) else ((idx (BC.set (x2).toNat (CB)) (K2))>>=fun Qe=>(bif decide (Qe < (0:Int)) then (some (true)) else ((fU x0.F x0.G (BC.set (x2).toNat (CB)) (ly))>>=fun HT=>(some (HT)))))))) else ((idx (BC.set (x2).toNat (CB)) (HM))>>=fun V2=>(bif decide (V2 < (0:Int)) then (some (true)) else ((idx (BC.set (x2).toNat (CB)) (K2))>>=fun aci=>(bif decide (aci < (0:Int)) then (some (true)) else ((fU x0.F x0.G (BC.set (x2).toNat (CB)) (ly))>>=fun acj=>(some (acj)))))))))>>=fun ack=>(some (Out.norm (ack,ak (ly+(1:Int)))))))) else (some (Out.exit 2 (vm,ly)))))
def mB (x0:dH) (x1:(List Int)) (x2:Int) (AI:(List Int)) (pq:(List Int)) (ma:Int):Option (Out ((List Int)×Int) ((List Int))):=
 (bif decide (ma < (AI.length:Int)) then (((bif x0.xU then ((idx AI (ma))>>=fun VW=>((qG x0.F.aC (VW))>>=fun V3=>(some (decide (V3 < (0:Int)))))) else (some (false))))>>=fun g73=>(bif g73 then (some (Out.norm (pq,ak (ma+(1:Int))))) else ((dR x1)>>=fun BC=>((idx AI (ma))>>=fun CB=>((idx BC (x2))>>=fun RH=>(ai (af 2 (aj (fun s=>mA x0 x2 BC CB s.1 s.2) (true,(0:Int)))) (fun (vm,ly)=>(bif vm then ((idx AI (ma))>>=fun Qh=>((fits 8 (pq.length+1))>>=fun n184=>(some (Out.norm (pq++[Qh],ak (ma+(1:Int))))))) else (some (Out.norm (pq,ak (ma+(1:Int))))))))))))) else (some (Out.exit 0 (pq,ma))))
def jY (x0:dH) (x1:(List Int)) (x2:Int):Option ((List Int)):=
 ao (S:=Unit) ((idx x0.F.aE (x2))>>=fun Hx=>((idx x0.G.aE (x2))>>=fun BE=>((lF x0.F.aC (Hx) (BE))>>=fun AI=>(ai (af 0 (aj (fun s=>mB x0 x1 x2 AI s.1 s.2) (([]:(List Int)),(0:Int)))) (fun (pq,ma)=>(some (Out.ret (pq))))))))
def pV (x0:dH) (x1:(List Int)) (b9:Int) (aX:Int):Option (Out (Int×Int) (dH)):=
 (bif decide (aX ≥ (0:Int)) then ((idx x1 (aX))>>=fun BE=>(bif (BE) == ((-1:Int)) then ((jY x0 x1 (aX))>>=fun y41=>(bif ((y41.length:Int)) == ((0:Int)) then (some (Out.ret (x0))) else (some (Out.norm (aX,ak (aX - (1:Int))))))) else (some (Out.norm (b9,ak (aX - (1:Int))))))) else (some (Out.exit 0 (b9,aX))))
def pW (rc:dH→(List Int)→Option (dH)) (x0:dH) (x1:(List Int)) (b9:Int) (u6:(List Int)) (lv:Int) (x7:Int) (x8:Int) (wC:Int) (wD:Int) (wE:Bool) (uC:Int) (uD:(List (List Int))):Option (Out (Int×Int×Int×Int×Int×Bool×Int×(List (List Int))) (dH)):=
 (((bif decide (lv < (u6.length:Int)) then (some (decide ((uD.length:Int) < uC))) else (some (false))))>>=fun acm=>(bif acm then ((dR x1)>>=fun V4=>((idx u6 (lv))>>=fun Qf=>((idx V4 (b9))>>=fun V2=>((rc (dH.mk (aN.mk (aI.mk x7 x0.F.aA.aG x0.F.aA.To x0.F.aA.aJ x0.F.aA.aF) (aI.mk x8 x0.F.aC.aG x0.F.aC.To x0.F.aC.aJ x0.F.aC.aF) x0.F.aE x0.F.ae) (aN.mk (aI.mk wC x0.G.aA.aG x0.G.aA.To x0.G.aA.aJ x0.G.aA.aF) (aI.mk wD x0.G.aC.aG x0.G.aC.To x0.G.aC.aJ x0.G.aC.aF) x0.G.aE x0.G.ae) wE uC uD) (V4.set (b9).toNat (Qf)))>>=fun C2=>(some (Out.norm (ak (lv+(1:Int)),C2.F.aA.aE,C2.F.aC.aE,C2.G.aA.aE,C2.G.aC.aE,C2.xU,C2.u5,C2.Found))))))) else (some (Out.exit 2 (lv,x7,x8,wC,wD,wE,uC,uD)))))
def oP (rc:dH→(List Int)→Option (dH)) (x0:dH) (x1:(List Int)):Option (dH):=
 Kc (R:=(dH)) (ai (af 0 (aj (fun s=>pV x0 x1 s.1 s.2) ((-1:Int),ak ((x1.length:Int) - (1:Int))))) (fun (b9,aX)=>(bif decide (b9 < (0:Int)) then ((dR x1)>>=fun y61=>((fits 24 (x0.Found.length+1))>>=fun n89=>(some (Out.ret ((dH.mk x0.F x0.G x0.xU x0.u5 (x0.Found++[y61]))))))) else ((jY x0 x1 (b9))>>=fun u6=>(ai (af 2 (aj (fun s=>pW rc x0 x1 b9 u6 s.1 s.2.1 s.2.2.1 s.2.2.2.1 s.2.2.2.2.1 s.2.2.2.2.2.1 s.2.2.2.2.2.2.1 s.2.2.2.2.2.2.2) ((0:Int),x0.F.aA.aE,x0.F.aC.aE,x0.G.aA.aE,x0.G.aC.aE,x0.xU,x0.u5,x0.Found))) (fun (lv,x7,x8,wC,wD,wE,uC,uD)=>(some (Out.norm ((dH.mk (aN.mk (aI.mk x7 x0.F.aA.aG x0.F.aA.To x0.F.aA.aJ x0.F.aA.aF) (aI.mk x8 x0.F.aC.aG x0.F.aC.To x0.F.aC.aJ x0.F.aC.aF) x0.F.aE x0.F.ae) (aN.mk (aI.mk wC x0.G.aA.aG x0.G.aA.To x0.G.aA.aJ x0.G.aA.aF) (aI.mk wD x0.G.aC.aG x0.G.aC.To x0.G.aC.aJ x0.G.aC.aF) x0.G.aE x0.G.ae) wE uC uD))))))))))
def iW:Nat→dH→(List Int)→Option (dH)
 | 0=>fun _ _=>none
 | n+1=>oP (iW n)
def oQ (x0:aN) (pq:(List (List Int))) (ma:Int):Option (Out ((List (List Int))×Int) ((List (List Int)))):=
 (bif decide (ma < (x0.aA.aG.length:Int)) then ((idx x0.aA.aG (ma))>>=fun Y0=>((idx x0.aA.To (ma))>>=fun VG=>((fits 24 (pq.length+1))>>=fun Y5=>(some (Out.norm (pq++[([Y0,VG]:(List Int))],ak (ma+(1:Int)))))))) else (some (Out.exit 0 (pq,ma))))
def oR (HZ:(List Int)) (ly:Int) (Ae:(List Int)) (Cb:Int):Option (Out ((List Int)×Int) ((List (List Int)))):=
 (bif decide (Cb < (HZ.length:Int)) then ((idx HZ (Cb))>>=fun acn=>(bif (acn) == (ly) then ((fits 8 (Ae.length+1))>>=fun n191=>(some (Out.norm (Ae++[(-1:Int)],ak (Cb+(1:Int)))))) else ((fits 8 (Ae.length+1))>>=fun n219=>(some (Out.norm (Ae++[(-2:Int)],ak (Cb+(1:Int)))))))) else (some (Out.exit 4 (Ae,Cb))))
def oS (x0:aN) (x1:aN) (x2:Bool) (HZ:(List Int)) (vm:(List Int)) (ly:Int):Option (Out ((List Int)×Int) ((List (List Int)))):=
 (bif decide (ly < (HZ.length:Int)) then ((fits 8 (vm.length+1))>>=fun n132=>(ai (af 4 (aj (fun s=>oR HZ ly s.1 s.2) (([]:(List Int)),(0:Int)))) (fun (Ae,Cb)=>((iW 64 (dH.mk x0 x1 x2 ((1:Int)) (([]:(List (List Int))))) Ae)>>=fun aco=>(bif ((aco.Found.length:Int)) == ((0:Int)) then (some (Out.ret ((([]:(List (List Int))))))) else (some (Out.norm (vm++[(-1:Int)],ak (ly+(1:Int)))))))))) else (some (Out.exit 2 (vm,ly))))
def oT (x0:aN) (x1:aN) (x2:Bool) (x3:Int):Option ((List (List Int))):=
 ao (S:=Unit) (ai (af 0 (aj (fun s=>oQ x0 s.1 s.2) (([]:(List (List Int))),(0:Int)))) (fun (pq,ma)=>((oO (x0.aA.aE) pq)>>=fun HZ=>(ai (af 2 (aj (fun s=>oS x0 x1 x2 HZ s.1 s.2) (([]:(List Int)),(0:Int)))) (fun (vm,ly)=>((iW 64 (dH.mk x0 x1 x2 x3 (([]:(List (List Int))))) vm)>>=fun acp=>(some (Out.ret (acp.Found)))))))))
def mX (x0:aN) (x1:aN) (x2:Int):Option ((List (List Int))):=
 ao (S:=Unit) ((oT x0 x1 (false) (x2))>>=fun sT=>(some (Out.ret (sT))))
def jZ (x0:(List Int)) (x1:(List Int)) (aX:(List Int)) (fj:Int):Option (Out ((List Int)×Int) ((List Int))):=
 (bif decide (fj < (x0.length:Int)) then ((idx x0 (fj))>>=fun HD=>((idx x1 (HD))>>=fun Nz=>((fits 8 (aX.length+1))>>=fun n36=>(some (Out.norm (aX++[Nz],ak (fj+(1:Int)))))))) else (some (Out.exit 0 (aX,fj))))
def oU (x0:(List Int)) (x1:(List Int)):Option ((List Int)):=
 ao (S:=Unit) (ai (af 0 (aj (fun s=>jZ x0 x1 s.1 s.2) (([]:(List Int)),(0:Int)))) (fun (aX,fj)=>(some (Out.ret (aX)))))
def jP (x0:aN):Option ((List Int)):=
 ao (S:=Unit) ((oU x0.aE x0.aC.aJ)>>=fun y8=>(some (Out.ret (y8))))
def mY (x0:aN):Option (aN):=
 ao (S:=Unit) ((jI x0.aA x0.aC x0.aE x0.ae)>>=fun sT=>(some (Out.ret (sT))))
def gM (x0:aN) (x1:aN) (x2:(List Int)):Option (aP):=
 ao (S:=Unit) ((mY x0)>>=fun nz=>((mY x1)>>=fun K3=>((dR x2)>>=fun acq=>(some (Out.ret ((aP.mk nz K3 acq)))))))
def kQ (x0:aL) (x1:Int):Option (Int×aL):=
 ao (S:=Unit) ((bZ x0 ((40:Int)))>>=fun y5=>(bif (y5.1) == ((0:Int)) then ((lW (aL.mk x0.Code y5.2.At y5.2.av) ([(-1:Int),x1,(9223372036854775807:Int),(-9223372036854775808:Int)]))>>=fun AJ=>(some (Out.ret ((AJ.1,(aL.mk x0.Code AJ.2.At AJ.2.av)))))) else ((bZ (aL.mk x0.Code y5.2.At y5.2.av) (x1))>>=fun HF=>(some (Out.ret ((HF.1,(aL.mk x0.Code HF.2.At HF.2.av))))))))
def jQ (x0:aL):Option (aP×aL):=
 ao (S:=Unit) ((oJ x0)>>=fun dg=>((((jX dg.1)>>=fun acr=>(bif !(acr) then (some (true)) else ((jX dg.2.1)>>=fun acs=>(bif !(acs) then (some (true)) else ((jO dg.1 dg.2.1)>>=fun acu=>(some (!(acu)))))))))>>=fun acv=>(bif acv then (some (Out.ret (((aP.mk dg.1 dg.2.1 ([])),(aL.mk x0.Code dg.2.2.At dg.2.2.av))))) else ((mX dg.1 dg.2.1 ((12:Int)))>>=fun Qk=>(bif decide ((Qk.length:Int) > (0:Int)) then ((bZ (aL.mk x0.Code dg.2.2.At dg.2.2.av) ((Qk.length:Int)))>>=fun Ql=>((idx Qk (Ql.1))>>=fun BA=>((bZ (aL.mk x0.Code Ql.2.At Ql.2.av) ((24:Int)))>>=fun C3=>(bif (C3.1) == ((0:Int)) then (bif decide ((BA.length:Int) > (0:Int)) then ((dR BA)>>=fun Qm=>((bZ (aL.mk x0.Code C3.2.At C3.2.av) ((Qm.length:Int)))>>=fun Lb=>((kQ (aL.mk x0.Code Lb.2.At Lb.2.av) ((dg.1.aC.aG.length:Int)))>>=fun Qn=>((idx Qm (Lb.1))>>=fun am9=>(some (Out.ret (((aP.mk dg.1 dg.2.1 (Qm.set (Lb.1).toNat (Qn.1))),(aL.mk x0.Code Qn.2.At Qn.2.av))))))))) else (some (Out.ret (((aP.mk dg.1 dg.2.1 BA),(aL.mk x0.Code C3.2.At C3.2.av)))))) else (some (Out.ret (((aP.mk dg.1 dg.2.1 BA),(aL.mk x0.Code C3.2.At C3.2.av))))))))) else ((jP dg.1)>>=fun P7=>((gM dg.1 dg.1 P7)>>=fun EG=>((bZ (aL.mk x0.Code dg.2.2.At dg.2.2.av) ((24:Int)))>>=fun Af=>(bif (Af.1) == ((0:Int)) then (bif decide ((EG.ag.length:Int) > (0:Int)) then ((dR EG.ag)>>=fun Lc=>((bZ (aL.mk x0.Code Af.2.At Af.2.av) ((Lc.length:Int)))>>=fun Gc=>((kQ (aL.mk x0.Code Gc.2.At Gc.2.av) ((dg.1.aC.aG.length:Int)))>>=fun Lf=>((idx Lc (Gc.1))>>=fun ale=>(some (Out.ret (((aP.mk EG.aA EG.aC (Lc.set (Gc.1).toNat (Lf.1))),(aL.mk x0.Code Lf.2.At Lf.2.av))))))))) else (some (Out.ret ((EG,(aL.mk x0.Code Af.2.At Af.2.av)))))) else (some (Out.ret ((EG,(aL.mk x0.Code Af.2.At Af.2.av))))))))))))))
def oV (x0:aN) (x1:aN) (x2:(List Int)) (bm:Int):Option (Out (Int) (Bool)):=
 (bif decide (bm < (x2.length:Int)) then ((((idx x2 (bm))>>=fun Nu=>((idx x0.aC.aG (Nu))>>=fun D3=>((idx x0.aE (bm))>>=fun NC=>(bif (D3) != (NC) then (some (true)) else ((idx x2 (bm))>>=fun e42=>((idx x0.aC.To (e42))>>=fun HY=>((idx x1.aE (bm))>>=fun By=>(some ((HY) != (By)))))))))))>>=fun VY=>(bif VY then (some (Out.ret (false))) else (some (Out.norm (ak (bm+(1:Int))))))) else (some (Out.exit 0 (bm))))
def oW (x0:aN) (x1:aN) (x2:(List Int)):Option (Bool):=
 ao (S:=Unit) (((bif ((x2.length:Int)) != (x0.aA.aE) then (some (true)) else ((iZ ((x0.aC.aG.length:Int)) x2)>>=fun qi=>(some (!(qi))))))>>=fun g16=>(bif g16 then (some (Out.ret (false))) else (ai (af 0 (aj (oV x0 x1 x2) ((0:Int)))) (fun bm=>(some (Out.ret (true)))))))
def nE (x0:aP):Option (Bool):=
 ao (S:=Unit) ((((jX x0.aA)>>=fun dg=>(bif dg then ((jX x0.aC)>>=fun D5=>(bif D5 then ((jO x0.aA x0.aC)>>=fun sT=>(bif sT then ((oW x0.aA x0.aC x0.ag)>>=fun qi=>(some (qi))) else (some (false)))) else (some (false)))) else (some (false)))))>>=fun g8=>(some (Out.ret (g8))))
def nQ (x0:aN) (x1:aN) (x2:(List Int)) (bm:Int):Option (Out (Int) (Int)):=
 (bif decide (bm < (x0.ae.length:Int)) then ((fU x0 x1 x2 (bm))>>=fun de=>(bif !(de) then (some (Out.ret (bm))) else (some (Out.norm (ak (bm+(1:Int))))))) else (some (Out.exit 0 (bm))))
def nF (x0:aN) (x1:aN) (x2:(List Int)):Option (Int):=
 ao (S:=Unit) (ai (af 0 (aj (nQ x0 x1 x2) ((0:Int)))) (fun bm=>(some (Out.ret (((-1:Int)))))))
def mK (x0:aP):Option (Bool):=
 ao (S:=Unit) ((((nE x0)>>=fun dg=>(bif dg then ((nF x0.aA x0.aC x0.ag)>>=fun D5=>(some (decide (D5 < (0:Int))))) else (some (false)))))>>=fun g8=>(some (Out.ret (g8))))
def fV (x0:(List Int)):Option (aP×aP):=
 ao (S:=Unit) ((nY x0)>>=fun sT=>(match sT with | none=>none | some m23=>((jQ (aL.mk x0 m23.At m23.av))>>=fun sg=>((mK sg.1)>>=fun acw=>(bif !(acw) then ((jQ (aL.mk x0 sg.2.At sg.2.av))>>=fun acx=>(some (Out.ret ((sg.1,acx.1))))) else ((bZ (aL.mk x0 sg.2.At sg.2.av) ((12:Int)))>>=fun D6=>(bif (D6.1) == ((0:Int)) then ((jQ (aL.mk x0 D6.2.At D6.2.av))>>=fun XT=>(some (Out.ret ((sg.1,XT.1))))) else ((iS sg.1.aA.aA sg.1.aA.aC)>>=fun XU=>(bif XU then ((kF sg.1.aA.aA sg.1.aA.aC)>>=fun RJ=>((bZ (aL.mk x0 D6.2.At D6.2.av) ((RJ.length:Int)))>>=fun Lh=>((idx RJ (Lh.1))>>=fun RL=>((mX sg.1.aC RL ((8:Int)))>>=fun Lj=>(bif decide ((Lj.length:Int) > (0:Int)) then ((bZ (aL.mk x0 Lh.2.At Lh.2.av) ((Lj.length:Int)))>>=fun XV=>((idx Lj (XV.1))>>=fun XW=>((gM sg.1.aC RL XW)>>=fun XX=>(some (Out.ret ((sg.1,XX))))))) else ((jP sg.1.aC)>>=fun XY=>((gM sg.1.aC sg.1.aC XY)>>=fun XZ=>(some (Out.ret ((sg.1,XZ))))))))))) else ((jP sg.1.aC)>>=fun X0=>((gM sg.1.aC sg.1.aC X0)>>=fun X1=>(some (Out.ret ((sg.1,X1)))))))))))))))
def eK (x0:aI):Option (Int):=
 ao (S:=Unit) (some (Out.ret (((x0.aG.length:Int)))))
def kR (x0:Int) (x1:Int) (x2:Int):Option (Bool):=
 ao (S:=Unit) (((bif decide (x0 ≥ x1) then (some (decide (x0≤x2))) else (some (false))))>>=fun g3=>(some (Out.ret (g3))))
def mL (x0:(List Int)) (x1:Int) (jb:Int):Option (Out (Int) (Bool)):=
 (bif decide (jb < (x0.length:Int)) then ((idx x0 (jb))>>=fun e9=>((kR (e9) ((0:Int)) (ak (x1 - (1:Int))))>>=fun D5=>(bif !(D5) then (some (Out.ret (false))) else (some (Out.norm (ak (jb+(1:Int)))))))) else (some (Out.exit 0 (jb))))
def iG (x0:(List Int)) (x1:Int):Option (Bool):=
 ao (S:=Unit) (ai (af 0 (aj (mL x0 x1) ((0:Int)))) (fun jb=>(some (Out.ret (true)))))
def fH (x0:aI) (x1:Int):Option (rO):=
 ao (S:=Unit) ((idx x0.aG (x1))>>=fun e8=>((idx x0.To (x1))>>=fun No=>(some (Out.ret ((rO.mk e8 No))))))
def gN (x0:aI) (Ag:Int):Option (Out (Int) (Bool)):=
 (bif decide (Ag < (x0.aJ.length:Int)) then ((idx x0.aJ (Ag))>>=fun HX=>((fH x0 (HX))>>=fun NI=>(bif !((NI.aG) == (Ag) && (NI.To) == (Ag)) then (some (Out.ret (false))) else (some (Out.norm (ak (Ag+(1:Int)))))))) else (some (Out.exit 0 (Ag))))
def gO (x0:aI) (y3:Int) (uE:Int) (NJ:(List Int)) (vM:Int):Option (Out (Int) (Bool)):=
 (bif decide (vM < (NJ.length:Int)) then ((idx NJ (vM))>>=fun DY=>((idx x0.To (uE))>>=fun VX=>((idx x0.aG (vM))>>=fun VU=>(bif (VX) != (VU) then (bif (DY) != ((-1:Int)) then (some (Out.ret (false))) else (some (Out.norm (ak (vM+(1:Int)))))) else ((((kR (DY) ((0:Int)) (ak (y3 - (1:Int))))>>=fun acy=>(bif !(acy) then (some (true)) else ((fH x0 (DY))>>=fun V5=>((idx x0.aG (uE))>>=fun K4=>((idx x0.To (vM))>>=fun vX=>(some (!((V5.aG) == (K4) && (V5.To) == (vX))))))))))>>=fun g99=>(bif g99 then (some (Out.ret (false))) else (some (Out.norm (ak (vM+(1:Int))))))))))) else (some (Out.exit 4 (vM))))
def jR (x0:aI) (y3:Int) (uE:Int):Option (Out (Int) (Bool)):=
 (bif decide (uE < (x0.aF.length:Int)) then ((idx x0.aF (uE))>>=fun NJ=>(bif ((NJ.length:Int)) != (y3) then (some (Out.ret (false))) else (ai (af 4 (aj (gO x0 y3 uE NJ) ((0:Int)))) (fun vM=>(some (Out.norm (ak (uE+(1:Int))))))))) else (some (Out.exit 2 (uE))))
def iN (x0:aI):Option (Bool):=
 ao (S:=Unit) ((eK x0)>>=fun y3=>((((kR (x0.aE) ((0:Int)) ((8:Int)))>>=fun y9=>(bif !(y9) then (some (true)) else (bif decide (y3 > (40:Int)) then (some (true)) else (bif ((x0.To.length:Int)) != (y3) then (some (true)) else ((iG x0.aG (x0.aE))>>=fun AJ=>(bif !(AJ) then (some (true)) else ((iG x0.To (x0.aE))>>=fun D4=>(some (!(D4)))))))))))>>=fun g7=>(bif g7 then (some (Out.ret (false))) else (((bif ((x0.aJ.length:Int)) != (x0.aE) then (some (true)) else ((iG x0.aJ (y3))>>=fun uQ=>(bif !(uQ) then (some (true)) else (some (((x0.aF.length:Int)) != (y3)))))))>>=fun g24=>(bif g24 then (some (Out.ret (false))) else (ai (af 0 (aj (gN x0) ((0:Int)))) (fun Ag=>(ai (af 2 (aj (jR x0 y3) ((0:Int)))) (fun uE=>(some (Out.ret (true))))))))))))
def dP (x0:aI) (x1:Int) (x2:Int):Option (Int):=
 ao (S:=Unit) ((idx x0.aF (x1))>>=fun e3=>((idx e3 (x2))>>=fun No=>(some (Out.ret (No)))))
def iI (x0:aI) (y3:Int) (bm:Int):Option (Out (Int) (Int×Int×Int×Int)):=
 (bif decide (bm < y3) then ((((idx x0.aG (bm))>>=fun NK=>((idx x0.aJ (NK))>>=fun NL=>((dP x0 (NL) (bm))>>=fun qi=>(bif (qi) != (bm) then (some (true)) else ((idx x0.To (bm))>>=fun Hv=>((idx x0.aJ (Hv))>>=fun e24=>((dP x0 (bm) (e24))>>=fun xY=>(some ((xY) != (bm)))))))))))>>=fun g13=>(bif g13 then (some (Out.ret ((((1:Int)),bm,((0:Int)),((0:Int)))))) else (some (Out.norm (ak (bm+(1:Int))))))) else (some (Out.exit 0 (bm))))
def gB (x0:aI) (y3:Int) (dw:Int) (dp:Int) (gh:Int):Option (Out (Int) (Int×Int×Int×Int)):=
 (bif decide (gh < y3) then ((((dP x0 (dp) (gh))>>=fun y63=>(bif decide (y63 ≥ (0:Int)) then ((dP x0 (dw) (dp))>>=fun y66=>((dP x0 (y66) (gh))>>=fun y68=>((dP x0 (dp) (gh))>>=fun y70=>((dP x0 (dw) (y70))>>=fun y72=>(some ((y68) != (y72))))))) else (some (false)))))>>=fun g61=>(bif g61 then (some (Out.ret ((((2:Int)),dw,dp,gh)))) else (some (Out.norm (ak (gh+(1:Int))))))) else (some (Out.exit 6 (gh))))
def gC (x0:aI) (y3:Int) (dw:Int) (dp:Int):Option (Out (Int) (Int×Int×Int×Int)):=
 (bif decide (dp < y3) then ((dP x0 (dw) (dp))>>=fun HE=>(bif decide (HE < (0:Int)) then (some (Out.norm (ak (dp+(1:Int))))) else (ai (af 6 (aj (gB x0 y3 dw dp) ((0:Int)))) (fun gh=>(some (Out.norm (ak (dp+(1:Int))))))))) else (some (Out.exit 4 (dp))))
def kG (x0:aI) (y3:Int) (dw:Int):Option (Out (Int) (Int×Int×Int×Int)):=
 (bif decide (dw < y3) then (ai (af 4 (aj (gC x0 y3 dw) ((0:Int)))) (fun dp=>(some (Out.norm (ak (dw+(1:Int))))))) else (some (Out.exit 2 (dw))))
def jU (x0:aI):Option (Int×Int×Int×Int):=
 ao (S:=Unit) ((eK x0)>>=fun y3=>(ai (af 0 (aj (iI x0 y3) ((0:Int)))) (fun bm=>(ai (af 2 (aj (kG x0 y3) ((0:Int)))) (fun dw=>(some (Out.ret ((((0:Int)),((0:Int)),((0:Int)),((0:Int)))))))))))
def gP (x0:aI):Option (Bool):=
 ao (S:=Unit) ((iN x0)>>=fun y3=>(bif !(y3) then (some (Out.ret (false))) else ((jU x0)>>=fun dg=>(some (Out.ret (((dg.1) == ((0:Int)))))))))
def iO (x0:(List aI)) (bm:Int):Option (Out (Int) (Bool)):=
 (bif decide (bm < (x0.length:Int)) then ((idx x0 (bm))>>=fun e9=>((gP e9)>>=fun de=>(bif !(de) then (some (Out.ret (false))) else (some (Out.norm (ak (bm+(1:Int)))))))) else (some (Out.exit 0 (bm))))
def kA (x0:(List aI)):Option (Bool):=
 ao (S:=Unit) (ai (af 0 (aj (iO x0) ((0:Int)))) (fun bm=>(some (Out.ret (true)))))
def kW (x0:aN) (Ah:Int):Option (Out (Int) (Bool)):=
 (bif decide (Ah < (x0.ae.length:Int)) then ((idx x0.ae (Ah))>>=fun Hx=>((((idx x0.aC.aG (Hx))>>=fun D3=>((idx x0.aA.aG (Ah))>>=fun NC=>((idx x0.aE (NC))>>=fun HX=>(bif (D3) != (HX) then (some (true)) else ((idx x0.aC.To (Hx))>>=fun HY=>((idx x0.aA.To (Ah))>>=fun By=>((idx x0.aE (By))>>=fun NH=>(some ((HY) != (NH)))))))))))>>=fun g35=>(bif g35 then (some (Out.ret (false))) else (some (Out.norm (ak (Ah+(1:Int)))))))) else (some (Out.exit 0 (Ah))))
def kX (x0:aN) (ze:Int):Option (Out (Int) (Bool)):=
 (bif decide (ze < (x0.aA.aJ.length:Int)) then ((idx x0.aA.aJ (ze))>>=fun e64=>((idx x0.ae (e64))>>=fun VT=>((idx x0.aE (ze))>>=fun VV=>((idx x0.aC.aJ (VV))>>=fun Nq=>(bif (VT) != (Nq) then (some (Out.ret (false))) else (some (Out.norm (ak (ze+(1:Int)))))))))) else (some (Out.exit 2 (ze))))
def kY (x0:aN) (vN:Int) (CA:(List Int)) (zf:Int):Option (Out (Int) (Bool)):=
 (bif decide (zf < (CA.length:Int)) then ((idx CA (zf))>>=fun K9=>(((bif decide (K9 ≥ (0:Int)) then ((idx x0.ae (K9))>>=fun Hz=>((idx x0.ae (vN))>>=fun Qd=>((idx x0.ae (zf))>>=fun PX=>((dP x0.aC (Qd) (PX))>>=fun acz=>(some ((Hz) != (acz))))))) else (some (false))))>>=fun acA=>(bif acA then (some (Out.ret (false))) else (some (Out.norm (ak (zf+(1:Int)))))))) else (some (Out.exit 6 (zf))))
def kZ (x0:aN) (vN:Int):Option (Out (Int) (Bool)):=
 (bif decide (vN < (x0.aA.aF.length:Int)) then ((idx x0.aA.aF (vN))>>=fun CA=>(ai (af 6 (aj (kY x0 vN CA) ((0:Int)))) (fun zf=>(some (Out.norm (ak (vN+(1:Int)))))))) else (some (Out.exit 4 (vN))))
def kH (x0:aN):Option (Bool):=
 ao (S:=Unit) (((bif ((x0.aE.length:Int)) != (x0.aA.aE) then (some (true)) else ((eK x0.aA)>>=fun dg=>(bif ((x0.ae.length:Int)) != (dg) then (some (true)) else ((iG x0.aE (x0.aC.aE))>>=fun D5=>(bif !(D5) then (some (true)) else ((eK x0.aC)>>=fun sT=>((iG x0.ae (sT))>>=fun tS=>(some (!(tS)))))))))))>>=fun g7=>(bif g7 then (some (Out.ret (false))) else (ai (af 0 (aj (kW x0) ((0:Int)))) (fun Ah=>(ai (af 2 (aj (kX x0) ((0:Int)))) (fun ze=>(ai (af 4 (aj (kZ x0) ((0:Int)))) (fun vN=>(some (Out.ret (true)))))))))))
def gD (x0:aN):Option (Bool):=
 ao (S:=Unit) ((((kA [x0.aA,x0.aC])>>=fun AJ=>(bif AJ then ((kH x0)>>=fun D4=>(some (D4))) else (some (false)))))>>=fun g12=>(some (Out.ret (g12))))
def jV (x0:(List aN)) (bm:Int):Option (Out (Int) (Bool)):=
 (bif decide (bm < (x0.length:Int)) then ((idx x0 (bm))>>=fun e9=>((gD e9)>>=fun DX=>(bif !(DX) then (some (Out.ret (false))) else (some (Out.norm (ak (bm+(1:Int)))))))) else (some (Out.exit 0 (bm))))
def jS (x0:(List aN)):Option (Bool):=
 ao (S:=Unit) (ai (af 0 (aj (jV x0) ((0:Int)))) (fun bm=>(some (Out.ret (true)))))
def gQ (x0:(List Int)) (x1:(List Int)) (ir:Int):Option (Out (Int) (Int)):=
 (bif decide (ir < (x0.length:Int)) then (bif (ir) == ((x1.length:Int)) then (some (Out.ret (((1:Int))))) else ((idx x0 (ir))>>=fun DV=>((idx x1 (ir))>>=fun HD=>(bif (DV) != (HD) then ((idx x0 (ir))>>=fun Np=>((idx x1 (ir))>>=fun FG=>(bif decide (Np < FG) then (some (Out.ret (((-1:Int))))) else (some (Out.ret (((1:Int)))))))) else (some (Out.norm (ak (ir+(1:Int))))))))) else (some (Out.exit 0 (ir))))
def qE (x0:(List Int)) (x1:(List Int)):Option (Int):=
 ao (S:=Unit) (ai (af 0 (aj (gQ x0 x1) ((0:Int)))) (fun ir=>(bif decide ((x0.length:Int) < (x1.length:Int)) then (some (Out.ret (((-1:Int))))) else (some (Out.ret (((0:Int))))))))
def kB (x0:(List Int)) (x1:(List Int)):Option (Bool):=
 ao (S:=Unit) ((qE x0 x1)>>=fun y3=>(some (Out.ret (((y3) == ((0:Int)))))))
def iX (x0:aI) (x1:aI) (Cc:Int):Option (Out (Int) (Bool)):=
 (bif decide (Cc < (x0.aF.length:Int)) then ((idx x0.aF (Cc))>>=fun e28=>((idx x1.aF (Cc))>>=fun Nu=>((kB e28 Nu)>>=fun sF=>(bif !(sF) then (some (Out.ret (false))) else (some (Out.norm (ak (Cc+(1:Int))))))))) else (some (Out.exit 0 (Cc))))
def fW (x0:aI) (x1:aI):Option (Bool):=
 ao (S:=Unit) (((bif (x0.aE) != (x1.aE) then (some (true)) else ((kB x0.aG x1.aG)>>=fun y6=>(bif !(y6) then (some (true)) else ((kB x0.To x1.To)>>=fun y9=>(bif !(y9) then (some (true)) else ((kB x0.aJ x1.aJ)>>=fun HU=>(bif !(HU) then (some (true)) else (some (((x0.aF.length:Int)) != ((x1.aF.length:Int))))))))))))>>=fun g3=>(bif g3 then (some (Out.ret (false))) else (ai (af 0 (aj (iX x0 x1) ((0:Int)))) (fun Cc=>(some (Out.ret (true)))))))
def gH (x0:aN) (x1:aN):Option (Bool):=
 ao (S:=Unit) ((((fW x0.aA x1.aA)>>=fun y7=>(bif y7 then ((fW x0.aC x1.aC)>>=fun HU=>(some (HU))) else (some (false)))))>>=fun g3=>(some (Out.ret (g3))))
def gR (x0:aP) (Ai:Int):Option (Out (Int) (Bool)):=
 (bif decide (Ai < (x0.ag.length:Int)) then ((idx x0.ag (Ai))>>=fun V0=>((fH x0.aA.aC (V0))>>=fun NI=>((idx x0.aA.aE (Ai))>>=fun VS=>((idx x0.aC.aE (Ai))>>=fun e49=>(bif !((NI.aG) == (VS) && (NI.To) == (e49)) then (some (Out.ret (false))) else (some (Out.norm (ak (Ai+(1:Int)))))))))) else (some (Out.exit 0 (Ai))))
def fY (x0:aP):Option (Bool):=
 ao (S:=Unit) ((((jS [x0.aA,x0.aC])>>=fun sT=>(bif !(sT) then (some (true)) else ((gH x0.aA x0.aC)>>=fun qi=>(bif !(qi) then (some (true)) else (bif ((x0.ag.length:Int)) != (x0.aA.aA.aE) then (some (true)) else ((eK x0.aA.aC)>>=fun nz=>((iG x0.ag (nz))>>=fun uQ=>(some (!(uQ)))))))))))>>=fun g14=>(bif g14 then (some (Out.ret (false))) else (ai (af 0 (aj (gR x0) ((0:Int)))) (fun Ai=>(some (Out.ret (true)))))))
def lA (x0:aP) (x1:(aN→aN→(List Int)→Int→Option (Bool))) (Cd:Int):Option (Out (Int) (Int)):=
 (bif decide (Cd < (x0.aA.ae.length:Int)) then ((x1 x0.aA x0.aC x0.ag (Cd))>>=fun AJ=>(bif !(AJ) then (some (Out.ret (Cd))) else (some (Out.norm (ak (Cd+(1:Int))))))) else (some (Out.exit 0 (Cd))))
def kI (x0:aP) (x1:(aN→aN→(List Int)→Int→Option (Bool))):Option (Int):=
 ao (S:=Unit) (ai (af 0 (aj (lA x0 x1) ((0:Int)))) (fun Cd=>(some (Out.ret (((-1:Int)))))))
def gV (x0:aN) (x1:aN) (x2:(List Int)) (x3:Int):Option (Bool):=
 ao (S:=Unit) ((idx x0.ae (x3))>>=fun e7=>((idx x0.aA.To (x3))>>=fun e9=>((idx x2 (e9))>>=fun VR=>((dP x0.aC (e7) (VR))>>=fun D5=>((idx x0.aA.aG (x3))>>=fun NK=>((idx x2 (NK))>>=fun NL=>((idx x1.ae (x3))>>=fun Hy=>((dP x0.aC (NL) (Hy))>>=fun D2=>(some (Out.ret (((D5) == (D2)))))))))))))
def fB (x0:aP):Option (Bool):=
 ao (S:=Unit) ((((fY x0)>>=fun y5=>(bif y5 then ((kI x0 (fun a0 a1 a2 a3=>gV a0 a1 a2 (a3)))>>=fun y8=>(some (decide (y8 < (0:Int))))) else (some (false)))))>>=fun g3=>(some (Out.ret (g3))))
def kC (x0:(List aP)) (bm:Int):Option (Out (Int) (Bool)):=
 (bif decide (bm < (x0.length:Int)) then ((idx x0 (bm))>>=fun e9=>((fB e9)>>=fun y57=>(bif !(y57) then (some (Out.ret (false))) else (some (Out.norm (ak (bm+(1:Int)))))))) else (some (Out.exit 0 (bm))))
def lP (x0:(List aP)):Option (Bool):=
 ao (S:=Unit) (ai (af 0 (aj (kC x0) ((0:Int)))) (fun bm=>(some (Out.ret (true)))))
def lB (x0:aN) (x1:aN):Option (Bool):=
 ao (S:=Unit) ((((fW x0.aA x1.aA)>>=fun y7=>(bif y7 then ((fW x0.aC x1.aC)>>=fun HU=>(bif HU then ((kB x0.aE x1.aE)>>=fun ND=>(bif ND then ((kB x0.ae x1.ae)>>=fun tS=>(some (tS))) else (some (false)))) else (some (false)))) else (some (false)))))>>=fun g3=>(some (Out.ret (g3))))
def fM (x0:aI) (x1:(List Int)) (x2:(List Int)) (x9:Int) (uF:(List Int)):Option (Out (Int×(List Int)) ((List Int))):=
 (bif decide (x9 < (x1.length:Int)) then ((idx x1 (x9))>>=fun Hy=>((idx x2 (x9))>>=fun w9=>((dP x0 (Hy) (w9))>>=fun de=>((idx uF (x9))>>=fun FE=>(some (Out.norm (ak (x9+(1:Int)),uF.set (x9).toNat (de)))))))) else (some (Out.exit 0 (x9,uF))))
def iJ (x0:aI) (x1:(List Int)) (x2:(List Int)):Option ((List Int)):=
 ao (S:=Unit) ((mk 8 ((x1.length:Int)))>>=fun n3=>(ai (af 0 (aj (fun s=>fM x0 x1 x2 s.1 s.2) ((0:Int),List.replicate n3 (0:Int)))) (fun (x9,uF)=>(some (Out.ret (uF))))))
def gF (x0:(List Int)):Option ((List Int)):=
 ao (S:=Unit) ((fits 8 ((([]:(List Int))).length+x0.length))>>=fun n15=>(some (Out.ret ((([]:(List Int))++x0)))))
def kS (x0:(List (List Int))) (ke:(List (List Int))) (ma:Int):Option (Out ((List (List Int))×Int) ((List (List Int)))):=
 (bif decide (ma < (x0.length:Int)) then ((idx x0 (ma))>>=fun Nz=>((gF Nz)>>=fun y29=>((fits 24 (ke.length+1))>>=fun n53=>(some (Out.norm (ke++[y29],ak (ma+(1:Int)))))))) else (some (Out.exit 0 (ke,ma))))
def pN (x0:(List (List Int))):Option ((List (List Int))):=
 ao (S:=Unit) ((mk 24 ((x0.length:Int)))>>=fun n3=>(ai (af 0 (aj (fun s=>kS x0 s.1 s.2) (([]:(List (List Int))),(0:Int)))) (fun (ke,ma)=>(some (Out.ret (ke))))))
def iM (x0:aI):Option (aI):=
 ao (S:=Unit) ((gF x0.aG)>>=fun y8=>((gF x0.To)>>=fun D4=>((gF x0.aJ)>>=fun uQ=>((pN x0.aF)>>=fun NG=>(some (Out.ret ((aI.mk x0.aE y8 D4 uQ NG))))))))
def oX (x0:aI) (x1:aI) (x2:(List Int)) (x3:(List Int)):Option (aN):=
 ao (S:=Unit) ((iM x0)>>=fun y8=>((iM x1)>>=fun DX=>((gF x2)>>=fun V3=>((gF x3)>>=fun Nl=>(some (Out.ret ((aN.mk y8 DX V3 Nl))))))))
def iV (x0:aN):Option (aN):=
 ao (S:=Unit) ((oX x0.aA x0.aC x0.aE x0.ae)>>=fun dg=>(some (Out.ret (dg))))
def gX (x0:aN) (x1:aN) (x2:(List Int)):Option (aP):=
 ao (S:=Unit) ((iV x0)>>=fun y8=>((iV x1)>>=fun y98=>((gF x2)>>=fun acB=>(some (Out.ret ((aP.mk y8 y98 acB)))))))
def dN (x0:aP) (x1:aP):Option (aP×Int):=
 ao (S:=Unit) ((lP [x0,x1])>>=fun Ny=>(bif !(Ny) then (some (Out.ret (((aP.mk (aN.mk (aI.mk ((0:Int)) ([]) ([]) ([]) ([])) (aI.mk ((0:Int)) ([]) ([]) ([]) ([])) ([]) ([])) (aN.mk (aI.mk ((0:Int)) ([]) ([]) ([]) ([])) (aI.mk ((0:Int)) ([]) ([]) ([]) ([])) ([]) ([])) ([])),((1:Int)))))) else ((lB x0.aC x1.aA)>>=fun AI=>(bif !(AI) then (some (Out.ret (((aP.mk (aN.mk (aI.mk ((0:Int)) ([]) ([]) ([]) ([])) (aI.mk ((0:Int)) ([]) ([]) ([]) ([])) ([]) ([])) (aN.mk (aI.mk ((0:Int)) ([]) ([]) ([]) ([])) (aI.mk ((0:Int)) ([]) ([]) ([]) ([])) ([]) ([])) ([])),((5:Int)))))) else ((iJ x0.aA.aC x0.ag x1.ag)>>=fun HE=>((gX x0.aA x1.aC HE)>>=fun V6=>(some (Out.ret ((V6,((0:Int))))))))))))
def oY (x0:aN) (x1:aN):Option (Bool):=
 ao (S:=Unit) ((((jN x0.aA x1.aA)>>=fun tS=>(bif tS then ((jN x0.aC x1.aC)>>=fun D2=>(bif D2 then ((fG x0.aE x1.aE)>>=fun NM=>(bif NM then ((fG x0.ae x1.ae)>>=fun uQ=>(some (uQ))) else (some (false)))) else (some (false)))) else (some (false)))))>>=fun g16=>(some (Out.ret (g16))))
def kD (x0:aI) (x1:(List Int)) (x2:(List Int)) (bm:(List Int)) (ir:Int):Option (Out ((List Int)×Int) ((List Int))):=
 (bif decide (ir < (x1.length:Int)) then ((idx x1 (ir))>>=fun FG=>((idx x0.aF (FG))>>=fun FE=>((idx x2 (ir))>>=fun BE=>((idx FE (BE))>>=fun e36=>((fits 8 (bm.length+1))>>=fun n53=>(some (Out.norm (bm++[e36],ak (ir+(1:Int)))))))))) else (some (Out.exit 0 (bm,ir))))
def oZ (x0:aI) (x1:(List Int)) (x2:(List Int)):Option ((List Int)):=
 ao (S:=Unit) (ai (af 0 (aj (fun s=>kD x0 x1 x2 s.1 s.2) (([]:(List Int)),(0:Int)))) (fun (bm,ir)=>(some (Out.ret (bm)))))
def gS (x0:aP) (x1:aP):Option (aP×Int):=
 ao (S:=Unit) ((((mK x0)>>=fun uQ=>(bif !(uQ) then (some (true)) else ((mK x1)>>=fun Ny=>(some (!(Ny)))))))>>=fun HK=>(bif HK then (some (Out.ret (((aP.mk (aN.mk (aI.mk ((0:Int)) ([]) ([]) ([]) ([])) (aI.mk ((0:Int)) ([]) ([]) ([]) ([])) ([]) ([])) (aN.mk (aI.mk ((0:Int)) ([]) ([]) ([]) ([])) (aI.mk ((0:Int)) ([]) ([]) ([]) ([])) ([]) ([])) ([])),((1:Int)))))) else ((oY x0.aC x1.aA)>>=fun AI=>(bif !(AI) then (some (Out.ret (((aP.mk (aN.mk (aI.mk ((0:Int)) ([]) ([]) ([]) ([])) (aI.mk ((0:Int)) ([]) ([]) ([]) ([])) ([]) ([])) (aN.mk (aI.mk ((0:Int)) ([]) ([]) ([]) ([])) (aI.mk ((0:Int)) ([]) ([]) ([]) ([])) ([]) ([])) ([])),((5:Int)))))) else ((oZ x0.aA.aC x0.ag x1.ag)>>=fun HE=>((gM x0.aA x1.aC HE)>>=fun V6=>(some (Out.ret ((V6,((0:Int))))))))))))
def rE (x0:(List Int)) (x1:(List Int)) (aX:Int):Option (Out (Int) (Bool)):=
 (bif decide (aX < (x0.length:Int)) then ((idx x0 (aX))>>=fun uB=>((idx x1 (aX))>>=fun DV=>(bif (uB) != (DV) then (some (Out.ret (false))) else (some (Out.norm (ak (aX+(1:Int)))))))) else (some (Out.exit 0 (aX))))
def gG (x0:(List Int)) (x1:(List Int)):Option (Bool):=
 ao (S:=Unit) (bif ((x0.length:Int)) != ((x1.length:Int)) then (some (Out.ret (false))) else (ai (af 0 (aj (rE x0 x1) ((0:Int)))) (fun aX=>(some (Out.ret (true))))))
def rM (x0:(List (List Int))) (x1:(List (List Int))) (aX:Int):Option (Out (Int) (Bool)):=
 (bif decide (aX < (x0.length:Int)) then ((idx x0 (aX))>>=fun uB=>((idx x1 (aX))>>=fun w9=>((gG uB w9)>>=fun D1=>(bif !(D1) then (some (Out.ret (false))) else (some (Out.norm (ak (aX+(1:Int))))))))) else (some (Out.exit 0 (aX))))
def qJ (x0:(List (List Int))) (x1:(List (List Int))):Option (Bool):=
 ao (S:=Unit) (bif ((x0.length:Int)) != ((x1.length:Int)) then (some (Out.ret (false))) else (ai (af 0 (aj (rM x0 x1) ((0:Int)))) (fun aX=>(some (Out.ret (true))))))
def lC (x0:aI) (x1:aI):Option (Bool):=
 ao (S:=Unit) (((bif (x0.aE) == (x1.aE) then ((gG x0.aG x1.aG)>>=fun qi=>(bif qi then ((gG x0.To x1.To)>>=fun JG=>(bif JG then ((gG x0.aJ x1.aJ)>>=fun nz=>(bif nz then ((qJ x0.aF x1.aF)>>=fun D1=>(some (D1))) else (some (false)))) else (some (false)))) else (some (false)))) else (some (false))))>>=fun g16=>(some (Out.ret (g16))))
def lD (x0:aN) (x1:aN):Option (Bool):=
 ao (S:=Unit) ((((lC x0.aA x1.aA)>>=fun tS=>(bif tS then ((lC x0.aC x1.aC)>>=fun D2=>(bif D2 then ((gG x0.aE x1.aE)>>=fun NM=>(bif NM then ((gG x0.ae x1.ae)>>=fun uQ=>(some (uQ))) else (some (false)))) else (some (false)))) else (some (false)))))>>=fun g16=>(some (Out.ret (g16))))
def iP (x0:aP) (x1:aP):Option (Bool):=
 ao (S:=Unit) ((((lD x0.aA x1.aA)>>=fun tS=>(bif tS then ((lD x0.aC x1.aC)>>=fun D2=>(bif D2 then ((gG x0.ag x1.ag)>>=fun NM=>(some (NM))) else (some (false)))) else (some (false)))))>>=fun g16=>(some (Out.ret (g16))))
def mC (x0:(List Int)) (x1:(List Int)) (Aj:Int) (uF:(List Int)):Option (Out (Int×(List Int)) ((List Int))):=
 (bif decide (Aj < (x0.length:Int)) then ((idx x0 (Aj))>>=fun NL=>((idx x1 (NL))>>=fun w9=>((idx uF (Aj))>>=fun Np=>(some (Out.norm (ak (Aj+(1:Int)),uF.set (Aj).toNat (w9))))))) else (some (Out.exit 0 (Aj,uF))))
def qH (x0:(List Int)) (x1:(List Int)):Option ((List Int)):=
 ao (S:=Unit) ((mk 8 ((x0.length:Int)))>>=fun n3=>(ai (af 0 (aj (fun s=>mC x0 x1 s.1 s.2) ((0:Int),List.replicate n3 (0:Int)))) (fun (Aj,uF)=>(some (Out.ret (uF))))))
def fZ (x0:aN):Option (aP×Int):=
 ao (S:=Unit) ((gD x0)>>=fun sT=>(bif !(sT) then (some (Out.ret (((aP.mk (aN.mk (aI.mk ((0:Int)) ([]) ([]) ([]) ([])) (aI.mk ((0:Int)) ([]) ([]) ([]) ([])) ([]) ([])) (aN.mk (aI.mk ((0:Int)) ([]) ([]) ([]) ([])) (aI.mk ((0:Int)) ([]) ([]) ([]) ([])) ([]) ([])) ([])),((1:Int)))))) else ((qH x0.aE x0.aC.aJ)>>=fun nz=>((gX x0 x0 nz)>>=fun DX=>(some (Out.ret ((DX,((0:Int))))))))))
def kJ (x0:aN) (x1:aN):Option (Int):=
 ao (S:=Unit) ((jS [x0,x1])>>=fun y8=>(bif !(y8) then (some (Out.ret (((1:Int))))) else ((gH x0 x1)>>=fun ND=>(bif !(ND) then (some (Out.ret (((5:Int))))) else (some (Out.ret (((0:Int)))))))))
def eW (x0:List Int) (x1:List (List Int)) (x2:Int):Option (Bool×List (List Int)):=
 ao (S:=Unit) ((gF x0)>>=fun y7=>((fits 24 (x1.length+1))>>=fun n9=>(some (Out.ret (decide (((x1++[y7]).length:Int)≤x2),x1++[y7])))))
def gT (x0:aI) (x1:Int) (x2:Int) (bm:(List Int)) (ya:Int):Option (Out ((List Int)×Int) ((List Int))):=
 (bif decide (ya < (x0.aG.length:Int)) then ((((idx x0.aG (ya))>>=fun Hv=>(bif (Hv) == (x1) then ((idx x0.To (ya))>>=fun FG=>(some ((FG) == (x2)))) else (some (false)))))>>=fun g20=>(bif g20 then ((fits 8 (bm.length+1))>>=fun n44=>(some (Out.norm (bm++[ya],ak (ya+(1:Int)))))) else (some (Out.norm (bm,ak (ya+(1:Int))))))) else (some (Out.exit 0 (bm,ya))))
def kK (x0:aI) (x1:Int) (x2:Int):Option ((List Int)):=
 ao (S:=Unit) (ai (af 0 (aj (fun s=>gT x0 x1 x2 s.1 s.2) (([]:(List Int)),(0:Int)))) (fun (bm,ya)=>(some (Out.ret (bm)))))
def iU (x0:Int):Option (Bool):=
 ao (S:=Unit) (some (Out.ret (true)))
def iK {ρ:Type} (x0 x1:aN) (x:Int) (cs:List Int) (s:Int):Option (Out Int ρ):=
 (bif decide (s < (x0.aA.aG.length:Int)) then (((idx x0.aA.aG (s))>>=fun JE=>((idx x0.aA.To (s))>>=fun Y6=>(bif (if Y6 > JE then Y6 else JE) == (x) then ((gV x0 x1 cs (s))>>=fun Nv=>(some (!(Nv)))) else (some (false)))))>>=fun g84=>(bif g84 then (some (Out.exit 1 s)) else (some (Out.norm (ak (s+(1:Int))))))) else (some (Out.exit 2 s)))
def gE {σ:Type} (al:Int→Option Bool) (rc:Int→List Int→σ→Option (Bool×List Int×σ)) (x0 x1:aN) (x:Int) (l:List Int) (s:Int×List Int×σ):Option (Out (Int×List Int×σ) (Bool×List Int×σ)):=
 (bif decide (s.1 < (l.length:Int)) then ((idx l (s.1))>>=fun FH=>((al (FH))>>=fun VK=>(bif !(VK) then (some (Out.norm (ak (s.1+(1:Int)),s.2.1,s.2.2))) else ((idx s.2.1 (x))>>=fun _=>(Ho 2 1 (aj (fun s2=>iK x0 x1 x (s.2.1.set (x).toNat (FH)) s2) (0:Int)) (fun _=>((rc (ak (x+(1:Int))) (s.2.1.set (x).toNat (FH)) s.2.2)>>=fun BF=>(bif !(BF.1) then (some (Out.ret (false,BF.2.1,BF.2.2))) else (some (Out.norm (ak (s.1+(1:Int)),BF.2.1,BF.2.2)))))) (fun _=>(some (Out.norm (ak (s.1+(1:Int)),s.2.1.set (x).toNat (FH),s.2.2)))))))) ) else (some (Out.exit 0 s)))
def iQ {σ:Type} (al:Int→Option Bool) (fo:List Int→σ→Option (Bool×σ)) (x0 x1:aN) (rc:Int→List Int→σ→Option (Bool×List Int×σ)) (x:Int) (cs:List Int) (st:σ):Option (Bool×List Int×σ):=
 ao (S:=Unit) (bif (x) == (x0.aA.aE) then ((fo cs st)>>=fun JG=>(some (Out.ret (JG.1,cs,JG.2)))) else ((idx x0.aE (x))>>=fun VF=>((idx x1.aE (x))>>=fun D3=>((kK x0.aC (VF) (D3))>>=fun NG=>(ai (af 0 (aj (fun s=>gE al rc x0 x1 x NG s) ((0:Int),cs,st))) (fun s=>(some (Out.ret (true,s.2.1,s.2.2)))))))))
def eM {σ:Type} (al:Int→Option Bool) (fo:List Int→σ→Option (Bool×σ)) (x0 x1:aN):Nat→Int→List Int→σ→Option (Bool×List Int×σ)
 | 0=>fun _ _ _=>none
 | n+1=>iQ al fo x0 x1 (eM al fo x0 x1 n)
def kL {σ:Type} (al:Int→Option Bool) (fo:List Int→σ→Option (Bool×σ)) (x0 x1:aN) (st:σ):Option (Bool×σ):=
 ao (S:=Unit) ((mk 8 (x0.aA.aE))>>=fun n23=>((eM al fo x0 x1 64 (0:Int) (List.replicate n23 (0:Int)) st)>>=fun xY=>(some (Out.ret (xY.1,xY.2.2)))))
def lQ (x0:aN) (x1:aN) (x2:Int):Option ((List (List Int))×Bool):=
 ao (S:=Unit) ((kL (fun a0=>iU a0) (fun a0 a1=>eW a0 a1 x2) x0 x1 ([]:(List (List Int))))>>=fun AJ=>(some (Out.ret (AJ.2,AJ.1))))
def gW (x0:aN) (x1:aN):Option ((List (List Int))×Int):=
 ao (S:=Unit) ((kJ x0 x1)>>=fun sT=>(bif (sT) != ((0:Int)) then (some (Out.ret ((([]),sT)))) else ((lQ x0 x1 ((200:Int)))>>=fun nz=>(bif !(nz.2) then (some (Out.ret ((([]),((3:Int)))))) else (some (Out.ret ((nz.1,((0:Int))))))))))
def iR (x0:aP):Option (Bool):=
 ao (S:=Unit) ((fB x0)>>=fun y8=>(some (Out.ret (y8))))
def lR (x0:(List Int)):Option (Bool):=
 ao (S:=Unit) ((rC x0)>>=fun y3=>(bif y3 then (some (Out.ret (true))) else ((fV x0)>>=fun dg=>((dN dg.1 dg.2)>>=fun D7=>((gS dg.1 dg.2)>>=fun RM=>(((bif (D7.2) != (RM.2) then (some (true)) else ((iP D7.1 RM.1)>>=fun X2=>(some (!(X2))))))>>=fun X3=>(bif X3 then (some (Out.ret (false))) else (bif (D7.2) != ((0:Int)) then (some (Out.ret (true))) else ((fZ dg.1.aA)>>=fun RN=>((dN RN.1 dg.1)>>=fun RP=>((gW dg.2.aC dg.1.aA)>>=fun Lk=>(((bif (ak (RN.2+RP.2)) != ((0:Int)) then (some (true)) else ((iP RP.1 dg.1)>>=fun X4=>(bif !(X4) then (some (true)) else ((iR D7.1)>>=fun X5=>(some (!(X5))))))))>>=fun X6=>(bif X6 then (some (Out.ret (false))) else (((bif (Lk.2) != ((0:Int)) then (some (true)) else (some (((Lk.1.length:Int)) == ((0:Int))))))>>=fun X7=>(bif X7 then (some (Out.ret (true))) else ((idx Lk.1 ((0:Int)))>>=fun RQ=>((dN D7.1 (aP.mk dg.2.aC dg.1.aA RQ))>>=fun RR=>((dN dg.2 (aP.mk dg.2.aC dg.1.aA RQ))>>=fun NN=>((dN dg.1 NN.1)>>=fun NO=>(((bif (ak (ak (RR.2+NN.2)+NO.2)) == ((0:Int)) then ((iP RR.1 NO.1)>>=fun V7=>(some (V7))) else (some (false))))>>=fun V8=>(some (Out.ret (V8)))))))))))))))))))))))
end
end Go.Proofs.YtkcpiblgpnjanaaGreat
