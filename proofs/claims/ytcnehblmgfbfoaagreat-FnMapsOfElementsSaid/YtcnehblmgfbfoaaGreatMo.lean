/- Models, printed by a program: what each function computes, on plain data. No condition. -/
import Derived.Test.YtcnehblmgfbfoaaGreatLj
import Derived.Test.YtcnehblmgfbfoaaGreatLn
import Derived.Test.YtcnehblmgfbfoaaGreatLq
namespace Go.Proofs.YtcnehblmgfbfoaaGreat
open Go Go.Li
set_option linter.unusedVariables false
noncomputable section
structure aL where
 Code:(List Int)
 At:Int
 aj:Int
structure aH where
 aD:Int
 aG:(List Int)
 To:(List Int)
 aI:(List Int)
 aB:(List (List Int))
structure cG where
 aG:Int
 To:Int
 rv:(List Int)
structure aK where
 aC:aH
 aP:(List Int)
 aO:(List (List Int))
structure cI where
 F:aK
 G:aK
 pg:Bool
 nz:Int
 Found:(List (List (List Int)))
structure bX where
 aF:aK
 aM:aK
 cD:(List (List Int))
structure rO where
 aG:Int
 To:Int
structure aY where
 aF:aH
 aM:aH
 aD:(List Int)
 bc:(List Int)
structure dF where
 C:aH
 aD:(List (List Int))
 bc:(List (List Int))
def rD (x0:(List Int)):Option (Bool):=
 ao (S:=Unit) (some (Out.ret ((decide ((x0.length:Int) > (4096:Int))))))
def nT (x0:(List Int)) (br:Int) (C6:Int):Option (Out (Int×Int) ((Option aL))):=
 (((bif decide (br < (x0.length:Int)) then (some (decide (br < (4096:Int)))) else (some (false))))>>=fun g14=>(bif g14 then ((qz .mul .u64 (C6) ((1099511628211:Int)))>>=fun z20=>((idx x0 (br))>>=fun zf=>((qz .add .u64 (z20) (IntKind.u64.wrap zf))>>=fun z23=>((qz .add .u64 (z23) ((7:Int)))>>=fun z24=>(some (Out.norm (ai (br+(1:Int)),z24))))))) else (some (Out.exit 0 (br,C6)))))
def nU (x0:(List Int)):Option ((Option aL)):=
 ao (S:=Unit) ((qz .add .u64 ((7019:Int)) (IntKind.u64.wrap ((x0.length:Int))))>>=fun z3=>(ag (ae 0 (af (fun s=>nT x0 s.1 s.2) ((0:Int),z3))) (fun (br,C6)=>(some (Out.ret ((some (aL.mk x0 ((0:Int)) C6))))))))
def aZ (x0:aL) (x1:Int):Option (Int×aL):=
 ao (S:=Unit) (bif decide (x1 < (1:Int)) then (some (Out.ret ((((0:Int)),x0)))) else ((qz .mul .u64 (x0.aj) ((6364136223846793005:Int)))>>=fun z9=>((qz .add .u64 (z9) ((1442695040888963407:Int)))>>=fun Xp=>((qz .shr .u64 (Xp) ((33:Int)))>>=fun Xq=>((qz .and .u64 (Xq) ((16777215:Int)))>>=fun z16=>(bif decide (x0.At < (x0.Code.length:Int)) then ((idx x0.Code (x0.At))>>=fun DF=>((qz .rem .i64 (ai (IntKind.i64.wrap z16+IntKind.i64.wrap DF)) (x1))>>=fun z30=>(some (Out.ret ((z30,(aL.mk x0.Code (ai (x0.At+(1:Int))) Xp))))))) else ((qz .rem .i64 (IntKind.i64.wrap z16) (x1))>>=fun z33=>(some (Out.ret ((z33,(aL.mk x0.Code x0.At Xp))))))))))))
def lM (x0:aL) (x1:Int) (dq:Int) (np:Int) (nq:Int) (Co:(List Int)):Option (Out (Int×Int×Int×(List Int)) ((List (List Int))×aL)):=
 (bif decide (dq < x1) then ((aZ (aL.mk x0.Code np nq) ((2:Int)))>>=fun O2=>((idx Co (dq))>>=fun Tt=>(some (Out.norm (ai (dq+(1:Int)),O2.2.At,O2.2.aj,Co.set (dq).toNat (O2.1)))))) else (some (Out.exit 2 (dq,np,nq,Co))))
def lN (x0:aL) (x1:Int) (ba:(List (List Int))) (ey:Int) (jt:Int) (ju:Int):Option (Out ((List (List Int))×Int×Int×Int) ((List (List Int))×aL)):=
 (bif decide (ey < x1) then ((mk 8 (x1))>>=fun n21=>((idx (List.replicate n21 (0:Int)) (ey))>>=fun Ji=>(ag (ae 2 (af (fun s=>lM x0 x1 s.1 s.2.1 s.2.2.1 s.2.2.2) (ai (ey+(1:Int)),jt,ju,(List.replicate n21 (0:Int)).set (ey).toNat ((1:Int))))) (fun (dq,np,nq,Co)=>((fits 24 (ba.length+1))>>=fun n78=>(some (Out.norm (ba++[Co],ai (ey+(1:Int)),np,nq)))))))) else (some (Out.exit 0 (ba,ey,jt,ju))))
def pO (x1:Int) (bw:Int) (cy:Int) (jd:Int) (uQ:(List (List Int))):Option (Out (Int×(List (List Int))) ((List (List Int))×aL)):=
 (bif decide (jd < x1) then ((((idx uQ (cy))>>=fun acH=>((idx acH (bw))>>=fun acI=>(bif (acI) == ((1:Int)) then ((idx uQ (bw))>>=fun acJ=>((idx acJ (jd))>>=fun acK=>(some ((acK) == ((1:Int)))))) else (some (false))))))>>=fun acL=>(bif acL then ((idx uQ (cy))>>=fun Xr=>((idx Xr (jd))>>=fun aqk=>(some (Out.norm (ai (jd+(1:Int)),uQ.set (cy).toNat (Xr.set (jd).toNat ((1:Int)))))))) else (some (Out.norm (ai (jd+(1:Int)),uQ))))) else (some (Out.exit 8 (jd,uQ))))
def pP (x1:Int) (bw:Int) (cy:Int) (C7:(List (List Int))):Option (Out (Int×(List (List Int))) ((List (List Int))×aL)):=
 (bif decide (cy < x1) then (ag (ae 8 (af (fun s=>pO x1 bw cy s.1 s.2) ((0:Int),C7))) (fun (jd,uQ)=>(some (Out.norm (ai (cy+(1:Int)),uQ))))) else (some (Out.exit 6 (cy,C7))))
def pQ (x1:Int) (bw:Int) (C8:(List (List Int))):Option (Out (Int×(List (List Int))) ((List (List Int))×aL)):=
 (bif decide (bw < x1) then (ag (ae 6 (af (fun s=>pP x1 bw s.1 s.2) ((0:Int),C8))) (fun (cy,C7)=>(some (Out.norm (ai (bw+(1:Int)),C7))))) else (some (Out.exit 4 (bw,C8))))
def pR (x1:Int) (zI:Int) (xm:Int) (zg:Int) (wG:(List (List Int))):Option (Out (Int×(List (List Int))) ((List (List Int))×aL)):=
 (bif decide (zg < x1) then ((((idx wG (xm))>>=fun acM=>((idx acM (zI))>>=fun acN=>(bif (acN) == ((1:Int)) then ((idx wG (zI))>>=fun acO=>((idx acO (zg))>>=fun acP=>(some ((acP) == ((1:Int)))))) else (some (false))))))>>=fun acQ=>(bif acQ then ((idx wG (xm))>>=fun Xs=>((idx Xs (zg))>>=fun aql=>(some (Out.norm (ai (zg+(1:Int)),wG.set (xm).toNat (Xs.set (zg).toNat ((1:Int)))))))) else (some (Out.norm (ai (zg+(1:Int)),wG))))) else (some (Out.exit 8 (zg,wG))))
def pS (x1:Int) (zI:Int) (xm:Int) (Fm:(List (List Int))):Option (Out (Int×(List (List Int))) ((List (List Int))×aL)):=
 (bif decide (xm < x1) then (ag (ae 8 (af (fun s=>pR x1 zI xm s.1 s.2) ((0:Int),Fm))) (fun (zg,wG)=>(some (Out.norm (ai (xm+(1:Int)),wG))))) else (some (Out.exit 6 (xm,Fm))))
def pT (x1:Int) (zI:Int) (Fq:(List (List Int))):Option (Out (Int×(List (List Int))) ((List (List Int))×aL)):=
 (bif decide (zI < x1) then (ag (ae 6 (af (fun s=>pS x1 zI s.1 s.2) ((0:Int),Fq))) (fun (xm,Fm)=>(some (Out.norm (ai (zI+(1:Int)),Fm))))) else (some (Out.exit 4 (zI,Fq))))
def nV (x1:Int) (zJ:Int) (xn:Int) (wH:Int) (uS:(List (List Int))):Option (Out (Int×(List (List Int))) ((List (List Int))×aL)):=
 (bif decide (wH < x1) then ((((idx uS (xn))>>=fun Jj=>((idx Jj (zJ))>>=fun Gv=>(bif (Gv) == ((1:Int)) then ((idx uS (zJ))>>=fun Rl=>((idx Rl (wH))>>=fun Rm=>(some ((Rm) == ((1:Int)))))) else (some (false))))))>>=fun acR=>(bif acR then ((idx uS (xn))>>=fun Xt=>((idx Xt (wH))>>=fun aqm=>(some (Out.norm (ai (wH+(1:Int)),uS.set (xn).toNat (Xt.set (wH).toNat ((1:Int)))))))) else (some (Out.norm (ai (wH+(1:Int)),uS))))) else (some (Out.exit 8 (wH,uS))))
def pU (x1:Int) (zJ:Int) (xn:Int) (Ft:(List (List Int))):Option (Out (Int×(List (List Int))) ((List (List Int))×aL)):=
 (bif decide (xn < x1) then (ag (ae 8 (af (fun s=>nV x1 zJ xn s.1 s.2) ((0:Int),Ft))) (fun (wH,uS)=>(some (Out.norm (ai (xn+(1:Int)),uS))))) else (some (Out.exit 6 (xn,Ft))))
def pV (x1:Int) (zJ:Int) (Fu:(List (List Int))):Option (Out (Int×(List (List Int))) ((List (List Int))×aL)):=
 (bif decide (zJ < x1) then (ag (ae 6 (af (fun s=>pU x1 zJ s.1 s.2) ((0:Int),Fu))) (fun (xn,Ft)=>(some (Out.norm (ai (zJ+(1:Int)),Ft))))) else (some (Out.exit 4 (zJ,Fu))))
def iR (x0:aL) (x1:Int):Option ((List (List Int))×aL):=
 ao (S:=Unit) (ag (ae 0 (af (fun s=>lN x0 x1 s.1 s.2.1 s.2.2.1 s.2.2.2) (([]:(List (List Int))),(0:Int),x0.At,x0.aj))) (fun (ba,ey,jt,ju)=>(bif decide (x1 > (1:Int)) then ((aZ (aL.mk x0.Code jt ju) ((4:Int)))>>=fun O3=>(bif (O3.1) == ((0:Int)) then ((idx ba (ai (x1 - (1:Int))))>>=fun K8=>((aZ (aL.mk x0.Code O3.2.At O3.2.aj) (x1))>>=fun MD=>((idx K8 (MD.1))>>=fun D9=>(ag (ae 4 (af (fun s=>pQ x1 s.1 s.2) ((0:Int),ba.set (ai (x1 - (1:Int))).toNat (K8.set (MD.1).toNat ((1:Int)))))) (fun (bw,C8)=>(some (Out.ret ((C8,(aL.mk x0.Code MD.2.At MD.2.aj)))))))))) else (ag (ae 4 (af (fun s=>pT x1 s.1 s.2) ((0:Int),ba))) (fun (zI,Fq)=>(some (Out.ret ((Fq,(aL.mk x0.Code O3.2.At O3.2.aj))))))))) else (ag (ae 4 (af (fun s=>pV x1 s.1 s.2) ((0:Int),ba))) (fun (zJ,Fu)=>(some (Out.ret ((Fu,(aL.mk x0.Code jt ju))))))))))
def nG (x0:(List (List Int))) (ey:Int) (gy:(List Int)) (dq:Int) (sX:(List Int)) (vS:(List Int)):Option (Out ((List Int)×Int×(List Int)×(List Int)) (aH)):=
 (bif decide (dq < (x0.length:Int)) then ((fits 8 (gy.length+1))>>=fun n185=>((idx x0 (ey))>>=fun acS=>((idx acS (dq))>>=fun acT=>(bif (acT) == ((1:Int)) then ((fits 8 (sX.length+1))>>=fun n229=>((fits 8 (vS.length+1))>>=fun n265=>(some (Out.norm (gy++[(sX.length:Int)],ai (dq+(1:Int)),sX++[ey],vS++[dq]))))) else (some (Out.norm (gy++[(sX.length:Int)],ai (dq+(1:Int)),sX,vS))))))) else (some (Out.exit 2 (gy,dq,sX,vS))))
def nH (x0:(List (List Int))) (br:(List (List Int))) (ey:Int) (n4:(List Int)) (qk:(List Int)):Option (Out ((List (List Int))×Int×(List Int)×(List Int)) (aH)):=
 (bif decide (ey < (x0.length:Int)) then (ag (ae 2 (af (fun s=>nG x0 ey s.1 s.2.1 s.2.2.1 s.2.2.2) (([]:(List Int)),(0:Int),n4,qk))) (fun (gy,dq,sX,vS)=>((fits 24 (br.length+1))>>=fun n306=>(some (Out.norm (br++[gy],ai (ey+(1:Int)),sX,vS)))))) else (some (Out.exit 0 (br,ey,n4,qk))))
def nI (x0:(List (List Int))) (br:(List (List Int))) (bw:Int) (yd:(List Int)):Option (Out (Int×(List Int)) (aH)):=
 (bif decide (bw < (x0.length:Int)) then ((idx br (bw))>>=fun Xu=>((idx Xu (bw))>>=fun Xv=>((fits 8 (yd.length+1))>>=fun aqn=>(some (Out.norm (ai (bw+(1:Int)),yd++[Xv])))))) else (some (Out.exit 4 (bw,yd))))
def nJ (br:(List (List Int))) (n4:(List Int)) (qk:(List Int)) (cy:Int) (jd:(List Int)) (iq:Int):Option (Out ((List Int)×Int) (aH)):=
 (bif decide (iq < (n4.length:Int)) then ((idx qk (cy))>>=fun acU=>((idx n4 (iq))>>=fun acV=>(bif (acU) == (acV) then ((idx n4 (cy))>>=fun acW=>((idx br (acW))>>=fun acX=>((idx qk (iq))>>=fun acY=>((idx acX (acY))>>=fun acZ=>((fits 8 (jd.length+1))>>=fun aqo=>(some (Out.norm (jd++[acZ],ai (iq+(1:Int)))))))))) else ((fits 8 (jd.length+1))>>=fun aqp=>(some (Out.norm (jd++[(-1:Int)],ai (iq+(1:Int))))))))) else (some (Out.exit 8 (jd,iq))))
def nK (br:(List (List Int))) (n4:(List Int)) (qk:(List Int)) (cy:Int) (ye:(List (List Int))):Option (Out (Int×(List (List Int))) (aH)):=
 (bif decide (cy < (n4.length:Int)) then (ag (ae 8 (af (fun s=>nJ br n4 qk cy s.1 s.2) (([]:(List Int)),(0:Int)))) (fun (jd,iq)=>((fits 24 (ye.length+1))>>=fun aqq=>(some (Out.norm (ai (cy+(1:Int)),ye++[jd])))))) else (some (Out.exit 6 (cy,ye))))
def eB (x0:(List (List Int))):Option (aH):=
 ao (S:=Unit) (ag (ae 0 (af (fun s=>nH x0 s.1 s.2.1 s.2.2.1 s.2.2.2) (([]:(List (List Int))),(0:Int),([]:(List Int)),([]:(List Int))))) (fun (br,ey,n4,qk)=>(ag (ae 4 (af (fun s=>nI x0 br s.1 s.2) ((0:Int),([]:(List Int))))) (fun (bw,yd)=>(ag (ae 6 (af (fun s=>nK br n4 qk s.1 s.2) ((0:Int),([]:(List (List Int)))))) (fun (cy,ye)=>(some (Out.ret ((aH.mk ((x0.length:Int)) n4 qk yd ye))))))))))
def eG (x0:(List Int)):Option ((List Int)):=
 ao (S:=Unit) ((fits 8 ((([]:(List Int))).length+x0.length))>>=fun n15=>(some (Out.ret ((([]:(List Int))++x0)))))
def gA (x0:(List Int)) (x1:(List Int)) (ba:Int):Option (Out (Int) (Bool)):=
 (((bif decide (ba < (x0.length:Int)) then (some (decide (ba < (x1.length:Int)))) else (some (false))))>>=fun g6=>(bif g6 then ((idx x0 (ba))>>=fun O4=>((idx x1 (ba))>>=fun yf=>(bif (O4) != (yf) then ((idx x0 (ba))>>=fun Xw=>((idx x1 (ba))>>=fun zf=>(some (Out.ret ((decide (Xw < zf))))))) else (some (Out.norm (ai (ba+(1:Int)))))))) else (some (Out.exit 0 (ba)))))
def qV (x0:(List Int)) (x1:(List Int)):Option (Bool):=
 ao (S:=Unit) (ag (ae 0 (af (gA x0 x1) ((0:Int)))) (fun ba=>(some (Out.ret ((decide ((x0.length:Int) < (x1.length:Int))))))))
def mN (x0:cG) (x1:cG):Option (Bool):=
 ao (S:=Unit) (bif (x0.aG) != (x1.aG) then (some (Out.ret ((decide (x0.aG < x1.aG))))) else (bif (x0.To) != (x1.To) then (some (Out.ret ((decide (x0.To < x1.To))))) else ((qV x0.rv x1.rv)>>=fun Fv=>(some (Out.ret (Fv))))))
def pW (x0:Int) (s0:(List cG)) (s1:Int):Option (Out ((List cG)×Int) ((List cG))):=
 (bif decide (s1 < x0) then ((fits 40 (s0.length+1))>>=fun n26=>(some (Out.norm (s0++[cG.mk s1 s1 []],ai (s1+(1:Int)))))) else (some (Out.exit 0 (s0,s1))))
def mO (x1:(List Int)) (x2:(List Int)) (s1:Int) (s0:(List cG)) (s2:Int):Option (Out ((List cG)×Int) ((List cG))):=
 (bif decide (s2 < (x1.length:Int)) then ((idx x1 (s2))>>=fun O5=>((idx s0 (s1))>>=fun xa=>(bif (O5) == (xa.To) then ((idx s0 (s1))>>=fun O6=>((idx x2 (s2))>>=fun Xx=>((idx s0 (s1))>>=fun O7=>((eG O7.rv)>>=fun y69=>((fits 8 (y69.length+1))>>=fun n72=>((fits 40 (s0.length+1))>>=fun n75=>(some (Out.norm (s0++[cG.mk O6.aG Xx (y69++[s2])],ai (s2+(1:Int))))))))))) else (some (Out.norm (s0,ai (s2+(1:Int)))))))) else (some (Out.exit 4 (s0,s2))))
def pX (x1:(List Int)) (x2:(List Int)) (s0:(List cG)) (s1:Int):Option (Out ((List cG)×Int) ((List cG))):=
 (((bif decide (s1 < (s0.length:Int)) then (some (decide ((s0.length:Int)≤(40:Int)))) else (some (false))))>>=fun g31=>(bif g31 then (ag (ae 4 (af (fun s=>mO x1 x2 s1 s.1 s.2) (s0,(0:Int)))) (fun (s0,s2)=>(some (Out.norm (s0,ai (s1+(1:Int))))))) else (some (Out.exit 2 (s0,s1)))))
def pY (s0:(List cG)) (s1:Int):Option (Out ((List cG)×Int) ((List cG))):=
 (((bif decide ((0:Int) < s1) then ((idx s0 (s1))>>=fun K9=>((idx s0 (ai (s1 - (1:Int))))>>=fun Fw=>((mN K9 Fw)>>=fun Jk=>(some (Jk))))) else (some (false))))>>=fun g85=>(bif g85 then ((idx s0 (s1))>>=fun Ro=>((idx s0 (ai (s1 - (1:Int))))>>=fun D9=>((idx s0 (s1))>>=fun ME=>((idx (s0.set (s1).toNat D9) (ai (s1 - (1:Int))))>>=fun Xy=>(some (Out.norm ((s0.set (s1).toNat D9).set (ai (s1 - (1:Int))).toNat Ro,ai (s1 - (1:Int))))))))) else (some (Out.exit 8 (s0,s1)))))
def pZ (s0:(List cG)) (s1:Int):Option (Out ((List cG)×Int) ((List cG))):=
 (bif decide (s1 < (s0.length:Int)) then (ag (ae 8 (af (fun s=>pY s.1 s.2) (s0,s1))) (fun (s0,s2)=>(some (Out.norm (s0,ai (s1+(1:Int))))))) else (some (Out.exit 6 (s0,s1))))
def qI (x0:Int) (x1:(List Int)) (x2:(List Int)):Option ((List cG)):=
 ao (S:=Unit) (ag (ae 0 (af (fun s=>pW x0 s.1 s.2) (([]:(List cG)),(0:Int)))) (fun (s0,s1)=>(ag (ae 2 (af (fun s=>pX x1 x2 s.1 s.2) (s0,(0:Int)))) (fun (s0,s1)=>(ag (ae 6 (af (fun s=>pZ s.1 s.2) (s0,(1:Int)))) (fun (s0,s1)=>(some (Out.ret (s0)))))))))
def eT (x0:aH):Option (Bool):=
 ao (S:=Unit) (((bif decide (x0.aD≤(8:Int)) then (some (decide ((x0.aG.length:Int)≤(40:Int)))) else (some (false))))>>=fun g8=>(some (Out.ret (g8))))
def qY (x0:(List Int)) (x1:(List Int)) (ba:Int):Option (Out (Int) (Bool)):=
 (bif decide (ba < (x0.length:Int)) then ((idx x0 (ba))>>=fun yf=>((idx x1 (ba))>>=fun ub=>(bif (yf) != (ub) then (some (Out.ret (false))) else (some (Out.norm (ai (ba+(1:Int)))))))) else (some (Out.exit 0 (ba))))
def fI (x0:(List Int)) (x1:(List Int)):Option (Bool):=
 ao (S:=Unit) (bif ((x0.length:Int)) != ((x1.length:Int)) then (some (Out.ret (false))) else (ag (ae 0 (af (qY x0 x1) ((0:Int)))) (fun ba=>(some (Out.ret (true))))))
def nL (y8:(List cG)) (lj:Int) (sY:(List Int)) (sZ:(List Int)) (wI:(List Int)):Option (Out (Int×(List Int)×(List Int)×(List Int)) (aH)):=
 (bif decide (lj < (y8.length:Int)) then ((idx y8 (lj))>>=fun Xz=>((fits 8 (sY.length+1))>>=fun n134=>((idx y8 (lj))>>=fun XA=>((fits 8 (sZ.length+1))>>=fun n173=>((idx y8 (lj))>>=fun ac0=>(bif ((ac0.rv.length:Int)) == ((0:Int)) then ((idx y8 (lj))>>=fun Gw=>((idx wI (Gw.aG))>>=fun XB=>(some (Out.norm (ai (lj+(1:Int)),sY++[Xz.aG],sZ++[XA.To],wI.set (Gw.aG).toNat (lj)))))) else (some (Out.norm (ai (lj+(1:Int)),sY++[Xz.aG],sZ++[XA.To],wI))))))))) else (some (Out.exit 0 (lj,sY,sZ,wI))))
def nM (y8:(List cG)) (vk:Int) (MG:(List Int)) (Gv:cG) (HE:Int) (sC:Int):Option (Out (Int×Int) (aH)):=
 (bif decide (sC < (y8.length:Int)) then ((((idx y8 (sC))>>=fun ac4=>((idx y8 (vk))>>=fun Rp=>(bif (ac4.aG) == (Rp.aG) then ((idx y8 (sC))>>=fun ac5=>((fI ac5.rv (MG++Gv.rv))>>=fun ac6=>(some (ac6)))) else (some (false))))))>>=fun ac7=>(bif ac7 then (some (Out.norm (sC,ai (sC+(1:Int))))) else (some (Out.norm (HE,ai (sC+(1:Int))))))) else (some (Out.exit 6 (HE,sC))))
def nN (y8:(List cG)) (vk:Int) (ue:(List Int)) (tz:Int):Option (Out ((List Int)×Int) (aH)):=
 (bif decide (tz < (y8.length:Int)) then ((idx y8 (vk))>>=fun ac8=>((idx y8 (tz))>>=fun Rq=>(bif (ac8.To) == (Rq.aG) then ((idx y8 (vk))>>=fun ac9=>((eG ac9.rv)>>=fun MG=>((idx y8 (tz))>>=fun Gv=>((fits 8 (MG.length+Gv.rv.length))>>=fun aqr=>(ag (ae 6 (af (fun s=>nM y8 vk MG Gv s.1 s.2) ((-1:Int),(0:Int)))) (fun (HE,sC)=>((fits 8 (ue.length+1))>>=fun aqs=>(some (Out.norm (ue++[HE],ai (tz+(1:Int)))))))))))) else ((fits 8 (ue.length+1))>>=fun aqt=>(some (Out.norm (ue++[(-1:Int)],ai (tz+(1:Int))))))))) else (some (Out.exit 4 (ue,tz))))
def kL (y8:(List cG)) (vk:Int) (yg:(List (List Int))):Option (Out (Int×(List (List Int))) (aH)):=
 (bif decide (vk < (y8.length:Int)) then (ag (ae 4 (af (fun s=>nN y8 vk s.1 s.2) (([]:(List Int)),(0:Int)))) (fun (ue,tz)=>((fits 24 (yg.length+1))>>=fun aqu=>(some (Out.norm (ai (vk+(1:Int)),yg++[ue])))))) else (some (Out.exit 2 (vk,yg))))
def jK (x0:Int) (x1:(List Int)) (x2:(List Int)):Option (aH):=
 ao (S:=Unit) ((qI (x0) x1 x2)>>=fun y8=>((mk 8 (x0))>>=fun n36=>(ag (ae 0 (af (fun s=>nL y8 s.1 s.2.1 s.2.2.1 s.2.2.2) ((0:Int),([]:(List Int)),([]:(List Int)),List.replicate n36 (0:Int)))) (fun (lj,sY,sZ,wI)=>((eT (aH.mk x0 sY sZ wI (([]:(List (List Int))))))>>=fun ada=>(bif !(ada) then (some (Out.ret ((aH.mk x0 sY sZ wI (([]:(List (List Int)))))))) else (ag (ae 2 (af (fun s=>kL y8 s.1 s.2) ((0:Int),([]:(List (List Int)))))) (fun (vk,yg)=>(some (Out.ret ((aH.mk x0 sY sZ wI yg))))))))))))
def iO (x0:aL):Option ((List (List Int))×aL):=
 ao (S:=Unit) ((aZ x0 ((8:Int)))>>=fun y5=>(bif (y5.1) == ((0:Int)) then (some (Out.ret (((([[(0:Int)]]:(List (List Int)))),(aL.mk x0.Code y5.2.At y5.2.aj))))) else (bif (y5.1) == ((1:Int)) then (some (Out.ret (((([[(0:Int),(1:Int)],[(1:Int),(0:Int)]]:(List (List Int)))),(aL.mk x0.Code y5.2.At y5.2.aj))))) else (bif (y5.1) == ((2:Int)) then (some (Out.ret (((([[(0:Int),(1:Int)],[(1:Int),(1:Int)]]:(List (List Int)))),(aL.mk x0.Code y5.2.At y5.2.aj))))) else (bif (y5.1) == ((3:Int)) then (some (Out.ret (((([[(0:Int),(1:Int),(2:Int)],[(1:Int),(2:Int),(0:Int)],[(2:Int),(0:Int),(1:Int)]]:(List (List Int)))),(aL.mk x0.Code y5.2.At y5.2.aj))))) else (bif (y5.1) == ((4:Int)) then (some (Out.ret (((([[(0:Int),(1:Int),(2:Int)],[(1:Int),(1:Int),(2:Int)],[(2:Int),(2:Int),(2:Int)]]:(List (List Int)))),(aL.mk x0.Code y5.2.At y5.2.aj))))) else (bif (y5.1) == ((5:Int)) then (some (Out.ret (((([[(0:Int),(1:Int),(2:Int)],[(1:Int),(1:Int),(2:Int)],[(2:Int),(1:Int),(2:Int)]]:(List (List Int)))),(aL.mk x0.Code y5.2.At y5.2.aj))))) else (bif (y5.1) == ((6:Int)) then (some (Out.ret (((([[(0:Int),(1:Int),(2:Int),(3:Int)],[(1:Int),(0:Int),(2:Int),(3:Int)],[(2:Int),(3:Int),(2:Int),(3:Int)],[(3:Int),(2:Int),(2:Int),(3:Int)]]:(List (List Int)))),(aL.mk x0.Code y5.2.At y5.2.aj))))) else (some (Out.ret (((([[(0:Int),(1:Int),(2:Int)],[(1:Int),(2:Int),(2:Int)],[(2:Int),(2:Int),(2:Int)]]:(List (List Int)))),(aL.mk x0.Code y5.2.At y5.2.aj)))))))))))))
def jN (x0:(List (List Int))) (da:(List (List Int))) (br:Int):Option (Out ((List (List Int))×Int) ((List (List Int)))):=
 (bif decide (br < (x0.length:Int)) then ((idx x0 (br))>>=fun tL=>((eG tL)>>=fun ed=>((fits 24 (da.length+1))>>=fun n49=>(some (Out.norm (da++[ed],ai (br+(1:Int)))))))) else (some (Out.exit 0 (da,br))))
def gC (x0:(List (List Int))):Option ((List (List Int))):=
 ao (S:=Unit) (ag (ae 0 (af (fun s=>jN x0 s.1 s.2) (([]:(List (List Int))),(0:Int)))) (fun (da,br)=>(some (Out.ret (da)))))
def iP (x0:(List (List Int))):Option (aH):=
 ao (S:=Unit) ((mk 8 ((x0.length:Int)))>>=fun n10=>((mk 8 ((x0.length:Int)))>>=fun n19=>((gC x0)>>=fun XC=>(some (Out.ret ((aH.mk ((1:Int)) (List.replicate n10 (0:Int)) (List.replicate n19 (0:Int)) ([(0:Int)]) XC)))))))
def nB:Option (aH):=
 ao (S:=Unit) (some (Out.ret ((aH.mk ((2:Int)) (([(0:Int),(1:Int),(0:Int),(0:Int),(1:Int)]:(List Int))) (([(0:Int),(1:Int),(0:Int),(1:Int),(0:Int)]:(List Int))) (([(0:Int),(1:Int)]:(List Int))) (([[(0:Int),(-1:Int),(2:Int),(3:Int),(-1:Int)],[(-1:Int),(1:Int),(-1:Int),(-1:Int),(4:Int)],[(2:Int),(-1:Int),(2:Int),(3:Int),(-1:Int)],[(-1:Int),(3:Int),(-1:Int),(-1:Int),(2:Int)],[(4:Int),(-1:Int),(4:Int),(1:Int),(-1:Int)]]:(List (List Int))))))))
def fJ (x0:aH):Option (aH):=
 ao (S:=Unit) ((eG x0.aG)>>=fun z6=>((eG x0.To)>>=fun Fv=>((eG x0.aI)>>=fun Oz=>((gC x0.aB)>>=fun XD=>(some (Out.ret ((aH.mk x0.aD z6 Fv Oz XD))))))))
def qA (x0:aH) (x1:aH) (ee:Int) (yh:(List Int)):Option (Out (Int×(List Int)) (aH)):=
 (bif decide (ee < x1.aD) then ((idx x1.aI (ee))>>=fun MH=>((fits 8 (yh.length+1))>>=fun n136=>(some (Out.norm (ai (ee+(1:Int)),yh++[ai (MH+(x0.aG.length:Int))]))))) else (some (Out.exit 0 (ee,yh))))
def qB (x1:aH) (nr:Int) (dw:Int) (z7:(List (List Int))):Option (Out (Int×(List (List Int))) (aH)):=
 (bif decide (dw < (x1.aG.length:Int)) then ((idx z7 (nr))>>=fun XE=>((fits 8 (XE.length+1))>>=fun n233=>((idx z7 (nr))>>=fun aqv=>(some (Out.norm (ai (dw+(1:Int)),z7.set (nr).toNat (XE++[(-1:Int)]))))))) else (some (Out.exit 4 (dw,z7))))
def qC (x1:aH) (nr:Int) (Cp:(List (List Int))):Option (Out (Int×(List (List Int))) (aH)):=
 (bif decide (nr < (Cp.length:Int)) then (ag (ae 4 (af (fun s=>qB x1 nr s.1 s.2) ((0:Int),Cp))) (fun (dw,z7)=>(some (Out.norm (ai (nr+(1:Int)),z7))))) else (some (Out.exit 2 (nr,Cp))))
def qD (x0:aH) (iq:(List Int)) (tA:Int):Option (Out ((List Int)×Int) (aH)):=
 (bif decide (tA < (x0.aG.length:Int)) then ((fits 8 (iq.length+1))>>=fun aqw=>(some (Out.norm (iq++[(-1:Int)],ai (tA+(1:Int)))))) else (some (Out.exit 8 (iq,tA))))
def qE (x0:aH) (x1:aH) (fg:Int) (rR:(List Int)) (sD:Int):Option (Out ((List Int)×Int) (aH)):=
 (bif decide (sD < (x1.aG.length:Int)) then ((idx x1.aB (fg))>>=fun adb=>((idx adb (sD))>>=fun Rs=>(bif decide (Rs ≥ (0:Int)) then ((fits 8 (rR.length+1))>>=fun aqx=>(some (Out.norm (rR++[ai (Rs+(x0.aG.length:Int))],ai (sD+(1:Int)))))) else ((fits 8 (rR.length+1))>>=fun aqy=>(some (Out.norm (rR++[Rs],ai (sD+(1:Int))))))))) else (some (Out.exit 10 (rR,sD))))
def qF (x0:aH) (x1:aH) (fg:Int) (yi:(List Int)) (yj:(List Int)) (yk:(List (List Int))):Option (Out (Int×(List Int)×(List Int)×(List (List Int))) (aH)):=
 (bif decide (fg < (x1.aG.length:Int)) then ((idx x1.aG (fg))>>=fun ade=>((fits 8 (yi.length+1))>>=fun n314=>((idx x1.To (fg))>>=fun Rl=>((fits 8 (yj.length+1))>>=fun aqz=>(ag (ae 8 (af (fun s=>qD x0 s.1 s.2) (([]:(List Int)),(0:Int)))) (fun (iq,tA)=>(ag (ae 10 (af (fun s=>qE x0 x1 fg s.1 s.2) (iq,(0:Int)))) (fun (rR,sD)=>((fits 24 (yk.length+1))>>=fun aqA=>(some (Out.norm (ai (fg+(1:Int)),yi++[ai (ade+x0.aD)],yj++[ai (Rl+x0.aD)],yk++[rR])))))))))))) else (some (Out.exit 6 (fg,yi,yj,yk))))
def mZ (x0:aH) (x1:aH):Option (aH):=
 ao (S:=Unit) ((fJ x0)>>=fun zh=>(ag (ae 0 (af (fun s=>qA x0 x1 s.1 s.2) ((0:Int),zh.aI))) (fun (ee,yh)=>(ag (ae 2 (af (fun s=>qC x1 s.1 s.2) ((0:Int),zh.aB))) (fun (nr,Cp)=>(ag (ae 6 (af (fun s=>qF x0 x1 s.1 s.2.1 s.2.2.1 s.2.2.2) ((0:Int),zh.aG,zh.To,Cp))) (fun (fg,yi,yj,yk)=>(some (Out.ret ((aH.mk (ai (x0.aD+x1.aD)) yi yj yh yk)))))))))))
def nW (x0:aH) (x1:aH) (bo:Int) (dq:Int) (ym:(List Int)) (yn:(List Int)):Option (Out (Int×(List Int)×(List Int)) (aH)):=
 (bif decide (dq < x1.aD) then ((fits 8 (ym.length+1))>>=fun n181=>((fits 8 (yn.length+1))>>=fun n217=>(some (Out.norm (ai (dq+(1:Int)),ym++[bo],yn++[ai (x0.aD+dq)]))))) else (some (Out.exit 2 (dq,ym,yn))))
def nX (x0:aH) (x1:aH) (bo:Int) (n5:(List Int)) (ql:(List Int)):Option (Out (Int×(List Int)×(List Int)) (aH)):=
 (bif decide (bo < x0.aD) then (ag (ae 2 (af (fun s=>nW x0 x1 bo s.1 s.2.1 s.2.2) ((0:Int),n5,ql))) (fun (dq,ym,yn)=>(some (Out.norm (ai (bo+(1:Int)),ym,yn))))) else (some (Out.exit 0 (bo,n5,ql))))
def nY (x0:aH) (x1:aH) (ed:aH) (n5:(List Int)) (ql:(List Int)) (dw:Int) (fg:(List Int)) (wb:Int):Option (Out ((List Int)×Int) (aH)):=
 (bif decide (wb < (n5.length:Int)) then ((idx ql (dw))>>=fun adg=>((idx n5 (wb))>>=fun adh=>(bif (adg) != (adh) then ((fits 8 (fg.length+1))>>=fun aqB=>(some (Out.norm (fg++[(-1:Int)],ai (wb+(1:Int)))))) else (((bif decide (dw < (ed.aG.length:Int)) then (some (decide (wb < (ed.aG.length:Int)))) else (some (false))))>>=fun adi=>(bif adi then ((idx ed.aB (dw))>>=fun adj=>((idx adj (wb))>>=fun adk=>((fits 8 (fg.length+1))>>=fun aqC=>(some (Out.norm (fg++[adk],ai (wb+(1:Int)))))))) else ((idx n5 (dw))>>=fun adl=>((idx ql (wb))>>=fun adm=>((fits 8 (fg.length+1))>>=fun aqD=>(some (Out.norm (fg++[ai (ai (ai ((ed.aG.length:Int)+ai (adl * x1.aD))+adm) - x0.aD)],ai (wb+(1:Int))))))))))))) else (some (Out.exit 6 (fg,wb))))
def nZ (x0:aH) (x1:aH) (ed:aH) (n5:(List Int)) (ql:(List Int)) (bw:(List (List Int))) (dw:Int):Option (Out ((List (List Int))×Int) (aH)):=
 (bif decide (dw < (n5.length:Int)) then (ag (ae 6 (af (fun s=>nY x0 x1 ed n5 ql dw s.1 s.2) (([]:(List Int)),(0:Int)))) (fun (fg,wb)=>((fits 24 (bw.length+1))>>=fun aqE=>(some (Out.norm (bw++[fg],ai (dw+(1:Int)))))))) else (some (Out.exit 4 (bw,dw))))
def lV (x0:aH) (x1:aH):Option (aH):=
 ao (S:=Unit) ((mZ x0 x1)>>=fun ed=>(ag (ae 0 (af (fun s=>nX x0 x1 s.1 s.2.1 s.2.2) ((0:Int),ed.aG,ed.To))) (fun (bo,n5,ql)=>(ag (ae 4 (af (fun s=>nZ x0 x1 ed n5 ql s.1 s.2) (([]:(List (List Int))),(0:Int)))) (fun (bw,dw)=>(some (Out.ret ((aH.mk ed.aD n5 ql ed.aI bw)))))))))
def qN (x0:aH) (br:Int) (j9:(List Int)) (j4:Int):Option (Out ((List Int)×Int) (aH)):=
 (bif decide (j4 < (x0.aG.length:Int)) then ((idx x0.aB (j4))>>=fun adn=>((idx adn (br))>>=fun ado=>((fits 8 (j9.length+1))>>=fun n187=>(some (Out.norm (j9++[ado],ai (j4+(1:Int)))))))) else (some (Out.exit 2 (j9,j4))))
def qO (x0:aH) (br:Int) (yo:(List (List Int))):Option (Out (Int×(List (List Int))) (aH)):=
 (bif decide (br < (x0.aG.length:Int)) then (ag (ae 2 (af (fun s=>qN x0 br s.1 s.2) (([]:(List Int)),(0:Int)))) (fun (j9,j4)=>((fits 24 (yo.length+1))>>=fun n222=>(some (Out.norm (ai (br+(1:Int)),yo++[j9])))))) else (some (Out.exit 0 (br,yo))))
def qU (x0:aH):Option (aH):=
 ao (S:=Unit) ((eG x0.To)>>=fun ed=>((eG x0.aG)>>=fun XF=>((eG x0.aI)>>=fun O8=>(ag (ae 0 (af (fun s=>qO x0 s.1 s.2) ((0:Int),([]:(List (List Int)))))) (fun (br,yo)=>(some (Out.ret ((aH.mk x0.aD ed XF O8 yo)))))))))
def mS (Cq:Int×aL) (j4:(List Int)) (gy:Int):Option (Out ((List Int)×Int) (aH×aL)):=
 (bif decide (gy < ai ((1:Int)+Cq.1)) then ((fits 8 (j4.length+1))>>=fun aqF=>(some (Out.norm (j4++[(1:Int)],ai (gy+(1:Int)))))) else (some (Out.exit 3 (j4,gy))))
def mT (Cq:Int×aL) (br:(List (List Int))) (ba:Int):Option (Out ((List (List Int))×Int) (aH×aL)):=
 (bif decide (ba < ai ((1:Int)+Cq.1)) then (ag (ae 3 (af (fun s=>mS Cq s.1 s.2) (([]:(List Int)),(0:Int)))) (fun (j4,gy)=>((fits 24 (br.length+1))>>=fun aqG=>(some (Out.norm (br++[j4],ai (ba+(1:Int)))))))) else (some (Out.exit 1 (br,ba))))
def mU (x0:aL) (AT:Int×aL) (bw:(List Int)) (dw:(List Int)) (ue:Int) (oK:Int) (o3:Int):Option (Out ((List Int)×(List Int)×Int×Int×Int) (aH×aL)):=
 (bif decide (ue > (0:Int)) then ((aZ (aL.mk x0.Code oK o3) (ai (ai ((2:Int)+AT.1) - (1:Int))))>>=fun Fx=>((fits 8 (bw.length+1))>>=fun aoY=>((aZ (aL.mk x0.Code Fx.2.At Fx.2.aj) (ai (ai (ai ((2:Int)+AT.1) - (1:Int)) - Fx.1)))>>=fun MI=>((fits 8 (dw.length+1))>>=fun aoZ=>(some (Out.norm (bw++[Fx.1],dw++[ai (ai (Fx.1+(1:Int))+MI.1)],ai (ue - (1:Int)),MI.2.At,MI.2.aj))))))) else (some (Out.exit 5 (bw,dw,ue,oK,o3))))
def gR (x0:aL):Option (aH×aL):=
 ao (S:=Unit) ((aZ x0 ((12:Int)))>>=fun bh=>(bif (bh.1) == ((0:Int)) then ((aZ (aL.mk x0.Code bh.2.At bh.2.aj) ((5:Int)))>>=fun Jl=>((iR (aL.mk x0.Code Jl.2.At Jl.2.aj) (Jl.1))>>=fun Fv=>((eB Fv.1)>>=fun Oz=>(some (Out.ret ((Oz,(aL.mk x0.Code Fv.2.At Fv.2.aj)))))))) else (bif (bh.1) == ((1:Int)) then ((eB [[(1:Int),(1:Int)],[(0:Int),(1:Int)]])>>=fun uc=>(some (Out.ret ((uc,(aL.mk x0.Code bh.2.At bh.2.aj)))))) else (bif (bh.1) == ((2:Int)) then ((eB [[(1:Int),(1:Int),(1:Int)],[(0:Int),(1:Int),(0:Int)],[(0:Int),(0:Int),(1:Int)]])>>=fun adp=>(some (Out.ret ((adp,(aL.mk x0.Code bh.2.At bh.2.aj)))))) else (bif (bh.1) == ((3:Int)) then ((jK ((2:Int)) [(0:Int),(0:Int)] [(1:Int),(1:Int)])>>=fun adq=>(some (Out.ret ((adq,(aL.mk x0.Code bh.2.At bh.2.aj)))))) else (bif (bh.1) == ((4:Int)) then ((iO (aL.mk x0.Code bh.2.At bh.2.aj))>>=fun Ru=>((iP Ru.1)>>=fun adr=>(some (Out.ret ((adr,(aL.mk x0.Code Ru.2.At Ru.2.aj))))))) else (bif (bh.1) == ((5:Int)) then ((aZ (aL.mk x0.Code bh.2.At bh.2.aj) ((3:Int)))>>=fun Cq=>(ag (ae 1 (af (fun s=>mT Cq s.1 s.2) (([]:(List (List Int))),(0:Int)))) (fun (br,ba)=>((eB br)>>=fun ads=>(some (Out.ret ((ads,(aL.mk x0.Code Cq.2.At Cq.2.aj))))))))) else (bif (bh.1) == ((6:Int)) then ((jK ((3:Int)) [(0:Int),(1:Int),(0:Int)] [(1:Int),(2:Int),(2:Int)])>>=fun adu=>(some (Out.ret ((adu,(aL.mk x0.Code bh.2.At bh.2.aj)))))) else (bif (bh.1) == ((7:Int)) then ((nB)>>=fun adv=>(some (Out.ret ((adv,(aL.mk x0.Code bh.2.At bh.2.aj)))))) else (bif (bh.1) == ((8:Int)) then ((iO (aL.mk x0.Code bh.2.At bh.2.aj))>>=fun Rv=>((iP Rv.1)>>=fun adw=>((eB [[(1:Int)]])>>=fun adx=>((lV adw adx)>>=fun ady=>((qU ady)>>=fun adz=>(some (Out.ret ((adz,(aL.mk x0.Code Rv.2.At Rv.2.aj)))))))))) else (bif (bh.1) == ((9:Int)) then ((iO (aL.mk x0.Code bh.2.At bh.2.aj))>>=fun Rw=>((iP Rw.1)>>=fun adA=>((eB [[(1:Int)]])>>=fun adB=>((lV adA adB)>>=fun adC=>(some (Out.ret ((adC,(aL.mk x0.Code Rw.2.At Rw.2.aj))))))))) else (bif (bh.1) == ((10:Int)) then ((aZ (aL.mk x0.Code bh.2.At bh.2.aj) ((2:Int)))>>=fun MJ=>((iR (aL.mk x0.Code MJ.2.At MJ.2.aj) (ai ((2:Int)+MJ.1)))>>=fun MK=>((eB MK.1)>>=fun aaq=>(some (Out.ret ((aaq,(aL.mk x0.Code MK.2.At MK.2.aj)))))))) else ((aZ (aL.mk x0.Code bh.2.At bh.2.aj) ((2:Int)))>>=fun AT=>((aZ (aL.mk x0.Code AT.2.At AT.2.aj) ((4:Int)))>>=fun ML=>(ag (ae 5 (af (fun s=>mU x0 AT s.1 s.2.1 s.2.2.1 s.2.2.2.1 s.2.2.2.2) (([]:(List Int)),([]:(List Int)),ML.1,ML.2.At,ML.2.aj))) (fun (bw,dw,ue,oK,o3)=>((jK (ai ((2:Int)+AT.1)) bw dw)>>=fun aar=>(some (Out.ret ((aar,(aL.mk x0.Code oK o3))))))))))))))))))))))
def lW (x0:aH) (x1:aH) (ee:Int) (nr:Int) (yp:(List Int)):Option (Out (Int×(List Int)) (aH)):=
 (bif decide (nr < x1.aD) then ((idx x0.aI (ee))>>=fun adD=>((idx x1.aI (nr))>>=fun adE=>((fits 8 (yp.length+1))>>=fun n186=>(some (Out.norm (ai (nr+(1:Int)),yp++[ai (ai (adD * (x1.aG.length:Int))+adE)])))))) else (some (Out.exit 2 (nr,yp))))
def lX (x0:aH) (x1:aH) (ee:Int) (AU:(List Int)):Option (Out (Int×(List Int)) (aH)):=
 (bif decide (ee < x0.aD) then (ag (ae 2 (af (fun s=>lW x0 x1 ee s.1 s.2) ((0:Int),AU))) (fun (nr,yp)=>(some (Out.norm (ai (ee+(1:Int)),yp))))) else (some (Out.exit 0 (ee,AU))))
def lY (x0:aH) (x1:aH) (dw:Int) (fg:Int) (tA:Int) (rR:(List Int)) (sD:Int):Option (Out ((List Int)×Int) (aH)):=
 (bif decide (sD < (x1.aG.length:Int)) then ((((idx x0.aB (dw))>>=fun adF=>((idx adF (tA))>>=fun adG=>(bif decide (adG ≥ (0:Int)) then ((idx x1.aB (fg))>>=fun adH=>((idx adH (sD))>>=fun adI=>(some (decide (adI ≥ (0:Int)))))) else (some (false))))))>>=fun adJ=>(bif adJ then ((idx x0.aB (dw))>>=fun adK=>((idx adK (tA))>>=fun adL=>((idx x1.aB (fg))>>=fun adM=>((idx adM (sD))>>=fun adN=>((fits 8 (rR.length+1))>>=fun XG=>(some (Out.norm (rR++[ai (ai (adL * (x1.aG.length:Int))+adN)],ai (sD+(1:Int)))))))))) else ((fits 8 (rR.length+1))>>=fun aqH=>(some (Out.norm (rR++[(-1:Int)],ai (sD+(1:Int)))))))) else (some (Out.exit 10 (rR,sD))))
def lZ (x0:aH) (x1:aH) (dw:Int) (fg:Int) (iq:(List Int)) (tA:Int):Option (Out ((List Int)×Int) (aH)):=
 (bif decide (tA < (x0.aG.length:Int)) then (ag (ae 10 (af (fun s=>lY x0 x1 dw fg tA s.1 s.2) (iq,(0:Int)))) (fun (rR,sD)=>(some (Out.norm (rR,ai (tA+(1:Int))))))) else (some (Out.exit 8 (iq,tA))))
def mA (x0:aH) (x1:aH) (dw:Int) (fg:Int) (yq:(List Int)) (yr:(List Int)) (yt:(List (List Int))):Option (Out (Int×(List Int)×(List Int)×(List (List Int))) (aH)):=
 (bif decide (fg < (x1.aG.length:Int)) then ((idx x0.aG (dw))>>=fun Rx=>((idx x1.aG (fg))>>=fun Jm=>((fits 8 (yq.length+1))>>=fun n318=>((idx x0.To (dw))>>=fun adO=>((idx x1.To (fg))>>=fun Rm=>((fits 8 (yr.length+1))>>=fun aqI=>(ag (ae 8 (af (fun s=>lZ x0 x1 dw fg s.1 s.2) (([]:(List Int)),(0:Int)))) (fun (iq,tA)=>((fits 24 (yt.length+1))>>=fun aqJ=>(some (Out.norm (ai (fg+(1:Int)),yq++[ai (ai (Rx * x1.aD)+Jm)],yr++[ai (ai (adO * x1.aD)+Rm)],yt++[iq])))))))))))) else (some (Out.exit 6 (fg,yq,yr,yt))))
def mB (x0:aH) (x1:aH) (dw:Int) (AV:(List Int)) (AW:(List Int)) (AX:(List (List Int))):Option (Out (Int×(List Int)×(List Int)×(List (List Int))) (aH)):=
 (bif decide (dw < (x0.aG.length:Int)) then (ag (ae 6 (af (fun s=>mA x0 x1 dw s.1 s.2.1 s.2.2.1 s.2.2.2) ((0:Int),AV,AW,AX))) (fun (fg,yq,yr,yt)=>(some (Out.norm (ai (dw+(1:Int)),yq,yr,yt))))) else (some (Out.exit 4 (dw,AV,AW,AX))))
def jO (x0:aH) (x1:aH):Option (aH):=
 ao (S:=Unit) (ag (ae 0 (af (fun s=>lX x0 x1 s.1 s.2) ((0:Int),([]:(List Int))))) (fun (ee,AU)=>(ag (ae 4 (af (fun s=>mB x0 x1 s.1 s.2.1 s.2.2.1 s.2.2.2) ((0:Int),([]:(List Int)),([]:(List Int)),([]:(List (List Int)))))) (fun (dw,AV,AW,AX)=>(some (Out.ret ((aH.mk (ai (x0.aD * x1.aD)) AV AW AU AX))))))))
def oA (x0:aL) (x1:Int) (x2:Int) (bo:Int) (jt:Int) (ju:Int):Option (Out (Int×Int×Int) (aH×aL)):=
 (bif decide (bo < (12:Int)) then ((gR (aL.mk x0.Code jt ju))>>=fun zi=>((aZ (aL.mk x0.Code zi.2.At zi.2.aj) ((5:Int)))>>=fun Jo=>(bif (Jo.1) == ((0:Int)) then ((gR (aL.mk x0.Code Jo.2.At Jo.2.aj))>>=fun XH=>((mZ zi.1 XH.1)>>=fun Cr=>((aZ (aL.mk x0.Code XH.2.At XH.2.aj) ((8:Int)))>>=fun Ea=>(bif (Ea.1) == ((0:Int)) then ((gR (aL.mk x0.Code Ea.2.At Ea.2.aj))>>=fun Jp=>((jO Cr Jp.1)>>=fun Cs=>(((bif decide (Cs.aD≤x1) then (bif decide ((Cs.aG.length:Int)≤x2) then ((eT Cs)>>=fun Gx=>(some (Gx))) else (some (false))) else (some (false))))>>=fun adP=>(bif adP then (some (Out.ret ((Cs,(aL.mk x0.Code Jp.2.At Jp.2.aj))))) else (some (Out.norm (ai (bo+(1:Int)),Jp.2.At,Jp.2.aj))))))) else (((bif decide (Cr.aD≤x1) then (bif decide ((Cr.aG.length:Int)≤x2) then ((eT Cr)>>=fun adQ=>(some (adQ))) else (some (false))) else (some (false))))>>=fun adR=>(bif adR then (some (Out.ret ((Cr,(aL.mk x0.Code Ea.2.At Ea.2.aj))))) else (some (Out.norm (ai (bo+(1:Int)),Ea.2.At,Ea.2.aj))))))))) else ((aZ (aL.mk x0.Code Jo.2.At Jo.2.aj) ((8:Int)))>>=fun AY=>(bif (AY.1) == ((0:Int)) then ((gR (aL.mk x0.Code AY.2.At AY.2.aj))>>=fun Jq=>((jO zi.1 Jq.1)>>=fun MN=>(((bif decide (MN.aD≤x1) then (bif decide ((MN.aG.length:Int)≤x2) then ((eT MN)>>=fun adS=>(some (adS))) else (some (false))) else (some (false))))>>=fun adT=>(bif adT then (some (Out.ret ((MN,(aL.mk x0.Code Jq.2.At Jq.2.aj))))) else (some (Out.norm (ai (bo+(1:Int)),Jq.2.At,Jq.2.aj))))))) else (((bif decide (zi.1.aD≤x1) then (bif decide ((zi.1.aG.length:Int)≤x2) then ((eT zi.1)>>=fun adU=>(some (adU))) else (some (false))) else (some (false))))>>=fun adV=>(bif adV then (some (Out.ret ((zi.1,(aL.mk x0.Code AY.2.At AY.2.aj))))) else (some (Out.norm (ai (bo+(1:Int)),AY.2.At,AY.2.aj)))))))))) else (some (Out.exit 0 (bo,jt,ju))))
def oB (x0:aL) (x1:Int) (x2:Int):Option (aH×aL):=
 ao (S:=Unit) (ag (ae 0 (af (fun s=>oA x0 x1 x2 s.1 s.2.1 s.2.2) ((0:Int),x0.At,x0.aj))) (fun (bo,jt,ju)=>((eB [[(1:Int)]])>>=fun adW=>(some (Out.ret ((adW,(aL.mk x0.Code jt ju))))))))
def mC (x0:aL) (x1:(List Int)):Option (Int×aL):=
 ao (S:=Unit) ((aZ x0 ((x1.length:Int)))>>=fun y6=>((idx x1 (y6.1))>>=fun O4=>(some (Out.ret ((O4,(aL.mk x0.Code y6.2.At y6.2.aj)))))))
def mD (x0:aL) (x1:aH):Option (aH×aL):=
 ao (S:=Unit) ((fJ x1)>>=fun e7=>((aZ x0 ((e7.aG.length:Int)))>>=fun z8=>((aZ (aL.mk x0.Code z8.2.At z8.2.aj) ((8:Int)))>>=fun nt=>(bif (nt.1) == ((0:Int)) then ((mC (aL.mk x0.Code nt.2.At nt.2.aj) ([ai (e7.aD+(1:Int)),(-1:Int),(9:Int)]))>>=fun XI=>(some (Out.ret (((aH.mk XI.1 e7.aG e7.To e7.aI e7.aB),(aL.mk x0.Code XI.2.At XI.2.aj)))))) else (bif (nt.1) == ((1:Int)) then ((fits 8 (e7.aG.length+1))>>=fun n120=>(some (Out.ret (((aH.mk e7.aD (e7.aG++[(0:Int)]) e7.To e7.aI e7.aB),(aL.mk x0.Code nt.2.At nt.2.aj)))))) else (bif (nt.1) == ((2:Int)) then (bif decide ((e7.aI.length:Int) > (0:Int)) then ((aZ (aL.mk x0.Code nt.2.At nt.2.aj) (ai ((e7.aG.length:Int)+(1:Int))))>>=fun Ry=>((idx e7.aI ((0:Int)))>>=fun XJ=>(some (Out.ret (((aH.mk e7.aD e7.aG e7.To (e7.aI.set ((0:Int)).toNat (Ry.1)) e7.aB),(aL.mk x0.Code Ry.2.At Ry.2.aj))))))) else (some (Out.ret ((e7,(aL.mk x0.Code nt.2.At nt.2.aj)))))) else (bif (nt.1) == ((3:Int)) then (bif decide ((e7.aG.length:Int) > (0:Int)) then ((idx e7.aB (z8.1))>>=fun XK=>((aZ (aL.mk x0.Code nt.2.At nt.2.aj) ((e7.aG.length:Int)))>>=fun MO=>((aZ (aL.mk x0.Code MO.2.At MO.2.aj) (ai ((e7.aG.length:Int)+(1:Int))))>>=fun Rz=>((idx XK (MO.1))>>=fun aqK=>(some (Out.ret (((aH.mk e7.aD e7.aG e7.To e7.aI (e7.aB.set (z8.1).toNat (XK.set (MO.1).toNat (ai (Rz.1 - (1:Int)))))),(aL.mk x0.Code Rz.2.At Rz.2.aj))))))))) else (some (Out.ret ((e7,(aL.mk x0.Code nt.2.At nt.2.aj)))))) else (bif (nt.1) == ((4:Int)) then (bif decide ((e7.aG.length:Int) > (0:Int)) then ((idx e7.aB (z8.1))>>=fun XL=>((aZ (aL.mk x0.Code nt.2.At nt.2.aj) ((e7.aG.length:Int)))>>=fun MP=>((aZ (aL.mk x0.Code MP.2.At MP.2.aj) (ai ((e7.aG.length:Int)+(1:Int))))>>=fun RA=>((idx XL (MP.1))>>=fun adX=>(some (Out.ret (((aH.mk e7.aD e7.aG e7.To e7.aI (e7.aB.set (z8.1).toNat (XL.set (MP.1).toNat (ai (RA.1 - (1:Int)))))),(aL.mk x0.Code RA.2.At RA.2.aj))))))))) else (some (Out.ret ((e7,(aL.mk x0.Code nt.2.At nt.2.aj)))))) else (bif (nt.1) == ((5:Int)) then (bif decide ((e7.aG.length:Int) > (0:Int)) then ((idx e7.aB (z8.1))>>=fun XM=>((aZ (aL.mk x0.Code nt.2.At nt.2.aj) ((e7.aG.length:Int)))>>=fun Gy=>((aZ (aL.mk x0.Code Gy.2.At Gy.2.aj) (ai ((e7.aG.length:Int)+(1:Int))))>>=fun RB=>((idx XM (Gy.1))>>=fun adY=>(some (Out.ret (((aH.mk e7.aD e7.aG e7.To e7.aI (e7.aB.set (z8.1).toNat (XM.set (Gy.1).toNat (ai (RB.1 - (1:Int)))))),(aL.mk x0.Code RB.2.At RB.2.aj))))))))) else (some (Out.ret ((e7,(aL.mk x0.Code nt.2.At nt.2.aj)))))) else (bif (nt.1) == ((6:Int)) then (bif decide ((e7.aG.length:Int) > (0:Int)) then ((aZ (aL.mk x0.Code nt.2.At nt.2.aj) (ai (e7.aD+(1:Int))))>>=fun RC=>((idx e7.To (z8.1))>>=fun Xv=>(some (Out.ret (((aH.mk e7.aD e7.aG (e7.To.set (z8.1).toNat (RC.1)) e7.aI e7.aB),(aL.mk x0.Code RC.2.At RC.2.aj))))))) else (some (Out.ret ((e7,(aL.mk x0.Code nt.2.At nt.2.aj)))))) else (bif decide ((e7.aG.length:Int) > (0:Int)) then ((idx e7.aB (z8.1))>>=fun adZ=>((tl adZ ((1:Int)))>>=fun ad0=>((idx e7.aB (z8.1))>>=fun aqL=>(some (Out.ret (((aH.mk e7.aD e7.aG e7.To e7.aI (e7.aB.set (z8.1).toNat ad0)),(aL.mk x0.Code nt.2.At nt.2.aj)))))))) else (some (Out.ret ((e7,(aL.mk x0.Code nt.2.At nt.2.aj))))))))))))))))
def mE (x0:aL) (x1:Int) (x2:Int):Option (aH×aL):=
 ao (S:=Unit) ((oB x0 (x1) (x2))>>=fun bh=>((aZ (aL.mk x0.Code bh.2.At bh.2.aj) ((24:Int)))>>=fun O9=>(bif (O9.1) == ((0:Int)) then ((mD (aL.mk x0.Code O9.2.At O9.2.aj) bh.1)>>=fun Pa=>(some (Out.ret ((Pa.1,(aL.mk x0.Code Pa.2.At Pa.2.aj)))))) else (some (Out.ret ((bh.1,(aL.mk x0.Code O9.2.At O9.2.aj))))))))
def mG (x0:aL):Option (aH×aL):=
 ao (S:=Unit) ((aZ x0 ((3:Int)))>>=fun bh=>(bif (bh.1) == ((0:Int)) then ((mE (aL.mk x0.Code bh.2.At bh.2.aj) ((2:Int)) ((6:Int)))>>=fun Cu=>(some (Out.ret ((Cu.1,(aL.mk x0.Code Cu.2.At Cu.2.aj)))))) else ((mE (aL.mk x0.Code bh.2.At bh.2.aj) ((4:Int)) ((12:Int)))>>=fun XN=>(some (Out.ret ((XN.1,(aL.mk x0.Code XN.2.At XN.2.aj))))))))
def oC (x0:Int) (x1:Int) (x2:Int):Option (Bool):=
 ao (S:=Unit) (((bif decide (x0 ≥ x1) then (some (decide (x0≤x2))) else (some (false))))>>=fun g3=>(some (Out.ret (g3))))
def mP (x0:Int) (x1:(List Int)) (ba:Int):Option (Out (Int) (Bool)):=
 (bif decide (ba < (x1.length:Int)) then ((((idx x1 (ba))>>=fun XO=>(bif decide (XO < (0:Int)) then (some (true)) else ((idx x1 (ba))>>=fun yf=>(some (decide (yf ≥ x0)))))))>>=fun g9=>(bif g9 then (some (Out.ret (false))) else (some (Out.norm (ai (ba+(1:Int))))))) else (some (Out.exit 0 (ba))))
def iM (x0:Int) (x1:(List Int)):Option (Bool):=
 ao (S:=Unit) (ag (ae 0 (af (mP x0 x1) ((0:Int)))) (fun ba=>(some (Out.ret (true)))))
def mH (x0:(List Int)) (x1:Int) (x2:Int):Option (Bool):=
 ao (S:=Unit) (((bif ((x0.length:Int)) == (x1) then ((iM (x2) x0)>>=fun y6=>(some (y6))) else (some (false))))>>=fun g3=>(some (Out.ret (g3))))
def lR (x0:aH) (br:Int):Option (Out (Int) (Bool)):=
 (bif decide (br < x0.aD) then ((((idx x0.aI (br))>>=fun BO=>((idx x0.aG (BO))>>=fun XP=>(bif (XP) != (br) then (some (true)) else ((idx x0.aI (br))>>=fun xa=>((idx x0.To (xa))>>=fun Cv=>(some ((Cv) != (br)))))))))>>=fun XQ=>(bif XQ then (some (Out.ret (false))) else (some (Out.norm (ai (br+(1:Int))))))) else (some (Out.exit 0 (br))))
def lS (x0:aH) (j9:Int) (zK:Int):Option (Out (Int) (Bool)):=
 (bif decide (zK < (x0.aG.length:Int)) then ((idx x0.aB (j9))>>=fun e86=>((idx e86 (zK))>>=fun Fw=>((idx x0.To (j9))>>=fun Pb=>((idx x0.aG (zK))>>=fun XR=>(bif (Pb) != (XR) then (bif (Fw) != ((-1:Int)) then (some (Out.ret (false))) else (some (Out.norm (ai (zK+(1:Int)))))) else (((bif decide (Fw < (0:Int)) then (some (true)) else (bif decide (Fw ≥ (x0.aG.length:Int)) then (some (true)) else ((idx x0.aG (Fw))>>=fun Xy=>((idx x0.aG (j9))>>=fun RD=>(bif (Xy) != (RD) then (some (true)) else ((idx x0.To (Fw))>>=fun ad1=>((idx x0.To (zK))>>=fun ad2=>(some ((ad1) != (ad2)))))))))))>>=fun ad3=>(bif ad3 then (some (Out.ret (false))) else (some (Out.norm (ai (zK+(1:Int)))))))))))) else (some (Out.exit 4 (zK))))
def oD (x0:aH) (j9:Int):Option (Out (Int) (Bool)):=
 (bif decide (j9 < (x0.aG.length:Int)) then ((idx x0.aB (j9))>>=fun Pc=>(bif ((Pc.length:Int)) != ((x0.aG.length:Int)) then (some (Out.ret (false))) else (ag (ae 4 (af (lS x0 j9) ((0:Int)))) (fun zK=>(some (Out.norm (ai (j9+(1:Int))))))))) else (some (Out.exit 2 (j9))))
def oE (x0:aH):Option (Bool):=
 ao (S:=Unit) ((((oC (x0.aD) ((0:Int)) ((8:Int)))>>=fun Pd=>(bif !(Pd) then (some (true)) else (bif decide ((x0.aG.length:Int) > (40:Int)) then (some (true)) else ((mH x0.aG ((x0.aG.length:Int)) (x0.aD))>>=fun z6=>(bif !(z6) then (some (true)) else ((mH x0.To ((x0.aG.length:Int)) (x0.aD))>>=fun uT=>(bif !(uT) then (some (true)) else (some (((x0.aB.length:Int)) != ((x0.aG.length:Int))))))))))))>>=fun g10=>(bif g10 then (some (Out.ret (false))) else (((bif ((x0.aI.length:Int)) != (x0.aD) then (some (true)) else ((iM ((x0.aG.length:Int)) x0.aI)>>=fun Cw=>(some (!(Cw))))))>>=fun g27=>(bif g27 then (some (Out.ret (false))) else (ag (ae 0 (af (lR x0) ((0:Int)))) (fun br=>(ag (ae 2 (af (oD x0) ((0:Int)))) (fun j9=>(some (Out.ret (true)))))))))))
def kM (x0:aH) (bo:Int):Option (Out (Int) (Int×Int×Int×Int)):=
 (bif decide (bo < (x0.aG.length:Int)) then ((((idx x0.aG (bo))>>=fun tL=>((idx x0.aI (tL))>>=fun XS=>((idx x0.aB (XS))>>=fun DF=>((idx DF (bo))>>=fun Fy=>(bif (Fy) != (bo) then (some (true)) else ((idx x0.aB (bo))>>=fun XT=>((idx x0.To (bo))>>=fun Jr=>((idx x0.aI (Jr))>>=fun Js=>((idx XT (Js))>>=fun DG=>(some ((DG) != (bo)))))))))))))>>=fun g16=>(bif g16 then (some (Out.ret ((((1:Int)),bo,((0:Int)),((0:Int)))))) else (some (Out.norm (ai (bo+(1:Int))))))) else (some (Out.exit 0 (bo))))
def iS (x0:aH) (dq:Int) (bw:Int) (cy:Int):Option (Out (Int) (Int×Int×Int×Int)):=
 (bif decide (cy < (x0.aG.length:Int)) then ((((idx x0.To (bw))>>=fun e82=>((idx x0.aG (cy))>>=fun e84=>(bif (e82) == (e84) then ((idx x0.aB (dq))>>=fun Jt=>((idx Jt (bw))>>=fun e94=>((idx x0.aB (e94))>>=fun e96=>((idx e96 (cy))>>=fun MQ=>((idx x0.aB (dq))>>=fun AZ=>((idx x0.aB (bw))>>=fun RE=>((idx RE (cy))>>=fun ad4=>((idx AZ (ad4))>>=fun ad5=>(some ((MQ) != (ad5))))))))))) else (some (false))))))>>=fun XU=>(bif XU then (some (Out.ret ((((2:Int)),dq,bw,cy)))) else (some (Out.norm (ai (cy+(1:Int))))))) else (some (Out.exit 6 (cy))))
def iU (x0:aH) (dq:Int) (bw:Int):Option (Out (Int) (Int×Int×Int×Int)):=
 (bif decide (bw < (x0.aG.length:Int)) then ((idx x0.To (dq))>>=fun Cy=>((idx x0.aG (bw))>>=fun e67=>(bif (Cy) != (e67) then (some (Out.norm (ai (bw+(1:Int))))) else (ag (ae 6 (af (iS x0 dq bw) ((0:Int)))) (fun cy=>(some (Out.norm (ai (bw+(1:Int)))))))))) else (some (Out.exit 4 (bw))))
def nO (x0:aH) (dq:Int):Option (Out (Int) (Int×Int×Int×Int)):=
 (bif decide (dq < (x0.aG.length:Int)) then (ag (ae 4 (af (iU x0 dq) ((0:Int)))) (fun bw=>(some (Out.norm (ai (dq+(1:Int))))))) else (some (Out.exit 2 (dq))))
def nC (x0:aH):Option (Int×Int×Int×Int):=
 ao (S:=Unit) (ag (ae 0 (af (kM x0) ((0:Int)))) (fun bo=>(ag (ae 2 (af (nO x0) ((0:Int)))) (fun dq=>(some (Out.ret ((((0:Int)),((0:Int)),((0:Int)),((0:Int))))))))))
def oF (x0:aH):Option (Bool):=
 ao (S:=Unit) ((oE x0)>>=fun y8=>(bif !(y8) then (some (Out.ret (false))) else ((nC x0)>>=fun Fz=>(some (Out.ret (((Fz.1) == ((0:Int)))))))))
def kB (x0:aH) (x1:Int) (x2:Int):Option (Int):=
 ao (S:=Unit) ((idx x0.aB (x1))>>=fun e8=>((idx e8 (x2))>>=fun DH=>(some (Out.ret (DH)))))
def iV (x0:(List (List Int))) (x1:(List Int)) (ba:Int):Option (Out (Int) (Int)):=
 (bif decide (ba < (x0.length:Int)) then ((idx x0 (ba))>>=fun e9=>((fI e9 x1)>>=fun z6=>(bif z6 then (some (Out.ret (ba))) else (some (Out.norm (ai (ba+(1:Int)))))))) else (some (Out.exit 0 (ba))))
def iI (x0:(List (List Int))) (x1:(List Int)):Option (Int):=
 ao (S:=Unit) (ag (ae 0 (af (iV x0 x1) ((0:Int)))) (fun ba=>(some (Out.ret (((-1:Int)))))))
def oG (x0:aH) (x1:(List Int)) (ey:Int) (gy:Int) (yu:(List (List (List Int)))):Option (Out (Int×(List (List (List Int)))) (aK)):=
 (bif decide (gy < (x0.aG.length:Int)) then ((idx x0.aG (gy))>>=fun O5=>((idx x1 (ey))>>=fun XV=>(bif (O5) == (XV) then ((idx x0.To (gy))>>=fun Tt=>((idx yu (Tt))>>=fun Lb=>((fits 24 (Lb.length+1))>>=fun n69=>((idx yu (Tt))>>=fun Tu=>(some (Out.norm (ai (gy+(1:Int)),yu.set (Tt).toNat (Lb++[[ey,gy]])))))))) else (some (Out.norm (ai (gy+(1:Int)),yu)))))) else (some (Out.exit 2 (gy,yu))))
def oH (x0:aH) (x1:(List Int)) (ey:Int) (s5:(List (List (List Int)))):Option (Out (Int×(List (List (List Int)))) (aK)):=
 (bif decide (ey < (x1.length:Int)) then (ag (ae 2 (af (fun s=>oG x0 x1 ey s.1 s.2) ((0:Int),s5))) (fun (gy,yu)=>(some (Out.norm (ai (ey+(1:Int)),yu))))) else (some (Out.exit 0 (ey,s5))))
def oI (s5:(List (List (List Int)))) (bw:Int) (wJ:(List Int)):Option (Out (Int×(List Int)) (aK)):=
 (bif decide (bw < (s5.length:Int)) then ((idx s5 (bw))>>=fun ad6=>((fits 8 (wJ.length+1))>>=fun n218=>(some (Out.norm (ai (bw+(1:Int)),wJ++[(ad6.length:Int)]))))) else (some (Out.exit 4 (bw,wJ))))
def oJ (x0:aH) (cy:Int) (Ju:(List (List Int))) (Jj:(List (List Int))) (jd:(List Int)) (C9:Int):Option (Out ((List Int)×Int) (aK)):=
 (bif decide (C9 < (Ju.length:Int)) then ((idx Ju (C9))>>=fun A3=>((idx A3 ((0:Int)))>>=fun ad7=>((idx Ju (C9))>>=fun RF=>((idx RF ((1:Int)))>>=fun Rp=>((kB x0 (Rp) (cy))>>=fun ad8=>((iI Jj [ad7,ad8])>>=fun ad9=>((fits 8 (jd.length+1))>>=fun aqM=>(some (Out.norm (jd++[ad9],ai (C9+(1:Int)))))))))))) else (some (Out.exit 8 (jd,C9))))
def oL (x0:aH) (s5:(List (List (List Int)))) (cy:Int) (wK:(List (List Int))):Option (Out (Int×(List (List Int))) (aK)):=
 (bif decide (cy < (x0.aG.length:Int)) then ((idx x0.aG (cy))>>=fun Rq=>((idx s5 (Rq))>>=fun Ju=>((idx x0.To (cy))>>=fun MR=>((idx s5 (MR))>>=fun Jj=>(ag (ae 8 (af (fun s=>oJ x0 cy Ju Jj s.1 s.2) (([]:(List Int)),(0:Int)))) (fun (jd,C9)=>((fits 24 (wK.length+1))>>=fun aqN=>(some (Out.norm (ai (cy+(1:Int)),wK++[jd])))))))))) else (some (Out.exit 6 (cy,wK))))
def oM (x0:aH) (x1:(List Int)):Option (aK):=
 ao (S:=Unit) ((mk 24 (x0.aD))>>=fun n16=>(ag (ae 0 (af (fun s=>oH x0 x1 s.1 s.2) ((0:Int),List.replicate n16 ([]:(List (List Int)))))) (fun (ey,s5)=>((fJ x0)>>=fun y91=>(ag (ae 4 (af (fun s=>oI s5 s.1 s.2) ((0:Int),[]))) (fun (bw,wJ)=>(ag (ae 6 (af (fun s=>oL x0 s5 s.1 s.2) ((0:Int),[]))) (fun (cy,wK)=>(some (Out.ret ((aK.mk y91 wJ wK))))))))))))
def qW (x0:(List Int)) (x1:Int) (ba:Int):Option (Out (Int) (Int)):=
 (bif decide (ba < (x0.length:Int)) then ((idx x0 (ba))>>=fun e9=>(bif (e9) == (x1) then (some (Out.ret (ba))) else (some (Out.norm (ai (ba+(1:Int))))))) else (some (Out.exit 0 (ba))))
def lE (x0:(List Int)) (x1:Int):Option (Int):=
 ao (S:=Unit) (ag (ae 0 (af (qW x0 x1) ((0:Int)))) (fun ba=>(some (Out.ret (((-1:Int)))))))
def mI (x0:(List Int)) (da:(List Int)) (br:(List Int)) (ba:Int):Option (Out ((List Int)×(List Int)×Int) ((List Int))):=
 (bif decide (ba < (x0.length:Int)) then ((idx x0 (ba))>>=fun Fy=>((lE br (Fy))>>=fun Tv=>(bif decide (Tv < (0:Int)) then ((idx x0 (ba))>>=fun FB=>((fits 8 (br.length+1))>>=fun n57=>((fits 8 (da.length+1))>>=fun n77=>(some (Out.norm (da++[(br.length:Int)],br++[FB],ai (ba+(1:Int)))))))) else ((fits 8 (da.length+1))>>=fun n99=>(some (Out.norm (da++[Tv],br,ai (ba+(1:Int))))))))) else (some (Out.exit 0 (da,br,ba))))
def lU (x0:(List Int)):Option ((List Int)):=
 ao (S:=Unit) (ag (ae 0 (af (fun s=>mI x0 s.1 s.2.1 s.2.2) (([]:(List Int)),([]:(List Int)),(0:Int)))) (fun (da,br,ba)=>(some (Out.ret (da)))))
def oN (x0:Int) (ba:(List Int)) (ey:Int):Option (Out ((List Int)×Int) ((List Int))):=
 (bif decide (ey < x0) then ((fits 8 (ba.length+1))>>=fun n32=>(some (Out.norm (ba++[ey],ai (ey+(1:Int)))))) else (some (Out.exit 0 (ba,ey))))
def rG (DI:Int) (Cy:Int) (dw:Int) (wL:(List Int)):Option (Out (Int×(List Int)) ((List Int))):=
 (((bif decide (dw < (wL.length:Int)) then (some ((DI) != (Cy))) else (some (false))))>>=fun XW=>(bif XW then ((idx wL (dw))>>=fun XX=>(bif (XX) == (Cy) then ((idx wL (dw))>>=fun e83=>(some (Out.norm (ai (dw+(1:Int)),wL.set (dw).toNat (DI))))) else (some (Out.norm (ai (dw+(1:Int)),wL))))) else (some (Out.exit 4 (dw,wL)))))
def oO (x1:(List (List Int))) (gy:Int) (Aa:(List Int)):Option (Out (Int×(List Int)) ((List Int))):=
 (bif decide (gy < (x1.length:Int)) then ((idx x1 (gy))>>=fun BO=>((idx BO ((0:Int)))>>=fun Cv=>((idx Aa (Cv))>>=fun DI=>((idx x1 (gy))>>=fun DJ=>((idx DJ ((1:Int)))>>=fun FC=>((idx Aa (FC))>>=fun Cy=>(ag (ae 4 (af (fun s=>rG DI Cy s.1 s.2) ((0:Int),Aa))) (fun (dw,wL)=>(some (Out.norm (ai (gy+(1:Int)),wL))))))))))) else (some (Out.exit 2 (gy,Aa))))
def iW (x0:Int) (x1:(List (List Int))):Option ((List Int)):=
 ao (S:=Unit) (ag (ae 0 (af (fun s=>oN x0 s.1 s.2) (([]:(List Int)),(0:Int)))) (fun (ba,ey)=>(ag (ae 2 (af (fun s=>oO x1 s.1 s.2) ((0:Int),ba))) (fun (gy,Aa)=>((lU Aa)>>=fun Hc=>(some (Out.ret (Hc))))))))
def nP (x0:(List Int)) (da:(List (List Int))) (br:Int):Option (Out ((List (List Int))×Int) ((List (List Int)))):=
 (bif decide (br < (x0.length:Int)) then ((idx x0 (br))>>=fun tL=>((lE x0 (tL))>>=fun Jl=>((fits 24 (da.length+1))>>=fun n35=>(some (Out.norm (da++[([Jl,br]:(List Int))],ai (br+(1:Int)))))))) else (some (Out.exit 0 (da,br))))
def lF (x0:(List Int)):Option ((List (List Int))):=
 ao (S:=Unit) (ag (ae 0 (af (fun s=>nP x0 s.1 s.2) (([]:(List (List Int))),(0:Int)))) (fun (da,br)=>(some (Out.ret (da)))))
def rH (x0:aK) (x1:(List (List (List Int)))) (ba:(List (List Int))) (ey:Int):Option (Out ((List (List Int))×Int) (aK)):=
 (bif decide (ey < (x0.aP.length:Int)) then ((idx x0.aP (ey))>>=fun FD=>((idx x1 (ey))>>=fun Jv=>((iW (FD) Jv)>>=fun He=>((fits 24 (ba.length+1))>>=fun n73=>(some (Out.norm (ba++[He],ai (ey+(1:Int))))))))) else (some (Out.exit 0 (ba,ey))))
def oP (x0:aK) (sn:Int) (AZ:Int) (uq:Int) (fg:Int) (MS:Bool) (iq:Int) (s7:(List (List Int))):Option (Out (Bool×Int×(List (List Int))) (aK)):=
 (bif decide (iq < fg) then ((idx x0.aO (sn))>>=fun aea=>((idx aea (fg))>>=fun XY=>((idx x0.aO (sn))>>=fun aeb=>((idx aeb (iq))>>=fun XZ=>((((idx s7 (AZ))>>=fun RG=>((idx RG (fg))>>=fun aec=>((idx s7 (AZ))>>=fun aed=>((idx aed (iq))>>=fun aee=>(bif (aec) == (aee) then ((idx s7 (uq))>>=fun aef=>((idx aef (XY))>>=fun aeg=>((idx s7 (uq))>>=fun aeh=>((idx aeh (XZ))>>=fun Gw=>(some ((aeg) != (Gw))))))) else (some (false))))))))>>=fun aei=>(bif aei then ((idx x0.aP (uq))>>=fun XB=>((idx s7 (uq))>>=fun aej=>((lF aej)>>=fun Jw=>((fits 24 (Jw.length+1))>>=fun n231=>((iW (XB) (Jw++[([XY,XZ]:(List Int))]))>>=fun aek=>((idx s7 (uq))>>=fun adX=>(some (Out.norm (true,ai (iq+(1:Int)),s7.set (uq).toNat aek))))))))) else (some (Out.norm (MS,ai (iq+(1:Int)),s7))))))))) else (some (Out.exit 8 (MS,iq,s7))))
def oQ (x0:aK) (sn:Int) (AZ:Int) (uq:Int) (MT:Bool) (fg:Int) (Cz:(List (List Int))):Option (Out (Bool×Int×(List (List Int))) (aK)):=
 ((idx Cz (AZ))>>=fun ael=>(bif decide (fg < (ael.length:Int)) then (ag (ae 8 (af (fun s=>oP x0 sn AZ uq fg s.1 s.2.1 s.2.2) (MT,(0:Int),Cz))) (fun (MS,iq,s7)=>(some (Out.norm (MS,ai (fg+(1:Int)),s7))))) else (some (Out.exit 6 (MT,fg,Cz)))))
def oR (x0:aK) (ur:Bool) (sn:Int) (FF:(List (List Int))):Option (Out (Bool×Int×(List (List Int))) (aK)):=
 (bif decide (sn < (x0.aO.length:Int)) then ((idx x0.aC.aG (sn))>>=fun AZ=>((idx x0.aC.To (sn))>>=fun uq=>(ag (ae 6 (af (fun s=>oQ x0 sn AZ uq s.1 s.2.1 s.2.2) (ur,(0:Int),FF))) (fun (MT,fg,Cz)=>(some (Out.norm (MT,ai (sn+(1:Int)),Cz))))))) else (some (Out.exit 4 (ur,sn,FF))))
def oS (x0:aK) (gy:Bool) (nu:(List (List Int))):Option (Out (Bool×(List (List Int))) (aK)):=
 (bif gy then (ag (ae 4 (af (fun s=>oR x0 s.1 s.2.1 s.2.2) (false,(0:Int),nu))) (fun (ur,sn,FF)=>(some (Out.norm (ur,FF))))) else (some (Out.exit 2 (gy,nu))))
def oT (nu:(List (List Int))) (zj:Int) (FG:Int) (FH:Int):Option (Out (Int×Int) (aK)):=
 ((idx nu (zj))>>=fun aem=>(bif decide (FH < (aem.length:Int)) then ((idx nu (zj))>>=fun aen=>((idx aen (FH))>>=fun X0=>(some (Out.norm ((if (ai (X0+(1:Int))) > (FG) then (ai (X0+(1:Int))) else (FG)),ai (FH+(1:Int))))))) else (some (Out.exit 12 (FG,FH)))))
def oU (nu:(List (List Int))) (zj:Int) (rf:(List Int)):Option (Out (Int×(List Int)) (aK)):=
 (bif decide (zj < (nu.length:Int)) then (ag (ae 12 (af (fun s=>oT nu zj s.1 s.2) ((0:Int),(0:Int)))) (fun (FG,FH)=>((fits 8 (rf.length+1))>>=fun aeo=>(some (Out.norm (ai (zj+(1:Int)),rf++[FG])))))) else (some (Out.exit 10 (zj,rf))))
def oV (x0:aK) (nu:(List (List Int))) (xp:Int) (Jx:Int) (RH:Int) (Da:Int) (Ab:(List Int)):Option (Out (Int×(List Int)) (aK)):=
 ((idx nu (Jx))>>=fun aep=>(bif decide (Da < (aep.length:Int)) then ((idx nu (Jx))>>=fun aeq=>((idx aeq (Da))>>=fun X1=>((idx nu (RH))>>=fun aer=>((idx x0.aO (xp))>>=fun aes=>((idx aes (Da))>>=fun aet=>((idx aer (aet))>>=fun aeu=>((idx Ab (X1))>>=fun aqO=>(some (Out.norm (ai (Da+(1:Int)),Ab.set (X1).toNat (aeu))))))))))) else (some (Out.exit 16 (Da,Ab)))))
def oW (x0:aK) (nu:(List (List Int))) (rf:(List Int)) (xp:Int) (wM:(List (List Int))):Option (Out (Int×(List (List Int))) (aK)):=
 (bif decide (xp < (x0.aO.length:Int)) then ((idx x0.aC.aG (xp))>>=fun Jx=>((idx x0.aC.To (xp))>>=fun RH=>((idx rf (Jx))>>=fun aev=>((mk 8 (aev))>>=fun XG=>(ag (ae 16 (af (fun s=>oV x0 nu xp Jx RH s.1 s.2) ((0:Int),List.replicate XG (0:Int)))) (fun (Da,Ab)=>((fits 24 (wM.length+1))>>=fun aqP=>(some (Out.norm (ai (xp+(1:Int)),wM++[Ab])))))))))) else (some (Out.exit 14 (xp,wM))))
def oX (x0:aK) (x1:(List (List (List Int)))):Option (aK):=
 ao (S:=Unit) (ag (ae 0 (af (fun s=>rH x0 x1 s.1 s.2) (([]:(List (List Int))),(0:Int)))) (fun (ba,ey)=>(ag (ae 2 (af (fun s=>oS x0 s.1 s.2) (true,ba))) (fun (gy,nu)=>((fJ x0.aC)>>=fun aew=>(ag (ae 10 (af (fun s=>oU nu s.1 s.2) ((0:Int),[]))) (fun (zj,rf)=>(ag (ae 14 (af (fun s=>oW x0 nu rf s.1 s.2) ((0:Int),[]))) (fun (xp,wM)=>(some (Out.ret ((aK.mk aew rf wM)))))))))))))
def lO (x0:aH) (x1:Int) (ey:Int) (yw:(List Int)):Option (Out (Int×(List Int)) (aK)):=
 (bif decide (ey < x0.aD) then ((fits 8 (yw.length+1))>>=fun n122=>(some (Out.norm (ai (ey+(1:Int)),yw++[x1])))) else (some (Out.exit 0 (ey,yw))))
def lP (x1:Int) (sn:(List Int)) (bw:Int):Option (Out ((List Int)×Int) (aK)):=
 (bif decide (bw < x1) then ((fits 8 (sn.length+1))>>=fun n277=>(some (Out.norm (sn++[bw],ai (bw+(1:Int)))))) else (some (Out.exit 4 (sn,bw))))
def lQ (x0:aH) (x1:Int) (gy:Int) (yx:(List (List Int))):Option (Out (Int×(List (List Int))) (aK)):=
 (bif decide (gy < (x0.aG.length:Int)) then (ag (ae 4 (af (fun s=>lP x1 s.1 s.2) (([]:(List Int)),(0:Int)))) (fun (sn,bw)=>((fits 24 (yx.length+1))>>=fun n316=>(some (Out.norm (ai (gy+(1:Int)),yx++[sn])))))) else (some (Out.exit 2 (gy,yx))))
def kN (x0:aH) (x1:Int):Option (aK):=
 ao (S:=Unit) ((fJ x0)>>=fun z6=>(ag (ae 0 (af (fun s=>lO x0 x1 s.1 s.2) ((0:Int),[]))) (fun (ey,yw)=>(ag (ae 2 (af (fun s=>lQ x0 x1 s.1 s.2) ((0:Int),[]))) (fun (gy,yx)=>(some (Out.ret ((aK.mk z6 yw yx)))))))))
def oY (x0:aL) (x1:aH) (dq:(List Int)) (nr:Int) (np:Int) (nq:Int):Option (Out ((List Int)×Int×Int×Int) (aK×aL)):=
 (((bif decide (nr > (0:Int)) then (some (decide (x1.aD > (0:Int)))) else (some (false))))>>=fun g57=>(bif g57 then ((aZ (aL.mk x0.Code np nq) (x1.aD))>>=fun X2=>((fits 8 (dq.length+1))>>=fun n87=>(some (Out.norm (dq++[X2.1],ai (nr - (1:Int)),X2.2.At,X2.2.aj))))) else (some (Out.exit 2 (dq,nr,np,nq)))))
def oZ (x0:aL) (x1:aH) (Hc:aK) (tz:Int) (oK:Int) (o3:Int) (vT:(List (List (List Int)))):Option (Out (Int×Int×Int×(List (List (List Int)))) (aK×aL)):=
 (((bif decide (tz > (0:Int)) then (some (decide (x1.aD > (0:Int)))) else (some (false))))>>=fun aex=>(bif aex then ((aZ (aL.mk x0.Code oK o3) (x1.aD))>>=fun zL=>((idx Hc.aP (zL.1))>>=fun aey=>(bif decide (aey > (1:Int)) then ((idx vT (zL.1))>>=fun X3=>((idx Hc.aP (zL.1))>>=fun RI=>((aZ (aL.mk x0.Code zL.2.At zL.2.aj) (RI))>>=fun RJ=>((idx Hc.aP (zL.1))>>=fun Jm=>((aZ (aL.mk x0.Code RJ.2.At RJ.2.aj) (Jm))>>=fun wY=>((fits 24 (X3.length+1))>>=fun n310=>((idx vT (zL.1))>>=fun adY=>(some (Out.norm (ai (tz - (1:Int)),wY.2.At,wY.2.aj,vT.set (zL.1).toNat (X3++[[RJ.1,wY.1]]))))))))))) else (some (Out.norm (ai (tz - (1:Int)),zL.2.At,zL.2.aj,vT)))))) else (some (Out.exit 4 (tz,oK,o3,vT)))))
def pA (x2:Int) (A4:aK) (HF:Bool) (sC:Int):Option (Out (Bool×Int) (aK×aL)):=
 (bif decide (sC < (A4.aP.length:Int)) then (((bif HF then ((idx A4.aP (sC))>>=fun aez=>(some (decide (aez≤x2)))) else (some (false))))>>=fun aeA=>(some (Out.norm (aeA,ai (sC+(1:Int)))))) else (some (Out.exit 6 (HF,sC))))
def pB (x0:aL) (x1:aH) (x2:Int) (bo:Int) (jt:Int) (ju:Int):Option (Out (Int×Int×Int) (aK×aL)):=
 (bif decide (bo < (6:Int)) then ((aZ (aL.mk x0.Code jt ju) ((4:Int)))>>=fun Hf=>(ag (ae 2 (af (fun s=>oY x0 x1 s.1 s.2.1 s.2.2.1 s.2.2.2) (([]:(List Int)),Hf.1,Hf.2.At,Hf.2.aj))) (fun (dq,nr,np,nq)=>((oM x1 dq)>>=fun Hc=>((mk 24 (x1.aD))>>=fun n180=>((aZ (aL.mk x0.Code np nq) ((4:Int)))>>=fun RL=>(ag (ae 4 (af (fun s=>oZ x0 x1 Hc s.1 s.2.1 s.2.2.1 s.2.2.2) (RL.1,RL.2.At,RL.2.aj,List.replicate n180 ([]:(List (List Int)))))) (fun (tz,oK,o3,vT)=>((oX Hc vT)>>=fun A4=>(ag (ae 6 (af (fun s=>pA x2 A4 s.1 s.2) (true,(0:Int)))) (fun (HF,sC)=>(bif HF then (some (Out.ret ((A4,(aL.mk x0.Code oK o3))))) else (some (Out.norm (ai (bo+(1:Int)),oK,o3))))))))))))))) else (some (Out.exit 0 (bo,jt,ju))))
def pC (x0:aL) (x1:aH) (x2:Int):Option (aK×aL):=
 ao (S:=Unit) (ag (ae 0 (af (fun s=>pB x0 x1 x2 s.1 s.2.1 s.2.2) ((0:Int),x0.At,x0.aj))) (fun (bo,jt,ju)=>((aZ (aL.mk x0.Code jt ju) (ai ((if ((2:Int)) < (x2) then ((2:Int)) else (x2))+(1:Int))))>>=fun RM=>((kN x1 (RM.1))>>=fun aeB=>(some (Out.ret ((aeB,(aL.mk x0.Code RM.2.At RM.2.aj)))))))))
def lL (x0:aK):Option (aK):=
 ao (S:=Unit) ((fJ x0.aC)>>=fun z6=>((eG x0.aP)>>=fun O2=>((gC x0.aO)>>=fun y61=>(some (Out.ret ((aK.mk z6 O2 y61)))))))
def pD (x0:aL) (x1:aK):Option (aK×aL):=
 ao (S:=Unit) ((lL x1)>>=fun ed=>((aZ x0 ((5:Int)))>>=fun uc=>(bif (uc.1) == ((0:Int)) then ((mD (aL.mk x0.Code uc.2.At uc.2.aj) ed.aC)>>=fun Jk=>(some (Out.ret (((aK.mk Jk.1 ed.aP ed.aO),(aL.mk x0.Code Jk.2.At Jk.2.aj)))))) else (bif (uc.1) == ((1:Int)) then (bif decide ((ed.aP.length:Int) > (0:Int)) then ((aZ (aL.mk x0.Code uc.2.At uc.2.aj) ((ed.aP.length:Int)))>>=fun MU=>((mC (aL.mk x0.Code MU.2.At MU.2.aj) ([(-1:Int),(0:Int),(1:Int),(2:Int),(17:Int)]))>>=fun RN=>((idx ed.aP (MU.1))>>=fun aqQ=>(some (Out.ret (((aK.mk ed.aC (ed.aP.set (MU.1).toNat (RN.1)) ed.aO),(aL.mk x0.Code RN.2.At RN.2.aj)))))))) else (some (Out.ret ((ed,(aL.mk x0.Code uc.2.At uc.2.aj)))))) else (bif (uc.1) == ((2:Int)) then ((aZ (aL.mk x0.Code uc.2.At uc.2.aj) ((ed.aO.length:Int)))>>=fun s8=>(((bif decide ((ed.aO.length:Int) > (0:Int)) then ((idx ed.aO (s8.1))>>=fun RP=>(some (decide ((RP.length:Int) > (0:Int))))) else (some (false))))>>=fun RQ=>(bif RQ then ((idx ed.aO (s8.1))>>=fun Jy=>((idx ed.aO (s8.1))>>=fun RR=>((aZ (aL.mk x0.Code s8.2.At s8.2.aj) ((RR.length:Int)))>>=fun A5=>((aZ (aL.mk x0.Code A5.2.At A5.2.aj) ((4:Int)))>>=fun Eb=>((aZ (aL.mk x0.Code Eb.2.At Eb.2.aj) ((8:Int)))>>=fun Ec=>((qz .quo .i64 (Ec.1) ((7:Int)))>>=fun RS=>((idx Jy (A5.1))>>=fun aqR=>(some (Out.ret (((aK.mk ed.aC ed.aP (ed.aO.set (s8.1).toNat (Jy.set (A5.1).toNat (ai (Eb.1 - RS))))),(aL.mk x0.Code Ec.2.At Ec.2.aj)))))))))))) else (some (Out.ret ((ed,(aL.mk x0.Code s8.2.At s8.2.aj)))))))) else (bif (uc.1) == ((3:Int)) then ((aZ (aL.mk x0.Code uc.2.At uc.2.aj) ((ed.aO.length:Int)))>>=fun wY=>(((bif decide ((ed.aO.length:Int) > (0:Int)) then ((idx ed.aO (wY.1))>>=fun aeC=>(some (decide ((aeC.length:Int) > (0:Int))))) else (some (false))))>>=fun aeD=>(bif aeD then ((idx ed.aO (wY.1))>>=fun MR=>((idx ed.aO (wY.1))>>=fun aeE=>((aZ (aL.mk x0.Code wY.2.At wY.2.aj) ((aeE.length:Int)))>>=fun Gx=>((aZ (aL.mk x0.Code Gx.2.At Gx.2.aj) ((4:Int)))>>=fun A4=>((aZ (aL.mk x0.Code A4.2.At A4.2.aj) ((8:Int)))>>=fun RU=>((qz .quo .i64 (RU.1) ((7:Int)))>>=fun aeF=>((idx MR (Gx.1))>>=fun Xu=>(some (Out.ret (((aK.mk ed.aC ed.aP (ed.aO.set (wY.1).toNat (MR.set (Gx.1).toNat (ai (A4.1 - aeF))))),(aL.mk x0.Code RU.2.At RU.2.aj)))))))))))) else (some (Out.ret ((ed,(aL.mk x0.Code wY.2.At wY.2.aj)))))))) else (bif (uc.1) == ((4:Int)) then ((fits 24 (ed.aO.length+1))>>=fun aqS=>(some (Out.ret (((aK.mk ed.aC ed.aP (ed.aO++[([]:(List Int))])),(aL.mk x0.Code uc.2.At uc.2.aj)))))) else (some (Out.ret ((ed,(aL.mk x0.Code uc.2.At uc.2.aj))))))))))))
def kE (x0:aL) (x1:aH) (x2:Int):Option (aK×aL):=
 ao (S:=Unit) ((oF x1)>>=fun Tv=>(bif !(Tv) then (some (Out.ret (((aK.mk x1 ([]) ([])),x0)))) else ((pC x0 x1 (x2))>>=fun Hf=>((aZ (aL.mk x0.Code Hf.2.At Hf.2.aj) ((40:Int)))>>=fun Jz=>(bif (Jz.1) == ((0:Int)) then ((pD (aL.mk x0.Code Jz.2.At Jz.2.aj) Hf.1)>>=fun A6=>(some (Out.ret ((A6.1,(aL.mk x0.Code A6.2.At A6.2.aj)))))) else (some (Out.ret ((Hf.1,(aL.mk x0.Code Jz.2.At Jz.2.aj))))))))))
def pF (x0:aL) (x1:Int):Option (aK×aK×aL):=
 ao (S:=Unit) ((mG x0)>>=fun uT=>((kE (aL.mk x0.Code uT.2.At uT.2.aj) uT.1 (x1))>>=fun Tw=>((aZ (aL.mk x0.Code Tw.2.At Tw.2.aj) ((24:Int)))>>=fun JB=>(bif (JB.1) == ((0:Int)) then ((mG (aL.mk x0.Code JB.2.At JB.2.aj))>>=fun RV=>((kE (aL.mk x0.Code RV.2.At RV.2.aj) RV.1 (x1))>>=fun Cs=>(some (Out.ret ((Tw.1,Cs.1,(aL.mk x0.Code Cs.2.At Cs.2.aj))))))) else ((kE (aL.mk x0.Code JB.2.At JB.2.aj) uT.1 (x1))>>=fun RW=>(some (Out.ret ((Tw.1,RW.1,(aL.mk x0.Code RW.2.At RW.2.aj))))))))))
def kO (x0:aK) (da:Int):Option (Out (Int) (Bool)):=
 (bif decide (da < (x0.aP.length:Int)) then ((idx x0.aP (da))>>=fun CA=>((oC (CA) ((0:Int)) ((16:Int)))>>=fun zh=>(bif !(zh) then (some (Out.ret (false))) else (some (Out.norm (ai (da+(1:Int)))))))) else (some (Out.exit 0 (da))))
def kP (x0:aK) (vU:Int):Option (Out (Int) (Bool)):=
 (bif decide (vU < (x0.aO.length:Int)) then ((((idx x0.aO (vU))>>=fun BO=>((idx x0.aC.aG (vU))>>=fun Cv=>((idx x0.aP (Cv))>>=fun DI=>(bif ((BO.length:Int)) != (DI) then (some (true)) else ((idx x0.aC.To (vU))>>=fun O6=>((idx x0.aP (O6))>>=fun X4=>((idx x0.aO (vU))>>=fun FL=>((iM (X4) FL)>>=fun X5=>(some (!(X5))))))))))))>>=fun XQ=>(bif XQ then (some (Out.ret (false))) else (some (Out.norm (ai (vU+(1:Int))))))) else (some (Out.exit 2 (vU))))
def nD (x0:aK):Option (Bool):=
 ao (S:=Unit) ((((oF x0.aC)>>=fun bh=>(bif !(bh) then (some (true)) else (bif ((x0.aP.length:Int)) != (x0.aC.aD) then (some (true)) else (some (((x0.aO.length:Int)) != ((x0.aC.aG.length:Int))))))))>>=fun g8=>(bif g8 then (some (Out.ret (false))) else (ag (ae 0 (af (kO x0) ((0:Int)))) (fun da=>(ag (ae 2 (af (kP x0) ((0:Int)))) (fun vU=>(some (Out.ret (true)))))))))
def kQ (x0:aK) (bo:Int) (dq:Int):Option (Out (Int) (Int×Int×Int×Int)):=
 ((idx x0.aP (bo))>>=fun Ji=>(bif decide (dq < Ji) then ((idx x0.aC.aI (bo))>>=fun FD=>((idx x0.aO (FD))>>=fun Jv=>((idx Jv (dq))>>=fun BO=>(bif (BO) != (dq) then (some (Out.ret ((((1:Int)),bo,dq,((0:Int)))))) else (some (Out.norm (ai (dq+(1:Int))))))))) else (some (Out.exit 2 (dq)))))
def nQ (x0:aK) (bo:Int):Option (Out (Int) (Int×Int×Int×Int)):=
 (bif decide (bo < x0.aC.aD) then (ag (ae 2 (af (kQ x0 bo) ((0:Int)))) (fun dq=>(some (Out.norm (ai (bo+(1:Int))))))) else (some (Out.exit 0 (bo))))
def kR (x0:aK) (bw:Int) (cy:Int) (jd:Int):Option (Out (Int) (Int×Int×Int×Int)):=
 ((idx x0.aC.aG (bw))>>=fun X6=>((idx x0.aP (X6))>>=fun Jt=>(bif decide (jd < Jt) then ((idx x0.aC.aB (bw))>>=fun e92=>((idx e92 (cy))>>=fun XR=>((idx x0.aO (XR))>>=fun Ro=>((idx Ro (jd))>>=fun D9=>((idx x0.aO (cy))>>=fun ME=>((idx x0.aO (bw))>>=fun RD=>((idx RD (jd))>>=fun aeG=>((idx ME (aeG))>>=fun aeH=>(bif (D9) != (aeH) then (some (Out.ret ((((2:Int)),bw,cy,jd)))) else (some (Out.norm (ai (jd+(1:Int)))))))))))))) else (some (Out.exit 8 (jd))))))
def kS (x0:aK) (bw:Int) (cy:Int):Option (Out (Int) (Int×Int×Int×Int)):=
 (bif decide (cy < (x0.aC.aG.length:Int)) then ((idx x0.aC.To (bw))>>=fun DK=>((idx x0.aC.aG (cy))>>=fun Lc=>(bif (DK) != (Lc) then (some (Out.norm (ai (cy+(1:Int))))) else (ag (ae 8 (af (kR x0 bw cy) ((0:Int)))) (fun jd=>(some (Out.norm (ai (cy+(1:Int)))))))))) else (some (Out.exit 6 (cy))))
def nR (x0:aK) (bw:Int):Option (Out (Int) (Int×Int×Int×Int)):=
 (bif decide (bw < (x0.aC.aG.length:Int)) then (ag (ae 6 (af (kS x0 bw) ((0:Int)))) (fun cy=>(some (Out.norm (ai (bw+(1:Int))))))) else (some (Out.exit 4 (bw))))
def nE (x0:aK):Option (Int×Int×Int×Int):=
 ao (S:=Unit) (ag (ae 0 (af (nQ x0) ((0:Int)))) (fun bo=>(ag (ae 4 (af (nR x0) ((0:Int)))) (fun bw=>(some (Out.ret ((((0:Int)),((0:Int)),((0:Int)),((0:Int))))))))))
def pG (x0:aK):Option (Bool):=
 ao (S:=Unit) ((nD x0)>>=fun y8=>(bif !(y8) then (some (Out.ret (false))) else ((nE x0)>>=fun Fz=>(some (Out.ret (((Fz.1) == ((0:Int)))))))))
def rE (x0:(List (List Int))) (x1:(List (List Int))) (ba:Int):Option (Out (Int) (Bool)):=
 (bif decide (ba < (x0.length:Int)) then ((idx x0 (ba))>>=fun yf=>((idx x1 (ba))>>=fun zf=>((fI yf zf)>>=fun FM=>(bif !(FM) then (some (Out.ret (false))) else (some (Out.norm (ai (ba+(1:Int))))))))) else (some (Out.exit 0 (ba))))
def qP (x0:(List (List Int))) (x1:(List (List Int))):Option (Bool):=
 ao (S:=Unit) (bif ((x0.length:Int)) != ((x1.length:Int)) then (some (Out.ret (false))) else (ag (ae 0 (af (rE x0 x1) ((0:Int)))) (fun ba=>(some (Out.ret (true))))))
def pH (x0:aH) (x1:aH):Option (Bool):=
 ao (S:=Unit) (((bif (x0.aD) == (x1.aD) then ((fI x0.aG x1.aG)>>=fun uT=>(bif uT then ((fI x0.To x1.To)>>=fun X7=>(bif X7 then ((fI x0.aI x1.aI)>>=fun ed=>(bif ed then ((qP x0.aB x1.aB)>>=fun FM=>(some (FM))) else (some (false)))) else (some (false)))) else (some (false)))) else (some (false))))>>=fun g16=>(some (Out.ret (g16))))
def iB (x0:aK) (x1:aK):Option (Bool):=
 ao (S:=Unit) ((((pG x0)>>=fun zi=>(bif zi then ((pG x1)>>=fun yy=>(bif yy then ((pH x0.aC x1.aC)>>=fun yz=>(some (yz))) else (some (false)))) else (some (false)))))>>=fun g16=>(some (Out.ret (g16))))
def nS (x0:aK) (da:Int) (br:Int):Option (Out (Int×Int) (Int)):=
 (bif decide (br < (x0.aP.length:Int)) then ((idx x0.aP (br))>>=fun ub=>(some (Out.norm (ai (da+ub),ai (br+(1:Int)))))) else (some (Out.exit 0 (da,br))))
def lG (x0:aK):Option (Int):=
 ao (S:=Unit) (ag (ae 0 (af (fun s=>nS x0 s.1 s.2) ((0:Int),(0:Int)))) (fun (da,br)=>(some (Out.ret (da)))))
def pI (x0:aK) (br:Int) (j9:(List Int)) (j4:Int):Option (Out ((List Int)×Int) ((List (List Int)))):=
 ((idx x0.aP (br))>>=fun JC=>(bif decide (j4 < JC) then ((fits 8 (j9.length+1))>>=fun n63=>(some (Out.norm (j9++[(-1:Int)],ai (j4+(1:Int)))))) else (some (Out.exit 2 (j9,j4)))))
def pJ (x0:aK) (da:(List (List Int))) (br:Int):Option (Out ((List (List Int))×Int) ((List (List Int)))):=
 (bif decide (br < (x0.aP.length:Int)) then (ag (ae 2 (af (fun s=>pI x0 br s.1 s.2) (([]:(List Int)),(0:Int)))) (fun (j9,j4)=>((fits 24 (da.length+1))>>=fun n88=>(some (Out.norm (da++[j9],ai (br+(1:Int)))))))) else (some (Out.exit 0 (da,br))))
def pK (x0:aK):Option ((List (List Int))):=
 ao (S:=Unit) (ag (ae 0 (af (fun s=>pJ x0 s.1 s.2) (([]:(List (List Int))),(0:Int)))) (fun (da,br)=>(some (Out.ret (da)))))
def mQ (x0:(List Int)) (x1:Int) (ba:Int):Option (Out (Int) (Bool)):=
 (bif decide (ba < (x0.length:Int)) then ((idx x0 (ba))>>=fun e9=>(bif (e9) == (x1) then (some (Out.ret (true))) else (some (Out.norm (ai (ba+(1:Int))))))) else (some (Out.exit 0 (ba))))
def nA (x0:(List Int)) (x1:Int):Option (Bool):=
 ao (S:=Unit) (ag (ae 0 (af (mQ x0 x1) ((0:Int)))) (fun ba=>(some (Out.ret (false)))))
def qG (x0:cI) (x2:Int) (x3:Int) (x4:Int) (kn:Int) (mg:(List (List Int))):Option (Out (Int×(List (List Int))) ((List (List Int))×Bool)):=
 (bif decide (kn < (x0.F.aO.length:Int)) then ((idx x0.F.aC.aG (kn))>>=fun zf=>(bif (zf) != (x2) then (some (Out.norm (ai (kn+(1:Int)),mg))) else ((idx x0.F.aC.To (kn))>>=fun DL=>((idx x0.F.aO (kn))>>=fun JD=>((idx JD (x3))>>=fun FB=>((idx x0.G.aO (kn))>>=fun DG=>((idx DG (x4))>>=fun xa=>((((idx mg (DL))>>=fun DJ=>((idx DJ (FB))>>=fun FC=>(bif decide (FC ≥ (0:Int)) then ((idx mg (DL))>>=fun O7=>((idx O7 (FB))>>=fun e73=>(some ((e73) != (xa))))) else (some (false))))))>>=fun g54=>(bif g54 then (some (Out.ret ((([]),false)))) else (((bif x0.pg then ((idx mg (DL))>>=fun e83=>((idx e83 (FB))>>=fun e90=>(bif decide (e90 < (0:Int)) then ((idx mg (DL))>>=fun Fw=>((nA Fw (xa))>>=fun aeI=>(some (aeI)))) else (some (false))))) else (some (false))))>>=fun XU=>(bif XU then (some (Out.ret ((([]),false)))) else ((idx mg (DL))>>=fun uq=>((idx uq (FB))>>=fun MH=>(some (Out.norm (ai (kn+(1:Int)),mg.set (DL).toNat (uq.set (FB).toNat (xa)))))))))))))))))) else (some (Out.exit 0 (kn,mg))))
def gT (x0:cI) (x1:(List (List Int))) (x2:Int) (x3:Int) (x4:Int):Option ((List (List Int))×Bool):=
 ao (S:=Unit) ((gC x1)>>=fun y3=>(ag (ae 0 (af (fun s=>qG x0 x2 x3 x4 s.1 s.2) ((0:Int),y3))) (fun (kn,mg)=>(some (Out.ret ((mg,true)))))))
def mJ (x0:cI) (x1:(List (List Int))) (x2:Int) (x3:Int) (lj:(List Int)) (nc:Int):Option (Out ((List Int)×Int) ((List Int))):=
 ((idx x0.G.aP (x2))>>=fun ub=>(bif decide (nc < ub) then ((gT x0 x1 (x2) (x3) (nc))>>=fun yy=>(bif yy.2 then ((fits 8 (lj.length+1))>>=fun n47=>(some (Out.norm (lj++[nc],ai (nc+(1:Int)))))) else (some (Out.norm (lj,ai (nc+(1:Int))))))) else (some (Out.exit 0 (lj,nc)))))
def jP (x0:cI) (x1:(List (List Int))) (x2:Int) (x3:Int):Option ((List Int)):=
 ao (S:=Unit) (ag (ae 0 (af (fun s=>mJ x0 x1 x2 x3 s.1 s.2) (([]:(List Int)),(0:Int)))) (fun (lj,nc)=>(some (Out.ret (lj)))))
def qQ (x0:cI) (x1:(List (List Int))) (ey:Int) (vU:Int) (j9:Int) (gy:Int):Option (Out (Int×Int×Int) (cI)):=
 (bif decide (gy ≥ (0:Int)) then ((idx x1 (ey))>>=fun DG=>((idx DG (gy))>>=fun xa=>(bif decide (xa < (0:Int)) then ((jP x0 x1 (ey) (gy))>>=fun y57=>(bif ((y57.length:Int)) == ((0:Int)) then (some (Out.ret (x0))) else (some (Out.norm (ey,gy,ai (gy - (1:Int))))))) else (some (Out.norm (vU,j9,ai (gy - (1:Int)))))))) else (some (Out.exit 2 (vU,j9,gy))))
def qR (x0:cI) (x1:(List (List Int))) (br:Int) (ba:Int) (ey:Int):Option (Out (Int×Int×Int) (cI)):=
 (bif decide (ey ≥ (0:Int)) then ((idx x1 (ey))>>=fun X8=>(ag (ae 2 (af (fun s=>qQ x0 x1 ey s.1 s.2.1 s.2.2) (br,ba,ai ((X8.length:Int) - (1:Int))))) (fun (vU,j9,gy)=>(some (Out.norm (vU,j9,ai (ey - (1:Int)))))))) else (some (Out.exit 0 (br,ba,ey))))
def qS (rc:cI→(List (List Int))→Option (cI)) (x0:cI) (x1:(List (List Int))) (br:Int) (ba:Int) (MW:(List Int)) (bw:Int) (wN:Int) (wO:Int) (vl:Bool) (tB:Int) (tC:(List (List (List Int)))):Option (Out (Int×Int×Int×Bool×Int×(List (List (List Int)))) (cI)):=
 (((bif decide (bw < (MW.length:Int)) then (some (decide ((tC.length:Int) < tB))) else (some (false))))>>=fun aeJ=>(bif aeJ then ((idx MW (bw))>>=fun RX=>((gT (cI.mk (aK.mk (aH.mk wN x0.F.aC.aG x0.F.aC.To x0.F.aC.aI x0.F.aC.aB) x0.F.aP x0.F.aO) (aK.mk (aH.mk wO x0.G.aC.aG x0.G.aC.To x0.G.aC.aI x0.G.aC.aB) x0.G.aP x0.G.aO) vl tB tC) x1 (br) (ba) (RX))>>=fun aeK=>((rc (cI.mk (aK.mk (aH.mk wN x0.F.aC.aG x0.F.aC.To x0.F.aC.aI x0.F.aC.aB) x0.F.aP x0.F.aO) (aK.mk (aH.mk wO x0.G.aC.aG x0.G.aC.To x0.G.aC.aI x0.G.aC.aB) x0.G.aP x0.G.aO) vl tB tC) aeK.1)>>=fun A6=>(some (Out.norm (ai (bw+(1:Int)),A6.F.aC.aD,A6.G.aC.aD,A6.pg,A6.nz,A6.Found)))))) else (some (Out.exit 4 (bw,wN,wO,vl,tB,tC)))))
def pL (rc:cI→(List (List Int))→Option (cI)) (x0:cI) (x1:(List (List Int))):Option (cI):=
 Gh (R:=(cI)) (ag (ae 0 (af (fun s=>qR x0 x1 s.1 s.2.1 s.2.2) ((-1:Int),(-1:Int),ai ((x1.length:Int) - (1:Int))))) (fun (br,ba,ey)=>(bif decide (br < (0:Int)) then ((fits 24 (x0.Found.length+1))>>=fun n96=>(some (Out.ret ((cI.mk x0.F x0.G x0.pg x0.nz (x0.Found++[x1])))))) else ((jP x0 x1 (br) (ba))>>=fun MW=>(ag (ae 4 (af (fun s=>qS rc x0 x1 br ba MW s.1 s.2.1 s.2.2.1 s.2.2.2.1 s.2.2.2.2.1 s.2.2.2.2.2) ((0:Int),x0.F.aC.aD,x0.G.aC.aD,x0.pg,x0.nz,x0.Found))) (fun (bw,wN,wO,vl,tB,tC)=>(some (Out.norm ((cI.mk (aK.mk (aH.mk wN x0.F.aC.aG x0.F.aC.To x0.F.aC.aI x0.F.aC.aB) x0.F.aP x0.F.aO) (aK.mk (aH.mk wO x0.G.aC.aG x0.G.aC.To x0.G.aC.aI x0.G.aC.aB) x0.G.aP x0.G.aO) vl tB tC))))))))))
def kT:Nat→cI→(List (List Int))→Option (cI)
 | 0=>fun _ _=>none
 | n+1=>pL (kT n)
def pM (x0:aK) (x1:aK) (x2:Bool) (x3:Int):Option ((List (List (List Int)))):=
 ao (S:=Unit) ((pK x0)>>=fun ed=>((kT 64 (cI.mk x0 x1 x2 x3 (([]:(List (List (List Int)))))) ed)>>=fun JE=>(some (Out.ret (JE.Found)))))
def jQ (x0:aK) (br:Int) (j9:(List Int)) (j4:Int):Option (Out ((List Int)×Int) ((List (List Int)))):=
 ((idx x0.aP (br))>>=fun JC=>(bif decide (j4 < JC) then ((fits 8 (j9.length+1))>>=fun n63=>(some (Out.norm (j9++[j4],ai (j4+(1:Int)))))) else (some (Out.exit 2 (j9,j4)))))
def jR (x0:aK) (da:(List (List Int))) (br:Int):Option (Out ((List (List Int))×Int) ((List (List Int)))):=
 (bif decide (br < (x0.aP.length:Int)) then (ag (ae 2 (af (fun s=>jQ x0 br s.1 s.2) (([]:(List Int)),(0:Int)))) (fun (j9,j4)=>((fits 24 (da.length+1))>>=fun n88=>(some (Out.norm (da++[j9],ai (br+(1:Int)))))))) else (some (Out.exit 0 (da,br))))
def iX (x0:aK):Option ((List (List Int))):=
 ao (S:=Unit) (ag (ae 0 (af (fun s=>jR x0 s.1 s.2) (([]:(List (List Int))),(0:Int)))) (fun (da,br)=>(some (Out.ret (da)))))
def iY (x0:aK) (x1:aK) (x2:(List (List Int))):Option (bX):=
 ao (S:=Unit) ((lL x0)>>=fun ed=>((lL x1)>>=fun y81=>((gC x2)>>=fun aeL=>(some (Out.ret ((bX.mk ed y81 aeL)))))))
def mY (x0:aL) (x1:Int):Option (bX×aL):=
 ao (S:=Unit) ((pF x0 (x1))>>=fun bh=>((aZ (aL.mk x0.Code bh.2.2.At bh.2.2.aj) ((4:Int)))>>=fun uv=>(jn 18 (bh.2.1.aC.aD,bh.2.1.aC.aG,bh.2.1.aC.To,bh.2.1.aC.aI,bh.2.1.aC.aB,bh.2.1.aP,bh.2.1.aO) ((bif (uv.1) == ((0:Int)) then (some (Out.norm (bh.1.aC.aD,bh.1.aC.aG,bh.1.aC.To,bh.1.aC.aI,bh.1.aC.aB,bh.1.aP,bh.1.aO))) else (some (Out.norm (bh.2.1.aC.aD,bh.2.1.aC.aG,bh.2.1.aC.To,bh.2.1.aC.aI,bh.2.1.aC.aB,bh.2.1.aP,bh.2.1.aO))))) (fun (s9,tb,td,te,th,tj,tk)=>((iB bh.1 (aK.mk (aH.mk s9 tb td te th) tj tk))>>=fun AY=>(jn 25 (uv.2.At,uv.2.aj,bh.1.aC.aD,bh.1.aC.aG,bh.1.aC.To,bh.1.aC.aI,bh.1.aC.aB,bh.1.aP,bh.1.aO,s9,tb,td,te,th,tj,tk,[]) ((bif AY then ((lG bh.1)>>=fun aeM=>(bif decide (aeM≤(12:Int)) then ((pM bh.1 (aK.mk (aH.mk s9 tb td te th) tj tk) (false) ((12:Int)))>>=fun RY=>(bif decide ((RY.length:Int) > (0:Int)) then ((aZ (aL.mk x0.Code uv.2.At uv.2.aj) ((RY.length:Int)))>>=fun JF=>((idx RY (JF.1))>>=fun X9=>(bif ((X9.length:Int)) == ((0:Int)) then ((iX bh.1)>>=fun aeN=>((iY bh.1 bh.1 aeN)>>=fun uw=>(some (Out.norm (JF.2.At,JF.2.aj,uw.aF.aC.aD,uw.aF.aC.aG,uw.aF.aC.To,uw.aF.aC.aI,uw.aF.aC.aB,uw.aF.aP,uw.aF.aO,uw.aM.aC.aD,uw.aM.aC.aG,uw.aM.aC.To,uw.aM.aC.aI,uw.aM.aC.aB,uw.aM.aP,uw.aM.aO,uw.cD))))) else (some (Out.norm (JF.2.At,JF.2.aj,bh.1.aC.aD,bh.1.aC.aG,bh.1.aC.To,bh.1.aC.aI,bh.1.aC.aB,bh.1.aP,bh.1.aO,s9,tb,td,te,th,tj,tk,X9)))))) else (bif ((([]:(List (List Int))).length:Int)) == ((0:Int)) then ((iX bh.1)>>=fun aeO=>((iY bh.1 bh.1 aeO)>>=fun ux=>(some (Out.norm (uv.2.At,uv.2.aj,ux.aF.aC.aD,ux.aF.aC.aG,ux.aF.aC.To,ux.aF.aC.aI,ux.aF.aC.aB,ux.aF.aP,ux.aF.aO,ux.aM.aC.aD,ux.aM.aC.aG,ux.aM.aC.To,ux.aM.aC.aI,ux.aM.aC.aB,ux.aM.aP,ux.aM.aO,ux.cD))))) else (some (Out.norm (uv.2.At,uv.2.aj,bh.1.aC.aD,bh.1.aC.aG,bh.1.aC.To,bh.1.aC.aI,bh.1.aC.aB,bh.1.aP,bh.1.aO,s9,tb,td,te,th,tj,tk,[])))))) else (bif ((([]:(List (List Int))).length:Int)) == ((0:Int)) then ((iX bh.1)>>=fun aas=>((iY bh.1 bh.1 aas)>>=fun rS=>(some (Out.norm (uv.2.At,uv.2.aj,rS.aF.aC.aD,rS.aF.aC.aG,rS.aF.aC.To,rS.aF.aC.aI,rS.aF.aC.aB,rS.aF.aP,rS.aF.aO,rS.aM.aC.aD,rS.aM.aC.aG,rS.aM.aC.To,rS.aM.aC.aI,rS.aM.aC.aB,rS.aM.aP,rS.aM.aO,rS.cD))))) else (some (Out.norm (uv.2.At,uv.2.aj,bh.1.aC.aD,bh.1.aC.aG,bh.1.aC.To,bh.1.aC.aI,bh.1.aC.aB,bh.1.aP,bh.1.aO,s9,tb,td,te,th,tj,tk,[])))))) else (some (Out.norm (uv.2.At,uv.2.aj,bh.1.aC.aD,bh.1.aC.aG,bh.1.aC.To,bh.1.aC.aI,bh.1.aC.aB,bh.1.aP,bh.1.aO,s9,tb,td,te,th,tj,tk,[]))))) (fun (np,nq,zk,zl,zm,zn,zo,zp,zq,zr,zt,zu,xq,xr,xu,xw,xx)=>((aZ (aL.mk x0.Code np nq) ((24:Int)))>>=fun A7=>(bif (A7.1) == ((0:Int)) then (bif decide ((xx.length:Int) > (0:Int)) then ((gC xx)>>=fun A8=>((aZ (aL.mk x0.Code A7.2.At A7.2.aj) ((A8.length:Int)))>>=fun wc=>((idx A8 (wc.1))>>=fun aat=>(bif decide ((aat.length:Int) > (0:Int)) then ((idx A8 (wc.1))>>=fun Tx=>((idx A8 (wc.1))>>=fun aau=>((aZ (aL.mk x0.Code wc.2.At wc.2.aj) ((aau.length:Int)))>>=fun HG=>((aZ (aL.mk x0.Code HG.2.At HG.2.aj) ((4:Int)))>>=fun MX=>((aZ (aL.mk x0.Code MX.2.At MX.2.aj) ((6:Int)))>>=fun MY=>((qz .quo .i64 (MY.1) ((5:Int)))>>=fun aav=>((idx Tx (HG.1))>>=fun ao0=>(some (Out.ret (((bX.mk (aK.mk (aH.mk zk zl zm zn zo) zp zq) (aK.mk (aH.mk zr zt zu xq xr) xu xw) (A8.set (wc.1).toNat (Tx.set (HG.1).toNat (ai (MX.1 - aav))))),(aL.mk x0.Code MY.2.At MY.2.aj)))))))))))) else ((idx A8 (wc.1))>>=fun ao1=>(some (Out.ret (((bX.mk (aK.mk (aH.mk zk zl zm zn zo) zp zq) (aK.mk (aH.mk zr zt zu xq xr) xu xw) (A8.set (wc.1).toNat ([(0:Int)]))),(aL.mk x0.Code wc.2.At wc.2.aj)))))))))) else (some (Out.ret (((bX.mk (aK.mk (aH.mk zk zl zm zn zo) zp zq) (aK.mk (aH.mk zr zt zu xq xr) xu xw) xx),(aL.mk x0.Code A7.2.At A7.2.aj)))))) else (some (Out.ret (((bX.mk (aK.mk (aH.mk zk zl zm zn zo) zp zq) (aK.mk (aH.mk zr zt zu xq xr) xu xw) xx),(aL.mk x0.Code A7.2.At A7.2.aj))))))))))))))
def gS (x0:(List Int)):Option (bX):=
 ao (S:=Unit) ((nU x0)>>=fun y8=>(match y8 with | none=>none | some m15=>((mY (aL.mk x0 m15.At m15.aj) ((3:Int)))>>=fun yz=>(some (Out.ret (yz.1))))))
def dE (x0:aH):Option (Int):=
 ao (S:=Unit) (some (Out.ret (((x0.aG.length:Int)))))
def kF (x0:Int) (x1:Int) (x2:Int):Option (Bool):=
 ao (S:=Unit) (((bif decide (x0 ≥ x1) then (some (decide (x0≤x2))) else (some (false))))>>=fun g3=>(some (Out.ret (g3))))
def mR (x0:(List Int)) (x1:Int) (lj:Int):Option (Out (Int) (Bool)):=
 (bif decide (lj < (x0.length:Int)) then ((idx x0 (lj))>>=fun e9=>((kF (e9) ((0:Int)) (ai (x1 - (1:Int))))>>=fun Pe=>(bif !(Pe) then (some (Out.ret (false))) else (some (Out.norm (ai (lj+(1:Int)))))))) else (some (Out.exit 0 (lj))))
def fX (x0:(List Int)) (x1:Int):Option (Bool):=
 ao (S:=Unit) (ag (ae 0 (af (mR x0 x1) ((0:Int)))) (fun lj=>(some (Out.ret (true)))))
def gY (x0:aH) (x1:Int):Option (rO):=
 ao (S:=Unit) ((idx x0.aG (x1))>>=fun e8=>((idx x0.To (x1))>>=fun Ya=>(some (Out.ret ((rO.mk e8 Ya))))))
def gD (x0:aH) (A9:Int):Option (Out (Int) (Bool)):=
 (bif decide (A9 < (x0.aI.length:Int)) then ((idx x0.aI (A9))>>=fun Js=>((gY x0 (Js))>>=fun He=>(bif !((He.aG) == (A9) && (He.To) == (A9)) then (some (Out.ret (false))) else (some (Out.norm (ai (A9+(1:Int)))))))) else (some (Out.exit 0 (A9))))
def gF (x0:aH) (y3:Int) (vm:Int) (FL:(List Int)) (wP:Int):Option (Out (Int) (Bool)):=
 (bif decide (wP < (FL.length:Int)) then ((idx FL (wP))>>=fun Yb=>((idx x0.To (vm))>>=fun X6=>((idx x0.aG (wP))>>=fun Jt=>(bif (X6) != (Jt) then (bif (Yb) != ((-1:Int)) then (some (Out.ret (false))) else (some (Out.norm (ai (wP+(1:Int)))))) else ((((kF (Yb) ((0:Int)) (ai (y3 - (1:Int))))>>=fun RZ=>(bif !(RZ) then (some (true)) else ((gY x0 (Yb))>>=fun Yc=>((idx x0.aG (vm))>>=fun aeP=>((idx x0.To (wP))>>=fun D9=>(some (!((Yc.aG) == (aeP) && (Yc.To) == (D9))))))))))>>=fun g99=>(bif g99 then (some (Out.ret (false))) else (some (Out.norm (ai (wP+(1:Int))))))))))) else (some (Out.exit 4 (wP))))
def iZ (x0:aH) (y3:Int) (vm:Int):Option (Out (Int) (Bool)):=
 (bif decide (vm < (x0.aB.length:Int)) then ((idx x0.aB (vm))>>=fun FL=>(bif ((FL.length:Int)) != (y3) then (some (Out.ret (false))) else (ag (ae 4 (af (gF x0 y3 vm FL) ((0:Int)))) (fun wP=>(some (Out.norm (ai (vm+(1:Int))))))))) else (some (Out.exit 2 (vm))))
def iC (x0:aH):Option (Bool):=
 ao (S:=Unit) ((dE x0)>>=fun y3=>((((kF (x0.aD) ((0:Int)) ((8:Int)))>>=fun y9=>(bif !(y9) then (some (true)) else (bif decide (y3 > (40:Int)) then (some (true)) else (bif ((x0.To.length:Int)) != (y3) then (some (true)) else ((fX x0.aG (x0.aD))>>=fun BP=>(bif !(BP) then (some (true)) else ((fX x0.To (x0.aD))>>=fun Cu=>(some (!(Cu)))))))))))>>=fun g7=>(bif g7 then (some (Out.ret (false))) else (((bif ((x0.aI.length:Int)) != (x0.aD) then (some (true)) else ((fX x0.aI (y3))>>=fun zh=>(bif !(zh) then (some (true)) else (some (((x0.aB.length:Int)) != (y3)))))))>>=fun g24=>(bif g24 then (some (Out.ret (false))) else (ag (ae 0 (af (gD x0) ((0:Int)))) (fun A9=>(ag (ae 2 (af (iZ x0 y3) ((0:Int)))) (fun vm=>(some (Out.ret (true))))))))))))
def dJ (x0:aH) (x1:Int) (x2:Int):Option (Int):=
 ao (S:=Unit) ((idx x0.aB (x1))>>=fun e3=>((idx e3 (x2))>>=fun Ya=>(some (Out.ret (Ya)))))
def gU (x0:aH) (y3:Int) (bo:Int):Option (Out (Int) (Int×Int×Int×Int)):=
 (bif decide (bo < y3) then ((((idx x0.aG (bo))>>=fun DH=>((idx x0.aI (DH))>>=fun Lf=>((dJ x0 (Lf) (bo))>>=fun uT=>(bif (uT) != (bo) then (some (true)) else ((idx x0.To (bo))>>=fun DF=>((idx x0.aI (DF))>>=fun e24=>((dJ x0 (bo) (e24))>>=fun Fv=>(some ((Fv) != (bo)))))))))))>>=fun g13=>(bif g13 then (some (Out.ret ((((1:Int)),bo,((0:Int)),((0:Int)))))) else (some (Out.norm (ai (bo+(1:Int))))))) else (some (Out.exit 0 (bo))))
def fK (x0:aH) (y3:Int) (dq:Int) (bw:Int) (cy:Int):Option (Out (Int) (Int×Int×Int×Int)):=
 (bif decide (cy < y3) then ((((dJ x0 (bw) (cy))>>=fun y63=>(bif decide (y63 ≥ (0:Int)) then ((dJ x0 (dq) (bw))>>=fun Pa=>((dJ x0 (Pa) (cy))>>=fun X5=>((dJ x0 (bw) (cy))>>=fun y70=>((dJ x0 (dq) (y70))>>=fun y72=>(some ((X5) != (y72))))))) else (some (false)))))>>=fun g61=>(bif g61 then (some (Out.ret ((((2:Int)),dq,bw,cy)))) else (some (Out.norm (ai (cy+(1:Int))))))) else (some (Out.exit 6 (cy))))
def fL (x0:aH) (y3:Int) (dq:Int) (bw:Int):Option (Out (Int) (Int×Int×Int×Int)):=
 (bif decide (bw < y3) then ((dJ x0 (dq) (bw))>>=fun O8=>(bif decide (O8 < (0:Int)) then (some (Out.norm (ai (bw+(1:Int))))) else (ag (ae 6 (af (fK x0 y3 dq bw) ((0:Int)))) (fun cy=>(some (Out.norm (ai (bw+(1:Int))))))))) else (some (Out.exit 4 (bw))))
def jU (x0:aH) (y3:Int) (dq:Int):Option (Out (Int) (Int×Int×Int×Int)):=
 (bif decide (dq < y3) then (ag (ae 4 (af (fL x0 y3 dq) ((0:Int)))) (fun bw=>(some (Out.norm (ai (dq+(1:Int))))))) else (some (Out.exit 2 (dq))))
def jF (x0:aH):Option (Int×Int×Int×Int):=
 ao (S:=Unit) ((dE x0)>>=fun y3=>(ag (ae 0 (af (gU x0 y3) ((0:Int)))) (fun bo=>(ag (ae 2 (af (jU x0 y3) ((0:Int)))) (fun dq=>(some (Out.ret ((((0:Int)),((0:Int)),((0:Int)),((0:Int)))))))))))
def eU (x0:aH):Option (Bool):=
 ao (S:=Unit) ((iC x0)>>=fun y3=>(bif !(y3) then (some (Out.ret (false))) else ((jF x0)>>=fun bh=>(some (Out.ret (((bh.1) == ((0:Int)))))))))
def mK (x0:(List Int)) (x1:Int) (x2:Int):Option (Bool):=
 ao (S:=Unit) (((bif ((x0.length:Int)) == (x1) then ((fX x0 (x2))>>=fun y6=>(some (y6))) else (some (false))))>>=fun g3=>(some (Out.ret (g3))))
def fP (x0:aK) (Bb:Int):Option (Out (Int) (Bool)):=
 (bif decide (Bb < (x0.aO.length:Int)) then ((idx x0.aO (Bb))>>=fun Pf=>((idx x0.aC.aG (Bb))>>=fun Pg=>((idx x0.aP (Pg))>>=fun Jr=>((idx x0.aC.To (Bb))>>=fun Js=>((idx x0.aP (Js))>>=fun DG=>((mK Pf (Jr) (DG))>>=fun He=>(bif !(He) then (some (Out.ret (false))) else (some (Out.norm (ai (Bb+(1:Int)))))))))))) else (some (Out.exit 0 (Bb))))
def gK (x0:aK):Option (Bool):=
 ao (S:=Unit) ((((eU x0.aC)>>=fun y8=>(bif !(y8) then (some (true)) else (bif ((x0.aP.length:Int)) != (x0.aC.aD) then (some (true)) else ((fX x0.aP ((17:Int)))>>=fun Pd=>(bif !(Pd) then (some (true)) else ((dE x0.aC)>>=fun Fz=>(some (((x0.aO.length:Int)) != (Fz))))))))))>>=fun g6=>(bif g6 then (some (Out.ret (false))) else (ag (ae 0 (af (fP x0) ((0:Int)))) (fun Bb=>(some (Out.ret (true)))))))
def eI (zv:Int) (ub:(List Int)) (ng:Int):Option (Out (Int) (Int×Int×Int×Int)):=
 (bif decide (ng < (ub.length:Int)) then ((idx ub (ng))>>=fun Fy=>(bif (Fy) != (ng) then (some (Out.ret ((((1:Int)),zv,ng,((0:Int)))))) else (some (Out.norm (ai (ng+(1:Int))))))) else (some (Out.exit 2 (ng))))
def jA (x0:aK) (zv:Int):Option (Out (Int) (Int×Int×Int×Int)):=
 (bif decide (zv < (x0.aC.aI.length:Int)) then ((idx x0.aC.aI (zv))>>=fun O4=>((idx x0.aO (O4))>>=fun ub=>(ag (ae 2 (af (eI zv ub) ((0:Int)))) (fun ng=>(some (Out.norm (ai (zv+(1:Int))))))))) else (some (Out.exit 0 (zv))))
def eJ (x0:aK) (vn:Int) (we:Int) (Cy:Int) (Lc:(List Int)) (Bc:Int):Option (Out (Int) (Int×Int×Int×Int)):=
 (bif decide (Bc < (Lc.length:Int)) then ((idx Lc (Bc))>>=fun Jt=>((idx x0.aO (Cy))>>=fun Yd=>((idx Yd (Bc))>>=fun e98=>((idx x0.aO (we))>>=fun R0=>((idx R0 (Jt))>>=fun uq=>(bif (e98) != (uq) then (some (Out.ret ((((2:Int)),vn,we,Bc)))) else (some (Out.norm (ai (Bc+(1:Int))))))))))) else (some (Out.exit 8 (Bc))))
def eL (x0:aK) (vn:Int) (xa:(List Int)) (we:Int):Option (Out (Int) (Int×Int×Int×Int)):=
 (bif decide (we < (xa.length:Int)) then ((idx xa (we))>>=fun Cy=>(bif decide (Cy < (0:Int)) then (some (Out.norm (ai (we+(1:Int))))) else ((idx x0.aO (vn))>>=fun Lc=>(ag (ae 8 (af (eJ x0 vn we Cy Lc) ((0:Int)))) (fun Bc=>(some (Out.norm (ai (we+(1:Int)))))))))) else (some (Out.exit 6 (we))))
def jB (x0:aK) (vn:Int):Option (Out (Int) (Int×Int×Int×Int)):=
 (bif decide (vn < (x0.aC.aB.length:Int)) then ((idx x0.aC.aB (vn))>>=fun xa=>(ag (ae 6 (af (eL x0 vn xa) ((0:Int)))) (fun we=>(some (Out.norm (ai (vn+(1:Int)))))))) else (some (Out.exit 4 (vn))))
def iD (x0:aK):Option (Int×Int×Int×Int):=
 ao (S:=Unit) (ag (ae 0 (af (jA x0) ((0:Int)))) (fun zv=>(ag (ae 4 (af (jB x0) ((0:Int)))) (fun vn=>(some (Out.ret ((((0:Int)),((0:Int)),((0:Int)),((0:Int))))))))))
def eM (x0:aK):Option (Bool):=
 ao (S:=Unit) ((gK x0)>>=fun y3=>(bif !(y3) then (some (Out.ret (false))) else ((iD x0)>>=fun bh=>(some (Out.ret (((bh.1) == ((0:Int)))))))))
def gV (x0:(List aK)) (bo:Int):Option (Out (Int) (Bool)):=
 (bif decide (bo < (x0.length:Int)) then ((idx x0 (bo))>>=fun e9=>((eM e9)>>=fun zh=>(bif !(zh) then (some (Out.ret (false))) else (some (Out.norm (ai (bo+(1:Int)))))))) else (some (Out.exit 0 (bo))))
def jG (x0:(List aK)):Option (Bool):=
 ao (S:=Unit) (ag (ae 0 (af (gV x0) ((0:Int)))) (fun bo=>(some (Out.ret (true)))))
def gG (x0:(List Int)) (x1:(List Int)) (ee:Int):Option (Out (Int) (Int)):=
 (bif decide (ee < (x0.length:Int)) then (bif (ee) == ((x1.length:Int)) then (some (Out.ret (((1:Int))))) else ((idx x0 (ee))>>=fun ub=>((idx x1 (ee))>>=fun tL=>(bif (ub) != (tL) then ((idx x0 (ee))>>=fun JG=>((idx x1 (ee))>>=fun CA=>(bif decide (JG < CA) then (some (Out.ret (((-1:Int))))) else (some (Out.ret (((1:Int)))))))) else (some (Out.norm (ai (ee+(1:Int))))))))) else (some (Out.exit 0 (ee))))
def qX (x0:(List Int)) (x1:(List Int)):Option (Int):=
 ao (S:=Unit) (ag (ae 0 (af (gG x0 x1) ((0:Int)))) (fun ee=>(bif decide ((x0.length:Int) < (x1.length:Int)) then (some (Out.ret (((-1:Int))))) else (some (Out.ret (((0:Int))))))))
def mL (x0:(List Int)) (x1:(List Int)):Option (Bool):=
 ao (S:=Unit) ((qX x0 x1)>>=fun y3=>(some (Out.ret (((y3) == ((0:Int)))))))
def iL (x0:aH) (x1:aH) (Db:Int):Option (Out (Int) (Bool)):=
 (bif decide (Db < (x0.aB.length:Int)) then ((idx x0.aB (Db))>>=fun Pf=>((idx x1.aB (Db))>>=fun Ye=>((mL Pf Ye)>>=fun y42=>(bif !(y42) then (some (Out.ret (false))) else (some (Out.norm (ai (Db+(1:Int))))))))) else (some (Out.exit 0 (Db))))
def iK (x0:aH) (x1:aH):Option (Bool):=
 ao (S:=Unit) (((bif (x0.aD) != (x1.aD) then (some (true)) else ((mL x0.aG x1.aG)>>=fun y6=>(bif !(y6) then (some (true)) else ((mL x0.To x1.To)>>=fun y9=>(bif !(y9) then (some (true)) else ((mL x0.aI x1.aI)>>=fun Pd=>(bif !(Pd) then (some (true)) else (some (((x0.aB.length:Int)) != ((x1.aB.length:Int))))))))))))>>=fun g3=>(bif g3 then (some (Out.ret (false))) else (ag (ae 0 (af (iL x0 x1) ((0:Int)))) (fun Db=>(some (Out.ret (true)))))))
def jH (x0:bX) (Bd:Int):Option (Out (Int) (Bool)):=
 (bif decide (Bd < (x0.cD.length:Int)) then ((idx x0.cD (Bd))>>=fun DH=>((idx x0.aF.aP (Bd))>>=fun CA=>((idx x0.aM.aP (Bd))>>=fun Pf=>((mK DH (CA) (Pf))>>=fun Cw=>(bif !(Cw) then (some (Out.ret (false))) else (some (Out.norm (ai (Bd+(1:Int)))))))))) else (some (Out.exit 0 (Bd))))
def kU (x0:bX):Option (Bool):=
 ao (S:=Unit) (bif ((x0.cD.length:Int)) != ((x0.aF.aP.length:Int)) then (some (Out.ret (false))) else (ag (ae 0 (af (jH x0) ((0:Int)))) (fun Bd=>(some (Out.ret (true))))))
def jI (x0:bX):Option (Bool):=
 ao (S:=Unit) ((((jG [x0.aF,x0.aM])>>=fun BP=>(bif BP then ((iK x0.aF.aC x0.aM.aC)>>=fun yy=>(bif yy then ((kU x0)>>=fun yz=>(some (yz))) else (some (false)))) else (some (false)))))>>=fun g12=>(some (Out.ret (g12))))
def eN (x0:bX) (ph:Int) (ub:(List Int)) (Bf:Int):Option (Out (Int) (Int×Int)):=
 (bif decide (Bf < (ub.length:Int)) then ((idx ub (Bf))>>=fun Fy=>((idx x0.aF.aC.To (ph))>>=fun JD=>((idx x0.cD (JD))>>=fun Ye=>((idx Ye (Fy))>>=fun JC=>((idx x0.aM.aO (ph))>>=fun BO=>((idx x0.aF.aC.aG (ph))>>=fun Cv=>((idx x0.cD (Cv))>>=fun DI=>((idx DI (Bf))>>=fun FL=>((idx BO (FL))>>=fun FC=>(bif (JC) != (FC) then (some (Out.ret ((ph,Bf)))) else (some (Out.norm (ai (Bf+(1:Int))))))))))))))) else (some (Out.exit 2 (Bf))))
def jC (x0:bX) (ph:Int):Option (Out (Int) (Int×Int)):=
 (bif decide (ph < (x0.aF.aC.aG.length:Int)) then ((idx x0.aF.aO (ph))>>=fun ub=>(ag (ae 2 (af (eN x0 ph ub) ((0:Int)))) (fun Bf=>(some (Out.norm (ai (ph+(1:Int)))))))) else (some (Out.exit 0 (ph))))
def iE (x0:bX):Option (Int×Int):=
 ao (S:=Unit) (ag (ae 0 (af (jC x0) ((0:Int)))) (fun ph=>(some (Out.ret ((((-1:Int)),((0:Int))))))))
def fU (x0:bX):Option (Bool):=
 ao (S:=Unit) ((jI x0)>>=fun y3=>(bif !(y3) then (some (Out.ret (false))) else ((iE x0)>>=fun bh=>(some (Out.ret ((decide (bh.1 < (0:Int)))))))))
def eO (x0:aK) (da:Int) (ma:Int):Option (Out (Int×Int) (Int)):=
 (bif decide (ma < (x0.aP.length:Int)) then ((idx x0.aP (ma))>>=fun XO=>(some (Out.norm (ai (da+XO),ai (ma+(1:Int)))))) else (some (Out.exit 0 (da,ma))))
def fY (x0:aK):Option (Int):=
 ao (S:=Unit) (ag (ae 0 (af (fun s=>eO x0 s.1 s.2) ((0:Int),(0:Int)))) (fun (da,ma)=>(some (Out.ret (da)))))
def eA (kn:Int) (tL:Int) (s1_3:(List (List Int))) (j4:Int):Option (Out ((List (List Int))×Int) ((List (List Int)))):=
 (bif decide (j4 < tL) then ((fits 24 (s1_3.length+1))>>=fun n42=>(some (Out.norm (s1_3++[([kn,j4]:(List Int))],ai (j4+(1:Int)))))) else (some (Out.exit 2 (s1_3,j4))))
def dZ (x0:aK) (da:(List (List Int))) (kn:Int):Option (Out ((List (List Int))×Int) ((List (List Int)))):=
 (bif decide (kn < (x0.aP.length:Int)) then ((idx x0.aP (kn))>>=fun tL=>(ag (ae 2 (af (fun s=>eA kn tL s.1 s.2) (da,(0:Int)))) (fun (s1_3,j4)=>(some (Out.norm (s1_3,ai (kn+(1:Int)))))))) else (some (Out.exit 0 (da,kn))))
def eX (x0:aK):Option ((List (List Int))):=
 ao (S:=Unit) (ag (ae 0 (af (fun s=>dZ x0 s.1 s.2) (([]:(List (List Int))),(0:Int)))) (fun (da,kn)=>(some (Out.ret (da)))))
def gH (x0:aH) (x1:Int) (x2:Int) (bo:(List Int)) (zw:Int):Option (Out ((List Int)×Int) ((List Int))):=
 (bif decide (zw < (x0.aG.length:Int)) then ((((idx x0.aG (zw))>>=fun DF=>(bif (DF) == (x1) then ((idx x0.To (zw))>>=fun CA=>(some ((CA) == (x2)))) else (some (false)))))>>=fun g20=>(bif g20 then ((fits 8 (bo.length+1))>>=fun n44=>(some (Out.norm (bo++[zw],ai (zw+(1:Int)))))) else (some (Out.norm (bo,ai (zw+(1:Int))))))) else (some (Out.exit 0 (bo,zw))))
def iJ (x0:aH) (x1:Int) (x2:Int):Option ((List Int)):=
 ao (S:=Unit) (ag (ae 0 (af (fun s=>gH x0 x1 x2 s.1 s.2) (([]:(List Int)),(0:Int)))) (fun (bo,zw)=>(some (Out.ret (bo)))))
def mW (tL:(List Int)) (s1_3:(List Int)) (FN:Int):Option (Out ((List Int)×Int) (ByteArray)):=
 (bif decide (FN < (tL.length:Int)) then ((idx tL (FN))>>=fun FD=>((fits 1 (s1_3.length+1))>>=fun n54=>(some (Out.norm (s1_3++[IntKind.u8.wrap FD],ai (FN+(1:Int))))))) else (some (Out.exit 2 (s1_3,FN))))
def mV (x0:(List (List Int))) (da:(List Int)) (ma:Int):Option (Out ((List Int)×Int) (ByteArray)):=
 (bif decide (ma < (x0.length:Int)) then ((idx x0 (ma))>>=fun tL=>(ag (ae 2 (af (fun s=>mW tL s.1 s.2) (da,(0:Int)))) (fun (s1_3,FN)=>((fits 1 (s1_3.length+1))>>=fun n75=>(some (Out.norm (s1_3++[(255:Int)],ai (ma+(1:Int))))))))) else (some (Out.exit 0 (da,ma))))
def kK (x0:(List (List Int))):Option (ByteArray):=
 ao (S:=Unit) (ag (ae 0 (af (fun s=>mV x0 s.1 s.2) (([]:(List Int)),(0:Int)))) (fun (da,ma)=>(some (Out.ret ((strOfNums da))))))
def kC (x0:List (List Int)) (s:List (ByteArray×Int)×Int):Option (Out (List (ByteArray×Int)×Int) (List (ByteArray×Int))):=
 (bif decide (s.2 < (x0.length:Int)) then ((idx x0 (s.2))>>=fun e13=>((kK [e13])>>=fun Cu=>(some (Out.norm (xD s.1 Cu s.2,ai (s.2+(1:Int))))))) else (some (Out.exit 0 s)))
def mX (x0:List (List Int)):Option (List (ByteArray×Int)):=
 ao (S:=Unit) (ag (ae 0 (af (fun s=>kC x0 s) (([]:List (ByteArray×Int)),(0:Int)))) (fun s=>(some (Out.ret (s.1)))))
def kD (x0:(List (List Int))) (x1:Int) (ba:(List Int)) (ma:Int):Option (Out ((List Int)×Int) ((List Int))):=
 (bif decide (ma < (x0.length:Int)) then ((idx x0 (ma))>>=fun tL=>((idx tL (x1))>>=fun Lh=>((fits 8 (ba.length+1))>>=fun n43=>(some (Out.norm (ba++[Lh],ai (ma+(1:Int)))))))) else (some (Out.exit 0 (ba,ma))))
def jT (x0:(List (List Int))) (x1:Int):Option ((List Int)):=
 ao (S:=Unit) (ag (ae 0 (af (fun s=>kD x0 x1 s.1 s.2) (([]:(List Int)),(0:Int)))) (fun (ba,ma)=>(some (Out.ret (ba)))))
def dO (x0 x1:Int) (ll:List (List Int)) (mm:List (ByteArray×Int)) (cc:aH):Option Int:=
 ao (S:=Unit) ((idx ll (x0))>>=fun DH=>((idx ll (x1))>>=fun DF=>((idx DH ((0:Int)))>>=fun Fy=>((idx DF ((1:Int)))>>=fun XT=>((idx DH ((2:Int)))>>=fun FD=>((idx DF ((2:Int)))>>=fun Jr=>((dJ cc (FD) (Jr))>>=fun y40=>((kK [[Fy,XT,y40]])>>=fun y43=>(some (Out.ret ((qf mm y43).getD (0:Int))))))))))))
def fH (x0:aH) (x1:(Int→Int→Option (Int))) (j5:Int) (Lb:(List Int)) (ng:Int) (yA:(List (List Int))):Option (Out (Int×(List (List Int))) (aH)):=
 (bif decide (ng < (Lb.length:Int)) then ((idx yA (j5))>>=fun DK=>((idx DK (ng))>>=fun e79=>((idx x0.To (j5))>>=fun K8=>((idx x0.aG (ng))>>=fun Pb=>(bif (K8) == (Pb) then ((idx (yA.set (j5).toNat (DK.set (ng).toNat ((-1:Int)))) (j5))>>=fun Yf=>((x1 (j5) (ng))>>=fun aeQ=>((idx Yf (ng))>>=fun aqT=>(some (Out.norm (ai (ng+(1:Int)),(yA.set (j5).toNat (DK.set (ng).toNat ((-1:Int)))).set (j5).toNat (Yf.set (ng).toNat (aeQ)))))))) else (some (Out.norm (ai (ng+(1:Int)),yA.set (j5).toNat (DK.set (ng).toNat ((-1:Int))))))))))) else (some (Out.exit 2 (ng,yA))))
def fG (x0:aH) (x1:(Int→Int→Option (Int))) (y7:Int) (n11:Nat) (j5:Int) (Ac:(List (List Int))):Option (Out (Int×(List (List Int))) (aH)):=
 (bif decide (j5 < ((List.replicate n11 ([]:(List Int))).length:Int)) then ((mk 8 (y7))>>=fun n35=>((idx Ac (j5))>>=fun BO=>((idx (Ac.set (j5).toNat (List.replicate n35 (0:Int))) (j5))>>=fun Lb=>(ag (ae 2 (af (fun s=>fH x0 x1 j5 Lb s.1 s.2) ((0:Int),Ac.set (j5).toNat (List.replicate n35 (0:Int))))) (fun (ng,yA)=>(some (Out.norm (ai (j5+(1:Int)),yA)))))))) else (some (Out.exit 0 (j5,Ac))))
def jD (x0:aH) (x1:(Int→Int→Option (Int))):Option (aH):=
 Gh (R:=(aH)) ((dE x0)>>=fun y7=>((mk 24 (y7))>>=fun n11=>(ag (ae 0 (af (fun s=>fG x0 x1 y7 n11 s.1 s.2) ((0:Int),List.replicate n11 ([]:(List Int))))) (fun (j5,Ac)=>(some (Out.norm ((aH.mk x0.aD x0.aG x0.To x0.aI Ac))))))))
def eZ {ρ:Type} (x0:aK) (i j:Int) (pi pj:List Int) (l:List Int) (s:List (List Int)×Int):Option (Out (List (List Int)×Int) ρ):=
 (bif decide (s.2 < (l.length:Int)) then ((idx l (s.2))>>=fun DJ=>((idx x0.aO (DJ))>>=fun FC=>((idx pi ((1:Int)))>>=fun O7=>((idx FC (O7))>>=fun Pc=>((idx pj ((1:Int)))>>=fun e71=>(bif (Pc) == (e71) then ((fits 24 (s.1.length+1))>>=fun n83=>(some (Out.norm (s.1++[[i,j,DJ]],ai (s.2+(1:Int)))))) else (some (Out.norm (s.1,ai (s.2+(1:Int))))))))))) else (some (Out.exit 4 s)))
def eY {ρ:Type} (x0:aK) (ps:List (List Int)) (i:Int) (pi:List Int) (s:List (List Int)×Int):Option (Out (List (List Int)×Int) ρ):=
 (bif decide (s.2 < (ps.length:Int)) then ((idx ps (s.2))>>=fun DG=>((idx pi ((0:Int)))>>=fun XP=>((idx DG ((0:Int)))>>=fun xa=>((iJ x0.aC (XP) (xa))>>=fun y51=>(ag (ae 4 (af (fun s4=>eZ x0 i s.2 pi DG y51 s4) (s.1,(0:Int)))) (fun s4=>(some (Out.norm (s4.1,ai (s.2+(1:Int))))))))))) else (some (Out.exit 2 s)))
def eH {ρ:Type} (x0:aK) (ps:List (List Int)) (s:List (List Int)×Int):Option (Out (List (List Int)×Int) ρ):=
 (bif decide (s.2 < (ps.length:Int)) then ((idx ps (s.2))>>=fun JD=>(ag (ae 2 (af (fun s2=>eY x0 ps s.2 JD s2) (s.1,(0:Int)))) (fun s2=>(some (Out.norm (s2.1,ai (s.2+(1:Int)))))))) else (some (Out.exit 0 s)))
def dU {ρ:Type} (x0:aK) (mm:List (ByteArray×Int)) (ps:List (List Int)) (s:List Int×Int):Option (Out (List Int×Int) ρ):=
 (bif decide (s.2 < (ps.length:Int)) then ((idx ps (s.2))>>=fun RX=>((idx RX ((0:Int)))>>=fun aeR=>((idx x0.aC.aI (aeR))>>=fun RG=>((kK [[s.2,s.2,RG]])>>=fun aeS=>((fits 8 (s.1.length+1))>>=fun n165=>(some (Out.norm (s.1++[(qf mm aeS).getD (0:Int)],ai (s.2+(1:Int)))))))))) else (some (Out.exit 6 s)))
def dL (x0:aK):Option (Option (aH×List (List Int)×List (List Int)×List (ByteArray×Int)×List (ByteArray×Int))×Bool):=
 ao (S:=Unit) ((fY x0)>>=fun Fz=>(bif decide (Fz > (8:Int)) then (some (Out.ret (none,false))) else ((eX x0)>>=fun yy=>(ag (ae 0 (af (fun s=>eH x0 yy s) (([]:List (List Int)),(0:Int)))) (fun s=>(bif decide ((s.1.length:Int) > (40:Int)) then (some (Out.ret (none,false))) else ((mX yy)>>=fun RZ=>((mX s.1)>>=fun R1=>((jT s.1 ((0:Int)))>>=fun Yg=>((jT s.1 ((1:Int)))>>=fun Cr=>(ag (ae 6 (af (fun s6=>dU x0 R1 yy s6) (([]:List Int),(0:Int)))) (fun s6=>((jD (aH.mk ((yy.length:Int)) Yg Cr s6.1 ([]:List (List Int))) (fun a0 a1=>dO a0 a1 s.1 R1 x0.aC))>>=fun Yh=>(some (Out.ret (some (aH.mk Yh.aD Yg Cr s6.1 Yh.aB,yy,s.1,RZ,R1),true))))))))))))))))
def gX (x0:(List Int)):Option ((List Int)):=
 ao (S:=Unit) ((fits 8 ((([]:(List Int))).length+x0.length))>>=fun n15=>(some (Out.ret ((([]:(List Int))++x0)))))
def kG (x0:(List (List Int))) (da:(List (List Int))) (ma:Int):Option (Out ((List (List Int))×Int) ((List (List Int)))):=
 (bif decide (ma < (x0.length:Int)) then ((idx x0 (ma))>>=fun XS=>((gX XS)>>=fun Yi=>((fits 24 (da.length+1))>>=fun n53=>(some (Out.norm (da++[Yi],ai (ma+(1:Int)))))))) else (some (Out.exit 0 (da,ma))))
def qJ (x0:(List (List Int))):Option ((List (List Int))):=
 ao (S:=Unit) ((mk 24 ((x0.length:Int)))>>=fun n3=>(ag (ae 0 (af (fun s=>kG x0 s.1 s.2) (([]:(List (List Int))),(0:Int)))) (fun (da,ma)=>(some (Out.ret (da))))))
def gZ (x0:aH):Option (aH):=
 ao (S:=Unit) ((gX x0.aG)>>=fun y8=>((gX x0.To)>>=fun Cu=>((gX x0.aI)>>=fun zh=>((qJ x0.aB)>>=fun y38=>(some (Out.ret ((aH.mk x0.aD y8 Cu zh y38))))))))
def kH (x0:aH) (x1:aH) (x2:(List Int)) (x3:(List Int)):Option (aY):=
 ao (S:=Unit) ((gZ x0)>>=fun y8=>((gZ x1)>>=fun JE=>((gX x2)>>=fun y78=>((gX x3)>>=fun Jk=>(some (Out.ret ((aY.mk y8 JE y78 Jk))))))))
def fQ {ρ:Type} (x0:bX) (ps:List (List Int)) (mm:List (ByteArray×Int)) (s:List Int×Int):Option (Out (List Int×Int) ρ):=
 (bif decide (s.2 < (ps.length:Int)) then ((idx ps (s.2))>>=fun Ph=>((idx Ph ((0:Int)))>>=fun Cv=>((idx Ph ((0:Int)))>>=fun O6=>((idx x0.cD (O6))>>=fun X4=>((idx Ph ((1:Int)))>>=fun Xx=>((idx X4 (Xx))>>=fun Yj=>((kK [[Cv,Yj]])>>=fun Jo=>((fits 8 (s.1.length+1))>>=fun n69=>(some (Out.norm (s.1++[(qf mm Jo).getD (0:Int)],ai (s.2+(1:Int))))))))))))) else (some (Out.exit 0 s)))
def fR {ρ:Type} (al:List (List Int)) (mm:List (ByteArray×Int)) (os:List Int) (s:List Int×Int):Option (Out (List Int×Int) ρ):=
 (bif decide (s.2 < (al.length:Int)) then ((idx al (s.2))>>=fun Yk=>((idx Yk ((0:Int)))>>=fun e89=>((idx os (e89))>>=fun Yd=>((idx Yk ((1:Int)))>>=fun K8=>((idx os (K8))>>=fun Pb=>((idx Yk ((2:Int)))>>=fun R0=>((kK [[Yd,Pb,R0]])>>=fun aeT=>((fits 8 (s.1.length+1))>>=fun n105=>(some (Out.norm (s.1++[(qf mm aeT).getD (0:Int)],ai (s.2+(1:Int))))))))))))) else (some (Out.exit 2 s)))
def jL (x0:bX):Option (aY×Int):=
 ao (S:=Unit) ((fU x0)>>=fun BP=>(bif !(BP) then (some (Out.ret ((aY.mk (aH.mk ((0:Int)) ([]) ([]) ([]) ([])) (aH.mk ((0:Int)) ([]) ([]) ([]) ([])) ([]) ([])),(1:Int)))) else ((dL x0.aF)>>=fun uT=>(match uT.1 with | none=>((dL x0.aM)>>=fun yz=>(match yz.1 with | none=>((((bif !(uT.2) then (some (true)) else (some (!(yz.2)))))>>=fun JH=>(bif JH then (some (Out.ret ((aY.mk (aH.mk ((0:Int)) ([]) ([]) ([]) ([])) (aH.mk ((0:Int)) ([]) ([]) ([]) ([])) ([]) ([])),(3:Int)))) else none))) | some k=>((((bif !(uT.2) then (some (true)) else (some (!(yz.2)))))>>=fun JH=>(bif JH then (some (Out.ret ((aY.mk (aH.mk ((0:Int)) ([]) ([]) ([]) ([])) (aH.mk ((0:Int)) ([]) ([]) ([]) ([])) ([]) ([])),(3:Int)))) else none))))) | some m=>((dL x0.aM)>>=fun yz=>(match yz.1 with | none=>((((bif !(uT.2) then (some (true)) else (some (!(yz.2)))))>>=fun JH=>(bif JH then (some (Out.ret ((aY.mk (aH.mk ((0:Int)) ([]) ([]) ([]) ([])) (aH.mk ((0:Int)) ([]) ([]) ([]) ([])) ([]) ([])),(3:Int)))) else none))) | some k=>((((bif !(uT.2) then (some (true)) else (some (!(yz.2)))))>>=fun JH=>(bif JH then (some (Out.ret ((aY.mk (aH.mk ((0:Int)) ([]) ([]) ([]) ([])) (aH.mk ((0:Int)) ([]) ([]) ([]) ([])) ([]) ([])),(3:Int)))) else (ag (ae 0 (af (fun s=>fQ x0 m.2.1 k.2.2.2.1 s) (([]:List Int),(0:Int)))) (fun s=>(ag (ae 2 (af (fun s2=>fR m.2.2.1 k.2.2.2.2 s.1 s2) (([]:List Int),(0:Int)))) (fun s2=>((kH m.1 k.1 s.1 s2.1)>>=fun R2=>(some (Out.ret (R2,(0:Int))))))))))))))))))
def kV (x0:aK) (x1:aK) (x2:(List (List Int))) (bo:Int):Option (Out (Int) (Bool)):=
 (bif decide (bo < (x2.length:Int)) then ((((idx x2 (bo))>>=fun DL=>((idx x0.aP (bo))>>=fun Pg=>(bif ((DL.length:Int)) != (Pg) then (some (true)) else ((idx x1.aP (bo))>>=fun FB=>((idx x2 (bo))>>=fun JC=>((iM (FB) JC)>>=fun XD=>(some (!(XD))))))))))>>=fun g28=>(bif g28 then (some (Out.ret (false))) else (some (Out.norm (ai (bo+(1:Int))))))) else (some (Out.exit 0 (bo))))
def lH (x0:aK) (x1:aK) (x2:(List (List Int))):Option (Bool):=
 ao (S:=Unit) (bif ((x2.length:Int)) != ((x0.aP.length:Int)) then (some (Out.ret (false))) else (ag (ae 0 (af (kV x0 x1 x2) ((0:Int)))) (fun bo=>(some (Out.ret (true))))))
def fA (x0:aK) (x1:aK) (x2:(List (List Int))) (ee:Int) (JG:Int) (CA:Int) (Bi:Int):Option (Out (Int) (Int×Int)):=
 ((idx x0.aP (JG))>>=fun JD=>(bif decide (Bi < JD) then ((idx x2 (CA))>>=fun Jv=>((idx x0.aO (ee))>>=fun BO=>((idx BO (Bi))>>=fun Cv=>((idx Jv (Cv))>>=fun DI=>((idx x1.aO (ee))>>=fun DJ=>((idx x2 (JG))>>=fun FC=>((idx FC (Bi))>>=fun Tu=>((idx DJ (Tu))>>=fun DK=>(bif (DI) != (DK) then (some (Out.ret ((ee,Bi)))) else (some (Out.norm (ai (Bi+(1:Int)))))))))))))) else (some (Out.exit 2 (Bi)))))
def kW (x0:aK) (x1:aK) (x2:(List (List Int))) (ee:Int):Option (Out (Int) (Int×Int)):=
 (bif decide (ee < (x0.aO.length:Int)) then ((idx x0.aC.aG (ee))>>=fun JG=>((idx x0.aC.To (ee))>>=fun CA=>(ag (ae 2 (af (fA x0 x1 x2 ee JG CA) ((0:Int)))) (fun Bi=>(some (Out.norm (ai (ee+(1:Int))))))))) else (some (Out.exit 0 (ee))))
def jX (x0:aK) (x1:aK) (x2:(List (List Int))):Option (Int×Int):=
 ao (S:=Unit) (ag (ae 0 (af (kW x0 x1 x2) ((0:Int)))) (fun ee=>(some (Out.ret ((((-1:Int)),((0:Int))))))))
def nF (x0:bX):Option (Bool):=
 ao (S:=Unit) ((((iB x0.aF x0.aM)>>=fun bh=>(bif !(bh) then (some (true)) else ((lH x0.aF x0.aM x0.cD)>>=fun Pe=>(some (!(Pe)))))))>>=fun g8=>(bif g8 then (some (Out.ret (false))) else ((jX x0.aF x0.aM x0.cD)>>=fun Jl=>(some (Out.ret ((decide (Jl.1 < (0:Int)))))))))
def kA (x0:aH) (x1:Int) (x2:Int) (bo:(List Int)) (ee:Int):Option (Out ((List Int)×Int) ((List Int))):=
 (bif decide (ee < (x0.aG.length:Int)) then ((((idx x0.aG (ee))>>=fun Lh=>(bif (Lh) == (x1) then ((idx x0.To (ee))>>=fun DL=>(some ((DL) == (x2)))) else (some (false)))))>>=fun g25=>(bif g25 then ((fits 8 (bo.length+1))>>=fun n50=>(some (Out.norm (bo++[ee],ai (ee+(1:Int)))))) else (some (Out.norm (bo,ai (ee+(1:Int))))))) else (some (Out.exit 0 (bo,ee))))
def qH (x0:aH) (x1:Int) (x2:Int):Option ((List Int)):=
 ao (S:=Unit) (ag (ae 0 (af (fun s=>kA x0 x1 x2 s.1 s.2) (([]:(List Int)),(0:Int)))) (fun (bo,ee)=>(some (Out.ret (bo)))))
def gL (x0:aK) (ba:Int) (j4:Int) (yB:(List (List Int))):Option (Out (Int×(List (List Int))) (dF×Bool)):=
 ((idx x0.aP (ba))>>=fun DJ=>(bif decide (j4 < DJ) then ((fits 24 (yB.length+1))>>=fun n72=>(some (Out.norm (ai (j4+(1:Int)),yB++[([ba,j4]:(List Int))])))) else (some (Out.exit 2 (j4,yB)))))
def fD (x0:aK) (ba:Int) (jh:(List (List Int))):Option (Out (Int×(List (List Int))) (dF×Bool)):=
 (bif decide (ba < x0.aC.aD) then (ag (ae 2 (af (fun s=>gL x0 ba s.1 s.2) ((0:Int),jh))) (fun (j4,yB)=>(some (Out.norm (ai (ba+(1:Int)),yB))))) else (some (Out.exit 0 (ba,jh))))
def gN (x0:aK) (ur:Int) (CB:Int) (MZ:(List Int)) (M0:(List Int)) (JI:(List Int)) (iq:Int) (vV:(List (List Int))):Option (Out (Int×(List (List Int))) (dF×Bool)):=
 (bif decide (iq < (JI.length:Int)) then ((idx JI (iq))>>=fun Gw=>((idx x0.aO (Gw))>>=fun aeU=>((idx MZ ((1:Int)))>>=fun aeV=>((idx aeU (aeV))>>=fun aeW=>((idx M0 ((1:Int)))>>=fun aeX=>(bif (aeW) == (aeX) then ((idx JI (iq))>>=fun aeY=>((fits 24 (vV.length+1))>>=fun n226=>(some (Out.norm (ai (iq+(1:Int)),vV++[([ur,CB,aeY]:(List Int))]))))) else (some (Out.norm (ai (iq+(1:Int)),vV))))))))) else (some (Out.exit 8 (iq,vV))))
def gM (x0:aK) (jh:(List (List Int))) (ur:Int) (CB:Int) (Bj:(List (List Int))):Option (Out (Int×(List (List Int))) (dF×Bool)):=
 (bif decide (CB < (jh.length:Int)) then ((idx jh (ur))>>=fun MZ=>((idx jh (CB))>>=fun M0=>((idx MZ ((0:Int)))>>=fun XJ=>((idx M0 ((0:Int)))>>=fun aeZ=>((qH x0.aC (XJ) (aeZ))>>=fun JI=>(ag (ae 8 (af (fun s=>gN x0 ur CB MZ M0 JI s.1 s.2) ((0:Int),Bj))) (fun (iq,vV)=>(some (Out.norm (ai (CB+(1:Int)),vV)))))))))) else (some (Out.exit 6 (CB,Bj))))
def fE (x0:aK) (jh:(List (List Int))) (ur:Int) (jv:(List (List Int))):Option (Out (Int×(List (List Int))) (dF×Bool)):=
 (bif decide (ur < (jh.length:Int)) then (ag (ae 6 (af (fun s=>gM x0 jh ur s.1 s.2) ((0:Int),jv))) (fun (CB,Bj)=>(some (Out.norm (ai (ur+(1:Int)),Bj))))) else (some (Out.exit 4 (ur,jv))))
def gO (x0:aK) (jh:(List (List Int))) (jv:(List (List Int))) (Bo:Int) (yC:(List Int)):Option (Out (Int×(List Int)) (dF×Bool)):=
 (bif decide (Bo < (jh.length:Int)) then ((idx jh (Bo))>>=fun RI=>((idx RI ((0:Int)))>>=fun Rx=>((idx x0.aC.aI (Rx))>>=fun Jm=>((iI jv [Bo,Bo,Jm])>>=fun Gy=>((fits 8 (yC.length+1))>>=fun n323=>(some (Out.norm (ai (Bo+(1:Int)),yC++[Gy])))))))) else (some (Out.exit 10 (Bo,yC))))
def fF (x0:aK) (jv:(List (List Int))) (A3:(List Int)) (Bp:(List Int)) (Dc:Int):Option (Out ((List Int)×Int) (dF×Bool)):=
 (bif decide (Dc < (jv.length:Int)) then ((idx jv (Dc))>>=fun R3=>((idx A3 ((1:Int)))>>=fun ae0=>((idx R3 ((0:Int)))>>=fun ae1=>(bif (ae0) == (ae1) then ((idx A3 ((0:Int)))>>=fun ae2=>((idx R3 ((1:Int)))>>=fun ae3=>((idx A3 ((2:Int)))>>=fun ae4=>((idx R3 ((2:Int)))>>=fun ae5=>((kB x0.aC (ae4) (ae5))>>=fun ae6=>((iI jv [ae2,ae3,ae6])>>=fun ae7=>((fits 8 (Bp.length+1))>>=fun aqU=>(some (Out.norm (Bp++[ae7],ai (Dc+(1:Int)))))))))))) else ((fits 8 (Bp.length+1))>>=fun aqV=>(some (Out.norm (Bp++[(-1:Int)],ai (Dc+(1:Int)))))))))) else (some (Out.exit 14 (Bp,Dc))))
def gP (x0:aK) (jv:(List (List Int))) (FP:Int) (yD:(List Int)) (yE:(List Int)) (yF:(List (List Int))):Option (Out (Int×(List Int)×(List Int)×(List (List Int))) (dF×Bool)):=
 (bif decide (FP < (jv.length:Int)) then ((idx jv (FP))>>=fun A3=>((idx A3 ((0:Int)))>>=fun RF=>((fits 8 (yD.length+1))>>=fun aqW=>((idx A3 ((1:Int)))>>=fun ae8=>((fits 8 (yE.length+1))>>=fun aeo=>(ag (ae 14 (af (fun s=>fF x0 jv A3 s.1 s.2) (([]:(List Int)),(0:Int)))) (fun (Bp,Dc)=>((fits 24 (yF.length+1))>>=fun aqX=>(some (Out.norm (ai (FP+(1:Int)),yD++[RF],yE++[ae8],yF++[Bp]))))))))))) else (some (Out.exit 12 (FP,yD,yE,yF))))
def iQ (x0:aK):Option (dF×Bool):=
 ao (S:=Unit) (ag (ae 0 (af (fun s=>fD x0 s.1 s.2) ((0:Int),[]))) (fun (ba,jh)=>(bif decide ((jh.length:Int) > (8:Int)) then (some (Out.ret (((dF.mk (aH.mk ((0:Int)) ([]) ([]) ([]) ([])) ([]) ([])),false)))) else (ag (ae 4 (af (fun s=>fE x0 jh s.1 s.2) ((0:Int),[]))) (fun (ur,jv)=>(bif decide ((jv.length:Int) > (40:Int)) then (some (Out.ret (((dF.mk (aH.mk ((0:Int)) ([]) ([]) ([]) ([])) ([]) ([])),false)))) else (ag (ae 10 (af (fun s=>gO x0 jh jv s.1 s.2) ((0:Int),[]))) (fun (Bo,yC)=>(ag (ae 12 (af (fun s=>gP x0 jv s.1 s.2.1 s.2.2.1 s.2.2.2) ((0:Int),[],[],[]))) (fun (FP,yD,yE,yF)=>(some (Out.ret (((dF.mk (aH.mk ((jh.length:Int)) yD yE yC yF) jh jv),true))))))))))))))
def pN (x0:aH) (x1:aH) (x2:(List Int)) (x3:(List Int)):Option (aY):=
 ao (S:=Unit) ((fJ x0)>>=fun ed=>((fJ x1)>>=fun y60=>((eG x2)>>=fun ae9=>((eG x3)>>=fun afa=>(some (Out.ret ((aY.mk ed y60 ae9 afa))))))))
def fS (x0:bX) (ed:dF×Bool) (Hg:dF×Bool) (ee:(List Int)) (nc:Int):Option (Out ((List Int)×Int) (aY×Int)):=
 (bif decide (nc < (ed.1.aD.length:Int)) then ((idx ed.1.aD (nc))>>=fun afb=>((idx afb ((0:Int)))>>=fun Yl=>((idx ed.1.aD (nc))>>=fun afc=>((idx afc ((1:Int)))>>=fun afd=>((idx x0.cD (Yl))>>=fun afe=>((idx afe (afd))>>=fun aff=>((iI Hg.1.aD [Yl,aff])>>=fun afg=>((fits 8 (ee.length+1))>>=fun aqY=>(some (Out.norm (ee++[afg],ai (nc+(1:Int))))))))))))) else (some (Out.exit 0 (ee,nc))))
def fT (ed:dF×Bool) (Hg:dF×Bool) (ee:(List Int)) (nr:(List Int)) (Bq:Int):Option (Out ((List Int)×Int) (aY×Int)):=
 (bif decide (Bq < (ed.1.bc.length:Int)) then ((idx ed.1.bc (Bq))>>=fun afh=>((idx afh ((0:Int)))>>=fun afi=>((idx ee (afi))>>=fun afj=>((idx ed.1.bc (Bq))>>=fun afk=>((idx afk ((1:Int)))>>=fun afl=>((idx ee (afl))>>=fun afm=>((idx ed.1.bc (Bq))>>=fun afn=>((idx afn ((2:Int)))>>=fun afo=>((iI Hg.1.bc [afj,afm,afo])>>=fun afp=>((fits 8 (nr.length+1))>>=fun aqZ=>(some (Out.norm (nr++[afp],ai (Bq+(1:Int))))))))))))))) else (some (Out.exit 2 (nr,Bq))))
def jM (x0:bX):Option (aY×Int):=
 ao (S:=Unit) ((nF x0)>>=fun z6=>(bif !(z6) then (some (Out.ret (((aY.mk (aH.mk ((0:Int)) ([]) ([]) ([]) ([])) (aH.mk ((0:Int)) ([]) ([]) ([]) ([])) ([]) ([])),((1:Int)))))) else ((iQ x0.aF)>>=fun ed=>((iQ x0.aM)>>=fun Hg=>(((bif !(ed.2) then (some (true)) else (some (!(Hg.2)))))>>=fun afq=>(bif afq then (some (Out.ret (((aY.mk (aH.mk ((0:Int)) ([]) ([]) ([]) ([])) (aH.mk ((0:Int)) ([]) ([]) ([]) ([])) ([]) ([])),((3:Int)))))) else (ag (ae 0 (af (fun s=>fS x0 ed Hg s.1 s.2) (([]:(List Int)),(0:Int)))) (fun (ee,nc)=>(ag (ae 2 (af (fun s=>fT ed Hg ee s.1 s.2) (([]:(List Int)),(0:Int)))) (fun (nr,Bq)=>((pN ed.1.C Hg.1.C ee nr)>>=fun afr=>(some (Out.ret ((afr,((0:Int)))))))))))))))))
def rF (x0:(List Int)) (x1:(List Int)) (ba:Int):Option (Out (Int) (Bool)):=
 (bif decide (ba < (x0.length:Int)) then ((idx x0 (ba))>>=fun yf=>((idx x1 (ba))>>=fun ub=>(bif (yf) != (ub) then (some (Out.ret (false))) else (some (Out.norm (ai (ba+(1:Int)))))))) else (some (Out.exit 0 (ba))))
def gI (x0:(List Int)) (x1:(List Int)):Option (Bool):=
 ao (S:=Unit) (bif ((x0.length:Int)) != ((x1.length:Int)) then (some (Out.ret (false))) else (ag (ae 0 (af (rF x0 x1) ((0:Int)))) (fun ba=>(some (Out.ret (true))))))
def rM (x0:(List (List Int))) (x1:(List (List Int))) (ba:Int):Option (Out (Int) (Bool)):=
 (bif decide (ba < (x0.length:Int)) then ((idx x0 (ba))>>=fun yf=>((idx x1 (ba))>>=fun zf=>((gI yf zf)>>=fun FM=>(bif !(FM) then (some (Out.ret (false))) else (some (Out.norm (ai (ba+(1:Int))))))))) else (some (Out.exit 0 (ba))))
def rA (x0:(List (List Int))) (x1:(List (List Int))):Option (Bool):=
 ao (S:=Unit) (bif ((x0.length:Int)) != ((x1.length:Int)) then (some (Out.ret (false))) else (ag (ae 0 (af (rM x0 x1) ((0:Int)))) (fun ba=>(some (Out.ret (true))))))
def lJ (x0:aH) (x1:aH):Option (Bool):=
 ao (S:=Unit) (((bif (x0.aD) == (x1.aD) then ((gI x0.aG x1.aG)>>=fun uT=>(bif uT then ((gI x0.To x1.To)>>=fun X7=>(bif X7 then ((gI x0.aI x1.aI)>>=fun ed=>(bif ed then ((rA x0.aB x1.aB)>>=fun FM=>(some (FM))) else (some (false)))) else (some (false)))) else (some (false)))) else (some (false))))>>=fun g16=>(some (Out.ret (g16))))
def lC (x0:aY) (x1:aY):Option (Bool):=
 ao (S:=Unit) ((((lJ x0.aF x1.aF)>>=fun zi=>(bif zi then ((lJ x0.aM x1.aM)>>=fun yy=>(bif yy then ((gI x0.aD x1.aD)>>=fun yz=>(bif yz then ((gI x0.bc x1.bc)>>=fun zh=>(some (zh))) else (some (false)))) else (some (false)))) else (some (false)))))>>=fun g16=>(some (Out.ret (g16))))
def fC (x0:aK):Option (aY×Int):=
 ao (S:=Unit) ((eM x0)>>=fun y6=>(bif !(y6) then (some (Out.ret ((aY.mk (aH.mk ((0:Int)) ([]) ([]) ([]) ([])) (aH.mk ((0:Int)) ([]) ([]) ([]) ([])) ([]) ([])),(1:Int)))) else ((dL x0)>>=fun Ym=>(match Ym.1 with | none=>(bif !(Ym.2) then (some (Out.ret ((aY.mk (aH.mk ((0:Int)) ([]) ([]) ([]) ([])) (aH.mk ((0:Int)) ([]) ([]) ([]) ([])) ([]) ([])),(3:Int)))) else none) | some m=>(bif !(Ym.2) then (some (Out.ret ((aY.mk (aH.mk ((0:Int)) ([]) ([]) ([]) ([])) (aH.mk ((0:Int)) ([]) ([]) ([]) ([])) ([]) ([])),(3:Int)))) else ((jT m.2.1 ((0:Int)))>>=fun Cw=>((jT m.2.2.1 ((2:Int)))>>=fun JE=>((kH m.1 x0.aC Cw JE)>>=fun XF=>(some (Out.ret (XF,(0:Int))))))))))))
def iF (x0:(List aH)) (bo:Int):Option (Out (Int) (Bool)):=
 (bif decide (bo < (x0.length:Int)) then ((idx x0 (bo))>>=fun e9=>((eU e9)>>=fun e7=>(bif !(e7) then (some (Out.ret (false))) else (some (Out.norm (ai (bo+(1:Int)))))))) else (some (Out.exit 0 (bo))))
def jS (x0:(List aH)):Option (Bool):=
 ao (S:=Unit) (ag (ae 0 (af (iF x0) ((0:Int)))) (fun bo=>(some (Out.ret (true)))))
def kX (x0:aY) (Br:Int):Option (Out (Int) (Bool)):=
 (bif decide (Br < (x0.bc.length:Int)) then ((idx x0.bc (Br))>>=fun Ji=>((((idx x0.aM.aG (Ji))>>=fun Pg=>((idx x0.aF.aG (Br))>>=fun Jr=>((idx x0.aD (Jr))>>=fun Js=>(bif (Pg) != (Js) then (some (true)) else ((idx x0.aM.To (Ji))>>=fun Ph=>((idx x0.aF.To (Br))>>=fun O5=>((idx x0.aD (O5))>>=fun XV=>(some ((Ph) != (XV)))))))))))>>=fun g35=>(bif g35 then (some (Out.ret (false))) else (some (Out.norm (ai (Br+(1:Int)))))))) else (some (Out.exit 0 (Br))))
def kY (x0:aY) (Ad:Int):Option (Out (Int) (Bool)):=
 (bif decide (Ad < (x0.aF.aI.length:Int)) then ((idx x0.aF.aI (Ad))>>=fun Yj=>((idx x0.bc (Yj))>>=fun Pc=>((idx x0.aD (Ad))>>=fun Tu=>((idx x0.aM.aI (Tu))>>=fun DK=>(bif (Pc) != (DK) then (some (Out.ret (false))) else (some (Out.norm (ai (Ad+(1:Int)))))))))) else (some (Out.exit 2 (Ad))))
def kZ (x0:aY) (wQ:Int) (K9:(List Int)) (Ae:Int):Option (Out (Int) (Bool)):=
 (bif decide (Ae < (K9.length:Int)) then ((idx K9 (Ae))>>=fun MQ=>(((bif decide (MQ ≥ (0:Int)) then ((idx x0.bc (MQ))>>=fun ME=>((idx x0.bc (wQ))>>=fun RE=>((idx x0.bc (Ae))>>=fun MH=>((dJ x0.aM (RE) (MH))>>=fun R2=>(some ((ME) != (R2))))))) else (some (false))))>>=fun afs=>(bif afs then (some (Out.ret (false))) else (some (Out.norm (ai (Ae+(1:Int)))))))) else (some (Out.exit 6 (Ae))))
def lA (x0:aY) (wQ:Int):Option (Out (Int) (Bool)):=
 (bif decide (wQ < (x0.aF.aB.length:Int)) then ((idx x0.aF.aB (wQ))>>=fun K9=>(ag (ae 6 (af (kZ x0 wQ K9) ((0:Int)))) (fun Ae=>(some (Out.norm (ai (wQ+(1:Int)))))))) else (some (Out.exit 4 (wQ))))
def jY (x0:aY):Option (Bool):=
 ao (S:=Unit) (((bif ((x0.aD.length:Int)) != (x0.aF.aD) then (some (true)) else ((dE x0.aF)>>=fun bh=>(bif ((x0.bc.length:Int)) != (bh) then (some (true)) else ((fX x0.aD (x0.aM.aD))>>=fun Pe=>(bif !(Pe) then (some (true)) else ((dE x0.aM)>>=fun z6=>((fX x0.bc (z6))>>=fun zi=>(some (!(zi)))))))))))>>=fun g7=>(bif g7 then (some (Out.ret (false))) else (ag (ae 0 (af (kX x0) ((0:Int)))) (fun Br=>(ag (ae 2 (af (kY x0) ((0:Int)))) (fun Ad=>(ag (ae 4 (af (lA x0) ((0:Int)))) (fun wQ=>(some (Out.ret (true)))))))))))
def fM (x0:aY):Option (Bool):=
 ao (S:=Unit) ((((jS [x0.aF,x0.aM])>>=fun BP=>(bif BP then ((jY x0)>>=fun Cu=>(some (Cu))) else (some (false)))))>>=fun g12=>(some (Out.ret (g12))))
def jJ (x0:(List aY)) (bo:Int):Option (Out (Int) (Bool)):=
 (bif decide (bo < (x0.length:Int)) then ((idx x0 (bo))>>=fun e9=>((fM e9)>>=fun JE=>(bif !(JE) then (some (Out.ret (false))) else (some (Out.norm (ai (bo+(1:Int)))))))) else (some (Out.exit 0 (bo))))
def lB (x0:(List aY)):Option (Bool):=
 ao (S:=Unit) (ag (ae 0 (af (jJ x0) ((0:Int)))) (fun bo=>(some (Out.ret (true)))))
def mM (x0:(List Int)) (x1:(List Int)) (kn:Int) (mg:(List Int)):Option (Out (Int×(List Int)) ((List Int))):=
 (bif decide (kn < (x0.length:Int)) then ((idx x0 (kn))>>=fun Lf=>((idx x1 (Lf))>>=fun zf=>((idx mg (kn))>>=fun JG=>(some (Out.norm (ai (kn+(1:Int)),mg.set (kn).toNat (zf))))))) else (some (Out.exit 0 (kn,mg))))
def qL (x0:(List Int)) (x1:(List Int)):Option ((List Int)):=
 ao (S:=Unit) ((mk 8 ((x0.length:Int)))>>=fun n3=>(ag (ae 0 (af (fun s=>mM x0 x1 s.1 s.2) ((0:Int),List.replicate n3 (0:Int)))) (fun (kn,mg)=>(some (Out.ret (mg))))))
def jZ (x0:aY) (x1:aY):Option (aY):=
 ao (S:=Unit) ((qL x0.aD x1.aD)>>=fun bh=>((qL x0.bc x1.bc)>>=fun uT=>((kH x0.aF x1.aM bh uT)>>=fun Yi=>(some (Out.ret (Yi))))))
def jW (x0:aY) (x1:aY):Option (aY×Int):=
 ao (S:=Unit) ((lB [x0,x1])>>=fun Cw=>(bif !(Cw) then (some (Out.ret (((aY.mk (aH.mk ((0:Int)) ([]) ([]) ([]) ([])) (aH.mk ((0:Int)) ([]) ([]) ([]) ([])) ([]) ([])),((1:Int)))))) else ((iK x0.aM x1.aF)>>=fun XC=>(bif !(XC) then (some (Out.ret (((aY.mk (aH.mk ((0:Int)) ([]) ([]) ([]) ([])) (aH.mk ((0:Int)) ([]) ([]) ([]) ([])) ([]) ([])),((5:Int)))))) else ((jZ x0 x1)>>=fun O8=>(some (Out.ret ((O8,((0:Int)))))))))))
def rB (x0:aY) (x1:(aY→Option (Bool))):Option (Bool×Int):=
 ao (S:=Unit) ((fM x0)>>=fun y3=>(bif !(y3) then (some (Out.ret ((false,((1:Int)))))) else ((x1 x0)>>=fun bh=>(some (Out.ret ((bh,((0:Int)))))))))
def fN (x0:aH) (x1:Int) (ba:(List Int)) (Bt:Int):Option (Out ((List Int)×Int) ((List Int))):=
 (bif decide (Bt < (x0.aG.length:Int)) then ((idx x0.aG (Bt))>>=fun tL=>(bif (tL) == (x1) then ((fits 8 (ba.length+1))>>=fun n39=>(some (Out.norm (ba++[Bt],ai (Bt+(1:Int)))))) else (some (Out.norm (ba,ai (Bt+(1:Int))))))) else (some (Out.exit 0 (ba,Bt))))
def gQ (x0:aH) (x1:Int):Option ((List Int)):=
 ao (S:=Unit) (ag (ae 0 (af (fun s=>fN x0 x1 s.1 s.2) (([]:(List Int)),(0:Int)))) (fun (ba,Bt)=>(some (Out.ret (ba)))))
def fZ (x0:aY) (x2:Int) (bh:(List Int)) (bo:(List Int)) (ph:Int):Option (Out ((List Int)×Int) ((List Int))):=
 (bif decide (ph < (bh.length:Int)) then ((idx bh (ph))>>=fun Lh=>((idx x0.bc (Lh))>>=fun Ji=>(bif (Ji) == (x2) then ((fits 8 (bo.length+1))>>=fun n51=>(some (Out.norm (bo++[Lh],ai (ph+(1:Int)))))) else (some (Out.norm (bo,ai (ph+(1:Int)))))))) else (some (Out.exit 0 (bo,ph))))
def jV (x0:aY) (x1:Int) (x2:Int):Option ((List Int)):=
 ao (S:=Unit) ((gQ x0.aF (x1))>>=fun bh=>(ag (ae 0 (af (fun s=>fZ x0 x2 bh s.1 s.2) (([]:(List Int)),(0:Int)))) (fun (bo,ph)=>(some (Out.ret (bo))))))
def eQ (x0:aY) (sE:Int) (BP:(List Int)) (FR:Int):Option (Out (Int) (Bool)):=
 (bif decide (FR < (BP.length:Int)) then ((idx BP (FR))>>=fun X8=>((jV x0 (sE) (X8))>>=fun Cw=>(bif ((Cw.length:Int)) != ((1:Int)) then (some (Out.ret (false))) else (some (Out.norm (ai (FR+(1:Int)))))))) else (some (Out.exit 2 (FR))))
def eP (x0:aY) (sE:Int):Option (Out (Int) (Bool)):=
 (bif decide (sE < (x0.aD.length:Int)) then ((idx x0.aD (sE))>>=fun e9=>((gQ x0.aM (e9))>>=fun BP=>(ag (ae 2 (af (eQ x0 sE BP) ((0:Int)))) (fun FR=>(some (Out.norm (ai (sE+(1:Int))))))))) else (some (Out.exit 0 (sE))))
def dV (x0:aY):Option (Bool):=
 ao (S:=Unit) (ag (ae 0 (af (eP x0) ((0:Int)))) (fun sE=>(some (Out.ret (true)))))
def fO (x0:aY):Option (Bool×Int):=
 ao (S:=Unit) ((rB x0 (fun a0=>dV a0))>>=fun y8=>(some (Out.ret ((y8.1,y8.2)))))
def kI (x0:(List Bool)) (da:(List Int)) (lj:Int):Option (Out ((List Int)×Int) ((List Int))):=
 (bif decide (lj < (x0.length:Int)) then ((idx x0 (lj))>>=fun tL=>(bif tL then ((fits 8 (da.length+1))>>=fun n39=>(some (Out.norm (da++[lj],ai (lj+(1:Int)))))) else (some (Out.norm (da,ai (lj+(1:Int))))))) else (some (Out.exit 0 (da,lj))))
def qK (x0:(List Bool)):Option ((List Int)):=
 ao (S:=Unit) (ag (ae 0 (af (fun s=>kI x0 s.1 s.2) (([]:(List Int)),(0:Int)))) (fun (da,lj)=>(some (Out.ret (da)))))
def lD (x1:(List Int)) (sE:Int) (mg:(List Bool)):Option (Out (Int×(List Bool)) ((List Int))):=
 (bif decide (sE < (x1.length:Int)) then ((idx x1 (sE))>>=fun Lf=>((idx mg (Lf))>>=fun zf=>(some (Out.norm (ai (sE+(1:Int)),mg.set (Lf).toNat (true)))))) else (some (Out.exit 0 (sE,mg))))
def qT (x0:Int) (x1:(List Int)):Option ((List Int)):=
 ao (S:=Unit) ((mk 1 (x0))>>=fun n3=>(ag (ae 0 (af (fun s=>lD x1 s.1 s.2) ((0:Int),List.replicate n3 false))) (fun (sE,mg)=>((qK mg)>>=fun Cw=>(some (Out.ret (Cw)))))))
def iG (x0:bX) (nc:Int):Option (Out (Int) (Bool)):=
 (bif decide (nc < (x0.cD.length:Int)) then ((idx x0.cD (nc))>>=fun e9=>((idx x0.aM.aP (nc))>>=fun Xw=>((qT (Xw) e9)>>=fun yy=>(bif ((yy.length:Int)) != ((e9.length:Int)) then (some (Out.ret (false))) else (some (Out.norm (ai (nc+(1:Int))))))))) else (some (Out.exit 0 (nc))))
def gJ (x0:bX):Option (Bool):=
 ao (S:=Unit) (ag (ae 0 (af (iG x0) ((0:Int)))) (fun nc=>(some (Out.ret (true)))))
def jE (x0:bX):Option (Bool×Int):=
 ao (S:=Unit) ((fU x0)>>=fun y8=>(bif !(y8) then (some (Out.ret ((false,((1:Int)))))) else ((gJ x0)>>=fun Fz=>(some (Out.ret ((Fz,((0:Int)))))))))
def eS (wZ:aY×Int) (j5:Int) (HH:Bool) (FT:Int):Option (Out (Bool×Int) (Bool)):=
 (bif decide (FT < j5) then (((bif HH then ((idx wZ.1.aD (j5))>>=fun aaw=>((idx wZ.1.aD (FT))>>=fun aax=>(some ((aaw) != (aax))))) else (some (false))))>>=fun aay=>(some (Out.norm (aay,ai (FT+(1:Int)))))) else (some (Out.exit 2 (HH,FT))))
def eR (wZ:aY×Int) (HI:Bool) (j5:Int):Option (Out (Bool×Int) (Bool)):=
 (bif decide (j5 < (wZ.1.aD.length:Int)) then (ag (ae 2 (af (fun s=>eS wZ j5 s.1 s.2) (HI,(0:Int)))) (fun (HH,FT)=>(some (Out.norm (HH,ai (j5+(1:Int))))))) else (some (Out.exit 0 (HI,j5))))
def iA (x0:(List Int)):Option (Bool):=
 ao (S:=Unit) ((rD x0)>>=fun y3=>(bif y3 then (some (Out.ret (true))) else ((gS x0)>>=fun bh=>((jL bh)>>=fun wZ=>((jM bh)>>=fun Yn=>(((bif (wZ.2) != (Yn.2) then (some (true)) else ((lC wZ.1 Yn.1)>>=fun afu=>(some (!(afu))))))>>=fun afv=>(bif afv then (some (Out.ret (false))) else (bif (wZ.2) != ((0:Int)) then (some (Out.ret (true))) else ((fC bh.aF)>>=fun Yo=>((fC bh.aM)>>=fun Tz=>((jW wZ.1 Tz.1)>>=fun TA=>((fO wZ.1)>>=fun TB=>((jE bh)>>=fun TC=>(ag (ae 0 (af (fun s=>eR wZ s.1 s.2) (true,(0:Int)))) (fun (HI,j5)=>(((bif (ai (ai (ai (ai (Yo.2+Tz.2)+TA.2)+TB.2)+TC.2)) == ((0:Int)) then ((lC TA.1 Yo.1)>>=fun aaz=>(bif aaz then (bif TB.1 then (some ((TC.1) == (HI))) else (some (false))) else (some (false)))) else (some (false))))>>=fun aaA=>(some (Out.ret (aaA)))))))))))))))))))
structure qZ where
 aF:aY
 aM:aY
 xy:(List Int)
end
end Go.Proofs.YtcnehblmgfbfoaaGreat
