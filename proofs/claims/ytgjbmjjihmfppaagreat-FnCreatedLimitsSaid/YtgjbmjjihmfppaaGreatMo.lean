/- Models, printed by a program: what each function computes, on plain data. No condition. -/
import Derived.Test.YtgjbmjjihmfppaaGreatLj
import Derived.Test.YtgjbmjjihmfppaaGreatLn
import Derived.Test.YtgjbmjjihmfppaaGreatLq
namespace Go.Proofs.YtgjbmjjihmfppaaGreat
open Go Go.Li
set_option linter.unusedVariables false
noncomputable section
structure aK where
 Code:(List Int)
 At:Int
 au:Int
structure aG where
 aA:Int
 aE:(List Int)
 To:(List Int)
 aH:(List Int)
 aB:(List (List Int))
structure bR where
 aE:Int
 To:Int
 mf:(List Int)
structure aI where
 aC:aG
 aD:aG
 aA:(List Int)
 ab:(List Int)
structure sS where
 aE:Int
 To:Int
structure aZ where
 cn:Int
 bb:(List Int)
structure eB where
 D:aI
 bu:aI
 F:aI
 xM:(List aZ)
 yE:(List aZ)
structure cM where
 F:aI
 G:aI
 Ap:Bool
 xF:Int
 Found:(List (List Int))
def sG (x0:(List Int)):Option (Bool):=
 ao (S:=Unit) (some (Out.ret ((decide ((x0.length:Int) > (4096:Int))))))
def oP (x0:(List Int)) (cb:Int) (C7:Int):Option (Out (Int×Int) ((Option aK))):=
 (((bif decide (cb < (x0.length:Int)) then (some (decide (cb < (4096:Int)))) else (some (false))))>>=fun g14=>(bif g14 then ((wb .mul .u64 (C7) ((1099511628211:Int)))>>=fun z20=>((idx x0 (cb))>>=fun BY=>((wb .add .u64 (z20) (IntKind.u64.wrap BY))>>=fun z23=>((wb .add .u64 (z23) ((7:Int)))>>=fun z24=>(some (Out.norm (an (cb+(1:Int)),z24))))))) else (some (Out.exit 0 (cb,C7)))))
def oQ (x0:(List Int)):Option ((Option aK)):=
 ao (S:=Unit) ((wb .add .u64 ((7019:Int)) (IntKind.u64.wrap ((x0.length:Int))))>>=fun z3=>(ag (ae 0 (aj (fun s=>oP x0 s.1 s.2) ((0:Int),z3))) (fun (cb,C7)=>(some (Out.ret ((some (aK.mk x0 ((0:Int)) C7))))))))
def bX (x0:aK) (x1:Int):Option (Int×aK):=
 ao (S:=Unit) (bif decide (x1 < (1:Int)) then (some (Out.ret ((((0:Int)),x0)))) else ((wb .mul .u64 (x0.au) ((6364136223846793005:Int)))>>=fun z9=>((wb .add .u64 (z9) ((1442695040888963407:Int)))>>=fun Xm=>((wb .shr .u64 (Xm) ((33:Int)))>>=fun Xn=>((wb .and .u64 (Xn) ((16777215:Int)))>>=fun z16=>(bif decide (x0.At < (x0.Code.length:Int)) then ((idx x0.Code (x0.At))>>=fun IW=>((wb .rem .i64 (an (IntKind.i64.wrap z16+IntKind.i64.wrap IW)) (x1))>>=fun z30=>(some (Out.ret ((z30,(aK.mk x0.Code (an (x0.At+(1:Int))) Xm))))))) else ((wb .rem .i64 (IntKind.i64.wrap z16) (x1))>>=fun z33=>(some (Out.ret ((z33,(aK.mk x0.Code x0.At Xm))))))))))))
def lQ (x0:aK) (x1:Int) (dx:Int) (zw:Int) (zy:Int) (Cz:(List Int)):Option (Out (Int×Int×Int×(List Int)) ((List (List Int))×aK)):=
 (bif decide (dx < x1) then ((bX (aK.mk x0.Code zw zy) ((2:Int)))>>=fun Xo=>((idx Cz (dx))>>=fun Ti=>(some (Out.norm (an (dx+(1:Int)),Xo.2.At,Xo.2.au,Cz.set (dx).toNat (Xo.1)))))) else (some (Out.exit 2 (dx,zw,zy,Cz))))
def lR (x0:aK) (x1:Int) (bh:(List (List Int))) (fy:Int) (km:Int) (kn:Int):Option (Out ((List (List Int))×Int×Int×Int) ((List (List Int))×aK)):=
 (bif decide (fy < x1) then ((mk 8 (x1))>>=fun n21=>((idx (List.replicate n21 (0:Int)) (fy))>>=fun IX=>(ag (ae 2 (aj (fun s=>lQ x0 x1 s.1 s.2.1 s.2.2.1 s.2.2.2) (an (fy+(1:Int)),km,kn,(List.replicate n21 (0:Int)).set (fy).toNat ((1:Int))))) (fun (dx,zw,zy,Cz)=>((fits 24 (bh.length+1))>>=fun n78=>(some (Out.norm (bh++[Cz],an (fy+(1:Int)),zw,zy)))))))) else (some (Out.exit 0 (bh,fy,km,kn))))
def pS (x1:Int) (du:Int) (gv:Int) (r8:Int) (vh:(List (List Int))):Option (Out (Int×(List (List Int))) ((List (List Int))×aK)):=
 (bif decide (r8 < x1) then ((((idx vh (gv))>>=fun acK=>((idx acK (du))>>=fun QI=>(bif (QI) == ((1:Int)) then ((idx vh (du))>>=fun acL=>((idx acL (r8))>>=fun acM=>(some ((acM) == ((1:Int)))))) else (some (false))))))>>=fun acN=>(bif acN then ((idx vh (gv))>>=fun Xp=>((idx Xp (r8))>>=fun ao8=>(some (Out.norm (an (r8+(1:Int)),vh.set (gv).toNat (Xp.set (r8).toNat ((1:Int)))))))) else (some (Out.norm (an (r8+(1:Int)),vh))))) else (some (Out.exit 8 (r8,vh))))
def pT (x1:Int) (du:Int) (gv:Int) (C8:(List (List Int))):Option (Out (Int×(List (List Int))) ((List (List Int))×aK)):=
 (bif decide (gv < x1) then (ag (ae 8 (aj (fun s=>pS x1 du gv s.1 s.2) ((0:Int),C8))) (fun (r8,vh)=>(some (Out.norm (an (gv+(1:Int)),vh))))) else (some (Out.exit 6 (gv,C8))))
def pU (x1:Int) (du:Int) (C9:(List (List Int))):Option (Out (Int×(List (List Int))) ((List (List Int))×aK)):=
 (bif decide (du < x1) then (ag (ae 6 (aj (fun s=>pT x1 du s.1 s.2) ((0:Int),C9))) (fun (gv,C8)=>(some (Out.norm (an (du+(1:Int)),C8))))) else (some (Out.exit 4 (du,C9))))
def pV (x1:Int) (zW:Int) (x7:Int) (zA:Int) (xi:(List (List Int))):Option (Out (Int×(List (List Int))) ((List (List Int))×aK)):=
 (bif decide (zA < x1) then ((((idx xi (x7))>>=fun acO=>((idx acO (zW))>>=fun acP=>(bif (acP) == ((1:Int)) then ((idx xi (zW))>>=fun acQ=>((idx acQ (zA))>>=fun acR=>(some ((acR) == ((1:Int)))))) else (some (false))))))>>=fun acS=>(bif acS then ((idx xi (x7))>>=fun Xq=>((idx Xq (zA))>>=fun ao9=>(some (Out.norm (an (zA+(1:Int)),xi.set (x7).toNat (Xq.set (zA).toNat ((1:Int)))))))) else (some (Out.norm (an (zA+(1:Int)),xi))))) else (some (Out.exit 8 (zA,xi))))
def pW (x1:Int) (zW:Int) (x7:Int) (EU:(List (List Int))):Option (Out (Int×(List (List Int))) ((List (List Int))×aK)):=
 (bif decide (x7 < x1) then (ag (ae 8 (aj (fun s=>pV x1 zW x7 s.1 s.2) ((0:Int),EU))) (fun (zA,xi)=>(some (Out.norm (an (x7+(1:Int)),xi))))) else (some (Out.exit 6 (x7,EU))))
def pX (x1:Int) (zW:Int) (EV:(List (List Int))):Option (Out (Int×(List (List Int))) ((List (List Int))×aK)):=
 (bif decide (zW < x1) then (ag (ae 6 (aj (fun s=>pW x1 zW s.1 s.2) ((0:Int),EV))) (fun (x7,EU)=>(some (Out.norm (an (zW+(1:Int)),EU))))) else (some (Out.exit 4 (zW,EV))))
def oR (x1:Int) (zX:Int) (x8:Int) (xj:Int) (vi:(List (List Int))):Option (Out (Int×(List (List Int))) ((List (List Int))×aK)):=
 (bif decide (xj < x1) then ((((idx vi (x8))>>=fun acT=>((idx acT (zX))>>=fun yF=>(bif (yF) == ((1:Int)) then ((idx vi (zX))>>=fun QJ=>((idx QJ (xj))>>=fun QK=>(some ((QK) == ((1:Int)))))) else (some (false))))))>>=fun acU=>(bif acU then ((idx vi (x8))>>=fun Xr=>((idx Xr (xj))>>=fun apa=>(some (Out.norm (an (xj+(1:Int)),vi.set (x8).toNat (Xr.set (xj).toNat ((1:Int)))))))) else (some (Out.norm (an (xj+(1:Int)),vi))))) else (some (Out.exit 8 (xj,vi))))
def pY (x1:Int) (zX:Int) (x8:Int) (EW:(List (List Int))):Option (Out (Int×(List (List Int))) ((List (List Int))×aK)):=
 (bif decide (x8 < x1) then (ag (ae 8 (aj (fun s=>oR x1 zX x8 s.1 s.2) ((0:Int),EW))) (fun (xj,vi)=>(some (Out.norm (an (x8+(1:Int)),vi))))) else (some (Out.exit 6 (x8,EW))))
def pZ (x1:Int) (zX:Int) (EX:(List (List Int))):Option (Out (Int×(List (List Int))) ((List (List Int))×aK)):=
 (bif decide (zX < x1) then (ag (ae 6 (aj (fun s=>pY x1 zX s.1 s.2) ((0:Int),EX))) (fun (x8,EW)=>(some (Out.norm (an (zX+(1:Int)),EW))))) else (some (Out.exit 4 (zX,EX))))
def iV (x0:aK) (x1:Int):Option ((List (List Int))×aK):=
 ao (S:=Unit) (ag (ae 0 (aj (fun s=>lR x0 x1 s.1 s.2.1 s.2.2.1 s.2.2.2) (([]:(List (List Int))),(0:Int),x0.At,x0.au))) (fun (bh,fy,km,kn)=>(bif decide (x1 > (1:Int)) then ((bX (aK.mk x0.Code km kn) ((4:Int)))>>=fun Oz=>(bif (Oz.1) == ((0:Int)) then ((idx bh (an (x1 - (1:Int))))>>=fun Tj=>((bX (aK.mk x0.Code Oz.2.At Oz.2.au) (x1))>>=fun wF=>((idx Tj (wF.1))>>=fun xG=>(ag (ae 4 (aj (fun s=>pU x1 s.1 s.2) ((0:Int),bh.set (an (x1 - (1:Int))).toNat (Tj.set (wF.1).toNat ((1:Int)))))) (fun (du,C9)=>(some (Out.ret ((C9,(aK.mk x0.Code wF.2.At wF.2.au)))))))))) else (ag (ae 4 (aj (fun s=>pX x1 s.1 s.2) ((0:Int),bh))) (fun (zW,EV)=>(some (Out.ret ((EV,(aK.mk x0.Code Oz.2.At Oz.2.au))))))))) else (ag (ae 4 (aj (fun s=>pZ x1 s.1 s.2) ((0:Int),bh))) (fun (zX,EX)=>(some (Out.ret ((EX,(aK.mk x0.Code km kn))))))))))
def nU (x0:(List (List Int))) (fy:Int) (mg:(List Int)) (dx:Int) (tZ:(List Int)) (wG:(List Int)):Option (Out ((List Int)×Int×(List Int)×(List Int)) (aG)):=
 (bif decide (dx < (x0.length:Int)) then ((fits 8 (mg.length+1))>>=fun n185=>((idx x0 (fy))>>=fun acV=>((idx acV (dx))>>=fun acW=>(bif (acW) == ((1:Int)) then ((fits 8 (tZ.length+1))>>=fun n229=>((fits 8 (wG.length+1))>>=fun n265=>(some (Out.norm (mg++[(tZ.length:Int)],an (dx+(1:Int)),tZ++[fy],wG++[dx]))))) else (some (Out.norm (mg++[(tZ.length:Int)],an (dx+(1:Int)),tZ,wG))))))) else (some (Out.exit 2 (mg,dx,tZ,wG))))
def nV (x0:(List (List Int))) (cb:(List (List Int))) (fy:Int) (n7:(List Int)) (rv:(List Int)):Option (Out ((List (List Int))×Int×(List Int)×(List Int)) (aG)):=
 (bif decide (fy < (x0.length:Int)) then (ag (ae 2 (aj (fun s=>nU x0 fy s.1 s.2.1 s.2.2.1 s.2.2.2) (([]:(List Int)),(0:Int),n7,rv))) (fun (mg,dx,tZ,wG)=>((fits 24 (cb.length+1))>>=fun n306=>(some (Out.norm (cb++[mg],an (fy+(1:Int)),tZ,wG)))))) else (some (Out.exit 0 (cb,fy,n7,rv))))
def nW (x0:(List (List Int))) (cb:(List (List Int))) (du:Int) (yG:(List Int)):Option (Out (Int×(List Int)) (aG)):=
 (bif decide (du < (x0.length:Int)) then ((idx cb (du))>>=fun acX=>((idx acX (du))>>=fun Xs=>((fits 8 (yG.length+1))>>=fun apb=>(some (Out.norm (an (du+(1:Int)),yG++[Xs])))))) else (some (Out.exit 4 (du,yG))))
def nX (cb:(List (List Int))) (n7:(List Int)) (rv:(List Int)) (gv:Int) (r8:(List Int)) (qd:Int):Option (Out ((List Int)×Int) (aG)):=
 (bif decide (qd < (n7.length:Int)) then ((idx rv (gv))>>=fun acY=>((idx n7 (qd))>>=fun acZ=>(bif (acY) == (acZ) then ((idx n7 (gv))>>=fun ac0=>((idx cb (ac0))>>=fun ac1=>((idx rv (qd))>>=fun ac2=>((idx ac1 (ac2))>>=fun ac3=>((fits 8 (r8.length+1))>>=fun apc=>(some (Out.norm (r8++[ac3],an (qd+(1:Int)))))))))) else ((fits 8 (r8.length+1))>>=fun apd=>(some (Out.norm (r8++[(-1:Int)],an (qd+(1:Int))))))))) else (some (Out.exit 8 (r8,qd))))
def nY (cb:(List (List Int))) (n7:(List Int)) (rv:(List Int)) (gv:Int) (yH:(List (List Int))):Option (Out (Int×(List (List Int))) (aG)):=
 (bif decide (gv < (n7.length:Int)) then (ag (ae 8 (aj (fun s=>nX cb n7 rv gv s.1 s.2) (([]:(List Int)),(0:Int)))) (fun (r8,qd)=>((fits 24 (yH.length+1))>>=fun ape=>(some (Out.norm (an (gv+(1:Int)),yH++[r8])))))) else (some (Out.exit 6 (gv,yH))))
def dL (x0:(List (List Int))):Option (aG):=
 ao (S:=Unit) (ag (ae 0 (aj (fun s=>nV x0 s.1 s.2.1 s.2.2.1 s.2.2.2) (([]:(List (List Int))),(0:Int),([]:(List Int)),([]:(List Int))))) (fun (cb,fy,n7,rv)=>(ag (ae 4 (aj (fun s=>nW x0 cb s.1 s.2) ((0:Int),([]:(List Int))))) (fun (du,yG)=>(ag (ae 6 (aj (fun s=>nY cb n7 rv s.1 s.2) ((0:Int),([]:(List (List Int)))))) (fun (gv,yH)=>(some (Out.ret ((aG.mk ((x0.length:Int)) n7 rv yG yH))))))))))
def dV (x0:(List Int)):Option ((List Int)):=
 ao (S:=Unit) ((fits 8 ((([]:(List Int))).length+x0.length))>>=fun n15=>(some (Out.ret ((([]:(List Int))++x0)))))
def eR (x0:(List Int)) (x1:(List Int)) (bh:Int):Option (Out (Int) (Bool)):=
 (((bif decide (bh < (x0.length:Int)) then (some (decide (bh < (x1.length:Int)))) else (some (false))))>>=fun g6=>(bif g6 then ((idx x0 (bh))>>=fun OA=>((idx x1 (bh))>>=fun vj=>(bif (OA) != (vj) then ((idx x0 (bh))>>=fun Xt=>((idx x1 (bh))>>=fun BY=>(some (Out.ret ((decide (Xt < BY))))))) else (some (Out.norm (an (bh+(1:Int)))))))) else (some (Out.exit 0 (bh)))))
def lZ (x0:(List Int)) (x1:(List Int)):Option (Bool):=
 ao (S:=Unit) (ag (ae 0 (aj (eR x0 x1) ((0:Int)))) (fun bh=>(some (Out.ret ((decide ((x0.length:Int) < (x1.length:Int))))))))
def iR (x0:bR) (x1:bR):Option (Bool):=
 ao (S:=Unit) (bif (x0.aE) != (x1.aE) then (some (Out.ret ((decide (x0.aE < x1.aE))))) else (bif (x0.To) != (x1.To) then (some (Out.ret ((decide (x0.To < x1.To))))) else ((lZ x0.mf x1.mf)>>=fun Aq=>(some (Out.ret (Aq))))))
def kE (x0:Int) (s0:(List bR)) (s1:Int):Option (Out ((List bR)×Int) ((List bR))):=
 (bif decide (s1 < x0) then ((fits 40 (s0.length+1))>>=fun n26=>(some (Out.norm (s0++[bR.mk s1 s1 []],an (s1+(1:Int)))))) else (some (Out.exit 0 (s0,s1))))
def iS (x1:(List Int)) (x2:(List Int)) (s1:Int) (s0:(List bR)) (s2:Int):Option (Out ((List bR)×Int) ((List bR))):=
 (bif decide (s2 < (x1.length:Int)) then ((idx x1 (s2))>>=fun EY=>((idx s0 (s1))>>=fun OB=>(bif (EY) == (OB.To) then ((idx s0 (s1))>>=fun Xu=>((idx x2 (s2))>>=fun BZ=>((idx s0 (s1))>>=fun Xv=>((dV Xv.mf)>>=fun IY=>((fits 8 (IY.length+1))>>=fun n72=>((fits 40 (s0.length+1))>>=fun n75=>(some (Out.norm (s0++[bR.mk Xu.aE BZ (IY++[s2])],an (s2+(1:Int))))))))))) else (some (Out.norm (s0,an (s2+(1:Int)))))))) else (some (Out.exit 4 (s0,s2))))
def kG (x1:(List Int)) (x2:(List Int)) (s0:(List bR)) (s1:Int):Option (Out ((List bR)×Int) ((List bR))):=
 (((bif decide (s1 < (s0.length:Int)) then (some (decide ((s0.length:Int)≤(40:Int)))) else (some (false))))>>=fun Xw=>(bif Xw then (ag (ae 4 (aj (fun s=>iS x1 x2 s1 s.1 s.2) (s0,(0:Int)))) (fun (s0,s2)=>(some (Out.norm (s0,an (s1+(1:Int))))))) else (some (Out.exit 2 (s0,s1)))))
def kH (s0:(List bR)) (s1:Int):Option (Out ((List bR)×Int) ((List bR))):=
 (((bif decide ((0:Int) < s1) then ((idx s0 (s1))>>=fun B0=>((idx s0 (an (s1 - (1:Int))))>>=fun EZ=>((iR B0 EZ)>>=fun IZ=>(some (IZ))))) else (some (false))))>>=fun Xx=>(bif Xx then ((idx s0 (s1))>>=fun QM=>((idx s0 (an (s1 - (1:Int))))>>=fun xG=>((idx s0 (s1))>>=fun I0=>((idx (s0.set (s1).toNat xG) (an (s1 - (1:Int))))>>=fun QN=>(some (Out.norm ((s0.set (s1).toNat xG).set (an (s1 - (1:Int))).toNat QM,an (s1 - (1:Int))))))))) else (some (Out.exit 8 (s0,s1)))))
def kI (s0:(List bR)) (s1:Int):Option (Out ((List bR)×Int) ((List bR))):=
 (bif decide (s1 < (s0.length:Int)) then (ag (ae 8 (aj (fun s=>kH s.1 s.2) (s0,s1))) (fun (s0,s2)=>(some (Out.norm (s0,an (s1+(1:Int))))))) else (some (Out.exit 6 (s0,s1))))
def lN (x0:Int) (x1:(List Int)) (x2:(List Int)):Option ((List bR)):=
 ao (S:=Unit) (ag (ae 0 (aj (fun s=>kE x0 s.1 s.2) (([]:(List bR)),(0:Int)))) (fun (s0,s1)=>(ag (ae 2 (aj (fun s=>kG x1 x2 s.1 s.2) (s0,(0:Int)))) (fun (s0,s1)=>(ag (ae 6 (aj (fun s=>kI s.1 s.2) (s0,(1:Int)))) (fun (s0,s1)=>(some (Out.ret (s0)))))))))
def eI (x0:aG):Option (Bool):=
 ao (S:=Unit) (((bif decide (x0.aA≤(8:Int)) then (some (decide ((x0.aE.length:Int)≤(40:Int)))) else (some (false))))>>=fun g8=>(some (Out.ret (g8))))
def lS (x0:(List Int)) (x1:(List Int)) (bh:Int):Option (Out (Int) (Bool)):=
 (bif decide (bh < (x0.length:Int)) then ((idx x0 (bh))>>=fun vj=>((idx x1 (bh))>>=fun E0=>(bif (vj) != (E0) then (some (Out.ret (false))) else (some (Out.norm (an (bh+(1:Int)))))))) else (some (Out.exit 0 (bh))))
def eM (x0:(List Int)) (x1:(List Int)):Option (Bool):=
 ao (S:=Unit) (bif ((x0.length:Int)) != ((x1.length:Int)) then (some (Out.ret (false))) else (ag (ae 0 (aj (lS x0 x1) ((0:Int)))) (fun bh=>(some (Out.ret (true))))))
def iW (y8:(List bR)) (fc:Int) (ko:(List Int)) (ks:(List Int)) (nt:(List Int)):Option (Out (Int×(List Int)×(List Int)×(List Int)) (aG)):=
 (bif decide (fc < (y8.length:Int)) then ((idx y8 (fc))>>=fun D1=>((fits 8 (ko.length+1))>>=fun n134=>((idx y8 (fc))>>=fun I1=>((fits 8 (ks.length+1))>>=fun n173=>((idx y8 (fc))>>=fun QO=>(bif ((QO.mf.length:Int)) == ((0:Int)) then ((idx y8 (fc))>>=fun I2=>((idx nt (I2.aE))>>=fun ac4=>(some (Out.norm (an (fc+(1:Int)),ko++[D1.aE],ks++[I1.To],nt.set (I2.aE).toNat (fc)))))) else (some (Out.norm (an (fc+(1:Int)),ko++[D1.aE],ks++[I1.To],nt))))))))) else (some (Out.exit 0 (fc,ko,ks,nt))))
def iX (y8:(List bR)) (iw:Int) (wH:(List Int)) (yF:bR) (x9:Int) (ra:Int):Option (Out (Int×Int) (aG)):=
 (bif decide (ra < (y8.length:Int)) then ((((idx y8 (ra))>>=fun QP=>((idx y8 (iw))>>=fun QQ=>(bif (QP.aE) == (QQ.aE) then ((idx y8 (ra))>>=fun QR=>((eM QR.mf (wH++yF.mf))>>=fun QS=>(some (QS)))) else (some (false))))))>>=fun QT=>(bif QT then (some (Out.norm (ra,an (ra+(1:Int))))) else (some (Out.norm (x9,an (ra+(1:Int))))))) else (some (Out.exit 6 (x9,ra))))
def iY (y8:(List bR)) (iw:Int) (nz:(List Int)) (sy:Int):Option (Out ((List Int)×Int) (aG)):=
 (bif decide (sy < (y8.length:Int)) then ((idx y8 (iw))>>=fun QU=>((idx y8 (sy))>>=fun QV=>(bif (QU.To) == (QV.aE) then ((idx y8 (iw))>>=fun QW=>((dV QW.mf)>>=fun wH=>((idx y8 (sy))>>=fun yF=>((fits 8 (wH.length+yF.mf.length))>>=fun ac5=>(ag (ae 6 (aj (fun s=>iX y8 iw wH yF s.1 s.2) ((-1:Int),(0:Int)))) (fun (x9,ra)=>((fits 8 (nz.length+1))>>=fun ac6=>(some (Out.norm (nz++[x9],an (sy+(1:Int)))))))))))) else ((fits 8 (nz.length+1))>>=fun ac7=>(some (Out.norm (nz++[(-1:Int)],an (sy+(1:Int))))))))) else (some (Out.exit 4 (nz,sy))))
def gE (y8:(List bR)) (iw:Int) (py:(List (List Int))):Option (Out (Int×(List (List Int))) (aG)):=
 (bif decide (iw < (y8.length:Int)) then (ag (ae 4 (aj (fun s=>iY y8 iw s.1 s.2) (([]:(List Int)),(0:Int)))) (fun (nz,sy)=>((fits 24 (py.length+1))>>=fun ac8=>(some (Out.norm (an (iw+(1:Int)),py++[nz])))))) else (some (Out.exit 2 (iw,py))))
def eN (x0:Int) (x1:(List Int)) (x2:(List Int)):Option (aG):=
 ao (S:=Unit) ((lN (x0) x1 x2)>>=fun y8=>((mk 8 (x0))>>=fun n36=>(ag (ae 0 (aj (fun s=>iW y8 s.1 s.2.1 s.2.2.1 s.2.2.2) ((0:Int),([]:(List Int)),([]:(List Int)),List.replicate n36 (0:Int)))) (fun (fc,ko,ks,nt)=>((eI (aG.mk x0 ko ks nt (([]:(List (List Int))))))>>=fun QY=>(bif !(QY) then (some (Out.ret ((aG.mk x0 ko ks nt (([]:(List (List Int)))))))) else (ag (ae 2 (aj (fun s=>gE y8 s.1 s.2) ((0:Int),([]:(List (List Int)))))) (fun (iw,py)=>(some (Out.ret ((aG.mk x0 ko ks nt py))))))))))))
def gF (x0:aK):Option ((List (List Int))×aK):=
 ao (S:=Unit) ((bX x0 ((8:Int)))>>=fun y5=>(bif (y5.1) == ((0:Int)) then (some (Out.ret (((([[(0:Int)]]:(List (List Int)))),(aK.mk x0.Code y5.2.At y5.2.au))))) else (bif (y5.1) == ((1:Int)) then (some (Out.ret (((([[(0:Int),(1:Int)],[(1:Int),(0:Int)]]:(List (List Int)))),(aK.mk x0.Code y5.2.At y5.2.au))))) else (bif (y5.1) == ((2:Int)) then (some (Out.ret (((([[(0:Int),(1:Int)],[(1:Int),(1:Int)]]:(List (List Int)))),(aK.mk x0.Code y5.2.At y5.2.au))))) else (bif (y5.1) == ((3:Int)) then (some (Out.ret (((([[(0:Int),(1:Int),(2:Int)],[(1:Int),(2:Int),(0:Int)],[(2:Int),(0:Int),(1:Int)]]:(List (List Int)))),(aK.mk x0.Code y5.2.At y5.2.au))))) else (bif (y5.1) == ((4:Int)) then (some (Out.ret (((([[(0:Int),(1:Int),(2:Int)],[(1:Int),(1:Int),(2:Int)],[(2:Int),(2:Int),(2:Int)]]:(List (List Int)))),(aK.mk x0.Code y5.2.At y5.2.au))))) else (bif (y5.1) == ((5:Int)) then (some (Out.ret (((([[(0:Int),(1:Int),(2:Int)],[(1:Int),(1:Int),(2:Int)],[(2:Int),(1:Int),(2:Int)]]:(List (List Int)))),(aK.mk x0.Code y5.2.At y5.2.au))))) else (bif (y5.1) == ((6:Int)) then (some (Out.ret (((([[(0:Int),(1:Int),(2:Int),(3:Int)],[(1:Int),(0:Int),(2:Int),(3:Int)],[(2:Int),(3:Int),(2:Int),(3:Int)],[(3:Int),(2:Int),(2:Int),(3:Int)]]:(List (List Int)))),(aK.mk x0.Code y5.2.At y5.2.au))))) else (some (Out.ret (((([[(0:Int),(1:Int),(2:Int)],[(1:Int),(2:Int),(2:Int)],[(2:Int),(2:Int),(2:Int)]]:(List (List Int)))),(aK.mk x0.Code y5.2.At y5.2.au)))))))))))))
def jL (x0:(List (List Int))) (fq:(List (List Int))) (cb:Int):Option (Out ((List (List Int))×Int) ((List (List Int)))):=
 (bif decide (cb < (x0.length:Int)) then ((idx x0 (cb))>>=fun xN=>((dV xN)>>=fun ic=>((fits 24 (fq.length+1))>>=fun n49=>(some (Out.norm (fq++[ic],an (cb+(1:Int)))))))) else (some (Out.exit 0 (fq,cb))))
def mA (x0:(List (List Int))):Option ((List (List Int))):=
 ao (S:=Unit) (ag (ae 0 (aj (fun s=>jL x0 s.1 s.2) (([]:(List (List Int))),(0:Int)))) (fun (fq,cb)=>(some (Out.ret (fq)))))
def gG (x0:(List (List Int))):Option (aG):=
 ao (S:=Unit) ((mk 8 ((x0.length:Int)))>>=fun n10=>((mk 8 ((x0.length:Int)))>>=fun n19=>((mA x0)>>=fun zB=>(some (Out.ret ((aG.mk ((1:Int)) (List.replicate n10 (0:Int)) (List.replicate n19 (0:Int)) ([(0:Int)]) zB)))))))
def lJ:Option (aG):=
 ao (S:=Unit) (some (Out.ret ((aG.mk ((2:Int)) (([(0:Int),(1:Int),(0:Int),(0:Int),(1:Int)]:(List Int))) (([(0:Int),(1:Int),(0:Int),(1:Int),(0:Int)]:(List Int))) (([(0:Int),(1:Int)]:(List Int))) (([[(0:Int),(-1:Int),(2:Int),(3:Int),(-1:Int)],[(-1:Int),(1:Int),(-1:Int),(-1:Int),(4:Int)],[(2:Int),(-1:Int),(2:Int),(3:Int),(-1:Int)],[(-1:Int),(3:Int),(-1:Int),(-1:Int),(2:Int)],[(4:Int),(-1:Int),(4:Int),(1:Int),(-1:Int)]]:(List (List Int))))))))
def jW (x0:aG):Option (aG):=
 ao (S:=Unit) ((dV x0.aE)>>=fun nn=>((dV x0.To)>>=fun Aq=>((dV x0.aH)>>=fun OC=>((mA x0.aB)>>=fun Xy=>(some (Out.ret ((aG.mk x0.aA nn Aq OC Xy))))))))
def gH (x0:aG) (x1:aG) (iT:Int) (yI:(List Int)):Option (Out (Int×(List Int)) (aG)):=
 (bif decide (iT < x1.aA) then ((idx x1.aH (iT))>>=fun QZ=>((fits 8 (yI.length+1))>>=fun n136=>(some (Out.norm (an (iT+(1:Int)),yI++[an (QZ+(x0.aE.length:Int))]))))) else (some (Out.exit 0 (iT,yI))))
def gI (x1:aG) (uQ:Int) (ew:Int) (Ar:(List (List Int))):Option (Out (Int×(List (List Int))) (aG)):=
 (bif decide (ew < (x1.aE.length:Int)) then ((idx Ar (uQ))>>=fun Xz=>((fits 8 (Xz.length+1))>>=fun n233=>((idx Ar (uQ))>>=fun apf=>(some (Out.norm (an (ew+(1:Int)),Ar.set (uQ).toNat (Xz++[(-1:Int)]))))))) else (some (Out.exit 4 (ew,Ar))))
def gJ (x1:aG) (uQ:Int) (CA:(List (List Int))):Option (Out (Int×(List (List Int))) (aG)):=
 (bif decide (uQ < (CA.length:Int)) then (ag (ae 4 (aj (fun s=>gI x1 uQ s.1 s.2) ((0:Int),CA))) (fun (ew,Ar)=>(some (Out.norm (an (uQ+(1:Int)),Ar))))) else (some (Out.exit 2 (uQ,CA))))
def gK (x0:aG) (qd:(List Int)) (ui:Int):Option (Out ((List Int)×Int) (aG)):=
 (bif decide (ui < (x0.aE.length:Int)) then ((fits 8 (qd.length+1))>>=fun apg=>(some (Out.norm (qd++[(-1:Int)],an (ui+(1:Int)))))) else (some (Out.exit 8 (qd,ui))))
def gL (x0:aG) (x1:aG) (iy:Int) (sW:(List Int)) (tC:Int):Option (Out ((List Int)×Int) (aG)):=
 (bif decide (tC < (x1.aE.length:Int)) then ((idx x1.aB (iy))>>=fun ac9=>((idx ac9 (tC))>>=fun Q1=>(bif decide (Q1 ≥ (0:Int)) then ((fits 8 (sW.length+1))>>=fun aph=>(some (Out.norm (sW++[an (Q1+(x0.aE.length:Int))],an (tC+(1:Int)))))) else ((fits 8 (sW.length+1))>>=fun apj=>(some (Out.norm (sW++[Q1],an (tC+(1:Int))))))))) else (some (Out.exit 10 (sW,tC))))
def gM (x0:aG) (x1:aG) (iy:Int) (yJ:(List Int)) (yK:(List Int)) (yL:(List (List Int))):Option (Out (Int×(List Int)×(List Int)×(List (List Int))) (aG)):=
 (bif decide (iy < (x1.aE.length:Int)) then ((idx x1.aE (iy))>>=fun ada=>((fits 8 (yJ.length+1))>>=fun n314=>((idx x1.To (iy))>>=fun QJ=>((fits 8 (yK.length+1))>>=fun apk=>(ag (ae 8 (aj (fun s=>gK x0 s.1 s.2) (([]:(List Int)),(0:Int)))) (fun (qd,ui)=>(ag (ae 10 (aj (fun s=>gL x0 x1 iy s.1 s.2) (qd,(0:Int)))) (fun (sW,tC)=>((fits 24 (yL.length+1))>>=fun apl=>(some (Out.norm (an (iy+(1:Int)),yJ++[an (ada+x0.aA)],yK++[an (QJ+x0.aA)],yL++[sW])))))))))))) else (some (Out.exit 6 (iy,yJ,yK,yL))))
def iP (x0:aG) (x1:aG):Option (aG):=
 ao (S:=Unit) ((jW x0)>>=fun tD=>(ag (ae 0 (aj (fun s=>gH x0 x1 s.1 s.2) ((0:Int),tD.aH))) (fun (iT,yI)=>(ag (ae 2 (aj (fun s=>gJ x1 s.1 s.2) ((0:Int),tD.aB))) (fun (uQ,CA)=>(ag (ae 6 (aj (fun s=>gM x0 x1 s.1 s.2.1 s.2.2.1 s.2.2.2) ((0:Int),tD.aE,tD.To,CA))) (fun (iy,yJ,yK,yL)=>(some (Out.ret ((aG.mk (an (x0.aA+x1.aA)) yJ yK yI yL)))))))))))
def fL (x0:aG) (x1:aG) (bz:Int) (dx:Int) (yM:(List Int)) (yN:(List Int)):Option (Out (Int×(List Int)×(List Int)) (aG)):=
 (bif decide (dx < x1.aA) then ((fits 8 (yM.length+1))>>=fun n181=>((fits 8 (yN.length+1))>>=fun n217=>(some (Out.norm (an (dx+(1:Int)),yM++[bz],yN++[an (x0.aA+dx)]))))) else (some (Out.exit 2 (dx,yM,yN))))
def fM (x0:aG) (x1:aG) (bz:Int) (n8:(List Int)) (ry:(List Int)):Option (Out (Int×(List Int)×(List Int)) (aG)):=
 (bif decide (bz < x0.aA) then (ag (ae 2 (aj (fun s=>fL x0 x1 bz s.1 s.2.1 s.2.2) ((0:Int),n8,ry))) (fun (dx,yM,yN)=>(some (Out.norm (an (bz+(1:Int)),yM,yN))))) else (some (Out.exit 0 (bz,n8,ry))))
def fN (x0:aG) (x1:aG) (ic:aG) (n8:(List Int)) (ry:(List Int)) (ew:Int) (iy:(List Int)) (wV:Int):Option (Out ((List Int)×Int) (aG)):=
 (bif decide (wV < (n8.length:Int)) then ((idx ry (ew))>>=fun adb=>((idx n8 (wV))>>=fun ade=>(bif (adb) != (ade) then ((fits 8 (iy.length+1))>>=fun apn=>(some (Out.norm (iy++[(-1:Int)],an (wV+(1:Int)))))) else (((bif decide (ew < (ic.aE.length:Int)) then (some (decide (wV < (ic.aE.length:Int)))) else (some (false))))>>=fun adg=>(bif adg then ((idx ic.aB (ew))>>=fun adh=>((idx adh (wV))>>=fun adi=>((fits 8 (iy.length+1))>>=fun apq=>(some (Out.norm (iy++[adi],an (wV+(1:Int)))))))) else ((idx n8 (ew))>>=fun Q2=>((idx ry (wV))>>=fun Q3=>((fits 8 (iy.length+1))>>=fun apr=>(some (Out.norm (iy++[an (an (an ((ic.aE.length:Int)+an (Q2 * x1.aA))+Q3) - x0.aA)],an (wV+(1:Int))))))))))))) else (some (Out.exit 6 (iy,wV))))
def fO (x0:aG) (x1:aG) (ic:aG) (n8:(List Int)) (ry:(List Int)) (du:(List (List Int))) (ew:Int):Option (Out ((List (List Int))×Int) (aG)):=
 (bif decide (ew < (n8.length:Int)) then (ag (ae 6 (aj (fun s=>fN x0 x1 ic n8 ry ew s.1 s.2) (([]:(List Int)),(0:Int)))) (fun (iy,wV)=>((fits 24 (du.length+1))>>=fun apt=>(some (Out.norm (du++[iy],an (ew+(1:Int)))))))) else (some (Out.exit 4 (du,ew))))
def gX (x0:aG) (x1:aG):Option (aG):=
 ao (S:=Unit) ((iP x0 x1)>>=fun ic=>(ag (ae 0 (aj (fun s=>fM x0 x1 s.1 s.2.1 s.2.2) ((0:Int),ic.aE,ic.To))) (fun (bz,n8,ry)=>(ag (ae 4 (aj (fun s=>fO x0 x1 ic n8 ry s.1 s.2) (([]:(List (List Int))),(0:Int)))) (fun (du,ew)=>(some (Out.ret ((aG.mk ic.aA n8 ry ic.aH du)))))))))
def qK (x0:aG) (cb:Int) (p6:(List Int)) (oK:Int):Option (Out ((List Int)×Int) (aG)):=
 (bif decide (oK < (x0.aE.length:Int)) then ((idx x0.aB (oK))>>=fun adj=>((idx adj (cb))>>=fun adk=>((fits 8 (p6.length+1))>>=fun n187=>(some (Out.norm (p6++[adk],an (oK+(1:Int)))))))) else (some (Out.exit 2 (p6,oK))))
def qL (x0:aG) (cb:Int) (yO:(List (List Int))):Option (Out (Int×(List (List Int))) (aG)):=
 (bif decide (cb < (x0.aE.length:Int)) then (ag (ae 2 (aj (fun s=>qK x0 cb s.1 s.2) (([]:(List Int)),(0:Int)))) (fun (p6,oK)=>((fits 24 (yO.length+1))>>=fun n222=>(some (Out.norm (an (cb+(1:Int)),yO++[p6])))))) else (some (Out.exit 0 (cb,yO))))
def oS (x0:aG):Option (aG):=
 ao (S:=Unit) ((dV x0.To)>>=fun ic=>((dV x0.aE)>>=fun GU=>((dV x0.aH)>>=fun B3=>(ag (ae 0 (aj (fun s=>qL x0 s.1 s.2) ((0:Int),([]:(List (List Int)))))) (fun (cb,yO)=>(some (Out.ret ((aG.mk x0.aA ic GU B3 yO)))))))))
def mX (CB:Int×aK) (oK:(List Int)) (mg:Int):Option (Out ((List Int)×Int) (aG×aK)):=
 (bif decide (mg < an ((1:Int)+CB.1)) then ((fits 8 (oK.length+1))>>=fun adl=>(some (Out.norm (oK++[(1:Int)],an (mg+(1:Int)))))) else (some (Out.exit 3 (oK,mg))))
def mY (CB:Int×aK) (cb:(List (List Int))) (bh:Int):Option (Out ((List (List Int))×Int) (aG×aK)):=
 (bif decide (bh < an ((1:Int)+CB.1)) then (ag (ae 3 (aj (fun s=>mX CB s.1 s.2) (([]:(List Int)),(0:Int)))) (fun (oK,mg)=>((fits 24 (cb.length+1))>>=fun apu=>(some (Out.norm (cb++[oK],an (bh+(1:Int)))))))) else (some (Out.exit 1 (cb,bh))))
def mZ (x0:aK) (Bq:Int×aK) (du:(List Int)) (ew:(List Int)) (nz:Int) (zD:Int) (zE:Int):Option (Out ((List Int)×(List Int)×Int×Int×Int) (aG×aK)):=
 (bif decide (nz > (0:Int)) then ((bX (aK.mk x0.Code zD zE) (an (an ((2:Int)+Bq.1) - (1:Int))))>>=fun E2=>((fits 8 (du.length+1))>>=fun am6=>((bX (aK.mk x0.Code E2.2.At E2.2.au) (an (an (an ((2:Int)+Bq.1) - (1:Int)) - E2.1)))>>=fun MC=>((fits 8 (ew.length+1))>>=fun am7=>(some (Out.norm (du++[E2.1],ew++[an (an (E2.1+(1:Int))+MC.1)],an (nz - (1:Int)),MC.2.At,MC.2.au))))))) else (some (Out.exit 5 (du,ew,nz,zD,zE))))
def gN (x0:aK):Option (aG×aK):=
 ao (S:=Unit) ((bX x0 ((12:Int)))>>=fun cu=>(bif (cu.1) == ((0:Int)) then ((bX (aK.mk x0.Code cu.2.At cu.2.au) ((5:Int)))>>=fun K5=>((iV (aK.mk x0.Code K5.2.At K5.2.au) (K5.1))>>=fun Aq=>((dL Aq.1)>>=fun OC=>(some (Out.ret ((OC,(aK.mk x0.Code Aq.2.At Aq.2.au)))))))) else (bif (cu.1) == ((1:Int)) then ((dL [[(1:Int),(1:Int)],[(0:Int),(1:Int)]])>>=fun CC=>(some (Out.ret ((CC,(aK.mk x0.Code cu.2.At cu.2.au)))))) else (bif (cu.1) == ((2:Int)) then ((dL [[(1:Int),(1:Int),(1:Int)],[(0:Int),(1:Int),(0:Int)],[(0:Int),(0:Int),(1:Int)]])>>=fun I3=>(some (Out.ret ((I3,(aK.mk x0.Code cu.2.At cu.2.au)))))) else (bif (cu.1) == ((3:Int)) then ((eN ((2:Int)) [(0:Int),(0:Int)] [(1:Int),(1:Int)])>>=fun adm=>(some (Out.ret ((adm,(aK.mk x0.Code cu.2.At cu.2.au)))))) else (bif (cu.1) == ((4:Int)) then ((gF (aK.mk x0.Code cu.2.At cu.2.au))>>=fun Q4=>((gG Q4.1)>>=fun adn=>(some (Out.ret ((adn,(aK.mk x0.Code Q4.2.At Q4.2.au))))))) else (bif (cu.1) == ((5:Int)) then ((bX (aK.mk x0.Code cu.2.At cu.2.au) ((3:Int)))>>=fun CB=>(ag (ae 1 (aj (fun s=>mY CB s.1 s.2) (([]:(List (List Int))),(0:Int)))) (fun (cb,bh)=>((dL cb)>>=fun ado=>(some (Out.ret ((ado,(aK.mk x0.Code CB.2.At CB.2.au))))))))) else (bif (cu.1) == ((6:Int)) then ((eN ((3:Int)) [(0:Int),(1:Int),(0:Int)] [(1:Int),(2:Int),(2:Int)])>>=fun adp=>(some (Out.ret ((adp,(aK.mk x0.Code cu.2.At cu.2.au)))))) else (bif (cu.1) == ((7:Int)) then ((lJ)>>=fun adq=>(some (Out.ret ((adq,(aK.mk x0.Code cu.2.At cu.2.au)))))) else (bif (cu.1) == ((8:Int)) then ((gF (aK.mk x0.Code cu.2.At cu.2.au))>>=fun Q5=>((gG Q5.1)>>=fun adr=>((dL [[(1:Int)]])>>=fun ads=>((gX adr ads)>>=fun adu=>((oS adu)>>=fun adv=>(some (Out.ret ((adv,(aK.mk x0.Code Q5.2.At Q5.2.au)))))))))) else (bif (cu.1) == ((9:Int)) then ((gF (aK.mk x0.Code cu.2.At cu.2.au))>>=fun Q6=>((gG Q6.1)>>=fun adw=>((dL [[(1:Int)]])>>=fun adx=>((gX adw adx)>>=fun ady=>(some (Out.ret ((ady,(aK.mk x0.Code Q6.2.At Q6.2.au))))))))) else (bif (cu.1) == ((10:Int)) then ((bX (aK.mk x0.Code cu.2.At cu.2.au) ((2:Int)))>>=fun MD=>((iV (aK.mk x0.Code MD.2.At MD.2.au) (an ((2:Int)+MD.1)))>>=fun ME=>((dL ME.1)>>=fun ZY=>(some (Out.ret ((ZY,(aK.mk x0.Code ME.2.At ME.2.au)))))))) else ((bX (aK.mk x0.Code cu.2.At cu.2.au) ((2:Int)))>>=fun Bq=>((bX (aK.mk x0.Code Bq.2.At Bq.2.au) ((4:Int)))>>=fun MG=>(ag (ae 5 (aj (fun s=>mZ x0 Bq s.1 s.2.1 s.2.2.1 s.2.2.2.1 s.2.2.2.2) (([]:(List Int)),([]:(List Int)),MG.1,MG.2.At,MG.2.au))) (fun (du,ew,nz,zD,zE)=>((eN (an ((2:Int)+Bq.1)) du ew)>>=fun ZZ=>(some (Out.ret ((ZZ,(aK.mk x0.Code zD zE))))))))))))))))))))))
def eV (x0:aG) (x1:aG) (iT:Int) (uQ:Int) (yP:(List Int)):Option (Out (Int×(List Int)) (aG)):=
 (bif decide (uQ < x1.aA) then ((idx x0.aH (iT))>>=fun Q7=>((idx x1.aH (uQ))>>=fun adz=>((fits 8 (yP.length+1))>>=fun n186=>(some (Out.norm (an (uQ+(1:Int)),yP++[an (an (Q7 * (x1.aE.length:Int))+adz)])))))) else (some (Out.exit 2 (uQ,yP))))
def eW (x0:aG) (x1:aG) (iT:Int) (Br:(List Int)):Option (Out (Int×(List Int)) (aG)):=
 (bif decide (iT < x0.aA) then (ag (ae 2 (aj (fun s=>eV x0 x1 iT s.1 s.2) ((0:Int),Br))) (fun (uQ,yP)=>(some (Out.norm (an (iT+(1:Int)),yP))))) else (some (Out.exit 0 (iT,Br))))
def eX (x0:aG) (x1:aG) (ew:Int) (iy:Int) (ui:Int) (sW:(List Int)) (tC:Int):Option (Out ((List Int)×Int) (aG)):=
 (bif decide (tC < (x1.aE.length:Int)) then ((((idx x0.aB (ew))>>=fun adA=>((idx adA (ui))>>=fun adB=>(bif decide (adB ≥ (0:Int)) then ((idx x1.aB (iy))>>=fun adC=>((idx adC (tC))>>=fun adD=>(some (decide (adD ≥ (0:Int)))))) else (some (false))))))>>=fun adE=>(bif adE then ((idx x0.aB (ew))>>=fun adF=>((idx adF (ui))>>=fun adG=>((idx x1.aB (iy))>>=fun adH=>((idx adH (tC))>>=fun adI=>((fits 8 (sW.length+1))>>=fun apv=>(some (Out.norm (sW++[an (an (adG * (x1.aE.length:Int))+adI)],an (tC+(1:Int)))))))))) else ((fits 8 (sW.length+1))>>=fun apw=>(some (Out.norm (sW++[(-1:Int)],an (tC+(1:Int)))))))) else (some (Out.exit 10 (sW,tC))))
def eY (x0:aG) (x1:aG) (ew:Int) (iy:Int) (qd:(List Int)) (ui:Int):Option (Out ((List Int)×Int) (aG)):=
 (bif decide (ui < (x0.aE.length:Int)) then (ag (ae 10 (aj (fun s=>eX x0 x1 ew iy ui s.1 s.2) (qd,(0:Int)))) (fun (sW,tC)=>(some (Out.norm (sW,an (ui+(1:Int))))))) else (some (Out.exit 8 (qd,ui))))
def eZ (x0:aG) (x1:aG) (ew:Int) (iy:Int) (yQ:(List Int)) (yR:(List Int)) (yS:(List (List Int))):Option (Out (Int×(List Int)×(List Int)×(List (List Int))) (aG)):=
 (bif decide (iy < (x1.aE.length:Int)) then ((idx x0.aE (ew))>>=fun adJ=>((idx x1.aE (iy))>>=fun adK=>((fits 8 (yQ.length+1))>>=fun n318=>((idx x0.To (ew))>>=fun adL=>((idx x1.To (iy))>>=fun QK=>((fits 8 (yR.length+1))>>=fun apx=>(ag (ae 8 (aj (fun s=>eY x0 x1 ew iy s.1 s.2) (([]:(List Int)),(0:Int)))) (fun (qd,ui)=>((fits 24 (yS.length+1))>>=fun apy=>(some (Out.norm (an (iy+(1:Int)),yQ++[an (an (adJ * x1.aA)+adK)],yR++[an (an (adL * x1.aA)+QK)],yS++[qd])))))))))))) else (some (Out.exit 6 (iy,yQ,yR,yS))))
def fA (x0:aG) (x1:aG) (ew:Int) (Bt:(List Int)) (Bv:(List Int)) (Bw:(List (List Int))):Option (Out (Int×(List Int)×(List Int)×(List (List Int))) (aG)):=
 (bif decide (ew < (x0.aE.length:Int)) then (ag (ae 6 (aj (fun s=>eZ x0 x1 ew s.1 s.2.1 s.2.2.1 s.2.2.2) ((0:Int),Bt,Bv,Bw))) (fun (iy,yQ,yR,yS)=>(some (Out.norm (an (ew+(1:Int)),yQ,yR,yS))))) else (some (Out.exit 4 (ew,Bt,Bv,Bw))))
def fB (x0:aG) (x1:aG):Option (aG):=
 ao (S:=Unit) (ag (ae 0 (aj (fun s=>eW x0 x1 s.1 s.2) ((0:Int),([]:(List Int))))) (fun (iT,Br)=>(ag (ae 4 (aj (fun s=>fA x0 x1 s.1 s.2.1 s.2.2.1 s.2.2.2) ((0:Int),([]:(List Int)),([]:(List Int)),([]:(List (List Int)))))) (fun (ew,Bt,Bv,Bw)=>(some (Out.ret ((aG.mk (an (x0.aA * x1.aA)) Bt Bv Br Bw))))))))
def oT (x0:aK) (x1:Int) (x2:Int) (bz:Int) (km:Int) (kn:Int):Option (Out (Int×Int×Int) (aG×aK)):=
 (bif decide (bz < (12:Int)) then ((gN (aK.mk x0.Code km kn))>>=fun uL=>((bX (aK.mk x0.Code uL.2.At uL.2.au) ((5:Int)))>>=fun OD=>(bif (OD.1) == ((0:Int)) then ((gN (aK.mk x0.Code OD.2.At OD.2.au))>>=fun XA=>((iP uL.1 XA.1)>>=fun I4=>((bX (aK.mk x0.Code XA.2.At XA.2.au) ((8:Int)))>>=fun D2=>(bif (D2.1) == ((0:Int)) then ((gN (aK.mk x0.Code D2.2.At D2.2.au))>>=fun I5=>((fB I4 I5.1)>>=fun MH=>(((bif decide (MH.aA≤x1) then (bif decide ((MH.aE.length:Int)≤x2) then ((eI MH)>>=fun adM=>(some (adM))) else (some (false))) else (some (false))))>>=fun adN=>(bif adN then (some (Out.ret ((MH,(aK.mk x0.Code I5.2.At I5.2.au))))) else (some (Out.norm (an (bz+(1:Int)),I5.2.At,I5.2.au))))))) else (((bif decide (I4.aA≤x1) then (bif decide ((I4.aE.length:Int)≤x2) then ((eI I4)>>=fun Q8=>(some (Q8))) else (some (false))) else (some (false))))>>=fun adO=>(bif adO then (some (Out.ret ((I4,(aK.mk x0.Code D2.2.At D2.2.au))))) else (some (Out.norm (an (bz+(1:Int)),D2.2.At,D2.2.au))))))))) else ((bX (aK.mk x0.Code OD.2.At OD.2.au) ((8:Int)))>>=fun D3=>(bif (D3.1) == ((0:Int)) then ((gN (aK.mk x0.Code D3.2.At D3.2.au))>>=fun I6=>((fB uL.1 I6.1)>>=fun MI=>(((bif decide (MI.aA≤x1) then (bif decide ((MI.aE.length:Int)≤x2) then ((eI MI)>>=fun adP=>(some (adP))) else (some (false))) else (some (false))))>>=fun adQ=>(bif adQ then (some (Out.ret ((MI,(aK.mk x0.Code I6.2.At I6.2.au))))) else (some (Out.norm (an (bz+(1:Int)),I6.2.At,I6.2.au))))))) else (((bif decide (uL.1.aA≤x1) then (bif decide ((uL.1.aE.length:Int)≤x2) then ((eI uL.1)>>=fun adR=>(some (adR))) else (some (false))) else (some (false))))>>=fun adS=>(bif adS then (some (Out.ret ((uL.1,(aK.mk x0.Code D3.2.At D3.2.au))))) else (some (Out.norm (an (bz+(1:Int)),D3.2.At,D3.2.au)))))))))) else (some (Out.exit 0 (bz,km,kn))))
def iZ (x0:aK) (x1:Int) (x2:Int):Option (aG×aK):=
 ao (S:=Unit) (ag (ae 0 (aj (fun s=>oT x0 x1 x2 s.1 s.2.1 s.2.2) ((0:Int),x0.At,x0.au))) (fun (bz,km,kn)=>((dL [[(1:Int)]])>>=fun adT=>(some (Out.ret ((adT,(aK.mk x0.Code km kn))))))))
def oU (x0:aG) (x1:Int):Option (Bool):=
 ao (S:=Unit) ((idx x0.aE (x1))>>=fun e8=>((idx x0.aH (e8))>>=fun OF=>(some (Out.ret (((OF) == (x1)))))))
def nA (x0:aG) (fq:(List Int)) (cb:Int):Option (Out ((List Int)×Int) ((List Int))):=
 (bif decide (cb < (x0.aE.length:Int)) then ((oU x0 (cb))>>=fun ic=>(bif !(ic) then ((fits 8 (fq.length+1))>>=fun n45=>(some (Out.norm (fq++[cb],an (cb+(1:Int)))))) else (some (Out.norm (fq,an (cb+(1:Int))))))) else (some (Out.exit 0 (fq,cb))))
def mR (x0:aG):Option ((List Int)):=
 ao (S:=Unit) (ag (ae 0 (aj (fun s=>nA x0 s.1 s.2) (([]:(List Int)),(0:Int)))) (fun (fq,cb)=>(some (Out.ret (fq)))))
def iF (x0:aG) (x1:aG):Option (Bool):=
 ao (S:=Unit) ((mR x0)>>=fun nn=>(bif decide ((nn.length:Int)≤(8:Int)) then (some (Out.ret ((decide ((x1.aE.length:Int)≤(16:Int)))))) else (some (Out.ret (false)))))
def gO (x0:aG) (x1:Int) (x2:Int) (bz:(List Int)) (iT:Int):Option (Out ((List Int)×Int) ((List Int))):=
 (bif decide (iT < (x0.aE.length:Int)) then ((((idx x0.aE (iT))>>=fun GV=>(bif (GV) == (x1) then ((idx x0.To (iT))>>=fun e30=>(some ((e30) == (x2)))) else (some (false)))))>>=fun E3=>(bif E3 then ((fits 8 (bz.length+1))>>=fun n50=>(some (Out.norm (bz++[iT],an (iT+(1:Int)))))) else (some (Out.norm (bz,an (iT+(1:Int))))))) else (some (Out.exit 0 (bz,iT))))
def gS (x0:aG) (x1:Int) (x2:Int):Option ((List Int)):=
 ao (S:=Unit) (ag (ae 0 (aj (fun s=>gO x0 x1 x2 s.1 s.2) (([]:(List Int)),(0:Int)))) (fun (bz,iT)=>(some (Out.ret (bz)))))
def qY (x0:aG) (x1:aG) (x2:(List Int)) (bz:Int):Option (Out (Int) (Bool)):=
 (bif decide (bz < (x0.aE.length:Int)) then ((idx x0.aE (bz))>>=fun I7=>((idx x0.To (bz))>>=fun GW=>(bif decide (I7 < (x2.length:Int)) then (bif decide (GW < (x2.length:Int)) then ((idx x2 (I7))>>=fun IX=>((idx x2 (GW))>>=fun OG=>((gS x1 (IX) (OG))>>=fun I8=>(bif ((I8.length:Int)) == ((0:Int)) then (some (Out.ret (false))) else (some (Out.norm (an (bz+(1:Int))))))))) else (some (Out.norm (an (bz+(1:Int)))))) else (some (Out.norm (an (bz+(1:Int)))))))) else (some (Out.exit 0 (bz))))
def nL (x0:aG) (x1:aG) (x2:(List Int)):Option (Bool):=
 ao (S:=Unit) (ag (ae 0 (aj (qY x0 x1 x2) ((0:Int)))) (fun bz=>(some (Out.ret (true)))))
def nZ (x0:aG) (x1:aG) (dx:Int) (uR:Bool) (du:Int) (nh:(List Int)):Option (Out (Bool×Int×(List Int)) (Bool×(List Int))):=
 (bif decide (du < (nh.length:Int)) then ((idx x0.aB (dx))>>=fun I9=>((idx I9 (du))>>=fun BZ=>(((bif decide (BZ < (0:Int)) then (some (true)) else ((idx nh (dx))>>=fun XB=>(bif decide (XB < (0:Int)) then (some (true)) else ((idx nh (du))>>=fun DG=>(some (decide (DG < (0:Int)))))))))>>=fun g66=>(bif g66 then (some (Out.norm (uR,an (du+(1:Int)),nh))) else ((idx nh (dx))>>=fun K6=>((idx x1.aB (K6))>>=fun E4=>((idx nh (du))>>=fun B0=>((idx E4 (B0))>>=fun e90=>((((idx nh (BZ))>>=fun OH=>(bif decide (OH ≥ (0:Int)) then ((idx nh (BZ))>>=fun Tk=>(some ((Tk) != (e90)))) else (some (false)))))>>=fun g94=>(bif g94 then (some (Out.ret ((false,nh)))) else (((bif uR then (some (true)) else ((idx nh (BZ))>>=fun D1=>(some (decide (D1 < (0:Int)))))))>>=fun adU=>((idx nh (BZ))>>=fun adV=>(some (Out.norm (adU,an (du+(1:Int)),nh.set (BZ).toNat (e90)))))))))))))))) else (some (Out.exit 4 (uR,du,nh))))
def oA (x0:aG) (x1:aG) (mg:Bool) (dx:Int) (As:(List Int)):Option (Out (Bool×Int×(List Int)) (Bool×(List Int))):=
 (bif decide (dx < (As.length:Int)) then (ag (ae 4 (aj (fun s=>nZ x0 x1 dx s.1 s.2.1 s.2.2) (mg,(0:Int),As))) (fun (uR,du,nh)=>(some (Out.norm (uR,an (dx+(1:Int)),nh))))) else (some (Out.exit 2 (mg,dx,As))))
def oB (x0:aG) (x1:aG) (bz:Bool) (Da:(List Int)):Option (Out (Bool×(List Int)) (Bool×(List Int))):=
 (bif bz then (ag (ae 2 (aj (fun s=>oA x0 x1 s.1 s.2.1 s.2.2) (false,(0:Int),Da))) (fun (mg,dx,As)=>(some (Out.norm (mg,As))))) else (some (Out.exit 0 (bz,Da))))
def nM (x0:aG) (x1:aG) (x2:(List Int)):Option (Bool×(List Int)):=
 ao (S:=Unit) (ag (ae 0 (aj (fun s=>oB x0 x1 s.1 s.2) (true,x2))) (fun (bz,Da)=>(some (Out.ret ((true,Da))))))
def qU (x3:(List Int)) (cb:Int):Option (Out (Int) ((List (List Int)))):=
 (((bif decide (cb < (x3.length:Int)) then ((idx x3 (cb))>>=fun OI=>(some (decide (OI ≥ (0:Int))))) else (some (false))))>>=fun g32=>(bif g32 then (some (Out.norm (an (cb+(1:Int))))) else (some (Out.exit 0 (cb)))))
def nB (rc:aG→aG→(List Int)→(List Int)→Int→(List (List Int))→Option ((List (List Int)))) (x0:aG) (x1:aG) (x2:(List Int)) (x3:(List Int)) (cb:Int) (Tl:(List Int)) (p6:(List (List Int))) (jb:Int):Option (Out ((List (List Int))×Int) ((List (List Int)))):=
 (((bif decide (jb < (Tl.length:Int)) then (some (decide ((p6.length:Int)≤(200:Int)))) else (some (false))))>>=fun adW=>(bif adW then ((dV x3)>>=fun XC=>((idx Tl (jb))>>=fun Ja=>((idx XC (cb))>>=fun MJ=>((nM x0 x1 (XC.set (cb).toNat (Ja)))>>=fun XD=>(bif XD.1 then ((rc x0 x1 x2 XD.2 (an (cb+(1:Int))) p6)>>=fun adX=>(some (Out.norm (adX,an (jb+(1:Int)))))) else (some (Out.norm (p6,an (jb+(1:Int)))))))))) else (some (Out.exit 2 (p6,jb)))))
def kZ (rc:aG→aG→(List Int)→(List Int)→Int→(List (List Int))→Option ((List (List Int)))) (x0:aG) (x1:aG) (x2:(List Int)) (x3:(List Int)) (x4:Int) (x5:(List (List Int))):Option ((List (List Int))):=
 ao (S:=Unit) (ag (ae 0 (aj (qU x3) (x4))) (fun cb=>(bif (cb) == ((x3.length:Int)) then ((dV x3)>>=fun y46=>((fits 24 (x5.length+1))>>=fun n70=>(some (Out.ret ((x5++[y46])))))) else ((idx x0.aE (cb))>>=fun Jb=>((idx x2 (Jb))>>=fun e77=>((idx x0.To (cb))>>=fun K6=>((idx x2 (K6))>>=fun E4=>((gS x1 (e77) (E4))>>=fun Tl=>(ag (ae 2 (aj (fun s=>nB rc x0 x1 x2 x3 cb Tl s.1 s.2) (x5,(0:Int)))) (fun (p6,jb)=>(some (Out.ret (p6)))))))))))))
def gP:Nat→aG→aG→(List Int)→(List Int)→Int→(List (List Int))→Option ((List (List Int)))
 | 0=>fun _ _ _ _ _ _=>none
 | n+1=>kZ (gP n)
def jA (x0:aG) (x1:aG) (x2:(List Int)) (x3:(List Int)):Option (aI):=
 ao (S:=Unit) ((jW x0)>>=fun ic=>((jW x1)>>=fun y60=>((dV x2)>>=fun adY=>((dV x3)>>=fun adZ=>(some (Out.ret ((aI.mk ic y60 adY adZ))))))))
def nC (x0:aG) (fc:(List Int)) (l7:Int):Option (Out ((List Int)×Int) ((List aI))):=
 (bif decide (l7 < (x0.aE.length:Int)) then ((fits 8 (fc.length+1))>>=fun n78=>(some (Out.norm (fc++[(-1:Int)],an (l7+(1:Int)))))) else (some (Out.exit 0 (fc,l7))))
def nD (x0:aG) (x1:aG) (x2:(List Int)) (uj:Int) (CD:(List Int)):Option (Out (Int×(List Int)) ((List aI))):=
 (bif decide (uj < (x2.length:Int)) then ((idx x0.aH (uj))>>=fun XE=>((idx x2 (uj))>>=fun FY=>((idx x1.aH (FY))>>=fun Q9=>((idx CD (XE))>>=fun MK=>(some (Out.norm (an (uj+(1:Int)),CD.set (XE).toNat (Q9)))))))) else (some (Out.exit 2 (uj,CD))))
def nE (x0:aG) (x1:aG) (x2:(List Int)) (ML:(List (List Int))) (FZ:(List aI)) (E5:Int):Option (Out ((List aI)×Int) ((List aI))):=
 (((bif decide (E5 < (ML.length:Int)) then (some (decide ((FZ.length:Int)≤(200:Int)))) else (some (false))))>>=fun ad0=>(bif ad0 then ((idx ML (E5))>>=fun ad1=>((jA x0 x1 x2 ad1)>>=fun Jc=>((fits 256 (FZ.length+1))>>=fun n290=>(some (Out.norm (FZ++[Jc],an (E5+(1:Int)))))))) else (some (Out.exit 4 (FZ,E5)))))
def nF (rc:aG→aG→(List Int)→(List aI)→Option ((List aI))) (x0:aG) (x1:aG) (x2:(List Int)) (Je:(List aI)) (E6:Int):Option (Out ((List aI)×Int) ((List aI))):=
 (((bif decide (E6 < x1.aA) then (some (decide ((Je.length:Int)≤(200:Int)))) else (some (false))))>>=fun ad2=>(bif ad2 then ((dV x2)>>=fun D4=>((fits 8 (D4.length+1))>>=fun n342=>((rc x0 x1 (D4++[E6]) Je)>>=fun ad3=>(some (Out.norm (ad3,an (E6+(1:Int)))))))) else (some (Out.exit 6 (Je,E6)))))
def lA (rc:aG→aG→(List Int)→(List aI)→Option ((List aI))) (x0:aG) (x1:aG) (x2:(List Int)) (x3:(List aI)):Option ((List aI)):=
 ao (S:=Unit) ((nL x0 x1 x2)>>=fun tD=>(bif !(tD) then (some (Out.ret (x3))) else (bif ((x2.length:Int)) == (x0.aA) then (ag (ae 0 (aj (fun s=>nC x0 s.1 s.2) (([]:(List Int)),(0:Int)))) (fun (fc,l7)=>(ag (ae 2 (aj (fun s=>nD x0 x1 x2 s.1 s.2) ((0:Int),fc))) (fun (uj,CD)=>((gP 64 x0 x1 x2 CD ((0:Int)) (([]:(List (List Int)))))>>=fun ML=>(ag (ae 4 (aj (fun s=>nE x0 x1 x2 ML s.1 s.2) (x3,(0:Int)))) (fun (FZ,E5)=>(some (Out.ret (FZ)))))))))) else (ag (ae 6 (aj (fun s=>nF rc x0 x1 x2 s.1 s.2) (x3,(0:Int)))) (fun (Je,E6)=>(some (Out.ret (Je))))))))
def gQ:Nat→aG→aG→(List Int)→(List aI)→Option ((List aI))
 | 0=>fun _ _ _ _=>none
 | n+1=>lA (gQ n)
def jX (x0:aG) (x1:aG):Option ((List aI)):=
 ao (S:=Unit) ((gQ 64 x0 x1 (([]:(List Int))) (([]:(List aI))))>>=fun xO=>(some (Out.ret (xO))))
def gA (x0:aG) (x2:Int) (bz:(List Int)) (fc:Int):Option (Out ((List Int)×Int) (aI)):=
 (bif decide (fc < x0.aA) then ((fits 8 (bz.length+1))>>=fun n81=>(some (Out.norm (bz++[x2],an (fc+(1:Int)))))) else (some (Out.exit 0 (bz,fc))))
def gB (x0:aG) (x1:aG) (x2:Int) (dx:(List Int)) (iw:Int):Option (Out ((List Int)×Int) (aI)):=
 (bif decide (iw < (x0.aE.length:Int)) then ((idx x1.aH (x2))>>=fun ad4=>((fits 8 (dx.length+1))>>=fun n131=>(some (Out.norm (dx++[ad4],an (iw+(1:Int))))))) else (some (Out.exit 2 (dx,iw))))
def eJ (x0:aG) (x1:aG) (x2:Int):Option (aI):=
 ao (S:=Unit) (ag (ae 0 (aj (fun s=>gA x0 x2 s.1 s.2) (([]:(List Int)),(0:Int)))) (fun (bz,fc)=>(ag (ae 2 (aj (fun s=>gB x0 x1 x2 s.1 s.2) (([]:(List Int)),(0:Int)))) (fun (dx,iw)=>((jA x0 x1 bz dx)>>=fun ad5=>(some (Out.ret (ad5))))))))
def oV (x0:aG) (fq:(List Int)) (bh:Int):Option (Out ((List Int)×Int) (aI)):=
 (bif decide (bh < x0.aA) then ((fits 8 (fq.length+1))>>=fun n65=>(some (Out.norm (fq++[bh],an (bh+(1:Int)))))) else (some (Out.exit 0 (fq,bh))))
def oW (x0:aG) (Jf:(List Int)) (oK:Int):Option (Out ((List Int)×Int) (aI)):=
 (bif decide (oK < (x0.aE.length:Int)) then ((fits 8 (Jf.length+1))>>=fun n107=>(some (Out.norm (Jf++[oK],an (oK+(1:Int)))))) else (some (Out.exit 2 (Jf,oK))))
def fP (x0:aG):Option (aI):=
 ao (S:=Unit) (ag (ae 0 (aj (fun s=>oV x0 s.1 s.2) (([]:(List Int)),(0:Int)))) (fun (fq,bh)=>(ag (ae 2 (aj (fun s=>oW x0 s.1 s.2) (([]:(List Int)),(0:Int)))) (fun (Jf,oK)=>((jA x0 x0 fq Jf)>>=fun ad6=>(some (Out.ret (ad6))))))))
def jB (x0:aK) (x1:aG) (x2:Int) (x3:Int):Option (aI×aK):=
 ao (S:=Unit) ((iZ x0 (x2) (x3))>>=fun dh=>((iF x1 dh.1)>>=fun Jg=>(bif Jg then ((jX x1 dh.1)>>=fun XF=>(bif decide ((XF.length:Int) > (0:Int)) then ((bX (aK.mk x0.Code dh.2.At dh.2.au) ((XF.length:Int)))>>=fun wF=>((idx XF (wF.1))>>=fun xG=>(some (Out.ret ((xG,(aK.mk x0.Code wF.2.At wF.2.au))))))) else (bif decide (dh.1.aA > (0:Int)) then ((bX (aK.mk x0.Code dh.2.At dh.2.au) ((2:Int)))>>=fun Jh=>(bif (Jh.1) == ((0:Int)) then ((bX (aK.mk x0.Code Jh.2.At Jh.2.au) (dh.1.aA))>>=fun I3=>((eJ x1 dh.1 (I3.1))>>=fun Ra=>(some (Out.ret ((Ra,(aK.mk x0.Code I3.2.At I3.2.au))))))) else ((fP x1)>>=fun ad7=>(some (Out.ret ((ad7,(aK.mk x0.Code Jh.2.At Jh.2.au)))))))) else ((fP x1)>>=fun ad8=>(some (Out.ret ((ad8,(aK.mk x0.Code dh.2.At dh.2.au))))))))) else (bif decide (dh.1.aA > (0:Int)) then ((bX (aK.mk x0.Code dh.2.At dh.2.au) ((2:Int)))>>=fun Ji=>(bif (Ji.1) == ((0:Int)) then ((bX (aK.mk x0.Code Ji.2.At Ji.2.au) (dh.1.aA))>>=fun Rb=>((eJ x1 dh.1 (Rb.1))>>=fun ad9=>(some (Out.ret ((ad9,(aK.mk x0.Code Rb.2.At Rb.2.au))))))) else ((fP x1)>>=fun aea=>(some (Out.ret ((aea,(aK.mk x0.Code Ji.2.At Ji.2.au)))))))) else ((fP x1)>>=fun aeb=>(some (Out.ret ((aeb,(aK.mk x0.Code dh.2.At dh.2.au))))))))))
def oX (x0:aK) (x1:(List Int)):Option (Int×aK):=
 ao (S:=Unit) ((bX x0 ((x1.length:Int)))>>=fun y6=>((idx x1 (y6.1))>>=fun OA=>(some (Out.ret ((OA,(aK.mk x0.Code y6.2.At y6.2.au)))))))
def oY (x0:aK) (x1:aG):Option (aG×aK):=
 ao (S:=Unit) ((jW x1)>>=fun dh=>((bX x0 ((dh.aE.length:Int)))>>=fun xP=>((bX (aK.mk x0.Code xP.2.At xP.2.au) ((8:Int)))>>=fun nu=>(bif (nu.1) == ((0:Int)) then ((oX (aK.mk x0.Code nu.2.At nu.2.au) ([an (dh.aA+(1:Int)),(-1:Int),(9:Int)]))>>=fun XG=>(some (Out.ret (((aG.mk XG.1 dh.aE dh.To dh.aH dh.aB),(aK.mk x0.Code XG.2.At XG.2.au)))))) else (bif (nu.1) == ((1:Int)) then ((fits 8 (dh.aE.length+1))>>=fun n120=>(some (Out.ret (((aG.mk dh.aA (dh.aE++[(0:Int)]) dh.To dh.aH dh.aB),(aK.mk x0.Code nu.2.At nu.2.au)))))) else (bif (nu.1) == ((2:Int)) then (bif decide ((dh.aH.length:Int) > (0:Int)) then ((bX (aK.mk x0.Code nu.2.At nu.2.au) (an ((dh.aE.length:Int)+(1:Int))))>>=fun Jj=>((idx dh.aH ((0:Int)))>>=fun apz=>(some (Out.ret (((aG.mk dh.aA dh.aE dh.To (dh.aH.set ((0:Int)).toNat (Jj.1)) dh.aB),(aK.mk x0.Code Jj.2.At Jj.2.au))))))) else (some (Out.ret ((dh,(aK.mk x0.Code nu.2.At nu.2.au)))))) else (bif (nu.1) == ((3:Int)) then (bif decide ((dh.aE.length:Int) > (0:Int)) then ((idx dh.aB (xP.1))>>=fun XH=>((bX (aK.mk x0.Code nu.2.At nu.2.au) ((dh.aE.length:Int)))>>=fun MN=>((bX (aK.mk x0.Code MN.2.At MN.2.au) (an ((dh.aE.length:Int)+(1:Int))))>>=fun Rc=>((idx XH (MN.1))>>=fun apA=>(some (Out.ret (((aG.mk dh.aA dh.aE dh.To dh.aH (dh.aB.set (xP.1).toNat (XH.set (MN.1).toNat (an (Rc.1 - (1:Int)))))),(aK.mk x0.Code Rc.2.At Rc.2.au))))))))) else (some (Out.ret ((dh,(aK.mk x0.Code nu.2.At nu.2.au)))))) else (bif (nu.1) == ((4:Int)) then (bif decide ((dh.aE.length:Int) > (0:Int)) then ((idx dh.aB (xP.1))>>=fun XI=>((bX (aK.mk x0.Code nu.2.At nu.2.au) ((dh.aE.length:Int)))>>=fun MO=>((bX (aK.mk x0.Code MO.2.At MO.2.au) (an ((dh.aE.length:Int)+(1:Int))))>>=fun Re=>((idx XI (MO.1))>>=fun apB=>(some (Out.ret (((aG.mk dh.aA dh.aE dh.To dh.aH (dh.aB.set (xP.1).toNat (XI.set (MO.1).toNat (an (Re.1 - (1:Int)))))),(aK.mk x0.Code Re.2.At Re.2.au))))))))) else (some (Out.ret ((dh,(aK.mk x0.Code nu.2.At nu.2.au)))))) else (bif (nu.1) == ((5:Int)) then (bif decide ((dh.aE.length:Int) > (0:Int)) then ((idx dh.aB (xP.1))>>=fun XJ=>((bX (aK.mk x0.Code nu.2.At nu.2.au) ((dh.aE.length:Int)))>>=fun MP=>((bX (aK.mk x0.Code MP.2.At MP.2.au) (an ((dh.aE.length:Int)+(1:Int))))>>=fun Rf=>((idx XJ (MP.1))>>=fun apC=>(some (Out.ret (((aG.mk dh.aA dh.aE dh.To dh.aH (dh.aB.set (xP.1).toNat (XJ.set (MP.1).toNat (an (Rf.1 - (1:Int)))))),(aK.mk x0.Code Rf.2.At Rf.2.au))))))))) else (some (Out.ret ((dh,(aK.mk x0.Code nu.2.At nu.2.au)))))) else (bif (nu.1) == ((6:Int)) then (bif decide ((dh.aE.length:Int) > (0:Int)) then ((bX (aK.mk x0.Code nu.2.At nu.2.au) (an (dh.aA+(1:Int))))>>=fun Rh=>((idx dh.To (xP.1))>>=fun Xs=>(some (Out.ret (((aG.mk dh.aA dh.aE (dh.To.set (xP.1).toNat (Rh.1)) dh.aH dh.aB),(aK.mk x0.Code Rh.2.At Rh.2.au))))))) else (some (Out.ret ((dh,(aK.mk x0.Code nu.2.At nu.2.au)))))) else (bif decide ((dh.aE.length:Int) > (0:Int)) then ((idx dh.aB (xP.1))>>=fun aec=>((tl aec ((1:Int)))>>=fun aed=>((idx dh.aB (xP.1))>>=fun apD=>(some (Out.ret (((aG.mk dh.aA dh.aE dh.To dh.aH (dh.aB.set (xP.1).toNat aed)),(aK.mk x0.Code nu.2.At nu.2.au)))))))) else (some (Out.ret ((dh,(aK.mk x0.Code nu.2.At nu.2.au))))))))))))))))
def kJ (x0:aK):Option (aI×aK):=
 ao (S:=Unit) ((iZ x0 ((4:Int)) ((10:Int)))>>=fun cu=>((jB (aK.mk x0.Code cu.2.At cu.2.au) cu.1 ((4:Int)) ((12:Int)))>>=fun ub=>((bX (aK.mk x0.Code ub.2.At ub.2.au) ((30:Int)))>>=fun wI=>(bif (wI.1) == ((0:Int)) then ((oY (aK.mk x0.Code wI.2.At wI.2.au) ub.1.aC)>>=fun Ri=>(some (Out.ret (((aI.mk Ri.1 ub.1.aD ub.1.aA ub.1.ab),(aK.mk x0.Code Ri.2.At Ri.2.au)))))) else (bif (wI.1) == ((1:Int)) then (bif decide ((ub.1.ab.length:Int) > (0:Int)) then ((bX (aK.mk x0.Code wI.2.At wI.2.au) ((ub.1.ab.length:Int)))>>=fun D4=>((bX (aK.mk x0.Code D4.2.At D4.2.au) (an ((ub.1.aD.aE.length:Int)+(1:Int))))>>=fun wH=>((idx ub.1.ab (D4.1))>>=fun apE=>(some (Out.ret (((aI.mk ub.1.aC ub.1.aD ub.1.aA (ub.1.ab.set (D4.1).toNat (wH.1))),(aK.mk x0.Code wH.2.At wH.2.au)))))))) else (some (Out.ret ((ub.1,(aK.mk x0.Code wI.2.At wI.2.au)))))) else (bif (wI.1) == ((2:Int)) then ((fits 8 (ub.1.aA.length+1))>>=fun adl=>(some (Out.ret (((aI.mk ub.1.aC ub.1.aD (ub.1.aA++[(0:Int)]) ub.1.ab),(aK.mk x0.Code wI.2.At wI.2.au)))))) else (some (Out.ret ((ub.1,(aK.mk x0.Code wI.2.At wI.2.au)))))))))))
def nI:Option (aG):=
 ao (S:=Unit) ((dL [[(1:Int)]])>>=fun uL=>(some (Out.ret (uL))))
def nN (x0:aK):Option (aG×aK):=
 ao (S:=Unit) ((bX x0 ((9:Int)))>>=fun cu=>(bif (cu.1) == ((0:Int)) then ((dL (([]:(List (List Int)))))>>=fun tD=>(some (Out.ret ((tD,(aK.mk x0.Code cu.2.At cu.2.au)))))) else (bif (cu.1) == ((1:Int)) then ((nI)>>=fun IY=>(some (Out.ret ((IY,(aK.mk x0.Code cu.2.At cu.2.au)))))) else (bif (cu.1) == ((2:Int)) then ((dL [[(1:Int),(0:Int)],[(0:Int),(1:Int)]])>>=fun aee=>(some (Out.ret ((aee,(aK.mk x0.Code cu.2.At cu.2.au)))))) else (bif (cu.1) == ((3:Int)) then ((eN ((2:Int)) [(0:Int),(0:Int)] [(1:Int),(1:Int)])>>=fun aef=>(some (Out.ret ((aef,(aK.mk x0.Code cu.2.At cu.2.au)))))) else (bif (cu.1) == ((4:Int)) then ((dL [[(1:Int),(1:Int),(1:Int)],[(0:Int),(1:Int),(0:Int)],[(0:Int),(0:Int),(1:Int)]])>>=fun aeg=>((oS aeg)>>=fun aeh=>(some (Out.ret ((aeh,(aK.mk x0.Code cu.2.At cu.2.au))))))) else (bif (cu.1) == ((5:Int)) then ((dL [[(1:Int),(1:Int),(1:Int)],[(0:Int),(1:Int),(0:Int)],[(0:Int),(0:Int),(1:Int)]])>>=fun Q8=>(some (Out.ret ((Q8,(aK.mk x0.Code cu.2.At cu.2.au)))))) else (bif (cu.1) == ((6:Int)) then ((gF (aK.mk x0.Code cu.2.At cu.2.au))>>=fun Rj=>((gG Rj.1)>>=fun aei=>(some (Out.ret ((aei,(aK.mk x0.Code Rj.2.At Rj.2.au))))))) else (bif (cu.1) == ((7:Int)) then ((dL [[(1:Int),(1:Int)],[(0:Int),(1:Int)]])>>=fun aej=>(some (Out.ret ((aej,(aK.mk x0.Code cu.2.At cu.2.au)))))) else ((iZ (aK.mk x0.Code cu.2.At cu.2.au) ((3:Int)) ((5:Int)))>>=fun Rk=>(some (Out.ret ((Rk.1,(aK.mk x0.Code Rk.2.At Rk.2.au)))))))))))))))
def kK (x0:aK):Option (aG×aK):=
 ao (S:=Unit) ((bX x0 ((6:Int)))>>=fun cu=>(bif (cu.1) == ((0:Int)) then ((dL [[(1:Int),(1:Int),(1:Int),(1:Int)],[(0:Int),(1:Int),(0:Int),(1:Int)],[(0:Int),(0:Int),(1:Int),(1:Int)],[(0:Int),(0:Int),(0:Int),(1:Int)]])>>=fun Jk=>(some (Out.ret ((Jk,(aK.mk x0.Code cu.2.At cu.2.au)))))) else (bif (cu.1) == ((1:Int)) then ((dL [[(1:Int),(1:Int),(1:Int)],[(0:Int),(1:Int),(1:Int)],[(0:Int),(0:Int),(1:Int)]])>>=fun IZ=>(some (Out.ret ((IZ,(aK.mk x0.Code cu.2.At cu.2.au)))))) else (bif (cu.1) == ((2:Int)) then ((lJ)>>=fun Ra=>(some (Out.ret ((Ra,(aK.mk x0.Code cu.2.At cu.2.au)))))) else ((iZ (aK.mk x0.Code cu.2.At cu.2.au) ((4:Int)) ((12:Int)))>>=fun Rm=>(some (Out.ret ((Rm.1,(aK.mk x0.Code Rm.2.At Rm.2.au))))))))))
def mB (x0:aK) (fq:Int) (km:Int) (kn:Int):Option (Out (Int×Int×Int) (aI×aK)):=
 (bif decide (fq < (8:Int)) then ((nN (aK.mk x0.Code km kn))>>=fun uL=>((kK (aK.mk x0.Code uL.2.At uL.2.au))>>=fun GX=>((iF uL.1 GX.1)>>=fun aek=>(bif aek then ((jX uL.1 GX.1)>>=fun Ro=>(bif decide ((Ro.length:Int) > (0:Int)) then ((bX (aK.mk x0.Code GX.2.At GX.2.au) ((Ro.length:Int)))>>=fun Rp=>((idx Ro (Rp.1))>>=fun ael=>(some (Out.ret ((ael,(aK.mk x0.Code Rp.2.At Rp.2.au))))))) else (some (Out.norm (an (fq+(1:Int)),GX.2.At,GX.2.au))))) else (some (Out.norm (an (fq+(1:Int)),GX.2.At,GX.2.au))))))) else (some (Out.exit 0 (fq,km,kn))))
def lT (x0:aK):Option (aI×aK):=
 ao (S:=Unit) (ag (ae 0 (aj (fun s=>mB x0 s.1 s.2.1 s.2.2) ((0:Int),x0.At,x0.au))) (fun (fq,km,kn)=>((nI)>>=fun aem=>((fP aem)>>=fun aen=>(some (Out.ret ((aen,(aK.mk x0.Code km kn)))))))))
def oZ (x0:aK):Option (aI×aK):=
 ao (S:=Unit) ((bX x0 ((16:Int)))>>=fun cu=>(bif (cu.1) == ((0:Int)) then ((kJ (aK.mk x0.Code cu.2.At cu.2.au))>>=fun Au=>(some (Out.ret ((Au.1,(aK.mk x0.Code Au.2.At Au.2.au)))))) else ((lT (aK.mk x0.Code cu.2.At cu.2.au))>>=fun Rq=>(some (Out.ret ((Rq.1,(aK.mk x0.Code Rq.2.At Rq.2.au))))))))
def qV (x0:Int) (x1:Int) (x2:Int):Option (Bool):=
 ao (S:=Unit) (((bif decide (x0 ≥ x1) then (some (decide (x0≤x2))) else (some (false))))>>=fun g3=>(some (Out.ret (g3))))
def mS (x0:Int) (x1:(List Int)) (bh:Int):Option (Out (Int) (Bool)):=
 (bif decide (bh < (x1.length:Int)) then ((((idx x1 (bh))>>=fun e11=>(bif decide (e11 < (0:Int)) then (some (true)) else ((idx x1 (bh))>>=fun vj=>(some (decide (vj ≥ x0)))))))>>=fun g9=>(bif g9 then (some (Out.ret (false))) else (some (Out.norm (an (bh+(1:Int))))))) else (some (Out.exit 0 (bh))))
def jY (x0:Int) (x1:(List Int)):Option (Bool):=
 ao (S:=Unit) (ag (ae 0 (aj (mS x0 x1) ((0:Int)))) (fun bh=>(some (Out.ret (true)))))
def mC (x0:(List Int)) (x1:Int) (x2:Int):Option (Bool):=
 ao (S:=Unit) (((bif ((x0.length:Int)) == (x1) then ((jY (x2) x0)>>=fun y6=>(some (y6))) else (some (false))))>>=fun g3=>(some (Out.ret (g3))))
def lU (x0:aG) (cb:Int):Option (Out (Int) (Bool)):=
 (bif decide (cb < x0.aA) then ((((idx x0.aH (cb))>>=fun E7=>((idx x0.aE (E7))>>=fun e47=>(bif (e47) != (cb) then (some (true)) else ((idx x0.aH (cb))>>=fun OB=>((idx x0.To (OB))>>=fun OJ=>(some ((OJ) != (cb)))))))))>>=fun g43=>(bif g43 then (some (Out.ret (false))) else (some (Out.norm (an (cb+(1:Int))))))) else (some (Out.exit 0 (cb))))
def lV (x0:aG) (p6:Int) (zY:Int):Option (Out (Int) (Bool)):=
 (bif decide (zY < (x0.aE.length:Int)) then ((idx x0.aB (p6))>>=fun XK=>((idx XK (zY))>>=fun EZ=>((idx x0.To (p6))>>=fun B4=>((idx x0.aE (zY))>>=fun Tk=>(bif (B4) != (Tk) then (bif (EZ) != ((-1:Int)) then (some (Out.ret (false))) else (some (Out.norm (an (zY+(1:Int)))))) else (((bif decide (EZ < (0:Int)) then (some (true)) else (bif decide (EZ ≥ (x0.aE.length:Int)) then (some (true)) else ((idx x0.aE (EZ))>>=fun QN=>((idx x0.aE (p6))>>=fun aeo=>(bif (QN) != (aeo) then (some (true)) else ((idx x0.To (EZ))>>=fun aep=>((idx x0.To (zY))>>=fun aeq=>(some ((aep) != (aeq)))))))))))>>=fun aer=>(bif aer then (some (Out.ret (false))) else (some (Out.norm (an (zY+(1:Int)))))))))))) else (some (Out.exit 4 (zY))))
def pA (x0:aG) (p6:Int):Option (Out (Int) (Bool)):=
 (bif decide (p6 < (x0.aE.length:Int)) then ((idx x0.aB (p6))>>=fun XL=>(bif ((XL.length:Int)) != ((x0.aE.length:Int)) then (some (Out.ret (false))) else (ag (ae 4 (aj (lV x0 p6) ((0:Int)))) (fun zY=>(some (Out.norm (an (p6+(1:Int))))))))) else (some (Out.exit 2 (p6))))
def pB (x0:aG):Option (Bool):=
 ao (S:=Unit) ((((qV (x0.aA) ((0:Int)) ((8:Int)))>>=fun OK=>(bif !(OK) then (some (true)) else (bif decide ((x0.aE.length:Int) > (40:Int)) then (some (true)) else ((mC x0.aE ((x0.aE.length:Int)) (x0.aA))>>=fun nn=>(bif !(nn) then (some (true)) else ((mC x0.To ((x0.aE.length:Int)) (x0.aA))>>=fun tE=>(bif !(tE) then (some (true)) else (some (((x0.aB.length:Int)) != ((x0.aE.length:Int))))))))))))>>=fun g10=>(bif g10 then (some (Out.ret (false))) else (((bif ((x0.aH.length:Int)) != (x0.aA) then (some (true)) else ((jY ((x0.aE.length:Int)) x0.aH)>>=fun B5=>(some (!(B5))))))>>=fun g27=>(bif g27 then (some (Out.ret (false))) else (ag (ae 0 (aj (lU x0) ((0:Int)))) (fun cb=>(ag (ae 2 (aj (pA x0) ((0:Int)))) (fun p6=>(some (Out.ret (true)))))))))))
def lB (x0:aG) (bz:Int):Option (Out (Int) (Int×Int×Int×Int)):=
 (bif decide (bz < (x0.aE.length:Int)) then ((((idx x0.aE (bz))>>=fun xN=>((idx x0.aH (xN))>>=fun GY=>((idx x0.aB (GY))>>=fun IW=>((idx IW (bz))>>=fun Jl=>(bif (Jl) != (bz) then (some (true)) else ((idx x0.aB (bz))>>=fun OL=>((idx x0.To (bz))>>=fun Jm=>((idx x0.aH (Jm))>>=fun Jn=>((idx OL (Jn))>>=fun XM=>(some ((XM) != (bz)))))))))))))>>=fun g16=>(bif g16 then (some (Out.ret ((((1:Int)),bz,((0:Int)),((0:Int)))))) else (some (Out.norm (an (bz+(1:Int))))))) else (some (Out.exit 0 (bz))))
def jC (x0:aG) (dx:Int) (du:Int) (gv:Int):Option (Out (Int) (Int×Int×Int×Int)):=
 (bif decide (gv < (x0.aE.length:Int)) then ((((idx x0.To (du))>>=fun e82=>((idx x0.aE (gv))>>=fun XN=>(bif (e82) == (XN) then ((idx x0.aB (dx))>>=fun XO=>((idx XO (du))>>=fun e94=>((idx x0.aB (e94))>>=fun OH=>((idx OH (gv))>>=fun MQ=>((idx x0.aB (dx))>>=fun aes=>((idx x0.aB (du))>>=fun Rs=>((idx Rs (gv))>>=fun aet=>((idx aes (aet))>>=fun aeu=>(some ((MQ) != (aeu))))))))))) else (some (false))))))>>=fun XP=>(bif XP then (some (Out.ret ((((2:Int)),dx,du,gv)))) else (some (Out.norm (an (gv+(1:Int))))))) else (some (Out.exit 6 (gv))))
def jD (x0:aG) (dx:Int) (du:Int):Option (Out (Int) (Int×Int×Int×Int)):=
 (bif decide (du < (x0.aE.length:Int)) then ((idx x0.To (dx))>>=fun K7=>((idx x0.aE (du))>>=fun Jo=>(bif (K7) != (Jo) then (some (Out.norm (an (du+(1:Int))))) else (ag (ae 6 (aj (jC x0 dx du) ((0:Int)))) (fun gv=>(some (Out.norm (an (du+(1:Int)))))))))) else (some (Out.exit 4 (du))))
def oC (x0:aG) (dx:Int):Option (Out (Int) (Int×Int×Int×Int)):=
 (bif decide (dx < (x0.aE.length:Int)) then (ag (ae 4 (aj (jD x0 dx) ((0:Int)))) (fun du=>(some (Out.norm (an (dx+(1:Int))))))) else (some (Out.exit 2 (dx))))
def nO (x0:aG):Option (Int×Int×Int×Int):=
 ao (S:=Unit) (ag (ae 0 (aj (lB x0) ((0:Int)))) (fun bz=>(ag (ae 2 (aj (oC x0) ((0:Int)))) (fun dx=>(some (Out.ret ((((0:Int)),((0:Int)),((0:Int)),((0:Int))))))))))
def pC (x0:aG):Option (Bool):=
 ao (S:=Unit) ((pB x0)>>=fun y8=>(bif !(y8) then (some (Out.ret (false))) else ((nO x0)>>=fun XQ=>(some (Out.ret (((XQ.1) == ((0:Int)))))))))
def qM (x0:aI) (bh:Int):Option (Out (Int) (Bool)):=
 (bif decide (bh < (x0.aC.aE.length:Int)) then ((((idx x0.ab (bh))>>=fun XR=>((idx x0.aD.aE (XR))>>=fun DG=>((idx x0.aC.aE (bh))>>=fun e74=>((idx x0.aA (e74))>>=fun XS=>(bif (DG) != (XS) then (some (true)) else ((idx x0.ab (bh))>>=fun K6=>((idx x0.aD.To (K6))>>=fun E4=>((idx x0.aC.To (bh))>>=fun e83=>((idx x0.aA (e83))>>=fun XT=>(some ((E4) != (XT)))))))))))))>>=fun g68=>(bif g68 then (some (Out.ret (false))) else (some (Out.norm (an (bh+(1:Int))))))) else (some (Out.exit 0 (bh))))
def qN (x0:aI) (oK:Int):Option (Out (Int) (Bool)):=
 (bif decide (oK < x0.aC.aA) then ((idx x0.aC.aH (oK))>>=fun Q9=>((idx x0.ab (Q9))>>=fun MK=>((idx x0.aA (oK))>>=fun xG=>((idx x0.aD.aH (xG))>>=fun I0=>(bif (MK) != (I0) then (some (Out.ret (false))) else (some (Out.norm (an (oK+(1:Int)))))))))) else (some (Out.exit 2 (oK))))
def qO (x0:aI) (uR:Int) (D5:Int):Option (Out (Int) (Bool)):=
 (bif decide (D5 < (x0.aC.aE.length:Int)) then ((((idx x0.aC.To (uR))>>=fun Ru=>((idx x0.aC.aE (D5))>>=fun aev=>(bif (Ru) == (aev) then ((idx x0.aC.aB (uR))>>=fun Rv=>((idx Rv (D5))>>=fun aew=>((idx x0.ab (aew))>>=fun aex=>((idx x0.ab (uR))>>=fun QI=>((idx x0.aD.aB (QI))>>=fun aey=>((idx x0.ab (D5))>>=fun Rw=>((idx aey (Rw))>>=fun aez=>(some ((aex) != (aez)))))))))) else (some (false))))))>>=fun aeA=>(bif aeA then (some (Out.ret (false))) else (some (Out.norm (an (D5+(1:Int))))))) else (some (Out.exit 6 (D5))))
def qP (x0:aI) (uR:Int):Option (Out (Int) (Bool)):=
 (bif decide (uR < (x0.aC.aE.length:Int)) then (ag (ae 6 (aj (qO x0 uR) ((0:Int)))) (fun D5=>(some (Out.norm (an (uR+(1:Int))))))) else (some (Out.exit 4 (uR))))
def mT (x0:aI):Option (Bool):=
 ao (S:=Unit) ((((pC x0.aC)>>=fun I8=>(bif !(I8) then (some (true)) else ((pC x0.aD)>>=fun XU=>(bif !(XU) then (some (true)) else (bif ((x0.aA.length:Int)) != (x0.aC.aA) then (some (true)) else (some (((x0.ab.length:Int)) != ((x0.aC.aE.length:Int))))))))))>>=fun g33=>(bif g33 then (some (Out.ret (false))) else ((((jY (x0.aD.aA) x0.aA)>>=fun Xy=>(bif !(Xy) then (some (true)) else ((jY ((x0.aD.aE.length:Int)) x0.ab)>>=fun y52=>(some (!(y52)))))))>>=fun g47=>(bif g47 then (some (Out.ret (false))) else (ag (ae 0 (aj (qM x0) ((0:Int)))) (fun bh=>(ag (ae 2 (aj (qN x0) ((0:Int)))) (fun oK=>(ag (ae 4 (aj (qP x0) ((0:Int)))) (fun uR=>(some (Out.ret (true)))))))))))))
def mD (x0:aK):Option (aI×aI×aK):=
 ao (S:=Unit) ((oZ x0)>>=fun tE=>((bX (aK.mk x0.Code tE.2.At tE.2.au) ((12:Int)))>>=fun D6=>(bif (D6.1) == ((0:Int)) then ((kJ (aK.mk x0.Code D6.2.At D6.2.au))>>=fun Jc=>(some (Out.ret ((tE.1,Jc.1,(aK.mk x0.Code Jc.2.At Jc.2.au)))))) else ((mT tE.1)>>=fun aeB=>(bif !(aeB) then ((kJ (aK.mk x0.Code D6.2.At D6.2.au))>>=fun F4=>(some (Out.ret ((tE.1,F4.1,(aK.mk x0.Code F4.2.At F4.2.au)))))) else ((bX (aK.mk x0.Code D6.2.At D6.2.au) ((4:Int)))>>=fun Jp=>(bif (Jp.1) == ((0:Int)) then ((fP tE.1.aD)>>=fun aeC=>(some (Out.ret ((tE.1,aeC,(aK.mk x0.Code Jp.2.At Jp.2.au)))))) else ((kK (aK.mk x0.Code Jp.2.At Jp.2.au))>>=fun CE=>((iF tE.1.aD CE.1)>>=fun aeD=>(bif aeD then ((jX tE.1.aD CE.1)>>=fun Rx=>(bif decide ((Rx.length:Int) > (0:Int)) then ((bX (aK.mk x0.Code CE.2.At CE.2.au) ((Rx.length:Int)))>>=fun MR=>((idx Rx (MR.1))>>=fun Z1=>(some (Out.ret ((tE.1,Z1,(aK.mk x0.Code MR.2.At MR.2.au))))))) else ((jB (aK.mk x0.Code CE.2.At CE.2.au) tE.1.aD ((4:Int)) ((10:Int)))>>=fun MS=>(some (Out.ret ((tE.1,MS.1,(aK.mk x0.Code MS.2.At MS.2.au)))))))) else ((jB (aK.mk x0.Code CE.2.At CE.2.au) tE.1.aD ((4:Int)) ((10:Int)))>>=fun MT=>(some (Out.ret ((tE.1,MT.1,(aK.mk x0.Code MT.2.At MT.2.au))))))))))))))))
def gT (x0:(List Int)):Option (aI×aI):=
 ao (S:=Unit) ((oQ x0)>>=fun nn=>(match nn with | none=>none | some m23=>((mD (aK.mk x0 m23.At m23.au))>>=fun xO=>(some (Out.ret ((xO.1,xO.2.1)))))))
def dS (x0:aG):Option (Int):=
 ao (S:=Unit) (some (Out.ret (((x0.aE.length:Int)))))
def kL (x0:Int) (x1:Int) (x2:Int):Option (Bool):=
 ao (S:=Unit) (((bif decide (x0 ≥ x1) then (some (decide (x0≤x2))) else (some (false))))>>=fun g3=>(some (Out.ret (g3))))
def mU (x0:(List Int)) (x1:Int) (fc:Int):Option (Out (Int) (Bool)):=
 (bif decide (fc < (x0.length:Int)) then ((idx x0 (fc))>>=fun e9=>((kL (e9) ((0:Int)) (an (x1 - (1:Int))))>>=fun K8=>(bif !(K8) then (some (Out.ret (false))) else (some (Out.norm (an (fc+(1:Int)))))))) else (some (Out.exit 0 (fc))))
def gU (x0:(List Int)) (x1:Int):Option (Bool):=
 ao (S:=Unit) (ag (ae 0 (aj (mU x0 x1) ((0:Int)))) (fun fc=>(some (Out.ret (true)))))
def gY (x0:aG) (x1:Int):Option (sS):=
 ao (S:=Unit) ((idx x0.aE (x1))>>=fun e8=>((idx x0.To (x1))>>=fun OF=>(some (Out.ret ((sS.mk e8 OF))))))
def fQ (x0:aG) (By:Int):Option (Out (Int) (Bool)):=
 (bif decide (By < (x0.aH.length:Int)) then ((idx x0.aH (By))>>=fun Jn=>((gY x0 (Jn))>>=fun y45=>(bif !((y45.aE) == (By) && (y45.To) == (By)) then (some (Out.ret (false))) else (some (Out.norm (an (By+(1:Int)))))))) else (some (Out.exit 0 (By))))
def fR (x0:aG) (y3:Int) (vO:Int) (ON:(List Int)) (xk:Int):Option (Out (Int) (Bool)):=
 (bif decide (xk < (ON.length:Int)) then ((idx ON (xk))>>=fun E4=>((idx x0.To (vO))>>=fun XT=>((idx x0.aE (xk))>>=fun XO=>(bif (XT) != (XO) then (bif (E4) != ((-1:Int)) then (some (Out.ret (false))) else (some (Out.norm (an (xk+(1:Int)))))) else ((((kL (E4) ((0:Int)) (an (y3 - (1:Int))))>>=fun MU=>(bif !(MU) then (some (true)) else ((gY x0 (E4))>>=fun XV=>((idx x0.aE (vO))>>=fun MK=>((idx x0.To (xk))>>=fun xG=>(some (!((XV.aE) == (MK) && (XV.To) == (xG))))))))))>>=fun g99=>(bif g99 then (some (Out.ret (false))) else (some (Out.norm (an (xk+(1:Int))))))))))) else (some (Out.exit 4 (xk))))
def jE (x0:aG) (y3:Int) (vO:Int):Option (Out (Int) (Bool)):=
 (bif decide (vO < (x0.aB.length:Int)) then ((idx x0.aB (vO))>>=fun ON=>(bif ((ON.length:Int)) != (y3) then (some (Out.ret (false))) else (ag (ae 4 (aj (fR x0 y3 vO ON) ((0:Int)))) (fun xk=>(some (Out.norm (an (vO+(1:Int))))))))) else (some (Out.exit 2 (vO))))
def iC (x0:aG):Option (Bool):=
 ao (S:=Unit) ((dS x0)>>=fun y3=>((((kL (x0.aA) ((0:Int)) ((8:Int)))>>=fun y9=>(bif !(y9) then (some (true)) else (bif decide (y3 > (40:Int)) then (some (true)) else (bif ((x0.To.length:Int)) != (y3) then (some (true)) else ((gU x0.aE (x0.aA))>>=fun Jq=>(bif !(Jq) then (some (true)) else ((gU x0.To (x0.aA))>>=fun Au=>(some (!(Au)))))))))))>>=fun g7=>(bif g7 then (some (Out.ret (false))) else (((bif ((x0.aH.length:Int)) != (x0.aA) then (some (true)) else ((gU x0.aH (y3))>>=fun tD=>(bif !(tD) then (some (true)) else (some (((x0.aB.length:Int)) != (y3)))))))>>=fun g24=>(bif g24 then (some (Out.ret (false))) else (ag (ae 0 (aj (fQ x0) ((0:Int)))) (fun By=>(ag (ae 2 (aj (jE x0 y3) ((0:Int)))) (fun vO=>(some (Out.ret (true))))))))))))
def dM (x0:aG) (x1:Int) (x2:Int):Option (Int):=
 ao (S:=Unit) ((idx x0.aB (x1))>>=fun e3=>((idx e3 (x2))>>=fun OF=>(some (Out.ret (OF)))))
def gV (x0:aG) (y3:Int) (bz:Int):Option (Out (Int) (Int×Int×Int×Int)):=
 (bif decide (bz < y3) then ((((idx x0.aE (bz))>>=fun OP=>((idx x0.aH (OP))>>=fun K9=>((dM x0 (K9) (bz))>>=fun tE=>(bif (tE) != (bz) then (some (true)) else ((idx x0.To (bz))>>=fun IW=>((idx x0.aH (IW))>>=fun Tn=>((dM x0 (bz) (Tn))>>=fun Aq=>(some ((Aq) != (bz)))))))))))>>=fun g13=>(bif g13 then (some (Out.ret ((((1:Int)),bz,((0:Int)),((0:Int)))))) else (some (Out.norm (an (bz+(1:Int))))))) else (some (Out.exit 0 (bz))))
def fD (x0:aG) (y3:Int) (dx:Int) (du:Int) (gv:Int):Option (Out (Int) (Int×Int×Int×Int)):=
 (bif decide (gv < y3) then ((((dM x0 (du) (gv))>>=fun y63=>(bif decide (y63 ≥ (0:Int)) then ((dM x0 (dx) (du))>>=fun y66=>((dM x0 (y66) (gv))>>=fun y68=>((dM x0 (du) (gv))>>=fun y70=>((dM x0 (dx) (y70))>>=fun XW=>(some ((y68) != (XW))))))) else (some (false)))))>>=fun g61=>(bif g61 then (some (Out.ret ((((2:Int)),dx,du,gv)))) else (some (Out.norm (an (gv+(1:Int))))))) else (some (Out.exit 6 (gv))))
def fE (x0:aG) (y3:Int) (dx:Int) (du:Int):Option (Out (Int) (Int×Int×Int×Int)):=
 (bif decide (du < y3) then ((dM x0 (dx) (du))>>=fun B3=>(bif decide (B3 < (0:Int)) then (some (Out.norm (an (du+(1:Int))))) else (ag (ae 6 (aj (fD x0 y3 dx du) ((0:Int)))) (fun gv=>(some (Out.norm (an (du+(1:Int))))))))) else (some (Out.exit 4 (du))))
def jZ (x0:aG) (y3:Int) (dx:Int):Option (Out (Int) (Int×Int×Int×Int)):=
 (bif decide (dx < y3) then (ag (ae 4 (aj (fE x0 y3 dx) ((0:Int)))) (fun du=>(some (Out.norm (an (dx+(1:Int))))))) else (some (Out.exit 2 (dx))))
def jG (x0:aG):Option (Int×Int×Int×Int):=
 ao (S:=Unit) ((dS x0)>>=fun y3=>(ag (ae 0 (aj (gV x0 y3) ((0:Int)))) (fun bz=>(ag (ae 2 (aj (jZ x0 y3) ((0:Int)))) (fun dx=>(some (Out.ret ((((0:Int)),((0:Int)),((0:Int)),((0:Int)))))))))))
def fS (x0:aG):Option (Bool):=
 ao (S:=Unit) ((iC x0)>>=fun y3=>(bif !(y3) then (some (Out.ret (false))) else ((jG x0)>>=fun cu=>(some (Out.ret (((cu.1) == ((0:Int)))))))))
def iD (x0:(List aG)) (bz:Int):Option (Out (Int) (Bool)):=
 (bif decide (bz < (x0.length:Int)) then ((idx x0 (bz))>>=fun e9=>((fS e9)>>=fun dh=>(bif !(dh) then (some (Out.ret (false))) else (some (Out.norm (an (bz+(1:Int)))))))) else (some (Out.exit 0 (bz))))
def jM (x0:(List aG)):Option (Bool):=
 ao (S:=Unit) (ag (ae 0 (aj (iD x0) ((0:Int)))) (fun bz=>(some (Out.ret (true)))))
def lC (x0:aI) (Bz:Int):Option (Out (Int) (Bool)):=
 (bif decide (Bz < (x0.ab.length:Int)) then ((idx x0.ab (Bz))>>=fun IX=>((((idx x0.aD.aE (IX))>>=fun OQ=>((idx x0.aC.aE (Bz))>>=fun Jm=>((idx x0.aA (Jm))>>=fun Jn=>(bif (OQ) != (Jn) then (some (true)) else ((idx x0.aD.To (IX))>>=fun Jr=>((idx x0.aC.To (Bz))>>=fun EY=>((idx x0.aA (EY))>>=fun OR=>(some ((Jr) != (OR)))))))))))>>=fun g35=>(bif g35 then (some (Out.ret (false))) else (some (Out.norm (an (Bz+(1:Int)))))))) else (some (Out.exit 0 (Bz))))
def lD (x0:aI) (Aw:Int):Option (Out (Int) (Bool)):=
 (bif decide (Aw < (x0.aC.aH.length:Int)) then ((idx x0.aC.aH (Aw))>>=fun e64=>((idx x0.ab (e64))>>=fun XL=>((idx x0.aA (Aw))>>=fun XR=>((idx x0.aD.aH (XR))>>=fun DG=>(bif (XL) != (DG) then (some (Out.ret (false))) else (some (Out.norm (an (Aw+(1:Int)))))))))) else (some (Out.exit 2 (Aw))))
def lE (x0:aI) (xl:Int) (B0:(List Int)) (Ax:Int):Option (Out (Int) (Bool)):=
 (bif decide (Ax < (B0.length:Int)) then ((idx B0 (Ax))>>=fun MQ=>(((bif decide (MQ ≥ (0:Int)) then ((idx x0.ab (MQ))>>=fun I0=>((idx x0.ab (xl))>>=fun Rs=>((idx x0.ab (Ax))>>=fun QZ=>((dM x0.aD (Rs) (QZ))>>=fun aeE=>(some ((I0) != (aeE))))))) else (some (false))))>>=fun aeF=>(bif aeF then (some (Out.ret (false))) else (some (Out.norm (an (Ax+(1:Int)))))))) else (some (Out.exit 6 (Ax))))
def lF (x0:aI) (xl:Int):Option (Out (Int) (Bool)):=
 (bif decide (xl < (x0.aC.aB.length:Int)) then ((idx x0.aC.aB (xl))>>=fun B0=>(ag (ae 6 (aj (lE x0 xl B0) ((0:Int)))) (fun Ax=>(some (Out.norm (an (xl+(1:Int)))))))) else (some (Out.exit 4 (xl))))
def kB (x0:aI):Option (Bool):=
 ao (S:=Unit) (((bif ((x0.aA.length:Int)) != (x0.aC.aA) then (some (true)) else ((dS x0.aC)>>=fun cu=>(bif ((x0.ab.length:Int)) != (cu) then (some (true)) else ((gU x0.aA (x0.aD.aA))>>=fun K8=>(bif !(K8) then (some (true)) else ((dS x0.aD)>>=fun nn=>((gU x0.ab (nn))>>=fun uL=>(some (!(uL)))))))))))>>=fun g7=>(bif g7 then (some (Out.ret (false))) else (ag (ae 0 (aj (lC x0) ((0:Int)))) (fun Bz=>(ag (ae 2 (aj (lD x0) ((0:Int)))) (fun Aw=>(ag (ae 4 (aj (lF x0) ((0:Int)))) (fun xl=>(some (Out.ret (true)))))))))))
def eQ (x0:aI):Option (Bool):=
 ao (S:=Unit) ((((jM [x0.aC,x0.aD])>>=fun Jq=>(bif Jq then ((kB x0)>>=fun Au=>(some (Au))) else (some (false)))))>>=fun g12=>(some (Out.ret (g12))))
def jH (x0:(List aI)) (bz:Int):Option (Out (Int) (Bool)):=
 (bif decide (bz < (x0.length:Int)) then ((idx x0 (bz))>>=fun e9=>((eQ e9)>>=fun I8=>(bif !(I8) then (some (Out.ret (false))) else (some (Out.norm (an (bz+(1:Int)))))))) else (some (Out.exit 0 (bz))))
def gR (x0:(List aI)):Option (Bool):=
 ao (S:=Unit) (ag (ae 0 (aj (jH x0) ((0:Int)))) (fun bz=>(some (Out.ret (true)))))
def fT (x0:(List Int)) (x1:(List Int)) (iT:Int):Option (Out (Int) (Int)):=
 (bif decide (iT < (x0.length:Int)) then (bif (iT) == ((x1.length:Int)) then (some (Out.ret (((1:Int))))) else ((idx x0 (iT))>>=fun E0=>((idx x1 (iT))>>=fun xN=>(bif (E0) != (xN) then ((idx x0 (iT))>>=fun I7=>((idx x1 (iT))>>=fun GW=>(bif decide (I7 < GW) then (some (Out.ret (((-1:Int))))) else (some (Out.ret (((1:Int)))))))) else (some (Out.norm (an (iT+(1:Int))))))))) else (some (Out.exit 0 (iT))))
def qZ (x0:(List Int)) (x1:(List Int)):Option (Int):=
 ao (S:=Unit) (ag (ae 0 (aj (fT x0 x1) ((0:Int)))) (fun iT=>(bif decide ((x0.length:Int) < (x1.length:Int)) then (some (Out.ret (((-1:Int))))) else (some (Out.ret (((0:Int))))))))
def mE (x0:(List Int)) (x1:(List Int)):Option (Bool):=
 ao (S:=Unit) ((qZ x0 x1)>>=fun y3=>(some (Out.ret (((y3) == ((0:Int)))))))
def iM (x0:aG) (x1:aG) (Db:Int):Option (Out (Int) (Bool)):=
 (bif decide (Db < (x0.aB.length:Int)) then ((idx x0.aB (Db))>>=fun e28=>((idx x1.aB (Db))>>=fun OI=>((mE e28 OI)>>=fun ub=>(bif !(ub) then (some (Out.ret (false))) else (some (Out.norm (an (Db+(1:Int))))))))) else (some (Out.exit 0 (Db))))
def iI (x0:aG) (x1:aG):Option (Bool):=
 ao (S:=Unit) (((bif (x0.aA) != (x1.aA) then (some (true)) else ((mE x0.aE x1.aE)>>=fun y6=>(bif !(y6) then (some (true)) else ((mE x0.To x1.To)>>=fun y9=>(bif !(y9) then (some (true)) else ((mE x0.aH x1.aH)>>=fun OK=>(bif !(OK) then (some (true)) else (some (((x0.aB.length:Int)) != ((x1.aB.length:Int))))))))))))>>=fun g3=>(bif g3 then (some (Out.ret (false))) else (ag (ae 0 (aj (iM x0 x1) ((0:Int)))) (fun Db=>(some (Out.ret (true)))))))
def eS (x0:(List Int)):Option ((List Int)):=
 ao (S:=Unit) ((fits 8 ((([]:(List Int))).length+x0.length))>>=fun n15=>(some (Out.ret ((([]:(List Int))++x0)))))
def pD (x0:Int) (x1:Int) (x2:aG):Option (Int):=
 ao (S:=Unit) ((dM x2 (x1) (x0))>>=fun y3=>(some (Out.ret (y3))))
def rK (x0:aG) (x1:(Int→Int→Option (Int))) (qe:Int) (I9:(List Int)) (uk:Int) (yT:(List (List Int))):Option (Out (Int×(List (List Int))) (aG)):=
 (bif decide (uk < (I9.length:Int)) then ((idx yT (qe))>>=fun DG=>((idx DG (uk))>>=fun K6=>((idx x0.To (qe))>>=fun Tj=>((idx x0.aE (uk))>>=fun B4=>(bif (Tj) == (B4) then ((idx (yT.set (qe).toNat (DG.set (uk).toNat ((-1:Int)))) (qe))>>=fun FY=>((x1 (qe) (uk))>>=fun aeG=>((idx FY (uk))>>=fun adV=>(some (Out.norm (an (uk+(1:Int)),(yT.set (qe).toNat (DG.set (uk).toNat ((-1:Int)))).set (qe).toNat (FY.set (uk).toNat (aeG)))))))) else (some (Out.norm (an (uk+(1:Int)),yT.set (qe).toNat (DG.set (uk).toNat ((-1:Int))))))))))) else (some (Out.exit 2 (uk,yT))))
def rL (x0:aG) (x1:(Int→Int→Option (Int))) (y7:Int) (n11:Nat) (qe:Int) (Ay:(List (List Int))):Option (Out (Int×(List (List Int))) (aG)):=
 (bif decide (qe < ((List.replicate n11 ([]:(List Int))).length:Int)) then ((mk 8 (y7))>>=fun n35=>((idx Ay (qe))>>=fun E7=>((idx (Ay.set (qe).toNat (List.replicate n35 (0:Int))) (qe))>>=fun I9=>(ag (ae 2 (aj (fun s=>rK x0 x1 qe I9 s.1 s.2) ((0:Int),Ay.set (qe).toNat (List.replicate n35 (0:Int))))) (fun (uk,yT)=>(some (Out.norm (an (qe+(1:Int)),yT)))))))) else (some (Out.exit 0 (qe,Ay))))
def qA (x0:aG) (x1:(Int→Int→Option (Int))):Option (aG):=
 H6 (R:=(aG)) ((dS x0)>>=fun y7=>((mk 24 (y7))>>=fun n11=>(ag (ae 0 (aj (fun s=>rL x0 x1 y7 n11 s.1 s.2) ((0:Int),List.replicate n11 ([]:(List Int))))) (fun (qe,Ay)=>(some (Out.norm ((aG.mk x0.aA x0.aE x0.To x0.aH Ay))))))))
def qQ (x0:aG):Option (aG):=
 ao (S:=Unit) ((eS x0.To)>>=fun ic=>((eS x0.aE)>>=fun GU=>((eS x0.aH)>>=fun B3=>((qA (aG.mk x0.aA ic GU B3 (([]:(List (List Int))))) (fun a0 a1=>pD (a0) (a1) x0))>>=fun xP=>(some (Out.ret ((aG.mk xP.aA ic GU B3 xP.aB))))))))
def kM (x0:(List (List Int))) (fq:(List (List Int))) (eh:Int):Option (Out ((List (List Int))×Int) ((List (List Int)))):=
 (bif decide (eh < (x0.length:Int)) then ((idx x0 (eh))>>=fun GY=>((eS GY)>>=fun Jk=>((fits 24 (fq.length+1))>>=fun n53=>(some (Out.norm (fq++[Jk],an (eh+(1:Int)))))))) else (some (Out.exit 0 (fq,eh))))
def qF (x0:(List (List Int))):Option ((List (List Int))):=
 ao (S:=Unit) ((mk 24 ((x0.length:Int)))>>=fun n3=>(ag (ae 0 (aj (fun s=>kM x0 s.1 s.2) (([]:(List (List Int))),(0:Int)))) (fun (fq,eh)=>(some (Out.ret (fq))))))
def gZ (x0:aG):Option (aG):=
 ao (S:=Unit) ((eS x0.aE)>>=fun y8=>((eS x0.To)>>=fun Au=>((eS x0.aH)>>=fun tD=>((qF x0.aB)>>=fun XU=>(some (Out.ret ((aG.mk x0.aA y8 Au tD XU))))))))
def mG (x0:aG) (x1:aG) (x2:(List Int)) (x3:(List Int)):Option (aI):=
 ao (S:=Unit) ((gZ x0)>>=fun y8=>((gZ x1)>>=fun I8=>((eS x2)>>=fun XX=>((eS x3)>>=fun IZ=>(some (Out.ret ((aI.mk y8 I8 XX IZ))))))))
def kN (x0:aI):Option (aI):=
 ao (S:=Unit) ((qQ x0.aC)>>=fun y9=>((qQ x0.aD)>>=fun OC=>((mG y9 OC x0.aA x0.ab)>>=fun aeH=>(some (Out.ret (aeH))))))
def mH (x0:(List Int)) (x1:(List Int)) (BA:Int) (vP:(List Int)):Option (Out (Int×(List Int)) ((List Int))):=
 (bif decide (BA < (x0.length:Int)) then ((idx x0 (BA))>>=fun K9=>((idx x1 (K9))>>=fun BY=>((idx vP (BA))>>=fun I7=>(some (Out.norm (an (BA+(1:Int)),vP.set (BA).toNat (BY))))))) else (some (Out.exit 0 (BA,vP))))
def oO (x0:(List Int)) (x1:(List Int)):Option ((List Int)):=
 ao (S:=Unit) ((mk 8 ((x0.length:Int)))>>=fun n3=>(ag (ae 0 (aj (fun s=>mH x0 x1 s.1 s.2) ((0:Int),List.replicate n3 (0:Int)))) (fun (BA,vP)=>(some (Out.ret (vP))))))
def iJ (x0:aI) (x1:aI):Option (aI):=
 ao (S:=Unit) ((oO x0.aA x1.aA)>>=fun cu=>((oO x0.ab x1.ab)>>=fun tE=>((mG x0.aC x1.aD cu tE)>>=fun Jk=>(some (Out.ret (Jk))))))
def eH (x0:List Int) (x1:List aZ) (x2:Int):Option (Bool×List aZ):=
 ao (S:=Unit) ((eS x0)>>=fun y8=>((fits 32 (x1.length+1))>>=fun n11=>(some (Out.ret (decide (((x1++[aZ.mk x2 y8]).length:Int)≤(400:Int)),x1++[aZ.mk x2 y8])))))
def fU (x0:aG) (x1:Int) (x2:Int) (bz:(List Int)) (zF:Int):Option (Out ((List Int)×Int) ((List Int))):=
 (bif decide (zF < (x0.aE.length:Int)) then ((((idx x0.aE (zF))>>=fun IW=>(bif (IW) == (x1) then ((idx x0.To (zF))>>=fun GW=>(some ((GW) == (x2)))) else (some (false)))))>>=fun g20=>(bif g20 then ((fits 8 (bz.length+1))>>=fun n44=>(some (Out.norm (bz++[zF],an (zF+(1:Int)))))) else (some (Out.norm (bz,an (zF+(1:Int))))))) else (some (Out.exit 0 (bz,zF))))
def iK (x0:aG) (x1:Int) (x2:Int):Option ((List Int)):=
 ao (S:=Unit) (ag (ae 0 (aj (fun s=>fU x0 x1 x2 s.1 s.2) (([]:(List Int)),(0:Int)))) (fun (bz,zF)=>(some (Out.ret (bz)))))
def mV {ρ:Type} (x0:aI) (x:Int) (cs:List Int) (s:Int):Option (Out Int ρ):=
 (bif decide (s < (x0.ab.length:Int)) then ((idx x0.ab (s))>>=fun Ti=>((idx x0.aC.aE (s))>>=fun OS=>((idx x0.aC.To (s))>>=fun Jo=>((bif (if Jo > OS then Jo else OS) == (x) then ((idx cs (OS))>>=fun XY=>((dM x0.aD (XY) (Ti))>>=fun y80=>((idx cs (Jo))>>=fun XN=>(some ((y80) != (XN)))))) else (some (false)))>>=fun XZ=>(bif XZ then (some (Out.exit 1 s)) else (some (Out.norm (an (s+(1:Int)))))))))) else (some (Out.exit 2 s)))
def kO {σ:Type} (rc:Int→List Int→σ→Option (Bool×List Int×σ)) (x0:aI) (x:Int) (l:List Int) (s:Int×List Int×σ):Option (Out (Int×List Int×σ) (Bool×List Int×σ)):=
 (bif decide (s.1 < (l.length:Int)) then ((idx l (s.1))>>=fun Jm=>((idx s.2.1 (x))>>=fun _=>(GO 2 1 (aj (fun s2=>mV x0 x (s.2.1.set (x).toNat (Jm)) s2) (0:Int)) (fun _=>((rc (an (x+(1:Int))) (s.2.1.set (x).toNat (Jm)) s.2.2)>>=fun OT=>(bif !(OT.1) then (some (Out.ret (false,OT.2.1,OT.2.2))) else (some (Out.norm (an (s.1+(1:Int)),OT.2.1,OT.2.2)))))) (fun _=>(some (Out.norm (an (s.1+(1:Int)),s.2.1.set (x).toNat (Jm),s.2.2))))))) else (some (Out.exit 0 s)))
def nP {σ:Type} (fo:List Int→σ→Option (Bool×σ)) (x0:aI) (xa:Int) (rc:Int→List Int→σ→Option (Bool×List Int×σ)) (x:Int) (cs:List Int) (st:σ):Option (Bool×List Int×σ):=
 ao (S:=Unit) (bif (x) == (x0.aC.aA) then ((fo cs st)>>=fun zG=>(some (Out.ret (zG.1,cs,zG.2)))) else ((idx x0.aA (x))>>=fun OG=>((iK x0.aD (xa) (OG))>>=fun y34=>(ag (ae 0 (aj (fun s=>kO rc x0 x y34 s) ((0:Int),cs,st))) (fun s=>(some (Out.ret (true,s.2.1,s.2.2))))))))
def fF {σ:Type} (fo:List Int→σ→Option (Bool×σ)) (x0:aI) (xa:Int):Nat→Int→List Int→σ→Option (Bool×List Int×σ)
 | 0=>fun _ _ _=>none
 | n+1=>nP fo x0 xa (fF fo x0 xa n)
def rG {σ:Type} (fo:List Int→σ→Option (Bool×σ)) (x0:aI) (xa:Int) (st:σ):Option (Bool×σ):=
 ao (S:=Unit) ((mk 8 (x0.aA.length:Int))>>=fun n22=>((fF fo x0 xa 64 (0:Int) (List.replicate n22 (0:Int)) st)>>=fun ic=>(some (Out.ret (ic.1,ic.2.2)))))
def oD (x0:aI) (s:Int×List aZ):Option (Out (Int×List aZ) (List aZ×Bool)):=
 (bif decide (s.1 < (x0.aD.aA)) then ((rG (fun a0 a1=>eH a0 a1 s.1) x0 (s.1) s.2)>>=fun K5=>(bif !(K5.1) then (some (Out.ret (([]:List aZ),false))) else (some (Out.norm (an (s.1+(1:Int)),K5.2))))) else (some (Out.exit 0 s)))
def fZ (x0:aI):Option (List aZ×Bool):=
 ao (S:=Unit) (ag (ae 0 (aj (fun s=>oD x0 s) ((0:Int),([]:List aZ)))) (fun s=>(some (Out.ret (s.2,true)))))
def mI (x0 x1:aI):Option (eB×Bool):=
 ao (S:=Unit) ((iJ x0 x1)>>=fun Jq=>((fZ x0)>>=fun dh=>((fZ Jq)>>=fun xO=>(bif dh.2 then (some (Out.ret (eB.mk x0 Jq x1 dh.1 xO.1,xO.2))) else (some (Out.ret (eB.mk x0 Jq x1 dh.1 xO.1,false)))))))
def kP (x0 x1:aI) (x2:Bool):Option (Option eB×Int):=
 ao (S:=Unit) ((gR [x0,x1])>>=fun XQ=>(bif !(XQ) then (some (Out.ret (none,(1:Int)))) else ((iI x0.aD x1.aC)>>=fun dh=>(bif !(dh) then (some (Out.ret (none,(5:Int)))) else (bif x2 then ((kN x0)>>=fun tD=>((kN x1)>>=fun Jk=>((mI tD Jk)>>=fun xO=>(bif !(xO.2) then (some (Out.ret (none,(3:Int)))) else (some (Out.ret (some xO.1,(0:Int)))))))) else ((mI x0 x1)>>=fun xO=>(bif !(xO.2) then (some (Out.ret (none,(3:Int)))) else (some (Out.ret (some xO.1,(0:Int)))))))))))
def kQ (x0:aZ) (x1:aI):Option (aZ):=
 ao (S:=Unit) ((idx x1.aA (x0.cn))>>=fun E0=>((oO x0.bb x1.ab)>>=fun uL=>(some (Out.ret ((aZ.mk E0 uL))))))
def oE (x0:aI) (x1 x2:aZ) (u:Int) (s:Int):Option (Out Int (List Int)):=
 (bif decide (s < (x2.bb.length:Int)) then ((idx x2.bb (s))>>=fun OI=>((dM x0.aD (u) (OI))>>=fun zB=>((idx x1.bb (s))>>=fun Jr=>(bif (zB) != (Jr) then (some (Out.exit 1 s)) else (some (Out.norm (an (s+(1:Int))))))))) else (some (Out.exit 2 s)))
def jF (x0:aI) (x1 x2:aZ) (l:List Int) (s:List Int×Int):Option (Out (List Int×Int) (List Int)):=
 (bif decide (s.2 < (l.length:Int)) then ((idx l (s.2))>>=fun GV=>(GO 2 1 (aj (fun s2=>oE x0 x1 x2 GV s2) (0:Int)) (fun _=>((fits 8 (s.1.length+1))>>=fun n50=>(some (Out.norm (s.1++[GV],an (s.2+(1:Int))))))) (fun _=>(some (Out.norm (s.1,an (s.2+(1:Int)))))))) else (some (Out.exit 0 s)))
def nQ (x0:aI) (x1 x2:aZ):Option (List Int):=
 ao (S:=Unit) ((iK x0.aD (x1.cn) (x2.cn))>>=fun X0=>(ag (ae 0 (aj (fun s=>jF x0 x1 x2 X0 s) (([]:List Int),(0:Int)))) (fun s=>(some (Out.ret (s.1))))))
def jI (x0:aI) (x1:(List aZ)) (x2:aZ) (eh:Int):Option (Out (Int) (Bool)):=
 (bif decide (eh < (x1.length:Int)) then ((idx x1 (eh))>>=fun vj=>((nQ x0 vj x2)>>=fun GZ=>(bif ((GZ.length:Int)) != ((1:Int)) then (some (Out.ret (false))) else (some (Out.norm (an (eh+(1:Int)))))))) else (some (Out.exit 0 (eh))))
def eE (x0:aI) (x1:(List aZ)) (x2:aZ):Option (Bool):=
 ao (S:=Unit) (ag (ae 0 (aj (jI x0 x1 x2) ((0:Int)))) (fun eh=>(some (Out.ret (true)))))
def fH (x0:eB) (x1:aZ):Option (Bool):=
 ao (S:=Unit) ((kQ x1 x0.F)>>=fun y9=>((eE x0.bu x0.yE y9)>>=fun tE=>(some (Out.ret (tE)))))
def gW (x0:eB) (l7:Int):Option (Out (Int) (Bool)):=
 (bif decide (l7 < (x0.xM.length:Int)) then ((idx x0.xM (l7))>>=fun e9=>((((fH x0 e9)>>=fun tD=>(bif tD then ((eE x0.D x0.xM e9)>>=fun GZ=>(some (!(GZ)))) else (some (false)))))>>=fun E3=>(bif E3 then (some (Out.ret (false))) else (some (Out.norm (an (l7+(1:Int)))))))) else (some (Out.exit 0 (l7))))
def gC (x0:eB):Option (Bool):=
 ao (S:=Unit) (ag (ae 0 (aj (gW x0) ((0:Int)))) (fun l7=>(some (Out.ret (true)))))
def lO (xN:(List Int)) (s1_3:(List Int)) (E8:Int):Option (Out ((List Int)×Int) (ByteArray)):=
 (bif decide (E8 < (xN.length:Int)) then ((idx xN (E8))>>=fun e36=>((fits 1 (s1_3.length+1))>>=fun n54=>(some (Out.norm (s1_3++[IntKind.u8.wrap e36],an (E8+(1:Int))))))) else (some (Out.exit 2 (s1_3,E8))))
def iQ (x0:(List (List Int))) (fq:(List Int)) (eh:Int):Option (Out ((List Int)×Int) (ByteArray)):=
 (bif decide (eh < (x0.length:Int)) then ((idx x0 (eh))>>=fun xN=>(ag (ae 2 (aj (fun s=>lO xN s.1 s.2) (fq,(0:Int)))) (fun (s1_3,E8)=>((fits 1 (s1_3.length+1))>>=fun n75=>(some (Out.norm (s1_3++[(255:Int)],an (eh+(1:Int))))))))) else (some (Out.exit 0 (fq,eh))))
def sH (x0:(List (List Int))):Option (ByteArray):=
 ao (S:=Unit) (ag (ae 0 (aj (fun s=>iQ x0 s.1 s.2) (([]:(List Int)),(0:Int)))) (fun (fq,eh)=>(some (Out.ret ((strOfNums fq))))))
def kR (x0:aZ):Option (ByteArray):=
 ao (S:=Unit) ((sH [[x0.cn],x0.bb])>>=fun uL=>(some (Out.ret (uL))))
def fI (x0:eB) (s:List (ByteArray×List aZ)×Int):Option (Out (List (ByteArray×List aZ)×Int) Bool):=
 (bif decide (s.2 < (x0.xM.length:Int)) then ((idx x0.xM (s.2))>>=fun GY=>((kQ GY x0.F)>>=fun Aq=>((kR Aq)>>=fun tD=>((fits 32 (((jw s.1 tD).getD []).length+1))>>=fun n35=>(some (Out.norm (qn s.1 tD ((jw s.1 tD).getD []++[GY]),an (s.2+(1:Int))))))))) else (some (Out.exit 0 s)))
def fJ (x0:eB) (im:List (ByteArray×List aZ)) (s:Bool×Int):Option (Out (Bool×Int) Bool):=
 (bif decide (s.2 < (x0.yE.length:Int)) then ((idx x0.yE (s.2))>>=fun E7=>((eE x0.bu x0.yE E7)>>=fun y54=>(bif !(y54) then (some (Out.norm (s.1,an (s.2+(1:Int))))) else ((kR E7)>>=fun y58=>((bif s.1 then (bif ((((jw im y58).getD []).length:Int)) == ((1:Int)) then ((idx ((jw im y58).getD []) ((0:Int)))>>=fun Jb=>((eE x0.D x0.xM Jb)>>=fun Jg=>(some (Jg)))) else (some (false))) else (some (false)))>>=fun OU=>(some (Out.norm (OU,an (s.2+(1:Int)))))))))) else (some (Out.exit 2 s)))
def hJ (x0:eB):Option (Bool):=
 ao (S:=Unit) (ag (ae 0 (aj (fun s=>fI x0 s) (([]:List (ByteArray×List aZ)),(0:Int)))) (fun s=>(ag (ae 2 (aj (fun t=>fJ x0 s.1 t) (true,(0:Int)))) (fun t=>(some (Out.ret (t.1)))))))
def lP (te:eB→Option Bool) (x0 x1:aI) (x2:Bool):Option (Bool×Int):=
 ao (S:=Unit) ((kP x0 x1 x2)>>=fun nn=>(match nn.1 with | none=>(bif (nn.2) != ((0:Int)) then (some (Out.ret (false,nn.2))) else none) | some m=>(bif (nn.2) != ((0:Int)) then (some (Out.ret (false,nn.2))) else ((te m)>>=fun zG=>(some (Out.ret (zG,(0:Int))))))))
def jN (x0:aI) (x1:aI):Option (Bool×Int):=
 ao (S:=Unit) ((lP (fun a0=>hJ a0) x0 x1 false)>>=fun y6=>(some (Out.ret ((y6.1,y6.2)))))
def sI (x0:(List (List Int))) (x1:(List (List Int))) (bh:Int):Option (Out (Int) (Bool)):=
 (bif decide (bh < (x0.length:Int)) then ((idx x0 (bh))>>=fun vj=>((idx x1 (bh))>>=fun BY=>((eM vj BY)>>=fun G0=>(bif !(G0) then (some (Out.ret (false))) else (some (Out.norm (an (bh+(1:Int))))))))) else (some (Out.exit 0 (bh))))
def qR (x0:(List (List Int))) (x1:(List (List Int))):Option (Bool):=
 ao (S:=Unit) (bif ((x0.length:Int)) != ((x1.length:Int)) then (some (Out.ret (false))) else (ag (ae 0 (aj (sI x0 x1) ((0:Int)))) (fun bh=>(some (Out.ret (true))))))
def pE (x0:aG) (x1:aG):Option (Bool):=
 ao (S:=Unit) (((bif (x0.aA) == (x1.aA) then ((eM x0.aE x1.aE)>>=fun tE=>(bif tE then ((eM x0.To x1.To)>>=fun X0=>(bif X0 then ((eM x0.aH x1.aH)>>=fun ic=>(bif ic then ((qR x0.aB x1.aB)>>=fun G0=>(some (G0))) else (some (false)))) else (some (false)))) else (some (false)))) else (some (false))))>>=fun g16=>(some (Out.ret (g16))))
def jO (x0:(List Int)) (x1:(List Int)) (bh:(List Int)) (fy:Int):Option (Out ((List Int)×Int) ((List Int))):=
 (bif decide (fy < (x0.length:Int)) then ((idx x0 (fy))>>=fun xN=>((idx x1 (xN))>>=fun GY=>((fits 8 (bh.length+1))>>=fun n36=>(some (Out.norm (bh++[GY],an (fy+(1:Int)))))))) else (some (Out.exit 0 (bh,fy))))
def kS (x0:(List Int)) (x1:(List Int)):Option ((List Int)):=
 ao (S:=Unit) (ag (ae 0 (aj (fun s=>jO x0 x1 s.1 s.2) (([]:(List Int)),(0:Int)))) (fun (bh,fy)=>(some (Out.ret (bh)))))
def pF (x0:aI) (x1:aI):Option (aI):=
 ao (S:=Unit) ((kS x0.aA x1.aA)>>=fun ic=>((kS x0.ab x1.ab)>>=fun GU=>((jA x0.aC x1.aD ic GU)>>=fun B3=>(some (Out.ret (B3))))))
def rA (x0:aI) (x1:aI):Option (aI×Int):=
 ao (S:=Unit) ((((mT x0)>>=fun tD=>(bif !(tD) then (some (true)) else ((mT x1)>>=fun B5=>(some (!(B5)))))))>>=fun E3=>(bif E3 then (some (Out.ret (((aI.mk (aG.mk ((0:Int)) ([]) ([]) ([]) ([])) (aG.mk ((0:Int)) ([]) ([]) ([]) ([])) ([]) ([])),((1:Int)))))) else ((pE x0.aD x1.aC)>>=fun zB=>(bif !(zB) then (some (Out.ret (((aI.mk (aG.mk ((0:Int)) ([]) ([]) ([]) ([])) (aG.mk ((0:Int)) ([]) ([]) ([]) ([])) ([]) ([])),((5:Int)))))) else ((pF x0 x1)>>=fun B3=>(some (Out.ret ((B3,((0:Int)))))))))))
def rB (x0:(List Int)) (x1:Int) (bh:Int):Option (Out (Int) (Int)):=
 (bif decide (bh < (x0.length:Int)) then ((idx x0 (bh))>>=fun e9=>(bif (e9) == (x1) then (some (Out.ret (bh))) else (some (Out.norm (an (bh+(1:Int))))))) else (some (Out.exit 0 (bh))))
def nR (x0:(List Int)) (x1:Int):Option (Int):=
 ao (S:=Unit) (ag (ae 0 (aj (rB x0 x1) ((0:Int)))) (fun bh=>(some (Out.ret (((-1:Int)))))))
def mJ (x0:(List Int)) (fq:(List Int)) (cb:(List Int)) (bh:Int):Option (Out ((List Int)×(List Int)×Int) ((List Int))):=
 (bif decide (bh < (x0.length:Int)) then ((idx x0 (bh))>>=fun Jl=>((nR cb (Jl))>>=fun GZ=>(bif decide (GZ < (0:Int)) then ((idx x0 (bh))>>=fun e40=>((fits 8 (cb.length+1))>>=fun n57=>((fits 8 (fq.length+1))>>=fun n77=>(some (Out.norm (fq++[(cb.length:Int)],cb++[e40],an (bh+(1:Int)))))))) else ((fits 8 (fq.length+1))>>=fun n99=>(some (Out.norm (fq++[GZ],cb,an (bh+(1:Int))))))))) else (some (Out.exit 0 (fq,cb,bh))))
def lW (x0:(List Int)):Option ((List Int)):=
 ao (S:=Unit) (ag (ae 0 (aj (fun s=>mJ x0 s.1 s.2.1 s.2.2) (([]:(List Int)),([]:(List Int)),(0:Int)))) (fun (fq,cb,bh)=>(some (Out.ret (fq)))))
def pG (x0:Int) (bh:(List Int)) (fy:Int):Option (Out ((List Int)×Int) ((List Int))):=
 (bif decide (fy < x0) then ((fits 8 (bh.length+1))>>=fun n32=>(some (Out.norm (bh++[fy],an (fy+(1:Int)))))) else (some (Out.exit 0 (bh,fy))))
def pH (Lb:Int) (K7:Int) (ew:Int) (xn:(List Int)):Option (Out (Int×(List Int)) ((List Int))):=
 (((bif decide (ew < (xn.length:Int)) then (some ((Lb) != (K7))) else (some (false))))>>=fun g72=>(bif g72 then ((idx xn (ew))>>=fun XY=>(bif (XY) == (K7) then ((idx xn (ew))>>=fun e83=>(some (Out.norm (an (ew+(1:Int)),xn.set (ew).toNat (Lb))))) else (some (Out.norm (an (ew+(1:Int)),xn))))) else (some (Out.exit 4 (ew,xn)))))
def pI (x1:(List (List Int))) (mg:Int) (Az:(List Int)):Option (Out (Int×(List Int)) ((List Int))):=
 (bif decide (mg < (x1.length:Int)) then ((idx x1 (mg))>>=fun E7=>((idx E7 ((0:Int)))>>=fun OJ=>((idx Az (OJ))>>=fun Lb=>((idx x1 (mg))>>=fun X1=>((idx X1 ((1:Int)))>>=fun e63=>((idx Az (e63))>>=fun K7=>(ag (ae 4 (aj (fun s=>pH Lb K7 s.1 s.2) ((0:Int),Az))) (fun (ew,xn)=>(some (Out.norm (an (mg+(1:Int)),xn))))))))))) else (some (Out.exit 2 (mg,Az))))
def pJ (x0:Int) (x1:(List (List Int))):Option ((List Int)):=
 ao (S:=Unit) (ag (ae 0 (aj (fun s=>pG x0 s.1 s.2) (([]:(List Int)),(0:Int)))) (fun (bh,fy)=>(ag (ae 2 (aj (fun s=>pI x1 s.1 s.2) ((0:Int),bh))) (fun (mg,Az)=>((lW Az)>>=fun y97=>(some (Out.ret (y97))))))))
def fG (x0:aG) (x1:Int) (bh:(List Int)) (fy:Int):Option (Out ((List Int)×Int) ((List Int))):=
 (bif decide (fy < (x0.aE.length:Int)) then ((((idx x0.aE (fy))>>=fun GV=>((idx x0.To (x1))>>=fun Jl=>(bif (GV) == (Jl) then ((idx x0.To (fy))>>=fun OL=>((idx x0.aE (x1))>>=fun E9=>(bif (OL) == (E9) then ((idx x0.aB (x1))>>=fun OQ=>((idx OQ (fy))>>=fun Jr=>((idx x0.aE (x1))>>=fun EY=>((idx x0.aH (EY))>>=fun OR=>(some ((Jr) == (OR))))))) else (some (false))))) else (some (false))))))>>=fun E3=>(bif E3 then ((fits 8 (bh.length+1))>>=fun n68=>(some (Out.norm (bh++[fy],an (fy+(1:Int)))))) else (some (Out.norm (bh,an (fy+(1:Int))))))) else (some (Out.exit 0 (bh,fy))))
def jJ (x0:aG) (x1:Int):Option ((List Int)):=
 ao (S:=Unit) (ag (ae 0 (aj (fun s=>fG x0 x1 s.1 s.2) (([]:(List Int)),(0:Int)))) (fun (bh,fy)=>(some (Out.ret (bh)))))
def gD (x0:aG) (x1:Int) (bh:(List Int)) (fy:Int):Option (Out ((List Int)×Int) ((List Int))):=
 (bif decide (fy < (x0.aE.length:Int)) then ((((idx x0.aE (fy))>>=fun GV=>((idx x0.To (x1))>>=fun Jl=>(bif (GV) == (Jl) then ((idx x0.To (fy))>>=fun OL=>((idx x0.aE (x1))>>=fun E9=>(bif (OL) == (E9) then ((idx x0.aB (fy))>>=fun OQ=>((idx OQ (x1))>>=fun Jr=>((idx x0.To (x1))>>=fun EY=>((idx x0.aH (EY))>>=fun OR=>(some ((Jr) == (OR))))))) else (some (false))))) else (some (false))))))>>=fun E3=>(bif E3 then ((fits 8 (bh.length+1))>>=fun n68=>(some (Out.norm (bh++[fy],an (fy+(1:Int)))))) else (some (Out.norm (bh,an (fy+(1:Int))))))) else (some (Out.exit 0 (bh,fy))))
def lG (x0:aG) (x1:Int):Option ((List Int)):=
 ao (S:=Unit) (ag (ae 0 (aj (fun s=>gD x0 x1 s.1 s.2) (([]:(List Int)),(0:Int)))) (fun (bh,fy)=>(some (Out.ret (bh)))))
def mW (x0:(List Int)) (x1:Int) (bh:Int):Option (Out (Int) (Bool)):=
 (bif decide (bh < (x0.length:Int)) then ((idx x0 (bh))>>=fun e9=>(bif (e9) == (x1) then (some (Out.ret (true))) else (some (Out.norm (an (bh+(1:Int))))))) else (some (Out.exit 0 (bh))))
def qG (x0:(List Int)) (x1:Int):Option (Bool):=
 ao (S:=Unit) (ag (ae 0 (aj (mW x0 x1) ((0:Int)))) (fun bh=>(some (Out.ret (false)))))
def hY (y8:(List Int)) (Au:(List Int)) (bz:Int):Option (Out (Int) (Int)):=
 (bif decide (bz < (y8.length:Int)) then ((idx y8 (bz))>>=fun E9=>((qG Au (E9))>>=fun GU=>(bif GU then ((idx y8 (bz))>>=fun Jn=>(some (Out.ret (Jn)))) else (some (Out.norm (an (bz+(1:Int)))))))) else (some (Out.exit 0 (bz))))
def jP (x0:aG) (x1:Int):Option (Int):=
 ao (S:=Unit) ((jJ x0 (x1))>>=fun y8=>((lG x0 (x1))>>=fun Au=>(ag (ae 0 (aj (hY y8 Au) ((0:Int)))) (fun bz=>(some (Out.ret (((-1:Int)))))))))
def iU (x0:aI) (x1:aI) (x2:(List Int)) (x3:Int):Option (Bool):=
 ao (S:=Unit) ((idx x0.ab (x3))>>=fun XM=>((idx x0.aD.aB (XM))>>=fun E7=>((idx x0.aC.To (x3))>>=fun OJ=>((idx x2 (OJ))>>=fun Lb=>((idx E7 (Lb))>>=fun X1=>((idx x0.aC.aE (x3))>>=fun e58=>((idx x2 (e58))>>=fun OS=>((idx x0.aD.aB (OS))>>=fun BZ=>((idx x1.ab (x3))>>=fun XB=>((idx BZ (XB))>>=fun e71=>(some (Out.ret (((X1) == (e71)))))))))))))))
def jQ (x0:cM) (x2:Int) (CC:(List Int)) (B4:Int) (sX:Bool) (jb:Int):Option (Out (Bool×Int) ((List Int))):=
 (((bif sX then (some (decide (jb < (x0.F.ab.length:Int)))) else (some (false))))>>=fun aeI=>(bif aeI then ((idx x0.F.aC.aE (jb))>>=fun Ja=>((idx x0.F.aC.To (jb))>>=fun MJ=>(((bif (Ja) != (x2) then (bif (MJ) != (x2) then (some (true)) else ((idx (CC.set (x2).toNat (B4)) (Ja))>>=fun aeJ=>(bif decide (aeJ < (0:Int)) then (some (true)) else ((idx (CC.set (x2).toNat (B4)) (MJ))>>=fun Ru=>(bif decide (Ru < (0:Int)) then (some (true)) else ((iU x0.F x0.G (CC.set (x2).toNat (B4)) (jb))>>=fun Jj=>(some (Jj)))))))) else ((idx (CC.set (x2).toNat (B4)) (Ja))>>=fun X2=>(bif decide (X2 < (0:Int)) then (some (true)) else ((idx (CC.set (x2).toNat (B4)) (MJ))>>=fun aeK=>(bif decide (aeK < (0:Int)) then (some (true)) else ((iU x0.F x0.G (CC.set (x2).toNat (B4)) (jb))>>=fun aeL=>(some (aeL)))))))))>>=fun aeM=>(some (Out.norm (aeM,an (jb+(1:Int)))))))) else (some (Out.exit 2 (sX,jb)))))
def iA (x0:cM) (x1:(List Int)) (x2:Int) (zB:(List Int)) (l7:(List Int)) (eh:Int):Option (Out ((List Int)×Int) ((List Int))):=
 (bif decide (eh < (zB.length:Int)) then (((bif x0.Ap then ((idx zB (eh))>>=fun XS=>((jP x0.F.aD (XS))>>=fun XX=>(some (decide (XX < (0:Int)))))) else (some (false))))>>=fun XZ=>(bif XZ then (some (Out.norm (l7,an (eh+(1:Int))))) else ((dV x1)>>=fun CC=>((idx zB (eh))>>=fun B4=>((idx CC (x2))>>=fun Tk=>(ag (ae 2 (aj (fun s=>jQ x0 x2 CC B4 s.1 s.2) (true,(0:Int)))) (fun (sX,jb)=>(bif sX then ((idx zB (eh))>>=fun Rw=>((fits 8 (l7.length+1))>>=fun n184=>(some (Out.norm (l7++[Rw],an (eh+(1:Int))))))) else (some (Out.norm (l7,an (eh+(1:Int))))))))))))) else (some (Out.exit 0 (l7,eh))))
def iE (x0:cM) (x1:(List Int)) (x2:Int):Option ((List Int)):=
 ao (S:=Unit) ((idx x0.F.aA (x2))>>=fun IX=>((idx x0.G.aA (x2))>>=fun E9=>((gS x0.F.aD (IX) (E9))>>=fun zB=>(ag (ae 0 (aj (fun s=>iA x0 x1 x2 zB s.1 s.2) (([]:(List Int)),(0:Int)))) (fun (l7,eh)=>(some (Out.ret (l7))))))))
def lK (x0:cM) (x1:(List Int)) (cb:Int) (bh:Int):Option (Out (Int×Int) (cM)):=
 (bif decide (bh ≥ (0:Int)) then ((idx x1 (bh))>>=fun E9=>(bif (E9) == ((-1:Int)) then ((iE x0 x1 (bh))>>=fun y41=>(bif ((y41.length:Int)) == ((0:Int)) then (some (Out.ret (x0))) else (some (Out.norm (bh,an (bh - (1:Int))))))) else (some (Out.norm (cb,an (bh - (1:Int))))))) else (some (Out.exit 0 (cb,bh))))
def iG (rc:cM→(List Int)→Option (cM)) (x0:cM) (x1:(List Int)) (cb:Int) (wF:(List Int)) (mg:Int) (zH:Int) (zI:Int) (ya:Int) (yb:Int) (yc:Bool) (vQ:Int) (vR:(List (List Int))):Option (Out (Int×Int×Int×Int×Int×Bool×Int×(List (List Int))) (cM)):=
 (((bif decide (mg < (wF.length:Int)) then (some (decide ((vR.length:Int) < vQ))) else (some (false))))>>=fun aeN=>(bif aeN then ((dV x1)>>=fun X3=>((idx wF (mg))>>=fun Rv=>((idx X3 (cb))>>=fun X2=>((rc (cM.mk (aI.mk (aG.mk zH x0.F.aC.aE x0.F.aC.To x0.F.aC.aH x0.F.aC.aB) (aG.mk zI x0.F.aD.aE x0.F.aD.To x0.F.aD.aH x0.F.aD.aB) x0.F.aA x0.F.ab) (aI.mk (aG.mk ya x0.G.aC.aE x0.G.aC.To x0.G.aC.aH x0.G.aC.aB) (aG.mk yb x0.G.aD.aE x0.G.aD.To x0.G.aD.aH x0.G.aD.aB) x0.G.aA x0.G.ab) yc vQ vR) (X3.set (cb).toNat (Rv)))>>=fun D7=>(some (Out.norm (an (mg+(1:Int)),D7.F.aC.aA,D7.F.aD.aA,D7.G.aC.aA,D7.G.aD.aA,D7.Ap,D7.xF,D7.Found))))))) else (some (Out.exit 2 (mg,zH,zI,ya,yb,yc,vQ,vR)))))
def pK (rc:cM→(List Int)→Option (cM)) (x0:cM) (x1:(List Int)):Option (cM):=
 H6 (R:=(cM)) (ag (ae 0 (aj (fun s=>lK x0 x1 s.1 s.2) ((-1:Int),an ((x1.length:Int) - (1:Int))))) (fun (cb,bh)=>(bif decide (cb < (0:Int)) then ((dV x1)>>=fun y61=>((fits 24 (x0.Found.length+1))>>=fun n89=>(some (Out.ret ((cM.mk x0.F x0.G x0.Ap x0.xF (x0.Found++[y61]))))))) else ((iE x0 x1 (cb))>>=fun wF=>(ag (ae 2 (aj (fun s=>iG rc x0 x1 cb wF s.1 s.2.1 s.2.2.1 s.2.2.2.1 s.2.2.2.2.1 s.2.2.2.2.2.1 s.2.2.2.2.2.2.1 s.2.2.2.2.2.2.2) ((0:Int),x0.F.aC.aA,x0.F.aD.aA,x0.G.aC.aA,x0.G.aD.aA,x0.Ap,x0.xF,x0.Found))) (fun (mg,zH,zI,ya,yb,yc,vQ,vR)=>(some (Out.norm ((cM.mk (aI.mk (aG.mk zH x0.F.aC.aE x0.F.aC.To x0.F.aC.aH x0.F.aC.aB) (aG.mk zI x0.F.aD.aE x0.F.aD.To x0.F.aD.aH x0.F.aD.aB) x0.F.aA x0.F.ab) (aI.mk (aG.mk ya x0.G.aC.aE x0.G.aC.To x0.G.aC.aH x0.G.aC.aB) (aG.mk yb x0.G.aD.aE x0.G.aD.To x0.G.aD.aH x0.G.aD.aB) x0.G.aA x0.G.ab) yc vQ vR))))))))))
def fV:Nat→cM→(List Int)→Option (cM)
 | 0=>fun _ _=>none
 | n+1=>pK (fV n)
def pL (x0:aI) (l7:(List (List Int))) (eh:Int):Option (Out ((List (List Int))×Int) ((List (List Int)))):=
 (bif decide (eh < (x0.aC.aE.length:Int)) then ((idx x0.aC.aE (eh))>>=fun Ti=>((idx x0.aC.To (eh))>>=fun I9=>((fits 24 (l7.length+1))>>=fun n68=>(some (Out.norm (l7++[([Ti,I9]:(List Int))],an (eh+(1:Int)))))))) else (some (Out.exit 0 (l7,eh))))
def pM (Js:(List Int)) (jb:Int) (BB:(List Int)) (Dc:Int):Option (Out ((List Int)×Int) ((List (List Int)))):=
 (bif decide (Dc < (Js.length:Int)) then ((idx Js (Dc))>>=fun aeO=>(bif (aeO) == (jb) then ((fits 8 (BB.length+1))>>=fun n191=>(some (Out.norm (BB++[(-1:Int)],an (Dc+(1:Int)))))) else ((fits 8 (BB.length+1))>>=fun n219=>(some (Out.norm (BB++[(-2:Int)],an (Dc+(1:Int)))))))) else (some (Out.exit 4 (BB,Dc))))
def pN (x0:aI) (x1:aI) (x2:Bool) (Js:(List Int)) (sX:(List Int)) (jb:Int):Option (Out ((List Int)×Int) ((List (List Int)))):=
 (bif decide (jb < (Js.length:Int)) then ((fits 8 (sX.length+1))>>=fun n132=>(ag (ae 4 (aj (fun s=>pM Js jb s.1 s.2) (([]:(List Int)),(0:Int)))) (fun (BB,Dc)=>((fV 64 (cM.mk x0 x1 x2 ((1:Int)) (([]:(List (List Int))))) BB)>>=fun aeP=>(bif ((aeP.Found.length:Int)) == ((0:Int)) then (some (Out.ret ((([]:(List (List Int))))))) else (some (Out.norm (sX++[(-1:Int)],an (jb+(1:Int)))))))))) else (some (Out.exit 2 (sX,jb))))
def mK (x0:aI) (x1:aI) (x2:Bool) (x3:Int):Option ((List (List Int))):=
 ao (S:=Unit) (ag (ae 0 (aj (fun s=>pL x0 s.1 s.2) (([]:(List (List Int))),(0:Int)))) (fun (l7,eh)=>((pJ (x0.aC.aA) l7)>>=fun Js=>(ag (ae 2 (aj (fun s=>pN x0 x1 x2 Js s.1 s.2) (([]:(List Int)),(0:Int)))) (fun (sX,jb)=>((fV 64 (cM.mk x0 x1 x2 x3 (([]:(List (List Int))))) sX)>>=fun aeQ=>(some (Out.ret (aeQ.Found)))))))))
def oF (x:Int) (B5:List (List Int)) (s:List aZ×Int):Option (Out (List aZ×Int) (List aZ)):=
 (bif decide (s.2 < (B5.length:Int)) then ((idx B5 (s.2))>>=fun e42=>((fits 32 (s.1.length+1))>>=fun n45=>(some (Out.norm (s.1++[aZ.mk x e42],an (s.2+(1:Int))))))) else (some (Out.exit 2 s)))
def oG (x0:aI) (s:List aZ×Int):Option (Out (List aZ×Int) (List aZ)):=
 ((bif decide (s.2 < (x0.aD.aA)) then (some (decide ((s.1.length:Int)≤(400:Int)))) else (some (false)))>>=fun g13=>(bif g13 then ((eJ x0.aC x0.aD (s.2))>>=fun ic=>((mK ic x0 (false) (an ((401:Int) - (s.1.length:Int))))>>=fun B5=>(ag (ae 2 (aj (fun s2=>oF s.2 B5 s2) (s.1,(0:Int)))) (fun s2=>(some (Out.norm (s2.1,an (s.2+(1:Int))))))))) else (some (Out.exit 0 s))))
def lL (x0:aI):Option ((List aZ)):=
 ao (S:=Unit) (ag (ae 0 (aj (fun s=>oG x0 s) (([]:List aZ),(0:Int)))) (fun s=>(some (Out.ret (s.1)))))
def mL (x0:aI):Option ((List aZ)×Int):=
 ao (S:=Unit) ((lL x0)>>=fun y8=>(bif decide ((y8.length:Int) > (400:Int)) then (some (Out.ret ((([]),((3:Int)))))) else (some (Out.ret ((y8,((0:Int))))))))
def mM (x0:aI) (x1:aI):Option ((List aZ)×(List aZ)×Int):=
 ao (S:=Unit) ((mL x0)>>=fun nn=>((mL x1)>>=fun G0=>(((bif (nn.2) != ((0:Int)) then (some (true)) else (some ((G0.2) != ((0:Int))))))>>=fun g39=>(bif g39 then (some (Out.ret ((([]),([]),((3:Int)))))) else (some (Out.ret ((nn.1,G0.1,((0:Int))))))))))
def kU (x0:aG) (x1:Int) (x2:Int):Option (Int):=
 ao (S:=Unit) ((idx x0.aB (x1))>>=fun e8=>((idx e8 (x2))>>=fun OP=>(some (Out.ret (OP)))))
def jR (x0:aI) (x1:aZ) (x2:aZ) (ic:(List Int)) (fc:Int) (iw:Bool) (uj:Int):Option (Out (Bool×Int) ((List Int))):=
 (((bif decide (uj < (x1.bb.length:Int)) then (some (iw)) else (some (false))))>>=fun XP=>(bif XP then ((idx ic (fc))>>=fun XK=>((idx x2.bb (uj))>>=fun B0=>((kU x0.aD (XK) (B0))>>=fun y90=>((idx x1.bb (uj))>>=fun e92=>(some (Out.norm ((y90) == (e92),an (uj+(1:Int))))))))) else (some (Out.exit 2 (iw,uj)))))
def jS (x0:aI) (x1:aZ) (x2:aZ) (ic:(List Int)) (iT:(List Int)) (fc:Int):Option (Out ((List Int)×Int) ((List Int))):=
 (bif decide (fc < (ic.length:Int)) then (ag (ae 2 (aj (fun s=>jR x0 x1 x2 ic fc s.1 s.2) (true,(0:Int)))) (fun (iw,uj)=>(bif iw then ((idx ic (fc))>>=fun FY=>((fits 8 (iT.length+1))>>=fun n122=>(some (Out.norm (iT++[FY],an (fc+(1:Int))))))) else (some (Out.norm (iT,an (fc+(1:Int)))))))) else (some (Out.exit 0 (iT,fc))))
def pO (x0:aI) (x1:aZ) (x2:aZ):Option ((List Int)):=
 ao (S:=Unit) ((gS x0.aD (x1.cn) (x2.cn))>>=fun ic=>(ag (ae 0 (aj (fun s=>jS x0 x1 x2 ic s.1 s.2) (([]:(List Int)),(0:Int)))) (fun (iT,fc)=>(some (Out.ret (iT))))))
def iN (x0:aI) (x1:(List aZ)) (x2:aZ) (bz:Int):Option (Out (Int) (Bool)):=
 (bif decide (bz < (x1.length:Int)) then ((idx x1 (bz))>>=fun I7=>((pO x0 I7 x2)>>=fun GZ=>(bif ((GZ.length:Int)) != ((1:Int)) then (some (Out.ret (false))) else (some (Out.norm (an (bz+(1:Int)))))))) else (some (Out.exit 0 (bz))))
def iL (x0:aI) (x1:(List aZ)) (x2:aZ):Option (Bool):=
 ao (S:=Unit) (ag (ae 0 (aj (iN x0 x1 x2) ((0:Int)))) (fun bz=>(some (Out.ret (true)))))
def nS (x0:aZ) (x1:aI):Option (aZ):=
 ao (S:=Unit) ((idx x1.aA (x0.cn))>>=fun GW=>((kS x0.bb x1.ab)>>=fun tD=>(some (Out.ret ((aZ.mk GW tD))))))
def fK (x2:aI) (ic:(List aZ)×(List aZ)×Int) (eh:Int) (Fb:Int) (sX:Int) (jb:Int):Option (Out (Int×Int×Int) (Bool×Int)):=
 (bif decide (jb < (ic.1.length:Int)) then ((idx ic.1 (jb))>>=fun OH=>((nS OH x2)>>=fun MU=>((((idx ic.2.1 (eh))>>=fun aeR=>(bif (MU.cn) == (aeR.cn) then ((idx ic.2.1 (eh))>>=fun aeS=>((eM MU.bb aeS.bb)>>=fun D8=>(some (D8)))) else (some (false)))))>>=fun aeT=>(bif aeT then (some (Out.norm (an (Fb+(1:Int)),jb,an (jb+(1:Int))))) else (some (Out.norm (Fb,sX,an (jb+(1:Int))))))))) else (some (Out.exit 2 (Fb,sX,jb))))
def iB (x0:aI) (x1:aI) (x2:aI) (ic:(List aZ)×(List aZ)×Int) (eh:Int):Option (Out (Int) (Bool×Int)):=
 (bif decide (eh < (ic.2.1.length:Int)) then ((idx ic.2.1 (eh))>>=fun Jo=>((iL x1 ic.2.1 Jo)>>=fun XW=>(bif !(XW) then (some (Out.norm (an (eh+(1:Int))))) else (ag (ae 2 (aj (fun s=>fK x2 ic eh s.1 s.2.1 s.2.2) ((0:Int),(0:Int),(0:Int)))) (fun (Fb,sX,jb)=>(((bif (Fb) != ((1:Int)) then (some (true)) else ((idx ic.1 (sX))>>=fun Q7=>((iL x0 ic.1 Q7)>>=fun aeU=>(some (!(aeU)))))))>>=fun aeV=>(bif aeV then (some (Out.ret ((false,((0:Int)))))) else (some (Out.norm (an (eh+(1:Int)))))))))))) else (some (Out.exit 0 (eh))))
def eU (x0:aI) (x1:aI) (x2:aI):Option (Bool×Int):=
 ao (S:=Unit) ((mM x0 x1)>>=fun ic=>(bif (ic.2.2) != ((0:Int)) then (some (Out.ret ((false,ic.2.2)))) else (ag (ae 0 (aj (iB x0 x1 x2 ic) ((0:Int)))) (fun eh=>(some (Out.ret ((true,((0:Int))))))))))
def jT (x0:aI) (x1:aI):Option (Bool×Int):=
 ao (S:=Unit) ((rA x0 x1)>>=fun nn=>(bif (nn.2) != ((0:Int)) then (some (Out.ret ((false,nn.2)))) else ((eU x0 nn.1 x1)>>=fun D8=>(some (Out.ret ((D8.1,D8.2)))))))
def rP (x0:aI) (x1:(aI→Option (Bool))):Option (Bool×Int):=
 ao (S:=Unit) ((eQ x0)>>=fun y3=>(bif !(y3) then (some (Out.ret ((false,((1:Int)))))) else ((x1 x0)>>=fun cu=>(some (Out.ret ((cu,((0:Int)))))))))
def kV (x0:(List Bool)) (fq:(List Int)) (fc:Int):Option (Out ((List Int)×Int) ((List Int))):=
 (bif decide (fc < (x0.length:Int)) then ((idx x0 (fc))>>=fun xN=>(bif xN then ((fits 8 (fq.length+1))>>=fun n39=>(some (Out.norm (fq++[fc],an (fc+(1:Int)))))) else (some (Out.norm (fq,an (fc+(1:Int))))))) else (some (Out.exit 0 (fq,fc))))
def qH (x0:(List Bool)):Option ((List Int)):=
 ao (S:=Unit) (ag (ae 0 (aj (fun s=>kV x0 s.1 s.2) (([]:(List Int)),(0:Int)))) (fun (fq,fc)=>(some (Out.ret (fq)))))
def lM (x1:(List Int)) (Fc:Int) (vP:(List Bool)):Option (Out (Int×(List Bool)) ((List Int))):=
 (bif decide (Fc < (x1.length:Int)) then ((idx x1 (Fc))>>=fun K9=>((idx vP (K9))>>=fun BY=>(some (Out.norm (an (Fc+(1:Int)),vP.set (K9).toNat (true)))))) else (some (Out.exit 0 (Fc,vP))))
def qW (x0:Int) (x1:(List Int)):Option ((List Int)):=
 ao (S:=Unit) ((mk 1 (x0))>>=fun n3=>(ag (ae 0 (aj (fun s=>lM x1 s.1 s.2) ((0:Int),List.replicate n3 false))) (fun (Fc,vP)=>((qH vP)>>=fun B5=>(some (Out.ret (B5)))))))
def eK (x0:(List Int)) (x1:Int):Option (Bool):=
 ao (S:=Unit) (bif ((x0.length:Int)) == (x1) then ((gU x0 (x1))>>=fun y4=>(bif y4 then ((qW (x1) x0)>>=fun y9=>(some (Out.ret ((((y9.length:Int)) == (x1)))))) else (some (Out.ret (false))))) else (some (Out.ret (false))))
def eP (x0:aI):Option (Bool):=
 ao (S:=Unit) ((((eK x0.aA (x0.aD.aA))>>=fun y6=>(bif y6 then ((dS x0.aD)>>=fun cu=>((eK x0.ab (cu))>>=fun OK=>(some (OK)))) else (some (false)))))>>=fun g3=>(some (Out.ret (g3))))
def jU (x0:aI):Option (Bool×Int):=
 ao (S:=Unit) ((rP x0 (fun a0=>eP a0))>>=fun y8=>(some (Out.ret ((y8.1,y8.2)))))
def jK (x0:aI) (x1:aI):Option (Bool×Int):=
 ao (S:=Unit) ((lP (fun a0=>gC a0) x0 x1 false)>>=fun y6=>(some (Out.ret ((y6.1,y6.2)))))
def kC (x0:aI) (x1:aI):Option (aI×Int):=
 ao (S:=Unit) ((gR [x0,x1])>>=fun B5=>(bif !(B5) then (some (Out.ret (((aI.mk (aG.mk ((0:Int)) ([]) ([]) ([]) ([])) (aG.mk ((0:Int)) ([]) ([]) ([]) ([])) ([]) ([])),((1:Int)))))) else ((iI x0.aD x1.aC)>>=fun zB=>(bif !(zB) then (some (Out.ret (((aI.mk (aG.mk ((0:Int)) ([]) ([]) ([]) ([])) (aG.mk ((0:Int)) ([]) ([]) ([]) ([])) ([]) ([])),((5:Int)))))) else ((iJ x0 x1)>>=fun B3=>(some (Out.ret ((B3,((0:Int)))))))))))
def kW (x0:aI) (x1:Int) (l:List aZ) (s:List aZ×Int):Option (Out (List aZ×Int) (List aZ×Bool)):=
 (bif decide (s.2 < (l.length:Int)) then ((idx l (s.2))>>=fun Tn=>((bif decide ((s.1.length:Int) < (x1)) then ((eE x0 l Tn)>>=fun xO=>(some (xO))) else (some (false)))>>=fun g29=>(bif g29 then ((fits 32 (s.1.length+1))>>=fun n38=>(some (Out.norm (s.1++[Tn],an (s.2+(1:Int)))))) else (some (Out.norm (s.1,an (s.2+(1:Int)))))))) else (some (Out.exit 0 s)))
def qI (x0:aI) (x1:Int):Option ((List aZ)×Bool):=
 ao (S:=Unit) ((fZ x0)>>=fun K8=>(bif !(K8.2) then (some (Out.ret (([]:List aZ),false))) else (ag (ae 0 (aj (fun s=>kW x0 x1 K8.1 s) (([]:List aZ),(0:Int)))) (fun s=>(some (Out.ret (s.1,true)))))))
def qX (x0:aI):Option (aZ×Int):=
 ao (S:=Unit) ((qI x0 ((1:Int)))>>=fun y8=>(bif !(y8.2) then (some (Out.ret (((aZ.mk ((0:Int)) ([])),((3:Int)))))) else (bif ((y8.1.length:Int)) == ((0:Int)) then (some (Out.ret (((aZ.mk ((0:Int)) ([])),((4:Int)))))) else ((idx y8.1 ((0:Int)))>>=fun OG=>(some (Out.ret ((OG,((0:Int))))))))))
def pP (x0:aI):Option (aZ×Int):=
 ao (S:=Unit) ((eQ x0)>>=fun nn=>(bif !(nn) then (some (Out.ret (((aZ.mk ((0:Int)) ([])),((1:Int)))))) else ((qX x0)>>=fun ic=>(some (Out.ret ((ic.1,ic.2)))))))
def fW (x0:eB) (s:List aZ×Int):Option (Out (List aZ×Int) (List aZ)):=
 (bif decide (s.2 < (x0.xM.length:Int)) then ((idx x0.xM (s.2))>>=fun vj=>((eE x0.D x0.xM vj)>>=fun zG=>(bif zG then ((fits 32 (s.1.length+1))>>=fun n28=>(some (Out.norm (s.1++[vj],an (s.2+(1:Int)))))) else (some (Out.norm (s.1,an (s.2+(1:Int)))))))) else (some (Out.exit 0 s)))
def kD (x0:eB):Option ((List aZ)):=
 ao (S:=Unit) (ag (ae 0 (aj (fun s=>fW x0 s) (([]:List aZ),(0:Int)))) (fun s=>(some (Out.ret (s.1)))))
def lH (x0:eB):Option (Bool×Bool):=
 ao (S:=Unit) ((kD x0)>>=fun y3=>(bif ((y3.length:Int)) == ((0:Int)) then (some (Out.ret ((false,false)))) else ((idx y3 ((0:Int)))>>=fun xN=>((fH x0 xN)>>=fun dh=>(some (Out.ret ((dh,true))))))))
def qB (x0 x1:aI) (x2:Bool):Option (Bool×Int):=
 ao (S:=Unit) ((kP x0 x1 x2)>>=fun nn=>(match nn.1 with | none=>(bif (nn.2) != ((0:Int)) then (some (Out.ret (false,nn.2))) else none) | some m=>(bif (nn.2) != ((0:Int)) then (some (Out.ret (false,nn.2))) else ((lH m)>>=fun zG=>(bif !(zG.2) then (some (Out.ret (false,(4:Int)))) else (some (Out.ret (zG.1,(0:Int)))))))))
def lX (x0:aI) (x1:aI):Option (Bool×Int):=
 ao (S:=Unit) ((qB x0 x1 (false))>>=fun nn=>(some (Out.ret ((nn.1,nn.2)))))
def iO (x0:(List Int)):Option (Bool):=
 ao (S:=Unit) ((sG x0)>>=fun y3=>(bif y3 then (some (Out.ret (true))) else ((gT x0)>>=fun cu=>((jN cu.1 cu.2)>>=fun F5=>((jT cu.1 cu.2)>>=fun X4=>(((bif (F5.2) != (X4.2) then (some (true)) else (some (!((F5.1) == (X4.1))))))>>=fun aeW=>(bif aeW then (some (Out.ret (false))) else (bif (F5.2) != ((0:Int)) then (some (Out.ret ((!(F5.1))))) else ((jU cu.2)>>=fun X5=>((jK cu.1 cu.2)>>=fun X6=>((kC cu.1 cu.2)>>=fun F4=>((pP F4.1)>>=fun aeX=>((lX cu.1 cu.2)>>=fun X7=>(((bif (an (an (X5.2+X6.2)+F4.2)) != ((0:Int)) then (some (true)) else (bif X5.1 then (some (!(F5.1))) else (some (false)))))>>=fun aeY=>(bif aeY then (some (Out.ret (false))) else (((bif !(F5.1) then (some (true)) else (some ((aeX.2) != ((0:Int))))))>>=fun aeZ=>(bif aeZ then (some (Out.ret (true))) else (((bif X6.1 then (bif (X7.2) == ((0:Int)) then (some (X7.1)) else (some (false))) else (some (false))))>>=fun ae0=>(some (Out.ret (ae0)))))))))))))))))))))
structure dI where
 aC:aI
 aD:aI
 fk:(List Int)
end
end Go.Proofs.YtgjbmjjihmfppaaGreat
