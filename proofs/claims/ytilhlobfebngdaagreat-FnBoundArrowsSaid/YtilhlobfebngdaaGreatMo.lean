/- Models, printed by a program: what each function computes, on plain data. No condition. -/
import Derived.Test.YtilhlobfebngdaaGreatLj
import Derived.Test.YtilhlobfebngdaaGreatLn
import Derived.Test.YtilhlobfebngdaaGreatLq
namespace Go.Proofs.YtilhlobfebngdaaGreat
open Go Go.Li
set_option linter.unusedVariables false
noncomputable section
structure aJ where
 Code:(List Int)
 At:Int
 an:Int
structure aF where
 aA:Int
 aE:(List Int)
 To:(List Int)
 aH:(List Int)
 aC:(List (List Int))
structure bZ where
 aE:Int
 To:Int
 mh:(List Int)
structure aP where
 aB:aF
 aG:aF
 aA:(List Int)
 ab:(List Int)
structure dD where
 F:aP
 G:aP
 AS:Bool
 xN:Int
 Found:(List (List Int))
structure bT where
 On:aP
 Unit:(List Int)
 cn:(List Int)
structure cV where
 Left:aP
 bw:aP
 Unit:(List Int)
 pr:(List Int)
structure vL where
 aE:Int
 To:Int
structure bU where
 aB:aP
 aG:aP
 bj:(List Int)
def uX (x0:(List Int)):Option (Bool):=
 ak (S:=Unit) (some (Out.ret ((decide ((x0.length:Int) > (4096:Int))))))
def qW (x0:(List Int)) (bh:Int) (EA:Int):Option (Out (Int×Int) ((Option aJ))):=
 (((bif decide (bh < (x0.length:Int)) then (some (decide (bh < (4096:Int)))) else (some (false))))>>=fun g14=>(bif g14 then ((xi .mul .u64 (EA) ((1099511628211:Int)))>>=fun z20=>((idx x0 (bh))>>=fun zV=>((xi .add .u64 (z20) (IntKind.u64.wrap zV))>>=fun z23=>((xi .add .u64 (z23) ((7:Int)))>>=fun z24=>(some (Out.norm (aj (bh+(1:Int)),z24))))))) else (some (Out.exit 0 (bh,EA)))))
def qX (x0:(List Int)):Option ((Option aJ)):=
 ak (S:=Unit) ((xi .add .u64 ((7019:Int)) (IntKind.u64.wrap ((x0.length:Int))))>>=fun z3=>(af (ae 0 (ah (fun s=>qW x0 s.1 s.2) ((0:Int),z3))) (fun (bh,EA)=>(some (Out.ret ((some (aJ.mk x0 ((0:Int)) EA))))))))
def bY (x0:aJ) (x1:Int):Option (Int×aJ):=
 ak (S:=Unit) (bif decide (x1 < (1:Int)) then (some (Out.ret ((((0:Int)),x0)))) else ((xi .mul .u64 (x0.an) ((6364136223846793005:Int)))>>=fun z9=>((xi .add .u64 (z9) ((1442695040888963407:Int)))>>=fun Zh=>((xi .shr .u64 (Zh) ((33:Int)))>>=fun Zi=>((xi .and .u64 (Zi) ((16777215:Int)))>>=fun z16=>(bif decide (x0.At < (x0.Code.length:Int)) then ((idx x0.Code (x0.At))>>=fun KH=>((xi .rem .i64 (aj (IntKind.i64.wrap z16+IntKind.i64.wrap KH)) (x1))>>=fun z30=>(some (Out.ret ((z30,(aJ.mk x0.Code (aj (x0.At+(1:Int))) Zh))))))) else ((xi .rem .i64 (IntKind.i64.wrap z16) (x1))>>=fun z33=>(some (Out.ret ((z33,(aJ.mk x0.Code x0.At Zh))))))))))))
def nO (x0:aJ) (x1:Int) (cy:Int) (o7:Int) (o9:Int) (DP:(List Int)):Option (Out (Int×Int×Int×(List Int)) ((List (List Int))×aJ)):=
 (bif decide (cy < x1) then ((bY (aJ.mk x0.Code o7 o9) ((2:Int)))>>=fun DQ=>((idx DP (cy))>>=fun Vn=>(some (Out.norm (aj (cy+(1:Int)),DQ.2.At,DQ.2.an,DP.set (cy).toNat (DQ.1)))))) else (some (Out.exit 2 (cy,o7,o9,DP))))
def nP (x0:aJ) (x1:Int) (ao:(List (List Int))) (cf:Int) (jz:Int) (j3:Int):Option (Out ((List (List Int))×Int×Int×Int) ((List (List Int))×aJ)):=
 (bif decide (cf < x1) then ((mk 8 (x1))>>=fun n21=>((idx (List.replicate n21 (0:Int)) (cf))>>=fun KJ=>(af (ae 2 (ah (fun s=>nO x0 x1 s.1 s.2.1 s.2.2.1 s.2.2.2) (aj (cf+(1:Int)),jz,j3,(List.replicate n21 (0:Int)).set (cf).toNat ((1:Int))))) (fun (cy,o7,o9,DP)=>((fits 24 (ao.length+1))>>=fun n78=>(some (Out.norm (ao++[DP],aj (cf+(1:Int)),o7,o9)))))))) else (some (Out.exit 0 (ao,cf,jz,j3))))
def rX (x1:Int) (bx:Int) (gx:Int) (ru:Int) (wu:(List (List Int))):Option (Out (Int×(List (List Int))) ((List (List Int))×aJ)):=
 (bif decide (ru < x1) then ((((idx wu (gx))>>=fun afk=>((idx afk (bx))>>=fun S5=>(bif (S5) == ((1:Int)) then ((idx wu (bx))>>=fun afl=>((idx afl (ru))>>=fun afm=>(some ((afm) == ((1:Int)))))) else (some (false))))))>>=fun afn=>(bif afn then ((idx wu (gx))>>=fun Zj=>((idx Zj (ru))>>=fun atD=>(some (Out.norm (aj (ru+(1:Int)),wu.set (gx).toNat (Zj.set (ru).toNat ((1:Int)))))))) else (some (Out.norm (aj (ru+(1:Int)),wu))))) else (some (Out.exit 8 (ru,wu))))
def rY (x1:Int) (bx:Int) (gx:Int) (EB:(List (List Int))):Option (Out (Int×(List (List Int))) ((List (List Int))×aJ)):=
 (bif decide (gx < x1) then (af (ae 8 (ah (fun s=>rX x1 bx gx s.1 s.2) ((0:Int),EB))) (fun (ru,wu)=>(some (Out.norm (aj (gx+(1:Int)),wu))))) else (some (Out.exit 6 (gx,EB))))
def rZ (x1:Int) (bx:Int) (EC:(List (List Int))):Option (Out (Int×(List (List Int))) ((List (List Int))×aJ)):=
 (bif decide (bx < x1) then (af (ae 6 (ah (fun s=>rY x1 bx s.1 s.2) ((0:Int),EC))) (fun (gx,EB)=>(some (Out.norm (aj (bx+(1:Int)),EB))))) else (some (Out.exit 4 (bx,EC))))
def sA (x1:Int) (BC:Int) (yZ:Int) (AT:Int) (yk:(List (List Int))):Option (Out (Int×(List (List Int))) ((List (List Int))×aJ)):=
 (bif decide (AT < x1) then ((((idx yk (yZ))>>=fun afo=>((idx afo (BC))>>=fun afp=>(bif (afp) == ((1:Int)) then ((idx yk (BC))>>=fun afq=>((idx afq (AT))>>=fun S6=>(some ((S6) == ((1:Int)))))) else (some (false))))))>>=fun afr=>(bif afr then ((idx yk (yZ))>>=fun Zk=>((idx Zk (AT))>>=fun atE=>(some (Out.norm (aj (AT+(1:Int)),yk.set (yZ).toNat (Zk.set (AT).toNat ((1:Int)))))))) else (some (Out.norm (aj (AT+(1:Int)),yk))))) else (some (Out.exit 8 (AT,yk))))
def sB (x1:Int) (BC:Int) (yZ:Int) (Gx:(List (List Int))):Option (Out (Int×(List (List Int))) ((List (List Int))×aJ)):=
 (bif decide (yZ < x1) then (af (ae 8 (ah (fun s=>sA x1 BC yZ s.1 s.2) ((0:Int),Gx))) (fun (AT,yk)=>(some (Out.norm (aj (yZ+(1:Int)),yk))))) else (some (Out.exit 6 (yZ,Gx))))
def sC (x1:Int) (BC:Int) (Gy:(List (List Int))):Option (Out (Int×(List (List Int))) ((List (List Int))×aJ)):=
 (bif decide (BC < x1) then (af (ae 6 (ah (fun s=>sB x1 BC s.1 s.2) ((0:Int),Gy))) (fun (yZ,Gx)=>(some (Out.norm (aj (BC+(1:Int)),Gx))))) else (some (Out.exit 4 (BC,Gy))))
def qY (x1:Int) (BD:Int) (y4:Int) (ym:Int) (wx:(List (List Int))):Option (Out (Int×(List (List Int))) ((List (List Int))×aJ)):=
 (bif decide (ym < x1) then ((((idx wx (y4))>>=fun afs=>((idx afs (BD))>>=fun zW=>(bif (zW) == ((1:Int)) then ((idx wx (BD))>>=fun S7=>((idx S7 (ym))>>=fun S8=>(some ((S8) == ((1:Int)))))) else (some (false))))))>>=fun afu=>(bif afu then ((idx wx (y4))>>=fun Zm=>((idx Zm (ym))>>=fun atF=>(some (Out.norm (aj (ym+(1:Int)),wx.set (y4).toNat (Zm.set (ym).toNat ((1:Int)))))))) else (some (Out.norm (aj (ym+(1:Int)),wx))))) else (some (Out.exit 8 (ym,wx))))
def sD (x1:Int) (BD:Int) (y4:Int) (Gz:(List (List Int))):Option (Out (Int×(List (List Int))) ((List (List Int))×aJ)):=
 (bif decide (y4 < x1) then (af (ae 8 (ah (fun s=>qY x1 BD y4 s.1 s.2) ((0:Int),Gz))) (fun (ym,wx)=>(some (Out.norm (aj (y4+(1:Int)),wx))))) else (some (Out.exit 6 (y4,Gz))))
def sE (x1:Int) (BD:Int) (GA:(List (List Int))):Option (Out (Int×(List (List Int))) ((List (List Int))×aJ)):=
 (bif decide (BD < x1) then (af (ae 6 (ah (fun s=>sD x1 BD s.1 s.2) ((0:Int),GA))) (fun (y4,Gz)=>(some (Out.norm (aj (BD+(1:Int)),Gz))))) else (some (Out.exit 4 (BD,GA))))
def kZ (x0:aJ) (x1:Int):Option ((List (List Int))×aJ):=
 ak (S:=Unit) (af (ae 0 (ah (fun s=>nP x0 x1 s.1 s.2.1 s.2.2.1 s.2.2.2) (([]:(List (List Int))),(0:Int),x0.At,x0.an))) (fun (ao,cf,jz,j3)=>(bif decide (x1 > (1:Int)) then ((bY (aJ.mk x0.Code jz j3) ((4:Int)))>>=fun GB=>(bif (GB.1) == ((0:Int)) then ((idx ao (aj (x1 - (1:Int))))>>=fun Vp=>((bY (aJ.mk x0.Code GB.2.At GB.2.an) (x1))>>=fun xO=>((idx Vp (xO.1))>>=fun wW=>(af (ae 4 (ah (fun s=>rZ x1 s.1 s.2) ((0:Int),ao.set (aj (x1 - (1:Int))).toNat (Vp.set (xO.1).toNat ((1:Int)))))) (fun (bx,EC)=>(some (Out.ret ((EC,(aJ.mk x0.Code xO.2.At xO.2.an)))))))))) else (af (ae 4 (ah (fun s=>sC x1 s.1 s.2) ((0:Int),ao))) (fun (BC,Gy)=>(some (Out.ret ((Gy,(aJ.mk x0.Code GB.2.At GB.2.an))))))))) else (af (ae 4 (ah (fun s=>sE x1 s.1 s.2) ((0:Int),ao))) (fun (BD,GA)=>(some (Out.ret ((GA,(aJ.mk x0.Code jz j3))))))))))
def qD (x0:(List (List Int))) (cf:Int) (jk:(List Int)) (cy:Int) (uq:(List Int)) (xP:(List Int)):Option (Out ((List Int)×Int×(List Int)×(List Int)) (aF)):=
 (bif decide (cy < (x0.length:Int)) then ((fits 8 (jk.length+1))>>=fun n185=>((idx x0 (cf))>>=fun afv=>((idx afv (cy))>>=fun afw=>(bif (afw) == ((1:Int)) then ((fits 8 (uq.length+1))>>=fun n229=>((fits 8 (xP.length+1))>>=fun n265=>(some (Out.norm (jk++[(uq.length:Int)],aj (cy+(1:Int)),uq++[cf],xP++[cy]))))) else (some (Out.norm (jk++[(uq.length:Int)],aj (cy+(1:Int)),uq,xP))))))) else (some (Out.exit 2 (jk,cy,uq,xP))))
def qE (x0:(List (List Int))) (bh:(List (List Int))) (cf:Int) (oq:(List Int)) (qy:(List Int)):Option (Out ((List (List Int))×Int×(List Int)×(List Int)) (aF)):=
 (bif decide (cf < (x0.length:Int)) then (af (ae 2 (ah (fun s=>qD x0 cf s.1 s.2.1 s.2.2.1 s.2.2.2) (([]:(List Int)),(0:Int),oq,qy))) (fun (jk,cy,uq,xP)=>((fits 24 (bh.length+1))>>=fun n306=>(some (Out.norm (bh++[jk],aj (cf+(1:Int)),uq,xP)))))) else (some (Out.exit 0 (bh,cf,oq,qy))))
def qF (x0:(List (List Int))) (bh:(List (List Int))) (bx:Int) (zX:(List Int)):Option (Out (Int×(List Int)) (aF)):=
 (bif decide (bx < (x0.length:Int)) then ((idx bh (bx))>>=fun afx=>((idx afx (bx))>>=fun OB=>((fits 8 (zX.length+1))>>=fun atG=>(some (Out.norm (aj (bx+(1:Int)),zX++[OB])))))) else (some (Out.exit 4 (bx,zX))))
def qG (bh:(List (List Int))) (oq:(List Int)) (qy:(List Int)) (gx:Int) (ru:(List Int)) (lp:Int):Option (Out ((List Int)×Int) (aF)):=
 (bif decide (lp < (oq.length:Int)) then ((idx qy (gx))>>=fun afy=>((idx oq (lp))>>=fun afz=>(bif (afy) == (afz) then ((idx oq (gx))>>=fun S9=>((idx bh (S9))>>=fun afA=>((idx qy (lp))>>=fun afB=>((idx afA (afB))>>=fun afC=>((fits 8 (ru.length+1))>>=fun atH=>(some (Out.norm (ru++[afC],aj (lp+(1:Int)))))))))) else ((fits 8 (ru.length+1))>>=fun atI=>(some (Out.norm (ru++[(-1:Int)],aj (lp+(1:Int))))))))) else (some (Out.exit 8 (ru,lp))))
def qH (bh:(List (List Int))) (oq:(List Int)) (qy:(List Int)) (gx:Int) (zY:(List (List Int))):Option (Out (Int×(List (List Int))) (aF)):=
 (bif decide (gx < (oq.length:Int)) then (af (ae 8 (ah (fun s=>qG bh oq qy gx s.1 s.2) (([]:(List Int)),(0:Int)))) (fun (ru,lp)=>((fits 24 (zY.length+1))>>=fun atJ=>(some (Out.norm (aj (gx+(1:Int)),zY++[ru])))))) else (some (Out.exit 6 (gx,zY))))
def fE (x0:(List (List Int))):Option (aF):=
 ak (S:=Unit) (af (ae 0 (ah (fun s=>qE x0 s.1 s.2.1 s.2.2.1 s.2.2.2) (([]:(List (List Int))),(0:Int),([]:(List Int)),([]:(List Int))))) (fun (bh,cf,oq,qy)=>(af (ae 4 (ah (fun s=>qF x0 bh s.1 s.2) ((0:Int),([]:(List Int))))) (fun (bx,zX)=>(af (ae 6 (ah (fun s=>qH bh oq qy s.1 s.2) ((0:Int),([]:(List (List Int)))))) (fun (gx,zY)=>(some (Out.ret ((aF.mk ((x0.length:Int)) oq qy zX zY))))))))))
def dN (x0:(List Int)):Option ((List Int)):=
 ak (S:=Unit) ((fits 8 ((([]:(List Int))).length+x0.length))>>=fun n15=>(some (Out.ret ((([]:(List Int))++x0)))))
def fX (x0:(List Int)) (x1:(List Int)) (ao:Int):Option (Out (Int) (Bool)):=
 (((bif decide (ao < (x0.length:Int)) then (some (decide (ao < (x1.length:Int)))) else (some (false))))>>=fun g6=>(bif g6 then ((idx x0 (ao))>>=fun Qk=>((idx x1 (ao))>>=fun ur=>(bif (Qk) != (ur) then ((idx x0 (ao))>>=fun IE=>((idx x1 (ao))>>=fun zV=>(some (Out.ret ((decide (IE < zV))))))) else (some (Out.norm (aj (ao+(1:Int)))))))) else (some (Out.exit 0 (ao)))))
def oB (x0:(List Int)) (x1:(List Int)):Option (Bool):=
 ak (S:=Unit) (af (ae 0 (ah (fX x0 x1) ((0:Int)))) (fun ao=>(some (Out.ret ((decide ((x0.length:Int) < (x1.length:Int))))))))
def kS (x0:bZ) (x1:bZ):Option (Bool):=
 ak (S:=Unit) (bif (x0.aE) != (x1.aE) then (some (Out.ret ((decide (x0.aE < x1.aE))))) else (bif (x0.To) != (x1.To) then (some (Out.ret ((decide (x0.To < x1.To))))) else ((oB x0.mh x1.mh)>>=fun BN=>(some (Out.ret (BN))))))
def mN (x0:Int) (s0:(List bZ)) (s1:Int):Option (Out ((List bZ)×Int) ((List bZ))):=
 (bif decide (s1 < x0) then ((fits 40 (s0.length+1))>>=fun n26=>(some (Out.norm (s0++[bZ.mk s1 s1 []],aj (s1+(1:Int)))))) else (some (Out.exit 0 (s0,s1))))
def kV (x1:(List Int)) (x2:(List Int)) (s1:Int) (s0:(List bZ)) (s2:Int):Option (Out ((List bZ)×Int) ((List bZ))):=
 (bif decide (s2 < (x1.length:Int)) then ((idx x1 (s2))>>=fun BO=>((idx s0 (s1))>>=fun Ql=>(bif (BO) == (Ql.To) then ((idx s0 (s1))>>=fun GC=>((idx x2 (s2))>>=fun Dc=>((idx s0 (s1))>>=fun Zo=>((dN Zo.mh)>>=fun KK=>((fits 8 (KK.length+1))>>=fun n72=>((fits 40 (s0.length+1))>>=fun n75=>(some (Out.norm (s0++[bZ.mk GC.aE Dc (KK++[s2])],aj (s2+(1:Int))))))))))) else (some (Out.norm (s0,aj (s2+(1:Int)))))))) else (some (Out.exit 4 (s0,s2))))
def mO (x1:(List Int)) (x2:(List Int)) (s0:(List bZ)) (s1:Int):Option (Out ((List bZ)×Int) ((List bZ))):=
 (((bif decide (s1 < (s0.length:Int)) then (some (decide ((s0.length:Int)≤(40:Int)))) else (some (false))))>>=fun Qm=>(bif Qm then (af (ae 4 (ah (fun s=>kV x1 x2 s1 s.1 s.2) (s0,(0:Int)))) (fun (s0,s2)=>(some (Out.norm (s0,aj (s1+(1:Int))))))) else (some (Out.exit 2 (s0,s1)))))
def mP (s0:(List bZ)) (s1:Int):Option (Out ((List bZ)×Int) ((List bZ))):=
 (((bif decide ((0:Int) < s1) then ((idx s0 (s1))>>=fun Fc=>((idx s0 (aj (s1 - (1:Int))))>>=fun GD=>((kS Fc GD)>>=fun Qn=>(some (Qn))))) else (some (false))))>>=fun Zp=>(bif Zp then ((idx s0 (s1))>>=fun Tb=>((idx s0 (aj (s1 - (1:Int))))>>=fun wW=>((idx s0 (s1))>>=fun Fy=>((idx (s0.set (s1).toNat wW) (aj (s1 - (1:Int))))>>=fun Tc=>(some (Out.norm ((s0.set (s1).toNat wW).set (aj (s1 - (1:Int))).toNat Tb,aj (s1 - (1:Int))))))))) else (some (Out.exit 8 (s0,s1)))))
def mQ (s0:(List bZ)) (s1:Int):Option (Out ((List bZ)×Int) ((List bZ))):=
 (bif decide (s1 < (s0.length:Int)) then (af (ae 8 (ah (fun s=>mP s.1 s.2) (s0,s1))) (fun (s0,s2)=>(some (Out.norm (s0,aj (s1+(1:Int))))))) else (some (Out.exit 6 (s0,s1))))
def nN (x0:Int) (x1:(List Int)) (x2:(List Int)):Option ((List bZ)):=
 ak (S:=Unit) (af (ae 0 (ah (fun s=>mN x0 s.1 s.2) (([]:(List bZ)),(0:Int)))) (fun (s0,s1)=>(af (ae 2 (ah (fun s=>mO x1 x2 s.1 s.2) (s0,(0:Int)))) (fun (s0,s1)=>(af (ae 6 (ah (fun s=>mQ s.1 s.2) (s0,(1:Int)))) (fun (s0,s1)=>(some (Out.ret (s0)))))))))
def dT (x0:aF):Option (Bool):=
 ak (S:=Unit) (((bif decide (x0.aA≤(8:Int)) then (some (decide ((x0.aE.length:Int)≤(40:Int)))) else (some (false))))>>=fun g8=>(some (Out.ret (g8))))
def nS (x0:(List Int)) (x1:(List Int)) (ao:Int):Option (Out (Int) (Bool)):=
 (bif decide (ao < (x0.length:Int)) then ((idx x0 (ao))>>=fun ur=>((idx x1 (ao))>>=fun GF=>(bif (ur) != (GF) then (some (Out.ret (false))) else (some (Out.norm (aj (ao+(1:Int)))))))) else (some (Out.exit 0 (ao))))
def fQ (x0:(List Int)) (x1:(List Int)):Option (Bool):=
 ak (S:=Unit) (bif ((x0.length:Int)) != ((x1.length:Int)) then (some (Out.ret (false))) else (af (ae 0 (ah (nS x0 x1) ((0:Int)))) (fun ao=>(some (Out.ret (true))))))
def lA (y8:(List bZ)) (dn:Int) (j4:(List Int)) (j5:(List Int)) (nw:(List Int)):Option (Out (Int×(List Int)×(List Int)×(List Int)) (aF)):=
 (bif decide (dn < (y8.length:Int)) then ((idx y8 (dn))>>=fun Fz=>((fits 8 (j4.length+1))>>=fun n134=>((idx y8 (dn))>>=fun KL=>((fits 8 (j5.length+1))>>=fun n173=>((idx y8 (dn))>>=fun Td=>(bif ((Td.mh.length:Int)) == ((0:Int)) then ((idx y8 (dn))>>=fun KM=>((idx nw (KM.aE))>>=fun afD=>(some (Out.norm (aj (dn+(1:Int)),j4++[Fz.aE],j5++[KL.To],nw.set (KM.aE).toNat (dn)))))) else (some (Out.norm (aj (dn+(1:Int)),j4++[Fz.aE],j5++[KL.To],nw))))))))) else (some (Out.exit 0 (dn,j4,j5,nw))))
def lB (y8:(List bZ)) (ee:Int) (xQ:(List Int)) (zW:bZ) (za:Int) (qo:Int):Option (Out (Int×Int) (aF)):=
 (bif decide (qo < (y8.length:Int)) then ((((idx y8 (qo))>>=fun Te=>((idx y8 (ee))>>=fun Tf=>(bif (Te.aE) == (Tf.aE) then ((idx y8 (qo))>>=fun Tg=>((fQ Tg.mh (xQ++zW.mh))>>=fun Th=>(some (Th)))) else (some (false))))))>>=fun Ti=>(bif Ti then (some (Out.norm (qo,aj (qo+(1:Int))))) else (some (Out.norm (za,aj (qo+(1:Int))))))) else (some (Out.exit 6 (za,qo))))
def lC (y8:(List bZ)) (ee:Int) (jy:(List Int)) (sz:Int):Option (Out ((List Int)×Int) (aF)):=
 (bif decide (sz < (y8.length:Int)) then ((idx y8 (ee))>>=fun Tj=>((idx y8 (sz))>>=fun Tk=>(bif (Tj.To) == (Tk.aE) then ((idx y8 (ee))>>=fun Tl=>((dN Tl.mh)>>=fun xQ=>((idx y8 (sz))>>=fun zW=>((fits 8 (xQ.length+zW.mh.length))>>=fun afE=>(af (ae 6 (ah (fun s=>lB y8 ee xQ zW s.1 s.2) ((-1:Int),(0:Int)))) (fun (za,qo)=>((fits 8 (jy.length+1))>>=fun afF=>(some (Out.norm (jy++[za],aj (sz+(1:Int)))))))))))) else ((fits 8 (jy.length+1))>>=fun afG=>(some (Out.norm (jy++[(-1:Int)],aj (sz+(1:Int))))))))) else (some (Out.exit 4 (jy,sz))))
def jD (y8:(List bZ)) (ee:Int) (pw:(List (List Int))):Option (Out (Int×(List (List Int))) (aF)):=
 (bif decide (ee < (y8.length:Int)) then (af (ae 4 (ah (fun s=>lC y8 ee s.1 s.2) (([]:(List Int)),(0:Int)))) (fun (jy,sz)=>((fits 24 (pw.length+1))>>=fun afH=>(some (Out.norm (aj (ee+(1:Int)),pw++[jy])))))) else (some (Out.exit 2 (ee,pw))))
def gJ (x0:Int) (x1:(List Int)) (x2:(List Int)):Option (aF):=
 ak (S:=Unit) ((nN (x0) x1 x2)>>=fun y8=>((mk 8 (x0))>>=fun n36=>(af (ae 0 (ah (fun s=>lA y8 s.1 s.2.1 s.2.2.1 s.2.2.2) ((0:Int),([]:(List Int)),([]:(List Int)),List.replicate n36 (0:Int)))) (fun (dn,j4,j5,nw)=>((dT (aF.mk x0 j4 j5 nw (([]:(List (List Int))))))>>=fun Tn=>(bif !(Tn) then (some (Out.ret ((aF.mk x0 j4 j5 nw (([]:(List (List Int)))))))) else (af (ae 2 (ah (fun s=>jD y8 s.1 s.2) ((0:Int),([]:(List (List Int)))))) (fun (ee,pw)=>(some (Out.ret ((aF.mk x0 j4 j5 nw pw))))))))))))
def kW (x0:aJ):Option ((List (List Int))×aJ):=
 ak (S:=Unit) ((bY x0 ((8:Int)))>>=fun y5=>(bif (y5.1) == ((0:Int)) then (some (Out.ret (((([[(0:Int)]]:(List (List Int)))),(aJ.mk x0.Code y5.2.At y5.2.an))))) else (bif (y5.1) == ((1:Int)) then (some (Out.ret (((([[(0:Int),(1:Int)],[(1:Int),(0:Int)]]:(List (List Int)))),(aJ.mk x0.Code y5.2.At y5.2.an))))) else (bif (y5.1) == ((2:Int)) then (some (Out.ret (((([[(0:Int),(1:Int)],[(1:Int),(1:Int)]]:(List (List Int)))),(aJ.mk x0.Code y5.2.At y5.2.an))))) else (bif (y5.1) == ((3:Int)) then (some (Out.ret (((([[(0:Int),(1:Int),(2:Int)],[(1:Int),(2:Int),(0:Int)],[(2:Int),(0:Int),(1:Int)]]:(List (List Int)))),(aJ.mk x0.Code y5.2.At y5.2.an))))) else (bif (y5.1) == ((4:Int)) then (some (Out.ret (((([[(0:Int),(1:Int),(2:Int)],[(1:Int),(1:Int),(2:Int)],[(2:Int),(2:Int),(2:Int)]]:(List (List Int)))),(aJ.mk x0.Code y5.2.At y5.2.an))))) else (bif (y5.1) == ((5:Int)) then (some (Out.ret (((([[(0:Int),(1:Int),(2:Int)],[(1:Int),(1:Int),(2:Int)],[(2:Int),(1:Int),(2:Int)]]:(List (List Int)))),(aJ.mk x0.Code y5.2.At y5.2.an))))) else (bif (y5.1) == ((6:Int)) then (some (Out.ret (((([[(0:Int),(1:Int),(2:Int),(3:Int)],[(1:Int),(0:Int),(2:Int),(3:Int)],[(2:Int),(3:Int),(2:Int),(3:Int)],[(3:Int),(2:Int),(2:Int),(3:Int)]]:(List (List Int)))),(aJ.mk x0.Code y5.2.At y5.2.an))))) else (some (Out.ret (((([[(0:Int),(1:Int),(2:Int)],[(1:Int),(2:Int),(2:Int)],[(2:Int),(2:Int),(2:Int)]]:(List (List Int)))),(aJ.mk x0.Code y5.2.At y5.2.an)))))))))))))
def lS (x0:(List (List Int))) (gf:(List (List Int))) (bh:Int):Option (Out ((List (List Int))×Int) ((List (List Int)))):=
 (bif decide (bh < (x0.length:Int)) then ((idx x0 (bh))>>=fun yQ=>((dN yQ)>>=fun nn=>((fits 24 (gf.length+1))>>=fun n49=>(some (Out.norm (gf++[nn],aj (bh+(1:Int)))))))) else (some (Out.exit 0 (gf,bh))))
def oC (x0:(List (List Int))):Option ((List (List Int))):=
 ak (S:=Unit) (af (ae 0 (ah (fun s=>lS x0 s.1 s.2) (([]:(List (List Int))),(0:Int)))) (fun (gf,bh)=>(some (Out.ret (gf)))))
def kX (x0:(List (List Int))):Option (aF):=
 ak (S:=Unit) ((mk 8 ((x0.length:Int)))>>=fun n10=>((mk 8 ((x0.length:Int)))>>=fun n19=>((oC x0)>>=fun Dd=>(some (Out.ret ((aF.mk ((1:Int)) (List.replicate n10 (0:Int)) (List.replicate n19 (0:Int)) ([(0:Int)]) Dd)))))))
def pW:Option (aF):=
 ak (S:=Unit) (some (Out.ret ((aF.mk ((2:Int)) (([(0:Int),(1:Int),(0:Int),(0:Int),(1:Int)]:(List Int))) (([(0:Int),(1:Int),(0:Int),(1:Int),(0:Int)]:(List Int))) (([(0:Int),(1:Int)]:(List Int))) (([[(0:Int),(-1:Int),(2:Int),(3:Int),(-1:Int)],[(-1:Int),(1:Int),(-1:Int),(-1:Int),(4:Int)],[(2:Int),(-1:Int),(2:Int),(3:Int),(-1:Int)],[(-1:Int),(3:Int),(-1:Int),(-1:Int),(2:Int)],[(4:Int),(-1:Int),(4:Int),(1:Int),(-1:Int)]]:(List (List Int))))))))
def mC (x0:aF):Option (aF):=
 ak (S:=Unit) ((dN x0.aE)>>=fun qp=>((dN x0.To)>>=fun BN=>((dN x0.aH)>>=fun Qo=>((oC x0.aC)>>=fun DR=>(some (Out.ret ((aF.mk x0.aA qp BN Qo DR))))))))
def jE (x0:aF) (x1:aF) (ib:Int) (zZ:(List Int)):Option (Out (Int×(List Int)) (aF)):=
 (bif decide (ib < x1.aA) then ((idx x1.aH (ib))>>=fun Tp=>((fits 8 (zZ.length+1))>>=fun n136=>(some (Out.norm (aj (ib+(1:Int)),zZ++[aj (Tp+(x0.aE.length:Int))]))))) else (some (Out.exit 0 (ib,zZ))))
def jF (x1:aF) (qc:Int) (df:Int) (BP:(List (List Int))):Option (Out (Int×(List (List Int))) (aF)):=
 (bif decide (df < (x1.aE.length:Int)) then ((idx BP (qc))>>=fun OC=>((fits 8 (OC.length+1))>>=fun n233=>((idx BP (qc))>>=fun atK=>(some (Out.norm (aj (df+(1:Int)),BP.set (qc).toNat (OC++[(-1:Int)]))))))) else (some (Out.exit 4 (df,BP))))
def jG (x1:aF) (qc:Int) (DS:(List (List Int))):Option (Out (Int×(List (List Int))) (aF)):=
 (bif decide (qc < (DS.length:Int)) then (af (ae 4 (ah (fun s=>jF x1 qc s.1 s.2) ((0:Int),DS))) (fun (df,BP)=>(some (Out.norm (aj (qc+(1:Int)),BP))))) else (some (Out.exit 2 (qc,DS))))
def jH (x0:aF) (lp:(List Int)) (o4:Int):Option (Out ((List Int)×Int) (aF)):=
 (bif decide (o4 < (x0.aE.length:Int)) then ((fits 8 (lp.length+1))>>=fun atL=>(some (Out.norm (lp++[(-1:Int)],aj (o4+(1:Int)))))) else (some (Out.exit 8 (lp,o4))))
def jI (x0:aF) (x1:aF) (du:Int) (s6:(List Int)) (nq:Int):Option (Out ((List Int)×Int) (aF)):=
 (bif decide (nq < (x1.aE.length:Int)) then ((idx x1.aC (du))>>=fun afI=>((idx afI (nq))>>=fun Tq=>(bif decide (Tq ≥ (0:Int)) then ((fits 8 (s6.length+1))>>=fun atM=>(some (Out.norm (s6++[aj (Tq+(x0.aE.length:Int))],aj (nq+(1:Int)))))) else ((fits 8 (s6.length+1))>>=fun atN=>(some (Out.norm (s6++[Tq],aj (nq+(1:Int))))))))) else (some (Out.exit 10 (s6,nq))))
def jJ (x0:aF) (x1:aF) (du:Int) (z6:(List Int)) (z7:(List Int)) (z8:(List (List Int))):Option (Out (Int×(List Int)×(List Int)×(List (List Int))) (aF)):=
 (bif decide (du < (x1.aE.length:Int)) then ((idx x1.aE (du))>>=fun afJ=>((fits 8 (z6.length+1))>>=fun n314=>((idx x1.To (du))>>=fun S7=>((fits 8 (z7.length+1))>>=fun atO=>(af (ae 8 (ah (fun s=>jH x0 s.1 s.2) (([]:(List Int)),(0:Int)))) (fun (lp,o4)=>(af (ae 10 (ah (fun s=>jI x0 x1 du s.1 s.2) (lp,(0:Int)))) (fun (s6,nq)=>((fits 24 (z8.length+1))>>=fun atP=>(some (Out.norm (aj (du+(1:Int)),z6++[aj (afJ+x0.aA)],z7++[aj (S7+x0.aA)],z8++[s6])))))))))))) else (some (Out.exit 6 (du,z6,z7,z8))))
def kQ (x0:aF) (x1:aF):Option (aF):=
 ak (S:=Unit) ((mC x0)>>=fun Aa=>(af (ae 0 (ah (fun s=>jE x0 x1 s.1 s.2) ((0:Int),Aa.aH))) (fun (ib,zZ)=>(af (ae 2 (ah (fun s=>jG x1 s.1 s.2) ((0:Int),Aa.aC))) (fun (qc,DS)=>(af (ae 6 (ah (fun s=>jJ x0 x1 s.1 s.2.1 s.2.2.1 s.2.2.2) ((0:Int),Aa.aE,Aa.To,DS))) (fun (du,z6,z7,z8)=>(some (Out.ret ((aF.mk (aj (x0.aA+x1.aA)) z6 z7 zZ z8)))))))))))
def iJ (x0:aF) (x1:aF) (bb:Int) (cy:Int) (Ab:(List Int)) (Ac:(List Int)):Option (Out (Int×(List Int)×(List Int)) (aF)):=
 (bif decide (cy < x1.aA) then ((fits 8 (Ab.length+1))>>=fun n181=>((fits 8 (Ac.length+1))>>=fun n217=>(some (Out.norm (aj (cy+(1:Int)),Ab++[bb],Ac++[aj (x0.aA+cy)]))))) else (some (Out.exit 2 (cy,Ab,Ac))))
def iK (x0:aF) (x1:aF) (bb:Int) (ot:(List Int)) (qz:(List Int)):Option (Out (Int×(List Int)×(List Int)) (aF)):=
 (bif decide (bb < x0.aA) then (af (ae 2 (ah (fun s=>iJ x0 x1 bb s.1 s.2.1 s.2.2) ((0:Int),ot,qz))) (fun (cy,Ab,Ac)=>(some (Out.norm (aj (bb+(1:Int)),Ab,Ac))))) else (some (Out.exit 0 (bb,ot,qz))))
def iL (x0:aF) (x1:aF) (nn:aF) (ot:(List Int)) (qz:(List Int)) (df:Int) (du:(List Int)) (x6:Int):Option (Out ((List Int)×Int) (aF)):=
 (bif decide (x6 < (ot.length:Int)) then ((idx qz (df))>>=fun afK=>((idx ot (x6))>>=fun afL=>(bif (afK) != (afL) then ((fits 8 (du.length+1))>>=fun atQ=>(some (Out.norm (du++[(-1:Int)],aj (x6+(1:Int)))))) else (((bif decide (df < (nn.aE.length:Int)) then (some (decide (x6 < (nn.aE.length:Int)))) else (some (false))))>>=fun afM=>(bif afM then ((idx nn.aC (df))>>=fun Tr=>((idx Tr (x6))>>=fun Ts=>((fits 8 (du.length+1))>>=fun atS=>(some (Out.norm (du++[Ts],aj (x6+(1:Int)))))))) else ((idx ot (df))>>=fun Tt=>((idx qz (x6))>>=fun Tu=>((fits 8 (du.length+1))>>=fun atT=>(some (Out.norm (du++[aj (aj (aj ((nn.aE.length:Int)+aj (Tt * x1.aA))+Tu) - x0.aA)],aj (x6+(1:Int))))))))))))) else (some (Out.exit 6 (du,x6))))
def iM (x0:aF) (x1:aF) (nn:aF) (ot:(List Int)) (qz:(List Int)) (bx:(List (List Int))) (df:Int):Option (Out ((List (List Int))×Int) (aF)):=
 (bif decide (df < (ot.length:Int)) then (af (ae 6 (ah (fun s=>iL x0 x1 nn ot qz df s.1 s.2) (([]:(List Int)),(0:Int)))) (fun (du,x6)=>((fits 24 (bx.length+1))>>=fun atU=>(some (Out.norm (bx++[du],aj (df+(1:Int)))))))) else (some (Out.exit 4 (bx,df))))
def jS (x0:aF) (x1:aF):Option (aF):=
 ak (S:=Unit) ((kQ x0 x1)>>=fun nn=>(af (ae 0 (ah (fun s=>iK x0 x1 s.1 s.2.1 s.2.2) ((0:Int),nn.aE,nn.To))) (fun (bb,ot,qz)=>(af (ae 4 (ah (fun s=>iM x0 x1 nn ot qz s.1 s.2) (([]:(List (List Int))),(0:Int)))) (fun (bx,df)=>(some (Out.ret ((aF.mk nn.aA ot qz nn.aH bx)))))))))
def nI (x0:aF) (bh:Int) (mj:(List Int)) (ef:Int):Option (Out ((List Int)×Int) (aF)):=
 (bif decide (ef < (x0.aE.length:Int)) then ((idx x0.aC (ef))>>=fun afN=>((idx afN (bh))>>=fun afO=>((fits 8 (mj.length+1))>>=fun n187=>(some (Out.norm (mj++[afO],aj (ef+(1:Int)))))))) else (some (Out.exit 2 (mj,ef))))
def nJ (x0:aF) (bh:Int) (Ae:(List (List Int))):Option (Out (Int×(List (List Int))) (aF)):=
 (bif decide (bh < (x0.aE.length:Int)) then (af (ae 2 (ah (fun s=>nI x0 bh s.1 s.2) (([]:(List Int)),(0:Int)))) (fun (mj,ef)=>((fits 24 (Ae.length+1))>>=fun n222=>(some (Out.norm (aj (bh+(1:Int)),Ae++[mj])))))) else (some (Out.exit 0 (bh,Ae))))
def kL (x0:aF):Option (aF):=
 ak (S:=Unit) ((dN x0.To)>>=fun nn=>((dN x0.aE)>>=fun KN=>((dN x0.aH)>>=fun KO=>(af (ae 0 (ah (fun s=>nJ x0 s.1 s.2) ((0:Int),([]:(List (List Int)))))) (fun (bh,Ae)=>(some (Out.ret ((aF.mk x0.aA nn KN KO Ae)))))))))
def pG (DU:Int×aJ) (ef:(List Int)) (jk:Int):Option (Out ((List Int)×Int) (aF×aJ)):=
 (bif decide (jk < aj ((1:Int)+DU.1)) then ((fits 8 (ef.length+1))>>=fun afP=>(some (Out.norm (ef++[(1:Int)],aj (jk+(1:Int)))))) else (some (Out.exit 3 (ef,jk))))
def pH (DU:Int×aJ) (bh:(List (List Int))) (ao:Int):Option (Out ((List (List Int))×Int) (aF×aJ)):=
 (bif decide (ao < aj ((1:Int)+DU.1)) then (af (ae 3 (ah (fun s=>pG DU s.1 s.2) (([]:(List Int)),(0:Int)))) (fun (ef,jk)=>((fits 24 (bh.length+1))>>=fun atV=>(some (Out.norm (bh++[ef],aj (ao+(1:Int)))))))) else (some (Out.exit 1 (bh,ao))))
def pI (x0:aJ) (Cv:Int×aJ) (bx:(List Int)) (df:(List Int)) (jy:Int) (AU:Int) (AV:Int):Option (Out ((List Int)×(List Int)×Int×Int×Int) (aF×aJ)):=
 (bif decide (jy > (0:Int)) then ((bY (aJ.mk x0.Code AU AV) (aj (aj ((2:Int)+Cv.1) - (1:Int))))>>=fun GG=>((fits 8 (bx.length+1))>>=fun ark=>((bY (aJ.mk x0.Code GG.2.At GG.2.an) (aj (aj (aj ((2:Int)+Cv.1) - (1:Int)) - GG.1)))>>=fun OD=>((fits 8 (df.length+1))>>=fun arl=>(some (Out.norm (bx++[GG.1],df++[aj (aj (GG.1+(1:Int))+OD.1)],aj (jy - (1:Int)),OD.2.At,OD.2.an))))))) else (some (Out.exit 5 (bx,df,jy,AU,AV))))
def jK (x0:aJ):Option (aF×aJ):=
 ak (S:=Unit) ((bY x0 ((12:Int)))>>=fun cb=>(bif (cb.1) == ((0:Int)) then ((bY (aJ.mk x0.Code cb.2.At cb.2.an) ((5:Int)))>>=fun KP=>((kZ (aJ.mk x0.Code KP.2.At KP.2.an) (KP.1))>>=fun BN=>((fE BN.1)>>=fun Qo=>(some (Out.ret ((Qo,(aJ.mk x0.Code BN.2.At BN.2.an)))))))) else (bif (cb.1) == ((1:Int)) then ((fE [[(1:Int),(1:Int)],[(0:Int),(1:Int)]])>>=fun DV=>(some (Out.ret ((DV,(aJ.mk x0.Code cb.2.At cb.2.an)))))) else (bif (cb.1) == ((2:Int)) then ((fE [[(1:Int),(1:Int),(1:Int)],[(0:Int),(1:Int),(0:Int)],[(0:Int),(0:Int),(1:Int)]])>>=fun KQ=>(some (Out.ret ((KQ,(aJ.mk x0.Code cb.2.At cb.2.an)))))) else (bif (cb.1) == ((3:Int)) then ((gJ ((2:Int)) [(0:Int),(0:Int)] [(1:Int),(1:Int)])>>=fun afQ=>(some (Out.ret ((afQ,(aJ.mk x0.Code cb.2.At cb.2.an)))))) else (bif (cb.1) == ((4:Int)) then ((kW (aJ.mk x0.Code cb.2.At cb.2.an))>>=fun Tv=>((kX Tv.1)>>=fun afR=>(some (Out.ret ((afR,(aJ.mk x0.Code Tv.2.At Tv.2.an))))))) else (bif (cb.1) == ((5:Int)) then ((bY (aJ.mk x0.Code cb.2.At cb.2.an) ((3:Int)))>>=fun DU=>(af (ae 1 (ah (fun s=>pH DU s.1 s.2) (([]:(List (List Int))),(0:Int)))) (fun (bh,ao)=>((fE bh)>>=fun afS=>(some (Out.ret ((afS,(aJ.mk x0.Code DU.2.At DU.2.an))))))))) else (bif (cb.1) == ((6:Int)) then ((gJ ((3:Int)) [(0:Int),(1:Int),(0:Int)] [(1:Int),(2:Int),(2:Int)])>>=fun Tw=>(some (Out.ret ((Tw,(aJ.mk x0.Code cb.2.At cb.2.an)))))) else (bif (cb.1) == ((7:Int)) then ((pW)>>=fun afT=>(some (Out.ret ((afT,(aJ.mk x0.Code cb.2.At cb.2.an)))))) else (bif (cb.1) == ((8:Int)) then ((kW (aJ.mk x0.Code cb.2.At cb.2.an))>>=fun Tx=>((kX Tx.1)>>=fun Cw=>((fE [[(1:Int)]])>>=fun afU=>((jS Cw afU)>>=fun afV=>((kL afV)>>=fun afW=>(some (Out.ret ((afW,(aJ.mk x0.Code Tx.2.At Tx.2.an)))))))))) else (bif (cb.1) == ((9:Int)) then ((kW (aJ.mk x0.Code cb.2.At cb.2.an))>>=fun Tz=>((kX Tz.1)>>=fun afX=>((fE [[(1:Int)]])>>=fun afY=>((jS afX afY)>>=fun afZ=>(some (Out.ret ((afZ,(aJ.mk x0.Code Tz.2.At Tz.2.an))))))))) else (bif (cb.1) == ((10:Int)) then ((bY (aJ.mk x0.Code cb.2.At cb.2.an) ((2:Int)))>>=fun OF=>((kZ (aJ.mk x0.Code OF.2.At OF.2.an) (aj ((2:Int)+OF.1)))>>=fun OG=>((fE OG.1)>>=fun aco=>(some (Out.ret ((aco,(aJ.mk x0.Code OG.2.At OG.2.an)))))))) else ((bY (aJ.mk x0.Code cb.2.At cb.2.an) ((2:Int)))>>=fun Cv=>((bY (aJ.mk x0.Code Cv.2.At Cv.2.an) ((4:Int)))>>=fun OH=>(af (ae 5 (ah (fun s=>pI x0 Cv s.1 s.2.1 s.2.2.1 s.2.2.2.1 s.2.2.2.2) (([]:(List Int)),([]:(List Int)),OH.1,OH.2.At,OH.2.an))) (fun (bx,df,jy,AU,AV)=>((gJ (aj ((2:Int)+Cv.1)) bx df)>>=fun acp=>(some (Out.ret ((acp,(aJ.mk x0.Code AU AV))))))))))))))))))))))
def gB (x0:aF) (x1:aF) (ib:Int) (qc:Int) (Af:(List Int)):Option (Out (Int×(List Int)) (aF)):=
 (bif decide (qc < x1.aA) then ((idx x0.aH (ib))>>=fun af0=>((idx x1.aH (qc))>>=fun af1=>((fits 8 (Af.length+1))>>=fun n186=>(some (Out.norm (aj (qc+(1:Int)),Af++[aj (aj (af0 * (x1.aE.length:Int))+af1)])))))) else (some (Out.exit 2 (qc,Af))))
def gC (x0:aF) (x1:aF) (ib:Int) (Cy:(List Int)):Option (Out (Int×(List Int)) (aF)):=
 (bif decide (ib < x0.aA) then (af (ae 2 (ah (fun s=>gB x0 x1 ib s.1 s.2) ((0:Int),Cy))) (fun (qc,Af)=>(some (Out.norm (aj (ib+(1:Int)),Af))))) else (some (Out.exit 0 (ib,Cy))))
def gD (x0:aF) (x1:aF) (df:Int) (du:Int) (o4:Int) (s6:(List Int)) (nq:Int):Option (Out ((List Int)×Int) (aF)):=
 (bif decide (nq < (x1.aE.length:Int)) then ((((idx x0.aC (df))>>=fun af2=>((idx af2 (o4))>>=fun af3=>(bif decide (af3 ≥ (0:Int)) then ((idx x1.aC (du))>>=fun af4=>((idx af4 (nq))>>=fun af5=>(some (decide (af5 ≥ (0:Int)))))) else (some (false))))))>>=fun af6=>(bif af6 then ((idx x0.aC (df))>>=fun af7=>((idx af7 (o4))>>=fun af8=>((idx x1.aC (du))>>=fun af9=>((idx af9 (nq))>>=fun TA=>((fits 8 (s6.length+1))>>=fun atW=>(some (Out.norm (s6++[aj (aj (af8 * (x1.aE.length:Int))+TA)],aj (nq+(1:Int)))))))))) else ((fits 8 (s6.length+1))>>=fun atX=>(some (Out.norm (s6++[(-1:Int)],aj (nq+(1:Int)))))))) else (some (Out.exit 10 (s6,nq))))
def gE (x0:aF) (x1:aF) (df:Int) (du:Int) (lp:(List Int)) (o4:Int):Option (Out ((List Int)×Int) (aF)):=
 (bif decide (o4 < (x0.aE.length:Int)) then (af (ae 10 (ah (fun s=>gD x0 x1 df du o4 s.1 s.2) (lp,(0:Int)))) (fun (s6,nq)=>(some (Out.norm (s6,aj (o4+(1:Int))))))) else (some (Out.exit 8 (lp,o4))))
def gF (x0:aF) (x1:aF) (df:Int) (du:Int) (Ag:(List Int)) (Ah:(List Int)) (Ai:(List (List Int))):Option (Out (Int×(List Int)×(List Int)×(List (List Int))) (aF)):=
 (bif decide (du < (x1.aE.length:Int)) then ((idx x0.aE (df))>>=fun aga=>((idx x1.aE (du))>>=fun agb=>((fits 8 (Ag.length+1))>>=fun n318=>((idx x0.To (df))>>=fun agc=>((idx x1.To (du))>>=fun S8=>((fits 8 (Ah.length+1))>>=fun atY=>(af (ae 8 (ah (fun s=>gE x0 x1 df du s.1 s.2) (([]:(List Int)),(0:Int)))) (fun (lp,o4)=>((fits 24 (Ai.length+1))>>=fun atZ=>(some (Out.norm (aj (du+(1:Int)),Ag++[aj (aj (aga * x1.aA)+agb)],Ah++[aj (aj (agc * x1.aA)+S8)],Ai++[lp])))))))))))) else (some (Out.exit 6 (du,Ag,Ah,Ai))))
def gG (x0:aF) (x1:aF) (df:Int) (Cz:(List Int)) (CA:(List Int)) (CB:(List (List Int))):Option (Out (Int×(List Int)×(List Int)×(List (List Int))) (aF)):=
 (bif decide (df < (x0.aE.length:Int)) then (af (ae 6 (ah (fun s=>gF x0 x1 df s.1 s.2.1 s.2.2.1 s.2.2.2) ((0:Int),Cz,CA,CB))) (fun (du,Ag,Ah,Ai)=>(some (Out.norm (aj (df+(1:Int)),Ag,Ah,Ai))))) else (some (Out.exit 4 (df,Cz,CA,CB))))
def gO (x0:aF) (x1:aF):Option (aF):=
 ak (S:=Unit) (af (ae 0 (ah (fun s=>gC x0 x1 s.1 s.2) ((0:Int),([]:(List Int))))) (fun (ib,Cy)=>(af (ae 4 (ah (fun s=>gG x0 x1 s.1 s.2.1 s.2.2.1 s.2.2.2) ((0:Int),([]:(List Int)),([]:(List Int)),([]:(List (List Int)))))) (fun (df,Cz,CA,CB)=>(some (Out.ret ((aF.mk (aj (x0.aA * x1.aA)) Cz CA Cy CB))))))))
def qZ (x0:aJ) (x1:Int) (x2:Int) (bb:Int) (jz:Int) (j3:Int):Option (Out (Int×Int×Int) (aF×aJ)):=
 (bif decide (bb < (12:Int)) then ((jK (aJ.mk x0.Code jz j3))>>=fun yn=>((bY (aJ.mk x0.Code yn.2.At yn.2.an) ((5:Int)))>>=fun De=>(bif (De.1) == ((0:Int)) then ((jK (aJ.mk x0.Code De.2.At De.2.an))>>=fun Zq=>((kQ yn.1 Zq.1)>>=fun KR=>((bY (aJ.mk x0.Code Zq.2.At Zq.2.an) ((8:Int)))>>=fun FB=>(bif (FB.1) == ((0:Int)) then ((jK (aJ.mk x0.Code FB.2.At FB.2.an))>>=fun KS=>((gO KR KS.1)>>=fun OI=>(((bif decide (OI.aA≤x1) then (bif decide ((OI.aE.length:Int)≤x2) then ((dT OI)>>=fun agd=>(some (agd))) else (some (false))) else (some (false))))>>=fun age=>(bif age then (some (Out.ret ((OI,(aJ.mk x0.Code KS.2.At KS.2.an))))) else (some (Out.norm (aj (bb+(1:Int)),KS.2.At,KS.2.an))))))) else (((bif decide (KR.aA≤x1) then (bif decide ((KR.aE.length:Int)≤x2) then ((dT KR)>>=fun TB=>(some (TB))) else (some (false))) else (some (false))))>>=fun agf=>(bif agf then (some (Out.ret ((KR,(aJ.mk x0.Code FB.2.At FB.2.an))))) else (some (Out.norm (aj (bb+(1:Int)),FB.2.At,FB.2.an))))))))) else ((bY (aJ.mk x0.Code De.2.At De.2.an) ((8:Int)))>>=fun FC=>(bif (FC.1) == ((0:Int)) then ((jK (aJ.mk x0.Code FC.2.At FC.2.an))>>=fun FD=>((gO yn.1 FD.1)>>=fun OJ=>(((bif decide (OJ.aA≤x1) then (bif decide ((OJ.aE.length:Int)≤x2) then ((dT OJ)>>=fun agh=>(some (agh))) else (some (false))) else (some (false))))>>=fun agi=>(bif agi then (some (Out.ret ((OJ,(aJ.mk x0.Code FD.2.At FD.2.an))))) else (some (Out.norm (aj (bb+(1:Int)),FD.2.At,FD.2.an))))))) else (((bif decide (yn.1.aA≤x1) then (bif decide ((yn.1.aE.length:Int)≤x2) then ((dT yn.1)>>=fun agj=>(some (agj))) else (some (false))) else (some (false))))>>=fun agk=>(bif agk then (some (Out.ret ((yn.1,(aJ.mk x0.Code FC.2.At FC.2.an))))) else (some (Out.norm (aj (bb+(1:Int)),FC.2.At,FC.2.an)))))))))) else (some (Out.exit 0 (bb,jz,j3))))
def iN (x0:aJ) (x1:Int) (x2:Int):Option (aF×aJ):=
 ak (S:=Unit) (af (ae 0 (ah (fun s=>qZ x0 x1 x2 s.1 s.2.1 s.2.2) ((0:Int),x0.At,x0.an))) (fun (bb,jz,j3)=>((fE [[(1:Int)]])>>=fun agl=>(some (Out.ret ((agl,(aJ.mk x0.Code jz j3))))))))
def jL (x0:aF) (x1:Int) (x2:Int) (bb:(List Int)) (ib:Int):Option (Out ((List Int)×Int) ((List Int))):=
 (bif decide (ib < (x0.aE.length:Int)) then ((((idx x0.aE (ib))>>=fun Df=>(bif (Df) == (x1) then ((idx x0.To (ib))>>=fun Zr=>(some ((Zr) == (x2)))) else (some (false)))))>>=fun Qp=>(bif Qp then ((fits 8 (bb.length+1))>>=fun n50=>(some (Out.norm (bb++[ib],aj (ib+(1:Int)))))) else (some (Out.norm (bb,aj (ib+(1:Int))))))) else (some (Out.exit 0 (bb,ib))))
def eY (x0:aF) (x1:Int) (x2:Int):Option ((List Int)):=
 ak (S:=Unit) (af (ae 0 (ah (fun s=>jL x0 x1 x2 s.1 s.2) (([]:(List Int)),(0:Int)))) (fun (bb,ib)=>(some (Out.ret (bb)))))
def tR (x0:aF) (x1:aF) (x2:(List Int)) (bb:Int):Option (Out (Int) (Bool)):=
 (bif decide (bb < (x0.aE.length:Int)) then ((idx x0.aE (bb))>>=fun KT=>((idx x0.To (bb))>>=fun IF=>(bif decide (KT < (x2.length:Int)) then (bif decide (IF < (x2.length:Int)) then ((idx x2 (KT))>>=fun KJ=>((idx x2 (IF))>>=fun Zs=>((eY x1 (KJ) (Zs))>>=fun yR=>(bif ((yR.length:Int)) == ((0:Int)) then (some (Out.ret (false))) else (some (Out.norm (aj (bb+(1:Int))))))))) else (some (Out.norm (aj (bb+(1:Int)))))) else (some (Out.norm (aj (bb+(1:Int)))))))) else (some (Out.exit 0 (bb))))
def pX (x0:aF) (x1:aF) (x2:(List Int)):Option (Bool):=
 ak (S:=Unit) (af (ae 0 (ah (tR x0 x1 x2) ((0:Int)))) (fun bb=>(some (Out.ret (true)))))
def qI (x0:aF) (x1:aF) (cy:Int) (vZ:Bool) (bx:Int) (nh:(List Int)):Option (Out (Bool×Int×(List Int)) (Bool×(List Int))):=
 (bif decide (bx < (nh.length:Int)) then ((idx x0.aC (cy))>>=fun DW=>((idx DW (bx))>>=fun Dc=>(((bif decide (Dc < (0:Int)) then (some (true)) else ((idx nh (cy))>>=fun Qq=>(bif decide (Qq < (0:Int)) then (some (true)) else ((idx nh (bx))>>=fun Fe=>(some (decide (Fe < (0:Int)))))))))>>=fun g66=>(bif g66 then (some (Out.norm (vZ,aj (bx+(1:Int)),nh))) else ((idx nh (cy))>>=fun Ng=>((idx x1.aC (Ng))>>=fun GH=>((idx nh (bx))>>=fun Fc=>((idx GH (Fc))>>=fun e90=>((((idx nh (Dc))>>=fun Zt=>(bif decide (Zt ≥ (0:Int)) then ((idx nh (Dc))>>=fun Vq=>(some ((Vq) != (e90)))) else (some (false)))))>>=fun g94=>(bif g94 then (some (Out.ret ((false,nh)))) else (((bif vZ then (some (true)) else ((idx nh (Dc))>>=fun Fz=>(some (decide (Fz < (0:Int)))))))>>=fun agm=>((idx nh (Dc))>>=fun agn=>(some (Out.norm (agm,aj (bx+(1:Int)),nh.set (Dc).toNat (e90)))))))))))))))) else (some (Out.exit 4 (vZ,bx,nh))))
def qJ (x0:aF) (x1:aF) (jk:Bool) (cy:Int) (BQ:(List Int)):Option (Out (Bool×Int×(List Int)) (Bool×(List Int))):=
 (bif decide (cy < (BQ.length:Int)) then (af (ae 4 (ah (fun s=>qI x0 x1 cy s.1 s.2.1 s.2.2) (jk,(0:Int),BQ))) (fun (vZ,bx,nh)=>(some (Out.norm (vZ,aj (cy+(1:Int)),nh))))) else (some (Out.exit 2 (jk,cy,BQ))))
def qK (x0:aF) (x1:aF) (bb:Bool) (ED:(List Int)):Option (Out (Bool×(List Int)) (Bool×(List Int))):=
 (bif bb then (af (ae 2 (ah (fun s=>qJ x0 x1 s.1 s.2.1 s.2.2) (false,(0:Int),ED))) (fun (jk,cy,BQ)=>(some (Out.norm (jk,BQ))))) else (some (Out.exit 0 (bb,ED))))
def pY (x0:aF) (x1:aF) (x2:(List Int)):Option (Bool×(List Int)):=
 ak (S:=Unit) (af (ae 0 (ah (fun s=>qK x0 x1 s.1 s.2) (true,x2))) (fun (bb,ED)=>(some (Out.ret ((true,ED))))))
def tM (x3:(List Int)) (bh:Int):Option (Out (Int) ((List (List Int)))):=
 (((bif decide (bh < (x3.length:Int)) then ((idx x3 (bh))>>=fun DX=>(some (decide (DX ≥ (0:Int))))) else (some (false))))>>=fun g32=>(bif g32 then (some (Out.norm (aj (bh+(1:Int))))) else (some (Out.exit 0 (bh)))))
def pJ (rc:aF→aF→(List Int)→(List Int)→Int→(List (List Int))→Option ((List (List Int)))) (x0:aF) (x1:aF) (x2:(List Int)) (x3:(List Int)) (bh:Int) (Vs:(List Int)) (mj:(List (List Int))) (jh:Int):Option (Out ((List (List Int))×Int) ((List (List Int)))):=
 (((bif decide (jh < (Vs.length:Int)) then (some (decide ((mj.length:Int)≤(200:Int)))) else (some (false))))>>=fun ago=>(bif ago then ((dN x3)>>=fun Zu=>((idx Vs (jh))>>=fun KU=>((idx Zu (bh))>>=fun OK=>((pY x0 x1 (Zu.set (bh).toNat (KU)))>>=fun Zv=>(bif Zv.1 then ((rc x0 x1 x2 Zv.2 (aj (bh+(1:Int))) mj)>>=fun agp=>(some (Out.norm (agp,aj (jh+(1:Int)))))) else (some (Out.norm (mj,aj (jh+(1:Int)))))))))) else (some (Out.exit 2 (mj,jh)))))
def mW (rc:aF→aF→(List Int)→(List Int)→Int→(List (List Int))→Option ((List (List Int)))) (x0:aF) (x1:aF) (x2:(List Int)) (x3:(List Int)) (x4:Int) (x5:(List (List Int))):Option ((List (List Int))):=
 ak (S:=Unit) (af (ae 0 (ah (tM x3) (x4))) (fun bh=>(bif (bh) == ((x3.length:Int)) then ((dN x3)>>=fun Zw=>((fits 24 (x5.length+1))>>=fun n70=>(some (Out.ret ((x5++[Zw])))))) else ((idx x0.aE (bh))>>=fun e75=>((idx x2 (e75))>>=fun e77=>((idx x0.To (bh))>>=fun Ng=>((idx x2 (Ng))>>=fun GH=>((eY x1 (e77) (GH))>>=fun Vs=>(af (ae 2 (ah (fun s=>pJ rc x0 x1 x2 x3 bh Vs s.1 s.2) (x5,(0:Int)))) (fun (mj,jh)=>(some (Out.ret (mj)))))))))))))
def jM:Nat→aF→aF→(List Int)→(List Int)→Int→(List (List Int))→Option ((List (List Int)))
 | 0=>fun _ _ _ _ _ _=>none
 | n+1=>mW (jM n)
def gH (x0:aF) (x1:aF) (x2:(List Int)) (x3:(List Int)):Option (aP):=
 ak (S:=Unit) ((mC x0)>>=fun nn=>((mC x1)>>=fun y60=>((dN x2)>>=fun agq=>((dN x3)>>=fun ags=>(some (Out.ret ((aP.mk nn y60 agq ags))))))))
def pK (x0:aF) (dn:(List Int)) (l9:Int):Option (Out ((List Int)×Int) ((List aP))):=
 (bif decide (l9 < (x0.aE.length:Int)) then ((fits 8 (dn.length+1))>>=fun n78=>(some (Out.norm (dn++[(-1:Int)],aj (l9+(1:Int)))))) else (some (Out.exit 0 (dn,l9))))
def pL (x0:aF) (x1:aF) (x2:(List Int)) (vR:Int) (DY:(List Int)):Option (Out (Int×(List Int)) ((List aP))):=
 (bif decide (vR < (x2.length:Int)) then ((idx x0.aH (vR))>>=fun OL=>((idx x2 (vR))>>=fun HG=>((idx x1.aH (HG))>>=fun FG=>((idx DY (OL))>>=fun ON=>(some (Out.norm (aj (vR+(1:Int)),DY.set (OL).toNat (FG)))))))) else (some (Out.exit 2 (vR,DY))))
def pM (x0:aF) (x1:aF) (x2:(List Int)) (wX:(List (List Int))) (HH:(List aP)) (GI:Int):Option (Out ((List aP)×Int) ((List aP))):=
 (((bif decide (GI < (wX.length:Int)) then (some (decide ((HH.length:Int)≤(200:Int)))) else (some (false))))>>=fun agt=>(bif agt then ((idx wX (GI))>>=fun agu=>((gH x0 x1 x2 agu)>>=fun agv=>((fits 256 (HH.length+1))>>=fun n290=>(some (Out.norm (HH++[agv],aj (GI+(1:Int)))))))) else (some (Out.exit 4 (HH,GI)))))
def pN (rc:aF→aF→(List Int)→(List aP)→Option ((List aP))) (x0:aF) (x1:aF) (x2:(List Int)) (KV:(List aP)) (GJ:Int):Option (Out ((List aP)×Int) ((List aP))):=
 (((bif decide (GJ < x1.aA) then (some (decide ((KV.length:Int)≤(200:Int)))) else (some (false))))>>=fun agw=>(bif agw then ((dN x2)>>=fun FH=>((fits 8 (FH.length+1))>>=fun n342=>((rc x0 x1 (FH++[GJ]) KV)>>=fun agx=>(some (Out.norm (agx,aj (GJ+(1:Int)))))))) else (some (Out.exit 6 (KV,GJ)))))
def mX (rc:aF→aF→(List Int)→(List aP)→Option ((List aP))) (x0:aF) (x1:aF) (x2:(List Int)) (x3:(List aP)):Option ((List aP)):=
 ak (S:=Unit) ((pX x0 x1 x2)>>=fun Aa=>(bif !(Aa) then (some (Out.ret (x3))) else (bif ((x2.length:Int)) == (x0.aA) then (af (ae 0 (ah (fun s=>pK x0 s.1 s.2) (([]:(List Int)),(0:Int)))) (fun (dn,l9)=>(af (ae 2 (ah (fun s=>pL x0 x1 x2 s.1 s.2) ((0:Int),dn))) (fun (vR,DY)=>((jM 64 x0 x1 x2 DY ((0:Int)) (([]:(List (List Int)))))>>=fun wX=>(af (ae 4 (ah (fun s=>pM x0 x1 x2 wX s.1 s.2) (x3,(0:Int)))) (fun (HH,GI)=>(some (Out.ret (HH)))))))))) else (af (ae 6 (ah (fun s=>pN rc x0 x1 x2 s.1 s.2) (x3,(0:Int)))) (fun (KV,GJ)=>(some (Out.ret (KV))))))))
def jN:Nat→aF→aF→(List Int)→(List aP)→Option ((List aP))
 | 0=>fun _ _ _ _=>none
 | n+1=>mX (jN n)
def mD (x0:aF) (x1:aF):Option ((List aP)):=
 ak (S:=Unit) ((jN 64 x0 x1 (([]:(List Int))) (([]:(List aP))))>>=fun Zx=>(some (Out.ret (Zx))))
def eZ (x0:aF) (gf:(List Int)) (ao:Int):Option (Out ((List Int)×Int) (aP)):=
 (bif decide (ao < x0.aA) then ((fits 8 (gf.length+1))>>=fun n65=>(some (Out.norm (gf++[ao],aj (ao+(1:Int)))))) else (some (Out.exit 0 (gf,ao))))
def fA (x0:aF) (v7:(List Int)) (ef:Int):Option (Out ((List Int)×Int) (aP)):=
 (bif decide (ef < (x0.aE.length:Int)) then ((fits 8 (v7.length+1))>>=fun n107=>(some (Out.norm (v7++[ef],aj (ef+(1:Int)))))) else (some (Out.exit 2 (v7,ef))))
def eJ (x0:aF):Option (aP):=
 ak (S:=Unit) (af (ae 0 (ah (fun s=>eZ x0 s.1 s.2) (([]:(List Int)),(0:Int)))) (fun (gf,ao)=>(af (ae 2 (ah (fun s=>fA x0 s.1 s.2) (([]:(List Int)),(0:Int)))) (fun (v7,ef)=>((gH x0 x0 gf v7)>>=fun agy=>(some (Out.ret (agy))))))))
def tS (x0:(List Int)) (x1:Int) (ao:Int):Option (Out (Int) (Int)):=
 (bif decide (ao < (x0.length:Int)) then ((idx x0 (ao))>>=fun e9=>(bif (e9) == (x1) then (some (Out.ret (ao))) else (some (Out.norm (aj (ao+(1:Int))))))) else (some (Out.exit 0 (ao))))
def pZ (x0:(List Int)) (x1:Int):Option (Int):=
 ak (S:=Unit) (af (ae 0 (ah (tS x0 x1) ((0:Int)))) (fun ao=>(some (Out.ret (((-1:Int)))))))
def oD (x0:(List Int)) (gf:(List Int)) (bh:(List Int)) (ao:Int):Option (Out ((List Int)×(List Int)×Int) ((List Int))):=
 (bif decide (ao < (x0.length:Int)) then ((idx x0 (ao))>>=fun GK=>((pZ bh (GK))>>=fun Nh=>(bif decide (Nh < (0:Int)) then ((idx x0 (ao))>>=fun IG=>((fits 8 (bh.length+1))>>=fun n57=>((fits 8 (gf.length+1))>>=fun n77=>(some (Out.norm (gf++[(bh.length:Int)],bh++[IG],aj (ao+(1:Int)))))))) else ((fits 8 (gf.length+1))>>=fun n99=>(some (Out.norm (gf++[Nh],bh,aj (ao+(1:Int))))))))) else (some (Out.exit 0 (gf,bh,ao))))
def nT (x0:(List Int)):Option ((List Int)):=
 ak (S:=Unit) (af (ae 0 (ah (fun s=>oD x0 s.1 s.2.1 s.2.2) (([]:(List Int)),([]:(List Int)),(0:Int)))) (fun (gf,bh,ao)=>(some (Out.ret (gf)))))
def rA (x0:Int) (ao:(List Int)) (cf:Int):Option (Out ((List Int)×Int) ((List Int))):=
 (bif decide (cf < x0) then ((fits 8 (ao.length+1))>>=fun n32=>(some (Out.norm (ao++[cf],aj (cf+(1:Int)))))) else (some (Out.exit 0 (ao,cf))))
def rB (Ni:Int) (IH:Int) (df:Int) (yo:(List Int)):Option (Out (Int×(List Int)) ((List Int))):=
 (((bif decide (df < (yo.length:Int)) then (some ((Ni) != (IH))) else (some (false))))>>=fun g72=>(bif g72 then ((idx yo (df))>>=fun Zy=>(bif (Zy) == (IH) then ((idx yo (df))>>=fun e83=>(some (Out.norm (aj (df+(1:Int)),yo.set (df).toNat (Ni))))) else (some (Out.norm (aj (df+(1:Int)),yo))))) else (some (Out.exit 4 (df,yo)))))
def rC (x1:(List (List Int))) (jk:Int) (BR:(List Int)):Option (Out (Int×(List Int)) ((List Int))):=
 (bif decide (jk < (x1.length:Int)) then ((idx x1 (jk))>>=fun Nj=>((idx Nj ((0:Int)))>>=fun DZ=>((idx BR (DZ))>>=fun Ni=>((idx x1 (jk))>>=fun Zz=>((idx Zz ((1:Int)))>>=fun e63=>((idx BR (e63))>>=fun IH=>(af (ae 4 (ah (fun s=>rB Ni IH s.1 s.2) ((0:Int),BR))) (fun (df,yo)=>(some (Out.norm (aj (jk+(1:Int)),yo))))))))))) else (some (Out.exit 2 (jk,BR))))
def rD (x0:Int) (x1:(List (List Int))):Option ((List Int)):=
 ak (S:=Unit) (af (ae 0 (ah (fun s=>rA x0 s.1 s.2) (([]:(List Int)),(0:Int)))) (fun (ao,cf)=>(af (ae 2 (ah (fun s=>rC x1 s.1 s.2) ((0:Int),ao))) (fun (jk,BR)=>((nT BR)>>=fun y97=>(some (Out.ret (y97))))))))
def uD (x0:aF) (x1:Int) (ao:(List Int)) (cf:Int):Option (Out ((List Int)×Int) ((List Int))):=
 (bif decide (cf < (x0.aE.length:Int)) then ((((idx x0.aE (cf))>>=fun Df=>((idx x0.To (x1))>>=fun GK=>(bif (Df) == (GK) then ((idx x0.To (cf))>>=fun GL=>((idx x0.aE (x1))>>=fun GM=>(bif (GL) == (GM) then ((idx x0.aC (x1))>>=fun GN=>((idx GN (cf))>>=fun yp=>((idx x0.aE (x1))>>=fun BO=>((idx x0.aH (BO))>>=fun Qr=>(some ((yp) == (Qr))))))) else (some (false))))) else (some (false))))))>>=fun Qp=>(bif Qp then ((fits 8 (ao.length+1))>>=fun n68=>(some (Out.norm (ao++[cf],aj (cf+(1:Int)))))) else (some (Out.norm (ao,aj (cf+(1:Int))))))) else (some (Out.exit 0 (ao,cf))))
def sF (x0:aF) (x1:Int):Option ((List Int)):=
 ak (S:=Unit) (af (ae 0 (ah (fun s=>uD x0 x1 s.1 s.2) (([]:(List Int)),(0:Int)))) (fun (ao,cf)=>(some (Out.ret (ao)))))
def uI (x0:aF) (x1:Int) (ao:(List Int)) (cf:Int):Option (Out ((List Int)×Int) ((List Int))):=
 (bif decide (cf < (x0.aE.length:Int)) then ((((idx x0.aE (cf))>>=fun Df=>((idx x0.To (x1))>>=fun GK=>(bif (Df) == (GK) then ((idx x0.To (cf))>>=fun GL=>((idx x0.aE (x1))>>=fun GM=>(bif (GL) == (GM) then ((idx x0.aC (cf))>>=fun GN=>((idx GN (x1))>>=fun yp=>((idx x0.To (x1))>>=fun BO=>((idx x0.aH (BO))>>=fun Qr=>(some ((yp) == (Qr))))))) else (some (false))))) else (some (false))))))>>=fun Qp=>(bif Qp then ((fits 8 (ao.length+1))>>=fun n68=>(some (Out.norm (ao++[cf],aj (cf+(1:Int)))))) else (some (Out.norm (ao,aj (cf+(1:Int))))))) else (some (Out.exit 0 (ao,cf))))
def tT (x0:aF) (x1:Int):Option ((List Int)):=
 ak (S:=Unit) (af (ae 0 (ah (fun s=>uI x0 x1 s.1 s.2) (([]:(List Int)),(0:Int)))) (fun (ao,cf)=>(some (Out.ret (ao)))))
def vG (x0:(List Int)) (x1:Int) (ao:Int):Option (Out (Int) (Bool)):=
 (bif decide (ao < (x0.length:Int)) then ((idx x0 (ao))>>=fun e9=>(bif (e9) == (x1) then (some (Out.ret (true))) else (some (Out.norm (aj (ao+(1:Int))))))) else (some (Out.exit 0 (ao))))
def uW (x0:(List Int)) (x1:Int):Option (Bool):=
 ak (S:=Unit) (af (ae 0 (ah (vG x0 x1) ((0:Int)))) (fun ao=>(some (Out.ret (false)))))
def uN (y8:(List Int)) (uw:(List Int)) (bb:Int):Option (Out (Int) (Int)):=
 (bif decide (bb < (y8.length:Int)) then ((idx y8 (bb))>>=fun GM=>((uW uw (GM))>>=fun KN=>(bif KN then ((idx y8 (bb))>>=fun KW=>(some (Out.ret (KW)))) else (some (Out.norm (aj (bb+(1:Int)))))))) else (some (Out.exit 0 (bb))))
def tX (x0:aF) (x1:Int):Option (Int):=
 ak (S:=Unit) ((sF x0 (x1))>>=fun y8=>((tT x0 (x1))>>=fun uw=>(af (ae 0 (ah (uN y8 uw) ((0:Int)))) (fun bb=>(some (Out.ret (((-1:Int)))))))))
def kY (x0:aP) (x1:aP) (x2:(List Int)) (x3:Int):Option (Bool):=
 ak (S:=Unit) ((idx x0.ab (x3))>>=fun Qs=>((idx x0.aG.aC (Qs))>>=fun Nj=>((idx x0.aB.To (x3))>>=fun DZ=>((idx x2 (DZ))>>=fun Ni=>((idx Nj (Ni))>>=fun Zz=>((idx x0.aB.aE (x3))>>=fun e58=>((idx x2 (e58))>>=fun e60=>((idx x0.aG.aC (e60))>>=fun Dc=>((idx x1.ab (x3))>>=fun Qq=>((idx Dc (Qq))>>=fun ZA=>(some (Out.ret (((Zz) == (ZA)))))))))))))))
def oE (x0:dD) (x2:Int) (DV:(List Int)) (Dg:Int) (x7:Bool) (jh:Int):Option (Out (Bool×Int) ((List Int))):=
 (((bif x7 then (some (decide (jh < (x0.F.ab.length:Int)))) else (some (false))))>>=fun agz=>(bif agz then ((idx x0.F.aB.aE (jh))>>=fun KU=>((idx x0.F.aB.To (jh))>>=fun OK=>(((bif (KU) != (x2) then (bif (OK) != (x2) then (some (true)) else ((idx (DV.set (x2).toNat (Dg)) (KU))>>=fun agA=>(bif decide (agA < (0:Int)) then (some (true)) else ((idx (DV.set (x2).toNat (Dg)) (OK))>>=fun TC=>(bif decide (TC < (0:Int)) then (some (true)) else ((kY x0.F x0.G (DV.set (x2).toNat (Dg)) (jh))>>=fun KX=>(some (KX)))))))) else ((idx (DV.set (x2).toNat (Dg)) (KU))>>=fun ZB=>(bif decide (ZB < (0:Int)) then (some (true)) else ((idx (DV.set (x2).toNat (Dg)) (OK))>>=fun agB=>(bif decide (agB < (0:Int)) then (some (true)) else ((kY x0.F x0.G (DV.set (x2).toNat (Dg)) (jh))>>=fun agC=>(some (agC)))))))))>>=fun agD=>(some (Out.norm (agD,aj (jh+(1:Int)))))))) else (some (Out.exit 2 (x7,jh)))))
def oF (x0:dD) (x1:(List Int)) (x2:Int) (Dd:(List Int)) (l9:(List Int)) (iw:Int):Option (Out ((List Int)×Int) ((List Int))):=
 (bif decide (iw < (Dd.length:Int)) then (((bif x0.AS then ((idx Dd (iw))>>=fun Qt=>((tX x0.F.aG (Qt))>>=fun ZC=>(some (decide (ZC < (0:Int)))))) else (some (false))))>>=fun g73=>(bif g73 then (some (Out.norm (l9,aj (iw+(1:Int))))) else ((dN x1)>>=fun DV=>((idx Dd (iw))>>=fun Dg=>((idx DV (x2))>>=fun Vq=>(af (ae 2 (ah (fun s=>oE x0 x2 DV Dg s.1 s.2) (true,(0:Int)))) (fun (x7,jh)=>(bif x7 then ((idx Dd (iw))>>=fun TD=>((fits 8 (l9.length+1))>>=fun n184=>(some (Out.norm (l9++[TD],aj (iw+(1:Int))))))) else (some (Out.norm (l9,aj (iw+(1:Int))))))))))))) else (some (Out.exit 0 (l9,iw))))
def lT (x0:dD) (x1:(List Int)) (x2:Int):Option ((List Int)):=
 ak (S:=Unit) ((idx x0.F.aA (x2))>>=fun KJ=>((idx x0.G.aA (x2))>>=fun GM=>((eY x0.F.aG (KJ) (GM))>>=fun Dd=>(af (ae 0 (ah (fun s=>oF x0 x1 x2 Dd s.1 s.2) (([]:(List Int)),(0:Int)))) (fun (l9,iw)=>(some (Out.ret (l9))))))))
def tD (x0:dD) (x1:(List Int)) (bh:Int) (ao:Int):Option (Out (Int×Int) (dD)):=
 (bif decide (ao ≥ (0:Int)) then ((idx x1 (ao))>>=fun GM=>(bif (GM) == ((-1:Int)) then ((lT x0 x1 (ao))>>=fun Qu=>(bif ((Qu.length:Int)) == ((0:Int)) then (some (Out.ret (x0))) else (some (Out.norm (ao,aj (ao - (1:Int))))))) else (some (Out.norm (bh,aj (ao - (1:Int))))))) else (some (Out.exit 0 (bh,ao))))
def tE (rc:dD→(List Int)→Option (dD)) (x0:dD) (x1:(List Int)) (bh:Int) (xO:(List Int)) (jk:Int) (AW:Int) (AX:Int) (zb:Int) (zd:Int) (ze:Bool) (wY:Int) (wZ:(List (List Int))):Option (Out (Int×Int×Int×Int×Int×Bool×Int×(List (List Int))) (dD)):=
 (((bif decide (jk < (xO.length:Int)) then (some (decide ((wZ.length:Int) < wY))) else (some (false))))>>=fun agE=>(bif agE then ((dN x1)>>=fun ZD=>((idx xO (jk))>>=fun TE=>((idx ZD (bh))>>=fun ZB=>((rc (dD.mk (aP.mk (aF.mk AW x0.F.aB.aE x0.F.aB.To x0.F.aB.aH x0.F.aB.aC) (aF.mk AX x0.F.aG.aE x0.F.aG.To x0.F.aG.aH x0.F.aG.aC) x0.F.aA x0.F.ab) (aP.mk (aF.mk zb x0.G.aB.aE x0.G.aB.To x0.G.aB.aH x0.G.aB.aC) (aF.mk zd x0.G.aG.aE x0.G.aG.To x0.G.aG.aH x0.G.aG.aC) x0.G.aA x0.G.ab) ze wY wZ) (ZD.set (bh).toNat (TE)))>>=fun FI=>(some (Out.norm (aj (jk+(1:Int)),FI.F.aB.aA,FI.F.aG.aA,FI.G.aB.aA,FI.G.aG.aA,FI.AS,FI.xN,FI.Found))))))) else (some (Out.exit 2 (jk,AW,AX,zb,zd,ze,wY,wZ)))))
def rE (rc:dD→(List Int)→Option (dD)) (x0:dD) (x1:(List Int)):Option (dD):=
 Hu (R:=(dD)) (af (ae 0 (ah (fun s=>tD x0 x1 s.1 s.2) ((-1:Int),aj ((x1.length:Int) - (1:Int))))) (fun (bh,ao)=>(bif decide (bh < (0:Int)) then ((dN x1)>>=fun Qv=>((fits 24 (x0.Found.length+1))>>=fun n89=>(some (Out.ret ((dD.mk x0.F x0.G x0.AS x0.xN (x0.Found++[Qv]))))))) else ((lT x0 x1 (bh))>>=fun xO=>(af (ae 2 (ah (fun s=>tE rc x0 x1 bh xO s.1 s.2.1 s.2.2.1 s.2.2.2.1 s.2.2.2.2.1 s.2.2.2.2.2.1 s.2.2.2.2.2.2.1 s.2.2.2.2.2.2.2) ((0:Int),x0.F.aB.aA,x0.F.aG.aA,x0.G.aB.aA,x0.G.aG.aA,x0.AS,x0.xN,x0.Found))) (fun (jk,AW,AX,zb,zd,ze,wY,wZ)=>(some (Out.norm ((dD.mk (aP.mk (aF.mk AW x0.F.aB.aE x0.F.aB.To x0.F.aB.aH x0.F.aB.aC) (aF.mk AX x0.F.aG.aE x0.F.aG.To x0.F.aG.aH x0.F.aG.aC) x0.F.aA x0.F.ab) (aP.mk (aF.mk zb x0.G.aB.aE x0.G.aB.To x0.G.aB.aH x0.G.aB.aC) (aF.mk zd x0.G.aG.aE x0.G.aG.To x0.G.aG.aH x0.G.aG.aC) x0.G.aA x0.G.ab) ze wY wZ))))))))))
def kN:Nat→dD→(List Int)→Option (dD)
 | 0=>fun _ _=>none
 | n+1=>rE (kN n)
def rF (x0:aP) (l9:(List (List Int))) (iw:Int):Option (Out ((List (List Int))×Int) ((List (List Int)))):=
 (bif decide (iw < (x0.aB.aE.length:Int)) then ((idx x0.aB.aE (iw))>>=fun Vn=>((idx x0.aB.To (iw))>>=fun DW=>((fits 24 (l9.length+1))>>=fun n68=>(some (Out.norm (l9++[([Vn,DW]:(List Int))],aj (iw+(1:Int)))))))) else (some (Out.exit 0 (l9,iw))))
def rG (KY:(List Int)) (jh:Int) (CC:(List Int)) (EE:Int):Option (Out ((List Int)×Int) ((List (List Int)))):=
 (bif decide (EE < (KY.length:Int)) then ((idx KY (EE))>>=fun agF=>(bif (agF) == (jh) then ((fits 8 (CC.length+1))>>=fun n191=>(some (Out.norm (CC++[(-1:Int)],aj (EE+(1:Int)))))) else ((fits 8 (CC.length+1))>>=fun n219=>(some (Out.norm (CC++[(-2:Int)],aj (EE+(1:Int)))))))) else (some (Out.exit 4 (CC,EE))))
def rH (x0:aP) (x1:aP) (x2:Bool) (KY:(List Int)) (x7:(List Int)) (jh:Int):Option (Out ((List Int)×Int) ((List (List Int)))):=
 (bif decide (jh < (KY.length:Int)) then ((fits 8 (x7.length+1))>>=fun n132=>(af (ae 4 (ah (fun s=>rG KY jh s.1 s.2) (([]:(List Int)),(0:Int)))) (fun (CC,EE)=>((kN 64 (dD.mk x0 x1 x2 ((1:Int)) (([]:(List (List Int))))) CC)>>=fun agG=>(bif ((agG.Found.length:Int)) == ((0:Int)) then (some (Out.ret ((([]:(List (List Int))))))) else (some (Out.norm (x7++[(-1:Int)],aj (jh+(1:Int)))))))))) else (some (Out.exit 2 (x7,jh))))
def rK (x0:aP) (x1:aP) (x2:Bool) (x3:Int):Option ((List (List Int))):=
 ak (S:=Unit) (af (ae 0 (ah (fun s=>rF x0 s.1 s.2) (([]:(List (List Int))),(0:Int)))) (fun (l9,iw)=>((rD (x0.aB.aA) l9)>>=fun KY=>(af (ae 2 (ah (fun s=>rH x0 x1 x2 KY s.1 s.2) (([]:(List Int)),(0:Int)))) (fun (x7,jh)=>((kN 64 (dD.mk x0 x1 x2 x3 (([]:(List (List Int))))) x7)>>=fun agH=>(some (Out.ret (agH.Found)))))))))
def nK (x0:aP) (x1:aP):Option ((List (List Int))):=
 ak (S:=Unit) ((rK x0 x1 (false) ((201:Int)))>>=fun qp=>(some (Out.ret (qp))))
def lU (x0:(List Int)) (x1:(List Int)) (ao:(List Int)) (cf:Int):Option (Out ((List Int)×Int) ((List Int))):=
 (bif decide (cf < (x0.length:Int)) then ((idx x0 (cf))>>=fun yQ=>((idx x1 (yQ))>>=fun KZ=>((fits 8 (ao.length+1))>>=fun n36=>(some (Out.norm (ao++[KZ],aj (cf+(1:Int)))))))) else (some (Out.exit 0 (ao,cf))))
def oG (x0:(List Int)) (x1:(List Int)):Option ((List Int)):=
 ak (S:=Unit) (af (ae 0 (ah (fun s=>lU x0 x1 s.1 s.2) (([]:(List Int)),(0:Int)))) (fun (ao,cf)=>(some (Out.ret (ao)))))
def jT (x0:aP) (x1:aP):Option (aP):=
 ak (S:=Unit) ((oG x0.aA x1.aA)>>=fun nn=>((oG x0.ab x1.ab)>>=fun KN=>((gH x0.aB x1.aG nn KN)>>=fun KO=>(some (Out.ret (KO))))))
def kE (x0:aP):Option (aP):=
 ak (S:=Unit) ((jT x0 x0)>>=fun qp=>(some (Out.ret (qp))))
def eK (x0:aF) (x1:Int) (x2:Int):Option (Int):=
 ak (S:=Unit) ((idx x0.aC (x1))>>=fun e8=>((idx e8 (x2))>>=fun K0=>(some (Out.ret (K0)))))
def gS (x0:aF) (x1:Int):Option (Bool):=
 ak (S:=Unit) ((idx x0.aE (x1))>>=fun e8=>((idx x0.aH (e8))>>=fun Qw=>(some (Out.ret (((Qw) == (x1)))))))
def nU (x0:aP) (x1:(List Int)) (x2:(List Int)) (ib:Int):Option (Out (Int) (Bool)):=
 (bif decide (ib < x0.aB.aA) then ((idx x0.aA (ib))>>=fun Df=>((((idx x1 (ib))>>=fun Zs=>((idx x0.ab (Zs))>>=fun DX=>((idx x2 (ib))>>=fun GN=>((eK x0.aB (DX) (GN))>>=fun Dd=>((gS x0.aB (Dd))>>=fun Qu=>(bif !(Qu) then (some (true)) else ((idx x1 (Df))>>=fun yp=>((idx x2 (ib))>>=fun BO=>((eK x0.aB (yp) (BO))>>=fun KO=>((gS x0.aB (KO))>>=fun y50=>(some (!(y50))))))))))))))>>=fun Qm=>(bif Qm then (some (Out.ret (false))) else ((idx x2 (ib))>>=fun GC=>((idx x0.ab (GC))>>=fun e59=>((idx x2 (ib))>>=fun K1=>((eK x0.aB (e59) (K1))>>=fun ZE=>((idx x2 (Df))>>=fun IH=>((idx x2 (ib))>>=fun Qx=>((eK x0.aB (IH) (Qx))>>=fun KK=>(bif (ZE) != (KK) then (some (Out.ret (false))) else (some (Out.norm (aj (ib+(1:Int)))))))))))))))) else (some (Out.exit 0 (ib))))
def lD (x0:aP) (x1:(List Int)) (x2:(List Int)):Option (Bool):=
 ak (S:=Unit) (af (ae 0 (ah (nU x0 x1 x2) ((0:Int)))) (fun ib=>(some (Out.ret (true)))))
def mE (x0:aP):Option (aP):=
 ak (S:=Unit) ((gH x0.aB x0.aG x0.aA x0.ab)>>=fun qp=>(some (Out.ret (qp))))
def sI (yp:aP) (D0:(List (List Int))) (D1:(List (List Int))) (ee:Int) (yI:(List bT)) (jy:Int):Option (Out ((List bT)×Int) ((List bT)×Int)):=
 (bif decide (jy < (D1.length:Int)) then ((idx D0 (ee))>>=fun OB=>((idx D1 (jy))>>=fun agI=>((lD yp OB agI)>>=fun agJ=>(bif agJ then ((mE yp)>>=fun agK=>((idx D0 (ee))>>=fun agL=>((dN agL)>>=fun agM=>((idx D1 (jy))>>=fun agN=>((dN agN)>>=fun agO=>((fits 304 (yI.length+1))>>=fun at1=>(some (Out.norm (yI++[(bT.mk agK agM agO)],aj (jy+(1:Int))))))))))) else (some (Out.norm (yI,aj (jy+(1:Int))))))))) else (some (Out.exit 4 (yI,jy))))
def sJ (yp:aP) (D0:(List (List Int))) (D1:(List (List Int))) (v7:(List bT)) (ee:Int):Option (Out ((List bT)×Int) ((List bT)×Int)):=
 (bif decide (ee < (D0.length:Int)) then (af (ae 4 (ah (fun s=>sI yp D0 D1 ee s.1 s.2) (v7,(0:Int)))) (fun (yI,jy)=>(some (Out.norm (yI,aj (ee+(1:Int))))))) else (some (Out.exit 2 (v7,ee))))
def sK (x0:aF) (K2:(List aP)) (bh:(List bT)) (cf:Int):Option (Out ((List bT)×Int) ((List bT)×Int)):=
 (bif decide (cf < (K2.length:Int)) then ((idx K2 (cf))>>=fun yp=>((eJ x0)>>=fun y81=>((nK y81 yp)>>=fun D0=>((kE yp)>>=fun agP=>((nK agP yp)>>=fun D1=>(((bif decide ((D0.length:Int) > (200:Int)) then (some (true)) else (some (decide ((D1.length:Int) > (200:Int))))))>>=fun agQ=>(bif agQ then (some (Out.ret ((([]),((3:Int)))))) else (af (ae 2 (ah (fun s=>sJ yp D0 D1 s.1 s.2) (bh,(0:Int)))) (fun (v7,ee)=>(some (Out.norm (v7,aj (cf+(1:Int)))))))))))))) else (some (Out.exit 0 (bh,cf))))
def sY (x0:aF):Option ((List bT)×Int):=
 ak (S:=Unit) ((mD x0 x0)>>=fun K2=>(bif decide ((K2.length:Int) > (200:Int)) then (some (Out.ret ((([]),((3:Int)))))) else (af (ae 0 (ah (fun s=>sK x0 K2 s.1 s.2) (([]:(List bT)),(0:Int)))) (fun (bh,cf)=>(bif decide ((bh.length:Int) > (200:Int)) then (some (Out.ret ((([]),((3:Int)))))) else (some (Out.ret ((bh,((0:Int)))))))))))
def pO (x0:aF) (gf:(List Int)) (bh:Int):Option (Out ((List Int)×Int) ((List Int))):=
 (bif decide (bh < (x0.aE.length:Int)) then ((gS x0 (bh))>>=fun nn=>(bif !(nn) then ((fits 8 (gf.length+1))>>=fun n45=>(some (Out.norm (gf++[bh],aj (bh+(1:Int)))))) else (some (Out.norm (gf,aj (bh+(1:Int))))))) else (some (Out.exit 0 (gf,bh))))
def pA (x0:aF):Option ((List Int)):=
 ak (S:=Unit) (af (ae 0 (ah (fun s=>pO x0 s.1 s.2) (([]:(List Int)),(0:Int)))) (fun (gf,bh)=>(some (Out.ret (gf)))))
def nL (x0:aF) (x1:aF):Option (Bool):=
 ak (S:=Unit) ((pA x0)>>=fun qp=>(bif decide ((qp.length:Int)≤(8:Int)) then (some (Out.ret ((decide ((x1.aE.length:Int)≤(16:Int)))))) else (some (Out.ret (false)))))
def nQ (x0:aF) (x2:Int) (bb:(List Int)) (dn:Int):Option (Out ((List Int)×Int) (aP)):=
 (bif decide (dn < x0.aA) then ((fits 8 (bb.length+1))>>=fun n81=>(some (Out.norm (bb++[x2],aj (dn+(1:Int)))))) else (some (Out.exit 0 (bb,dn))))
def nR (x0:aF) (x1:aF) (x2:Int) (cy:(List Int)) (ee:Int):Option (Out ((List Int)×Int) (aP)):=
 (bif decide (ee < (x0.aE.length:Int)) then ((idx x1.aH (x2))>>=fun agR=>((fits 8 (cy.length+1))>>=fun n131=>(some (Out.norm (cy++[agR],aj (ee+(1:Int))))))) else (some (Out.exit 2 (cy,ee))))
def lE (x0:aF) (x1:aF) (x2:Int):Option (aP):=
 ak (S:=Unit) (af (ae 0 (ah (fun s=>nQ x0 x2 s.1 s.2) (([]:(List Int)),(0:Int)))) (fun (bb,dn)=>(af (ae 2 (ah (fun s=>nR x0 x1 x2 s.1 s.2) (([]:(List Int)),(0:Int)))) (fun (cy,ee)=>((gH x0 x1 bb cy)>>=fun agS=>(some (Out.ret (agS))))))))
def oH (x0:aJ) (x1:aF) (x2:Int) (x3:Int):Option (aP×aJ):=
 ak (S:=Unit) ((iN x0 (x2) (x3))>>=fun dh=>((nL x1 dh.1)>>=fun y77=>(bif y77 then ((mD x1 dh.1)>>=fun ZF=>(bif decide ((ZF.length:Int) > (0:Int)) then ((bY (aJ.mk x0.Code dh.2.At dh.2.an) ((ZF.length:Int)))>>=fun xO=>((idx ZF (xO.1))>>=fun wW=>(some (Out.ret ((wW,(aJ.mk x0.Code xO.2.At xO.2.an))))))) else (bif decide (dh.1.aA > (0:Int)) then ((bY (aJ.mk x0.Code dh.2.At dh.2.an) ((2:Int)))>>=fun K3=>(bif (K3.1) == ((0:Int)) then ((bY (aJ.mk x0.Code K3.2.At K3.2.an) (dh.1.aA))>>=fun KQ=>((lE x1 dh.1 (KQ.1))>>=fun agT=>(some (Out.ret ((agT,(aJ.mk x0.Code KQ.2.At KQ.2.an))))))) else ((eJ x1)>>=fun agU=>(some (Out.ret ((agU,(aJ.mk x0.Code K3.2.At K3.2.an)))))))) else ((eJ x1)>>=fun agV=>(some (Out.ret ((agV,(aJ.mk x0.Code dh.2.At dh.2.an))))))))) else (bif decide (dh.1.aA > (0:Int)) then ((bY (aJ.mk x0.Code dh.2.At dh.2.an) ((2:Int)))>>=fun K4=>(bif (K4.1) == ((0:Int)) then ((bY (aJ.mk x0.Code K4.2.At K4.2.an) (dh.1.aA))>>=fun TF=>((lE x1 dh.1 (TF.1))>>=fun agW=>(some (Out.ret ((agW,(aJ.mk x0.Code TF.2.At TF.2.an))))))) else ((eJ x1)>>=fun agX=>(some (Out.ret ((agX,(aJ.mk x0.Code K4.2.At K4.2.an)))))))) else ((eJ x1)>>=fun agY=>(some (Out.ret ((agY,(aJ.mk x0.Code dh.2.At dh.2.an))))))))))
def gN (x0:(List (List Int))) (x1:Int) (ao:(List Int)) (cf:Int):Option (Out ((List Int)×Int) ((List Int))):=
 (bif decide (cf < (x0.length:Int)) then ((idx x0 (cf))>>=fun yQ=>((idx yQ (x1))>>=fun IF=>((fits 8 (ao.length+1))>>=fun n41=>(some (Out.norm (ao++[IF],aj (cf+(1:Int)))))))) else (some (Out.exit 0 (ao,cf))))
def fU (x0:(List (List Int))) (x1:Int):Option ((List Int)):=
 ak (S:=Unit) (af (ae 0 (ah (fun s=>gN x0 x1 s.1 s.2) (([]:(List Int)),(0:Int)))) (fun (ao,cf)=>(some (Out.ret (ao)))))
def tY (x0:(List (List Int))) (x1:(List Int)) (ao:Int):Option (Out (Int) (Int)):=
 (bif decide (ao < (x0.length:Int)) then ((idx x0 (ao))>>=fun e9=>((fQ e9 x1)>>=fun qp=>(bif qp then (some (Out.ret (ao))) else (some (Out.norm (aj (ao+(1:Int)))))))) else (some (Out.exit 0 (ao))))
def iO (x0:(List (List Int))) (x1:(List Int)):Option (Int):=
 ak (S:=Unit) (af (ae 0 (ah (tY x0 x1) ((0:Int)))) (fun ao=>(some (Out.ret (((-1:Int)))))))
def sL (x1:aF) (cf:(List Int)) (bb:Int):Option (Out ((List Int)×Int) (aF×aP×aJ)):=
 (bif decide (bb < x1.aA) then ((fits 8 (cf.length+1))>>=fun n80=>(some (Out.norm (cf++[bb],aj (bb+(1:Int)))))) else (some (Out.exit 0 (cf,bb))))
def sM (x0:aJ) (x1:aF) (ef:(List Int)) (cy:Int) (o7:Int) (o9:Int):Option (Out ((List Int)×Int×Int×Int) (aF×aP×aJ)):=
 (((bif decide (cy > (0:Int)) then (some (decide (x1.aA > (0:Int)))) else (some (false))))>>=fun TG=>(bif TG then ((bY (aJ.mk x0.Code o7 o9) (x1.aA))>>=fun TH=>((fits 8 (ef.length+1))>>=fun n142=>(some (Out.norm (ef++[TH.1],aj (cy - (1:Int)),TH.2.At,TH.2.an))))) else (some (Out.exit 2 (ef,cy,o7,o9)))))
def sN (df:Int) (du:Int) (Aj:(List Int)) (K5:(List (List Int))) (o4:Int):Option (Out ((List (List Int))×Int) (aF×aP×aJ)):=
 (bif decide (o4 < (Aj.length:Int)) then ((idx Aj (o4))>>=fun agZ=>((fits 24 (K5.length+1))>>=fun n276=>(some (Out.norm (K5++[([df,du,agZ]:(List Int))],aj (o4+(1:Int))))))) else (some (Out.exit 8 (K5,o4))))
def sO (x1:aF) (ef:(List Int)) (df:Int) (OP:(List (List Int))) (du:Int):Option (Out ((List (List Int))×Int) (aF×aP×aJ)):=
 (bif decide (du < (ef.length:Int)) then ((idx ef (df))>>=fun ag0=>((idx ef (du))>>=fun ag1=>((eY x1 (ag0) (ag1))>>=fun Aj=>(af (ae 8 (ah (fun s=>sN df du Aj s.1 s.2) (OP,(0:Int)))) (fun (K5,o4)=>(some (Out.norm (K5,aj (du+(1:Int)))))))))) else (some (Out.exit 6 (OP,du))))
def sP (x1:aF) (ef:(List Int)) (bx:(List (List Int))) (df:Int):Option (Out ((List (List Int))×Int) (aF×aP×aJ)):=
 (bif decide (df < (ef.length:Int)) then (af (ae 6 (ah (fun s=>sO x1 ef df s.1 s.2) (bx,(0:Int)))) (fun (OP,du)=>(some (Out.norm (OP,aj (df+(1:Int))))))) else (some (Out.exit 4 (bx,df))))
def sQ (x1:aF) (ef:(List Int)) (bx:(List (List Int))) (CD:Int) (pd:(List Int)):Option (Out (Int×(List Int)) (aF×aP×aJ)):=
 (bif decide (CD < (ef.length:Int)) then ((idx ef (CD))>>=fun ag2=>((idx x1.aH (ag2))>>=fun ag3=>((iO bx [CD,CD,ag3])>>=fun TJ=>((fits 8 (pd.length+1))>>=fun at3=>(some (Out.norm (aj (CD+(1:Int)),pd++[TJ]))))))) else (some (Out.exit 10 (CD,pd))))
def sR (x1:aF) (bx:(List (List Int))) (zf:Int) (CE:(List Int)) (AY:Int):Option (Out ((List Int)×Int) (aF×aP×aJ)):=
 (bif decide (AY < (bx.length:Int)) then ((idx bx (zf))>>=fun ag4=>((idx ag4 ((1:Int)))>>=fun ag5=>((idx bx (AY))>>=fun ag6=>((idx ag6 ((0:Int)))>>=fun ag7=>(bif (ag5) == (ag7) then ((idx bx (zf))>>=fun TK=>((idx TK ((0:Int)))>>=fun ag8=>((idx bx (AY))>>=fun ag9=>((idx ag9 ((1:Int)))>>=fun aha=>((idx bx (zf))>>=fun ahb=>((idx ahb ((2:Int)))>>=fun ahc=>((idx bx (AY))>>=fun ahd=>((idx ahd ((2:Int)))>>=fun ahe=>((eK x1 (ahc) (ahe))>>=fun ahf=>((iO bx [ag8,aha,ahf])>>=fun TL=>((fits 8 (CE.length+1))>>=fun at4=>(some (Out.norm (CE++[TL],aj (AY+(1:Int)))))))))))))))) else ((fits 8 (CE.length+1))>>=fun at5=>(some (Out.norm (CE++[(-1:Int)],aj (AY+(1:Int))))))))))) else (some (Out.exit 14 (CE,AY))))
def sS (x1:aF) (ef:(List Int)) (bx:(List (List Int))) (HI:(List Int)) (HJ:(List Int)) (pd:(List Int)) (zf:Int) (sg:(List (List Int))):Option (Out (Int×(List (List Int))) (aF×aP×aJ)):=
 (((bif decide (zf < (bx.length:Int)) then ((dT (aF.mk ((ef.length:Int)) HI HJ pd sg))>>=fun ahg=>(some (ahg))) else (some (false))))>>=fun ahh=>(bif ahh then (af (ae 14 (ah (fun s=>sR x1 bx zf s.1 s.2) (([]:(List Int)),(0:Int)))) (fun (CE,AY)=>((fits 24 (sg.length+1))>>=fun at6=>(some (Out.norm (aj (zf+(1:Int)),sg++[CE])))))) else (some (Out.exit 12 (zf,sg)))))
def sZ (x0:aJ) (x1:aF):Option (aF×aP×aJ):=
 ak (S:=Unit) (af (ae 0 (ah (fun s=>sL x1 s.1 s.2) (([]:(List Int)),(0:Int)))) (fun (cf,bb)=>((bY x0 ((3:Int)))>>=fun D2=>(af (ae 2 (ah (fun s=>sM x0 x1 s.1 s.2.1 s.2.2.1 s.2.2.2) (cf,D2.1,D2.2.At,D2.2.an))) (fun (ef,cy,o7,o9)=>(af (ae 4 (ah (fun s=>sP x1 ef s.1 s.2) (([]:(List (List Int))),(0:Int)))) (fun (bx,df)=>((fU bx ((0:Int)))>>=fun HI=>((fU bx ((1:Int)))>>=fun HJ=>(af (ae 10 (ah (fun s=>sQ x1 ef bx s.1 s.2) ((0:Int),([]:(List Int))))) (fun (CD,pd)=>(af (ae 12 (ah (fun s=>sS x1 ef bx HI HJ pd s.1 s.2) ((0:Int),([]:(List (List Int)))))) (fun (zf,sg)=>((dT (aF.mk ((ef.length:Int)) HI HJ pd sg))>>=fun ahi=>(bif !(ahi) then ((eJ x1)>>=fun ahj=>(some (Out.ret ((x1,ahj,(aJ.mk x0.Code o7 o9)))))) else ((fU bx ((2:Int)))>>=fun ahk=>((gH (aF.mk ((ef.length:Int)) HI HJ pd sg) x1 ef ahk)>>=fun acq=>(some (Out.ret (((aF.mk ((ef.length:Int)) HI HJ pd sg),acq,(aJ.mk x0.Code o7 o9))))))))))))))))))))))
def qL (x0:aP) (x3:Int) (x4:Int) (y8:(List Int)) (vb:(List Int)) (s7:Int):Option (Out ((List Int)×Int) ((List Int))):=
 (bif decide (s7 < (y8.length:Int)) then ((idx y8 (s7))>>=fun GN=>((idx x0.ab (GN))>>=fun Qy=>((eK x0.aG (Qy) (x3))>>=fun Qu=>(bif (Qu) == (x4) then ((idx y8 (s7))>>=fun BO=>((fits 8 (vb.length+1))>>=fun n64=>(some (Out.norm (vb++[BO],aj (s7+(1:Int))))))) else (some (Out.norm (vb,aj (s7+(1:Int))))))))) else (some (Out.exit 0 (vb,s7))))
def fR (x0:aP) (x1:Int) (x2:Int) (x3:Int) (x4:Int):Option ((List Int)):=
 ak (S:=Unit) ((eY x0.aB (x1) (x2))>>=fun y8=>(af (ae 0 (ah (fun s=>qL x0 x3 x4 y8 s.1 s.2) (([]:(List Int)),(0:Int)))) (fun (vb,s7)=>(some (Out.ret (vb))))))
def rL (x0:aP) (x2:Int) (x3:Int) (dn:Int) (ug:(List Int)) (vR:Int):Option (Out (Int) (Bool)):=
 (bif decide (vR < (ug.length:Int)) then ((idx ug (vR))>>=fun DX=>((fR x0 (dn) (x2) (x3) (DX))>>=fun y40=>(bif ((y40.length:Int)) != ((1:Int)) then (some (Out.ret (false))) else (some (Out.norm (aj (vR+(1:Int)))))))) else (some (Out.exit 2 (vR))))
def rM (x0:aP) (x1:Int) (x2:Int) (x3:Int) (dn:Int):Option (Out (Int) (Bool)):=
 (bif decide (dn < x0.aB.aA) then ((idx x0.aA (dn))>>=fun ur=>((eY x0.aG (ur) (x1))>>=fun ug=>(af (ae 2 (ah (rL x0 x2 x3 dn ug) ((0:Int)))) (fun vR=>(some (Out.norm (aj (dn+(1:Int))))))))) else (some (Out.exit 0 (dn))))
def mJ (x0:aP) (x1:Int) (x2:Int) (x3:Int):Option (Bool):=
 ak (S:=Unit) (af (ae 0 (ah (rM x0 x1 x2 x3) ((0:Int)))) (fun dn=>(some (Out.ret (true)))))
def tZ (x0:aP) (x1:Int) (bb:Int) (ug:(List Int)) (qc:Int):Option (Out (Int) (Int×Int×Bool)):=
 (bif decide (qc < (ug.length:Int)) then ((idx ug (qc))>>=fun DX=>((mJ x0 (x1) (bb) (DX))>>=fun Qo=>(bif Qo then ((idx ug (qc))>>=fun Qz=>(some (Out.ret ((bb,Qz,true))))) else (some (Out.norm (aj (qc+(1:Int)))))))) else (some (Out.exit 2 (qc))))
def uA (x0:aP) (x1:Int) (bb:Int):Option (Out (Int) (Int×Int×Bool)):=
 (bif decide (bb < x0.aB.aA) then ((idx x0.aA (bb))>>=fun ur=>((eY x0.aG (ur) (x1))>>=fun ug=>(af (ae 2 (ah (tZ x0 x1 bb ug) ((0:Int)))) (fun qc=>(some (Out.norm (aj (bb+(1:Int))))))))) else (some (Out.exit 0 (bb))))
def rN (x0:aP) (x1:Int):Option (Int×Int×Bool):=
 ak (S:=Unit) (af (ae 0 (ah (uA x0 x1) ((0:Int)))) (fun bb=>(some (Out.ret ((((0:Int)),((0:Int)),false))))))
def qM (x0:aP) (cf:(List Int)) (bb:(List Int)) (l9:Int):Option (Out ((List Int)×(List Int)×Int) (cV×Bool)):=
 (bif decide (l9 < x0.aG.aA) then ((rN x0 (l9))>>=fun TM=>(bif !(TM.2.2) then (some (Out.ret (((cV.mk (aP.mk (aF.mk ((0:Int)) ([]) ([]) ([]) ([])) (aF.mk ((0:Int)) ([]) ([]) ([]) ([])) ([]) ([])) (aP.mk (aF.mk ((0:Int)) ([]) ([]) ([]) ([])) (aF.mk ((0:Int)) ([]) ([]) ([]) ([])) ([]) ([])) ([]) ([])),false)))) else ((fits 8 (cf.length+1))>>=fun n161=>((fits 8 (bb.length+1))>>=fun n193=>(some (Out.norm (cf++[TM.1],bb++[TM.2.1],aj (l9+(1:Int))))))))) else (some (Out.exit 0 (cf,bb,l9))))
def qN (x0:aP) (cf:(List Int)) (bb:(List Int)) (cy:(List Int)) (jh:Int):Option (Out ((List Int)×Int) (cV×Bool)):=
 (bif decide (jh < (x0.aG.aE.length:Int)) then ((idx x0.aG.aE (jh))>>=fun ZG=>((idx x0.aG.To (jh))>>=fun ZH=>((idx cf (ZG))>>=fun S6=>((idx cf (ZH))>>=fun ZI=>((idx bb (ZH))>>=fun ahl=>((idx bb (ZG))>>=fun ahm=>((eK x0.aG (ahm) (jh))>>=fun ahn=>((fR x0 (S6) (ZI) (ahl) (ahn))>>=fun aho=>((idx aho ((0:Int)))>>=fun ahp=>((fits 8 (cy.length+1))>>=fun n302=>(some (Out.norm (cy++[ahp],aj (jh+(1:Int))))))))))))))) else (some (Out.exit 2 (cy,jh))))
def qO (x0:aP) (cf:(List Int)) (bb:(List Int)) (bx:(List Int)) (EG:Int):Option (Out ((List Int)×Int) (cV×Bool)):=
 (bif decide (EG < x0.aB.aA) then ((idx x0.aA (EG))>>=fun TN=>((idx cf (TN))>>=fun ahq=>((idx bb (TN))>>=fun ahr=>((idx x0.aG.aH (TN))>>=fun ahs=>((fR x0 (EG) (ahq) (ahr) (ahs))>>=fun FD=>((idx FD ((0:Int)))>>=fun aht=>((fits 8 (bx.length+1))>>=fun at7=>(some (Out.norm (bx++[aht],aj (EG+(1:Int)))))))))))) else (some (Out.exit 4 (bx,EG))))
def kF (x0:aP):Option (cV×Bool):=
 ak (S:=Unit) (af (ae 0 (ah (fun s=>qM x0 s.1 s.2.1 s.2.2) (([]:(List Int)),([]:(List Int)),(0:Int)))) (fun (cf,bb,l9)=>(af (ae 2 (ah (fun s=>qN x0 cf bb s.1 s.2) (([]:(List Int)),(0:Int)))) (fun (cy,jh)=>(af (ae 4 (ah (fun s=>qO x0 cf bb s.1 s.2) (([]:(List Int)),(0:Int)))) (fun (bx,EG)=>((mE x0)>>=fun ahu=>((gH x0.aG x0.aB cf cy)>>=fun ahv=>(some (Out.ret (((cV.mk ahu ahv bx bb),true))))))))))))
def mY (x0:aP):Option (aP):=
 ak (S:=Unit) ((kL x0.aB)>>=fun qp=>((kL x0.aG)>>=fun DQ=>((gH qp DQ x0.aA x0.ab)>>=fun y94=>(some (Out.ret (y94))))))
def lV (x0:cV):Option (cV):=
 ak (S:=Unit) ((mY x0.bw)>>=fun qp=>((mY x0.Left)>>=fun TO=>((dN x0.pr)>>=fun ahw=>((dN x0.Unit)>>=fun TB=>(some (Out.ret ((cV.mk qp TO ahw TB))))))))
def rO (x0:aJ) (gf:Int) (jz:Int) (j3:Int):Option (Out (Int×Int×Int) (cV×aJ)):=
 (bif decide (gf < (10:Int)) then ((iN (aJ.mk x0.Code jz j3) ((4:Int)) ((10:Int)))>>=fun yn=>((oH (aJ.mk x0.Code yn.2.At yn.2.an) yn.1 ((4:Int)) ((10:Int)))>>=fun De=>((bY (aJ.mk x0.Code De.2.At De.2.an) ((3:Int)))>>=fun xR=>(bif (xR.1) == ((0:Int)) then ((iN (aJ.mk x0.Code xR.2.At xR.2.an) ((3:Int)) ((6:Int)))>>=fun K6=>((sZ (aJ.mk x0.Code K6.2.At K6.2.an) K6.1)>>=fun D3=>((kF D3.2.1)>>=fun ZJ=>(bif ZJ.2 then (some (Out.ret ((ZJ.1,(aJ.mk x0.Code D3.2.2.At D3.2.2.an))))) else ((mY D3.2.1)>>=fun acr=>((kF acr)>>=fun Vt=>(bif Vt.2 then ((lV Vt.1)>>=fun acs=>(some (Out.ret ((acs,(aJ.mk x0.Code D3.2.2.At D3.2.2.an)))))) else (some (Out.norm (aj (gf+(1:Int)),D3.2.2.At,D3.2.2.an)))))))))) else ((kF De.1)>>=fun Vu=>(bif Vu.2 then (some (Out.ret ((Vu.1,(aJ.mk x0.Code xR.2.At xR.2.an))))) else ((mY De.1)>>=fun acu=>((kF acu)>>=fun Vv=>(bif Vv.2 then ((lV Vv.1)>>=fun acv=>(some (Out.ret ((acv,(aJ.mk x0.Code xR.2.At xR.2.an)))))) else (some (Out.norm (aj (gf+(1:Int)),xR.2.At,xR.2.an)))))))))))) else (some (Out.exit 0 (gf,jz,j3))))
def mR (x0:aJ):Option (cV×aJ):=
 ak (S:=Unit) (af (ae 0 (ah (fun s=>rO x0 s.1 s.2.1 s.2.2) ((0:Int),x0.At,x0.an))) (fun (gf,jz,j3)=>((iN (aJ.mk x0.Code jz j3) ((4:Int)) ((10:Int)))>>=fun EH=>((eJ EH.1)>>=fun acw=>((eJ EH.1)>>=fun acx=>(some (Out.ret (((cV.mk acw acx EH.1.aH EH.1.aH),(aJ.mk x0.Code EH.2.At EH.2.an))))))))))
def tF (x0:cV) (gf:(List Int)) (bh:Int):Option (Out ((List Int)×Int) (bT)):=
 (bif decide (bh < (x0.Unit.length:Int)) then ((idx x0.Left.aA (bh))>>=fun QB=>((idx x0.pr (QB))>>=fun e38=>((idx x0.bw.ab (e38))>>=fun IG=>((fits 8 (gf.length+1))>>=fun n58=>(some (Out.norm (gf++[IG],aj (bh+(1:Int))))))))) else (some (Out.exit 0 (gf,bh))))
def kO (x0:cV):Option (bT):=
 ak (S:=Unit) (af (ae 0 (ah (fun s=>tF x0 s.1 s.2) (([]:(List Int)),(0:Int)))) (fun (gf,bh)=>((jT x0.Left x0.bw)>>=fun De=>((dN x0.Unit)>>=fun ahx=>(some (Out.ret ((bT.mk De ahx gf))))))))
def rP (x0:aJ):Option (bT×aJ):=
 ak (S:=Unit) ((bY x0 ((3:Int)))>>=fun cb=>(bif (cb.1) == ((0:Int)) then ((iN (aJ.mk x0.Code cb.2.At cb.2.an) ((3:Int)) ((5:Int)))>>=fun uw=>((sY uw.1)>>=fun Nl=>(((bif (Nl.2) == ((0:Int)) then (some (decide ((Nl.1.length:Int) > (0:Int)))) else (some (false))))>>=fun g81=>(bif g81 then ((bY (aJ.mk x0.Code uw.2.At uw.2.an) ((Nl.1.length:Int)))>>=fun GB=>((idx Nl.1 (GB.1))>>=fun ZK=>(some (Out.ret ((ZK,(aJ.mk x0.Code GB.2.At GB.2.an))))))) else ((mR (aJ.mk x0.Code uw.2.At uw.2.an))>>=fun wX=>((bY (aJ.mk x0.Code wX.2.At wX.2.an) ((2:Int)))>>=fun Ak=>(bif (Ak.1) == ((0:Int)) then ((lV wX.1)>>=fun TP=>((kO TP)>>=fun OQ=>(some (Out.ret ((OQ,(aJ.mk x0.Code Ak.2.At Ak.2.an))))))) else ((kO wX.1)>>=fun OR=>(some (Out.ret ((OR,(aJ.mk x0.Code Ak.2.At Ak.2.an))))))))))))) else ((mR (aJ.mk x0.Code cb.2.At cb.2.an))>>=fun Je=>((bY (aJ.mk x0.Code Je.2.At Je.2.an) ((2:Int)))>>=fun GO=>(bif (GO.1) == ((0:Int)) then ((lV Je.1)>>=fun acy=>((kO acy)>>=fun acz=>(some (Out.ret ((acz,(aJ.mk x0.Code GO.2.At GO.2.an))))))) else ((kO Je.1)>>=fun acA=>(some (Out.ret ((acA,(aJ.mk x0.Code GO.2.At GO.2.an)))))))))))
def oI (x0:aJ) (x1:(List Int)):Option (Int×aJ):=
 ak (S:=Unit) ((bY x0 ((x1.length:Int)))>>=fun y6=>((idx x1 (y6.1))>>=fun Qk=>(some (Out.ret ((Qk,(aJ.mk x0.Code y6.2.At y6.2.an)))))))
def iA (x0:aJ) (x1:Int):Option (Int×aJ):=
 ak (S:=Unit) ((bY x0 ((40:Int)))>>=fun y5=>(bif (y5.1) == ((0:Int)) then ((oI (aJ.mk x0.Code y5.2.At y5.2.an) ([(-1:Int),x1,(9223372036854775807:Int),(-9223372036854775808:Int)]))>>=fun GP=>(some (Out.ret ((GP.1,(aJ.mk x0.Code GP.2.At GP.2.an)))))) else ((bY (aJ.mk x0.Code y5.2.At y5.2.an) (x1))>>=fun KP=>(some (Out.ret ((KP.1,(aJ.mk x0.Code KP.2.At KP.2.an))))))))
def rQ (x0:aJ) (x1:aF):Option (aF×aJ):=
 ak (S:=Unit) ((mC x1)>>=fun dh=>((bY x0 ((dh.aE.length:Int)))>>=fun BS=>((bY (aJ.mk x0.Code BS.2.At BS.2.an) ((8:Int)))>>=fun n4=>(bif (n4.1) == ((0:Int)) then ((oI (aJ.mk x0.Code n4.2.At n4.2.an) ([aj (dh.aA+(1:Int)),(-1:Int),(9:Int)]))>>=fun QC=>(some (Out.ret (((aF.mk QC.1 dh.aE dh.To dh.aH dh.aC),(aJ.mk x0.Code QC.2.At QC.2.an)))))) else (bif (n4.1) == ((1:Int)) then ((fits 8 (dh.aE.length+1))>>=fun n120=>(some (Out.ret (((aF.mk dh.aA (dh.aE++[(0:Int)]) dh.To dh.aH dh.aC),(aJ.mk x0.Code n4.2.At n4.2.an)))))) else (bif (n4.1) == ((2:Int)) then (bif decide ((dh.aH.length:Int) > (0:Int)) then ((bY (aJ.mk x0.Code n4.2.At n4.2.an) (aj ((dh.aE.length:Int)+(1:Int))))>>=fun KX=>((idx dh.aH ((0:Int)))>>=fun at8=>(some (Out.ret (((aF.mk dh.aA dh.aE dh.To (dh.aH.set ((0:Int)).toNat (KX.1)) dh.aC),(aJ.mk x0.Code KX.2.At KX.2.an))))))) else (some (Out.ret ((dh,(aJ.mk x0.Code n4.2.At n4.2.an)))))) else (bif (n4.1) == ((3:Int)) then (bif decide ((dh.aE.length:Int) > (0:Int)) then ((idx dh.aC (BS.1))>>=fun ZL=>((bY (aJ.mk x0.Code n4.2.At n4.2.an) ((dh.aE.length:Int)))>>=fun D4=>((bY (aJ.mk x0.Code D4.2.At D4.2.an) (aj ((dh.aE.length:Int)+(1:Int))))>>=fun TQ=>((idx ZL (D4.1))>>=fun at9=>(some (Out.ret (((aF.mk dh.aA dh.aE dh.To dh.aH (dh.aC.set (BS.1).toNat (ZL.set (D4.1).toNat (aj (TQ.1 - (1:Int)))))),(aJ.mk x0.Code TQ.2.At TQ.2.an))))))))) else (some (Out.ret ((dh,(aJ.mk x0.Code n4.2.At n4.2.an)))))) else (bif (n4.1) == ((4:Int)) then (bif decide ((dh.aE.length:Int) > (0:Int)) then ((idx dh.aC (BS.1))>>=fun ZM=>((bY (aJ.mk x0.Code n4.2.At n4.2.an) ((dh.aE.length:Int)))>>=fun HK=>((bY (aJ.mk x0.Code HK.2.At HK.2.an) (aj ((dh.aE.length:Int)+(1:Int))))>>=fun xR=>((idx ZM (HK.1))>>=fun ZI=>(some (Out.ret (((aF.mk dh.aA dh.aE dh.To dh.aH (dh.aC.set (BS.1).toNat (ZM.set (HK.1).toNat (aj (xR.1 - (1:Int)))))),(aJ.mk x0.Code xR.2.At xR.2.an))))))))) else (some (Out.ret ((dh,(aJ.mk x0.Code n4.2.At n4.2.an)))))) else (bif (n4.1) == ((5:Int)) then (bif decide ((dh.aE.length:Int) > (0:Int)) then ((idx dh.aC (BS.1))>>=fun ZN=>((bY (aJ.mk x0.Code n4.2.At n4.2.an) ((dh.aE.length:Int)))>>=fun OS=>((bY (aJ.mk x0.Code OS.2.At OS.2.an) (aj ((dh.aE.length:Int)+(1:Int))))>>=fun TR=>((idx ZN (OS.1))>>=fun aua=>(some (Out.ret (((aF.mk dh.aA dh.aE dh.To dh.aH (dh.aC.set (BS.1).toNat (ZN.set (OS.1).toNat (aj (TR.1 - (1:Int)))))),(aJ.mk x0.Code TR.2.At TR.2.an))))))))) else (some (Out.ret ((dh,(aJ.mk x0.Code n4.2.At n4.2.an)))))) else (bif (n4.1) == ((6:Int)) then (bif decide ((dh.aE.length:Int) > (0:Int)) then ((bY (aJ.mk x0.Code n4.2.At n4.2.an) (aj (dh.aA+(1:Int))))>>=fun TS=>((idx dh.To (BS.1))>>=fun OB=>(some (Out.ret (((aF.mk dh.aA dh.aE (dh.To.set (BS.1).toNat (TS.1)) dh.aH dh.aC),(aJ.mk x0.Code TS.2.At TS.2.an))))))) else (some (Out.ret ((dh,(aJ.mk x0.Code n4.2.At n4.2.an)))))) else (bif decide ((dh.aE.length:Int) > (0:Int)) then ((idx dh.aC (BS.1))>>=fun ahy=>((tl ahy ((1:Int)))>>=fun ahz=>((idx dh.aC (BS.1))>>=fun aub=>(some (Out.ret (((aF.mk dh.aA dh.aE dh.To dh.aH (dh.aC.set (BS.1).toNat ahz)),(aJ.mk x0.Code n4.2.At n4.2.an)))))))) else (some (Out.ret ((dh,(aJ.mk x0.Code n4.2.At n4.2.an))))))))))))))))
def rR (x0:aJ):Option (aP×aJ):=
 ak (S:=Unit) ((iN x0 ((4:Int)) ((10:Int)))>>=fun cb=>((oH (aJ.mk x0.Code cb.2.At cb.2.an) cb.1 ((4:Int)) ((12:Int)))>>=fun uz=>((bY (aJ.mk x0.Code uz.2.At uz.2.an) ((30:Int)))>>=fun px=>(bif (px.1) == ((0:Int)) then ((rQ (aJ.mk x0.Code px.2.At px.2.an) uz.1.aB)>>=fun TU=>(some (Out.ret (((aP.mk TU.1 uz.1.aG uz.1.aA uz.1.ab),(aJ.mk x0.Code TU.2.At TU.2.an)))))) else (bif (px.1) == ((1:Int)) then (bif decide ((uz.1.ab.length:Int) > (0:Int)) then ((bY (aJ.mk x0.Code px.2.At px.2.an) ((uz.1.ab.length:Int)))>>=fun FH=>((bY (aJ.mk x0.Code FH.2.At FH.2.an) (aj ((uz.1.aG.aE.length:Int)+(1:Int))))>>=fun xQ=>((idx uz.1.ab (FH.1))>>=fun auc=>(some (Out.ret (((aP.mk uz.1.aB uz.1.aG uz.1.aA (uz.1.ab.set (FH.1).toNat (xQ.1))),(aJ.mk x0.Code xQ.2.At xQ.2.an)))))))) else (some (Out.ret ((uz.1,(aJ.mk x0.Code px.2.At px.2.an)))))) else (bif (px.1) == ((2:Int)) then ((fits 8 (uz.1.aA.length+1))>>=fun afP=>(some (Out.ret (((aP.mk uz.1.aB uz.1.aG (uz.1.aA++[(0:Int)]) uz.1.ab),(aJ.mk x0.Code px.2.At px.2.an)))))) else (some (Out.ret ((uz.1,(aJ.mk x0.Code px.2.At px.2.an)))))))))))
def oJ (x0:aJ):Option (bT×aJ):=
 ak (S:=Unit) ((rP x0)>>=fun cb=>((bY (aJ.mk x0.Code cb.2.At cb.2.an) ((30:Int)))>>=fun xS=>(bif (xS.1) == ((0:Int)) then (bif decide ((cb.1.cn.length:Int) > (0:Int)) then ((iA (aJ.mk x0.Code xS.2.At xS.2.an) ((cb.1.On.aB.aE.length:Int)))>>=fun D4=>((idx cb.1.cn ((0:Int)))>>=fun aud=>(some (Out.ret (((bT.mk cb.1.On cb.1.Unit (cb.1.cn.set ((0:Int)).toNat (D4.1))),(aJ.mk x0.Code D4.2.At D4.2.an))))))) else (some (Out.ret ((cb.1,(aJ.mk x0.Code xS.2.At xS.2.an)))))) else (bif (xS.1) == ((1:Int)) then ((fits 8 (cb.1.Unit.length+1))>>=fun n231=>(some (Out.ret (((bT.mk cb.1.On (cb.1.Unit++[(0:Int)]) cb.1.cn),(aJ.mk x0.Code xS.2.At xS.2.an)))))) else (bif (xS.1) == ((2:Int)) then ((rR (aJ.mk x0.Code xS.2.At xS.2.an))>>=fun TV=>(some (Out.ret (((bT.mk TV.1 cb.1.Unit cb.1.cn),(aJ.mk x0.Code TV.2.At TV.2.an)))))) else (some (Out.ret ((cb.1,(aJ.mk x0.Code xS.2.At xS.2.an))))))))))
def tP (x0:Int) (x1:Int) (x2:Int):Option (Bool):=
 ak (S:=Unit) (((bif decide (x0 ≥ x1) then (some (decide (x0≤x2))) else (some (false))))>>=fun g3=>(some (Out.ret (g3))))
def pB (x0:Int) (x1:(List Int)) (ao:Int):Option (Out (Int) (Bool)):=
 (bif decide (ao < (x1.length:Int)) then ((((idx x1 (ao))>>=fun ZO=>(bif decide (ZO < (0:Int)) then (some (true)) else ((idx x1 (ao))>>=fun ur=>(some (decide (ur ≥ x0)))))))>>=fun g9=>(bif g9 then (some (Out.ret (false))) else (some (Out.norm (aj (ao+(1:Int))))))) else (some (Out.exit 0 (ao))))
def kR (x0:Int) (x1:(List Int)):Option (Bool):=
 ak (S:=Unit) (af (ae 0 (ah (pB x0 x1) ((0:Int)))) (fun ao=>(some (Out.ret (true)))))
def oL (x0:(List Int)) (x1:Int) (x2:Int):Option (Bool):=
 ak (S:=Unit) (((bif ((x0.length:Int)) == (x1) then ((kR (x2) x0)>>=fun y6=>(some (y6))) else (some (false))))>>=fun g3=>(some (Out.ret (g3))))
def nV (x0:aF) (bh:Int):Option (Out (Int) (Bool)):=
 (bif decide (bh < x0.aA) then ((((idx x0.aH (bh))>>=fun Nj=>((idx x0.aE (Nj))>>=fun GQ=>(bif (GQ) != (bh) then (some (true)) else ((idx x0.aH (bh))>>=fun Ql=>((idx x0.To (Ql))>>=fun DZ=>(some ((DZ) != (bh)))))))))>>=fun ZP=>(bif ZP then (some (Out.ret (false))) else (some (Out.norm (aj (bh+(1:Int))))))) else (some (Out.exit 0 (bh))))
def nW (x0:aF) (mj:Int) (BE:Int):Option (Out (Int) (Bool)):=
 (bif decide (BE < (x0.aE.length:Int)) then ((idx x0.aC (mj))>>=fun e86=>((idx e86 (BE))>>=fun GD=>((idx x0.To (mj))>>=fun Dg=>((idx x0.aE (BE))>>=fun Vq=>(bif (Dg) != (Vq) then (bif (GD) != ((-1:Int)) then (some (Out.ret (false))) else (some (Out.norm (aj (BE+(1:Int)))))) else (((bif decide (GD < (0:Int)) then (some (true)) else (bif decide (GD ≥ (x0.aE.length:Int)) then (some (true)) else ((idx x0.aE (GD))>>=fun Tc=>((idx x0.aE (mj))>>=fun ahA=>(bif (Tc) != (ahA) then (some (true)) else ((idx x0.To (GD))>>=fun ahB=>((idx x0.To (BE))>>=fun ahC=>(some ((ahB) != (ahC)))))))))))>>=fun TG=>(bif TG then (some (Out.ret (false))) else (some (Out.norm (aj (BE+(1:Int)))))))))))) else (some (Out.exit 4 (BE))))
def rS (x0:aF) (mj:Int):Option (Out (Int) (Bool)):=
 (bif decide (mj < (x0.aE.length:Int)) then ((idx x0.aC (mj))>>=fun QD=>(bif ((QD.length:Int)) != ((x0.aE.length:Int)) then (some (Out.ret (false))) else (af (ae 4 (ah (nW x0 mj) ((0:Int)))) (fun BE=>(some (Out.norm (aj (mj+(1:Int))))))))) else (some (Out.exit 2 (mj))))
def rT (x0:aF):Option (Bool):=
 ak (S:=Unit) ((((tP (x0.aA) ((0:Int)) ((8:Int)))>>=fun Dh=>(bif !(Dh) then (some (true)) else (bif decide ((x0.aE.length:Int) > (40:Int)) then (some (true)) else ((oL x0.aE ((x0.aE.length:Int)) (x0.aA))>>=fun qp=>(bif !(qp) then (some (true)) else ((oL x0.To ((x0.aE.length:Int)) (x0.aA))>>=fun ug=>(bif !(ug) then (some (true)) else (some (((x0.aC.length:Int)) != ((x0.aE.length:Int))))))))))))>>=fun g10=>(bif g10 then (some (Out.ret (false))) else (((bif ((x0.aH.length:Int)) != (x0.aA) then (some (true)) else ((kR ((x0.aE.length:Int)) x0.aH)>>=fun y30=>(some (!(y30))))))>>=fun ZQ=>(bif ZQ then (some (Out.ret (false))) else (af (ae 0 (ah (nV x0) ((0:Int)))) (fun bh=>(af (ae 2 (ah (rS x0) ((0:Int)))) (fun mj=>(some (Out.ret (true)))))))))))
def mZ (x0:aF) (bb:Int):Option (Out (Int) (Int×Int×Int×Int)):=
 (bif decide (bb < (x0.aE.length:Int)) then ((((idx x0.aE (bb))>>=fun yQ=>((idx x0.aH (yQ))>>=fun KZ=>((idx x0.aC (KZ))>>=fun KH=>((idx KH (bb))>>=fun GK=>(bif (GK) != (bb) then (some (true)) else ((idx x0.aC (bb))>>=fun GL=>((idx x0.To (bb))>>=fun Qy=>((idx x0.aH (Qy))>>=fun KW=>((idx GL (KW))>>=fun Qs=>(some ((Qs) != (bb)))))))))))))>>=fun g16=>(bif g16 then (some (Out.ret ((((1:Int)),bb,((0:Int)),((0:Int)))))) else (some (Out.norm (aj (bb+(1:Int))))))) else (some (Out.exit 0 (bb))))
def lF (x0:aF) (cy:Int) (bx:Int) (gx:Int):Option (Out (Int) (Int×Int×Int×Int)):=
 (bif decide (gx < (x0.aE.length:Int)) then ((((idx x0.To (bx))>>=fun e82=>((idx x0.aE (gx))>>=fun e84=>(bif (e82) == (e84) then ((idx x0.aC (cy))>>=fun ZR=>((idx ZR (bx))>>=fun ZK=>((idx x0.aC (ZK))>>=fun Zt=>((idx Zt (gx))>>=fun OT=>((idx x0.aC (cy))>>=fun ahD=>((idx x0.aC (bx))>>=fun K7=>((idx K7 (gx))>>=fun ahE=>((idx ahD (ahE))>>=fun ahF=>(some ((OT) != (ahF))))))))))) else (some (false))))))>>=fun g80=>(bif g80 then (some (Out.ret ((((2:Int)),cy,bx,gx)))) else (some (Out.norm (aj (gx+(1:Int))))))) else (some (Out.exit 6 (gx))))
def lG (x0:aF) (cy:Int) (bx:Int):Option (Out (Int) (Int×Int×Int×Int)):=
 (bif decide (bx < (x0.aE.length:Int)) then ((idx x0.To (cy))>>=fun IH=>((idx x0.aE (bx))>>=fun Qx=>(bif (IH) != (Qx) then (some (Out.norm (aj (bx+(1:Int))))) else (af (ae 6 (ah (lF x0 cy bx) ((0:Int)))) (fun gx=>(some (Out.norm (aj (bx+(1:Int)))))))))) else (some (Out.exit 4 (bx))))
def qP (x0:aF) (cy:Int):Option (Out (Int) (Int×Int×Int×Int)):=
 (bif decide (cy < (x0.aE.length:Int)) then (af (ae 4 (ah (lG x0 cy) ((0:Int)))) (fun bx=>(some (Out.norm (aj (cy+(1:Int))))))) else (some (Out.exit 2 (cy))))
def qA (x0:aF):Option (Int×Int×Int×Int):=
 ak (S:=Unit) (af (ae 0 (ah (mZ x0) ((0:Int)))) (fun bb=>(af (ae 2 (ah (qP x0) ((0:Int)))) (fun cy=>(some (Out.ret ((((0:Int)),((0:Int)),((0:Int)),((0:Int))))))))))
def rU (x0:aF):Option (Bool):=
 ak (S:=Unit) ((rT x0)>>=fun y8=>(bif !(y8) then (some (Out.ret (false))) else ((qA x0)>>=fun K2=>(some (Out.ret (((K2.1) == ((0:Int)))))))))
def tG (x0:aP) (ao:Int):Option (Out (Int) (Bool)):=
 (bif decide (ao < (x0.aB.aE.length:Int)) then ((((idx x0.ab (ao))>>=fun ZS=>((idx x0.aG.aE (ZS))>>=fun Fe=>((idx x0.aB.aE (ao))>>=fun ZT=>((idx x0.aA (ZT))>>=fun Qt=>(bif (Fe) != (Qt) then (some (true)) else ((idx x0.ab (ao))>>=fun Ng=>((idx x0.aG.To (Ng))>>=fun GH=>((idx x0.aB.To (ao))>>=fun e83=>((idx x0.aA (e83))>>=fun ZU=>(some ((GH) != (ZU)))))))))))))>>=fun g68=>(bif g68 then (some (Out.ret (false))) else (some (Out.norm (aj (ao+(1:Int))))))) else (some (Out.exit 0 (ao))))
def tH (x0:aP) (ef:Int):Option (Out (Int) (Bool)):=
 (bif decide (ef < x0.aB.aA) then ((idx x0.aB.aH (ef))>>=fun FG=>((idx x0.ab (FG))>>=fun ON=>((idx x0.aA (ef))>>=fun wW=>((idx x0.aG.aH (wW))>>=fun Fy=>(bif (ON) != (Fy) then (some (Out.ret (false))) else (some (Out.norm (aj (ef+(1:Int)))))))))) else (some (Out.exit 2 (ef))))
def tI (x0:aP) (vZ:Int) (FK:Int):Option (Out (Int) (Bool)):=
 (bif decide (FK < (x0.aB.aE.length:Int)) then ((((idx x0.aB.To (vZ))>>=fun TC=>((idx x0.aB.aE (FK))>>=fun ahG=>(bif (TC) == (ahG) then ((idx x0.aB.aC (vZ))>>=fun TE=>((idx TE (FK))>>=fun ahH=>((idx x0.ab (ahH))>>=fun ahI=>((idx x0.ab (vZ))>>=fun S5=>((idx x0.aG.aC (S5))>>=fun ahJ=>((idx x0.ab (FK))>>=fun TD=>((idx ahJ (TD))>>=fun ahK=>(some ((ahI) != (ahK)))))))))) else (some (false))))))>>=fun ahL=>(bif ahL then (some (Out.ret (false))) else (some (Out.norm (aj (FK+(1:Int))))))) else (some (Out.exit 6 (FK))))
def tJ (x0:aP) (vZ:Int):Option (Out (Int) (Bool)):=
 (bif decide (vZ < (x0.aB.aE.length:Int)) then (af (ae 6 (ah (tI x0 vZ) ((0:Int)))) (fun FK=>(some (Out.norm (aj (vZ+(1:Int))))))) else (some (Out.exit 4 (vZ))))
def tQ (x0:aP):Option (Bool):=
 ak (S:=Unit) ((((rU x0.aB)>>=fun yR=>(bif !(yR) then (some (true)) else ((rU x0.aG)>>=fun K8=>(bif !(K8) then (some (true)) else (bif ((x0.aA.length:Int)) != (x0.aB.aA) then (some (true)) else (some (((x0.ab.length:Int)) != ((x0.aB.aE.length:Int))))))))))>>=fun g33=>(bif g33 then (some (Out.ret (false))) else ((((kR (x0.aG.aA) x0.aA)>>=fun DR=>(bif !(DR) then (some (true)) else ((kR ((x0.aG.aE.length:Int)) x0.ab)>>=fun y52=>(some (!(y52)))))))>>=fun g47=>(bif g47 then (some (Out.ret (false))) else (af (ae 0 (ah (tG x0) ((0:Int)))) (fun ao=>(af (ae 2 (ah (tH x0) ((0:Int)))) (fun ef=>(af (ae 4 (ah (tJ x0) ((0:Int)))) (fun vZ=>(some (Out.ret (true)))))))))))))
def uY (x0:(List (List Int))) (x1:(List (List Int))) (ao:Int):Option (Out (Int) (Bool)):=
 (bif decide (ao < (x0.length:Int)) then ((idx x0 (ao))>>=fun ur=>((idx x1 (ao))>>=fun zV=>((fQ ur zV)>>=fun GR=>(bif !(GR) then (some (Out.ret (false))) else (some (Out.norm (aj (ao+(1:Int))))))))) else (some (Out.exit 0 (ao))))
def tK (x0:(List (List Int))) (x1:(List (List Int))):Option (Bool):=
 ak (S:=Unit) (bif ((x0.length:Int)) != ((x1.length:Int)) then (some (Out.ret (false))) else (af (ae 0 (ah (uY x0 x1) ((0:Int)))) (fun ao=>(some (Out.ret (true))))))
def rV (x0:aF) (x1:aF):Option (Bool):=
 ak (S:=Unit) (((bif (x0.aA) == (x1.aA) then ((fQ x0.aE x1.aE)>>=fun ug=>(bif ug then ((fQ x0.To x1.To)>>=fun GU=>(bif GU then ((fQ x0.aH x1.aH)>>=fun nn=>(bif nn then ((tK x0.aC x1.aC)>>=fun GR=>(some (GR))) else (some (false)))) else (some (false)))) else (some (false)))) else (some (false))))>>=fun g16=>(some (Out.ret (g16))))
def oN (x0:aP) (x1:aP) (x2:(List Int)) (dn:Int):Option (Out (Int) (Bool)):=
 (bif decide (dn < (x2.length:Int)) then ((((idx x2 (dn))>>=fun Qx=>((idx x0.aG.aE (Qx))>>=fun Qq=>((idx x0.aA (dn))>>=fun ZA=>(bif (Qq) != (ZA) then (some (true)) else ((idx x2 (dn))>>=fun ZT=>((idx x0.aG.To (ZT))>>=fun Qt=>((idx x1.aA (dn))>>=fun Zy=>(some ((Qt) != (Zy)))))))))))>>=fun g65=>(bif g65 then (some (Out.ret (false))) else (some (Out.norm (aj (dn+(1:Int))))))) else (some (Out.exit 0 (dn))))
def oO (x0:aP) (x1:aP) (x2:(List Int)) (ee:Int):Option (Out (Int) (Bool)):=
 (bif decide (ee < (x0.aB.aE.length:Int)) then ((idx x0.ab (ee))>>=fun OL=>((idx x0.aB.To (ee))>>=fun HG=>((idx x2 (HG))>>=fun FG=>((eK x0.aG (OL) (FG))>>=fun ahM=>((idx x0.aB.aE (ee))>>=fun wW=>((idx x2 (wW))>>=fun Fy=>((idx x1.ab (ee))>>=fun K7=>((eK x0.aG (Fy) (K7))>>=fun ahN=>(bif (ahM) != (ahN) then (some (Out.ret (false))) else (some (Out.norm (aj (ee+(1:Int)))))))))))))) else (some (Out.exit 2 (ee))))
def gP (x0:aP) (x1:aP) (x2:(List Int)):Option (Bool):=
 ak (S:=Unit) (((bif ((x2.length:Int)) != ((x0.aA.length:Int)) then (some (true)) else ((kR ((x0.aG.aE.length:Int)) x2)>>=fun Zw=>(some (!(Zw))))))>>=fun ZP=>(bif ZP then (some (Out.ret (false))) else (af (ae 0 (ah (oN x0 x1 x2) ((0:Int)))) (fun dn=>(af (ae 2 (ah (oO x0 x1 x2) ((0:Int)))) (fun ee=>(some (Out.ret (true)))))))))
def pC (x0:bT):Option (Bool):=
 ak (S:=Unit) ((((tQ x0.On)>>=fun GU=>(bif !(GU) then (some (true)) else ((rV x0.On.aB x0.On.aG)>>=fun nn=>(some (!(nn)))))))>>=fun g20=>(bif g20 then (some (Out.ret (false))) else (orE (((eJ x0.On.aB)>>=fun QF=>((gP QF x0.On x0.Unit)>>=fun ahO=>(bif !(ahO) then (some (Out.ret (false))) else none)))) (((eJ x0.On.aB)>>=fun ahP=>((gP ahP x0.On x0.Unit)>>=fun HK=>(bif !(HK) then none else ((kE x0.On)>>=fun ahQ=>((gP ahQ x0.On x0.cn)>>=fun TJ=>(bif !(TJ) then (some (Out.ret (false))) else ((lD x0.On x0.Unit x0.cn)>>=fun Tw=>(some (Out.ret (Tw))))))))))))))
def jO (x0:aF) (x1:Int):Option (Bool):=
 ak (S:=Unit) (((bif decide (x1 ≥ (0:Int)) then (some (decide (x1 < x0.aA))) else (some (false))))>>=fun g8=>(some (Out.ret (g8))))
def mG (uh:bT×aJ) (vu:Int×aJ) (EI:(List Int)) (ui:Int):Option (Out ((List Int)×Int) (bT×Int×Int×Int×Int)):=
 (bif decide (ui < uh.1.On.aB.aA) then ((idx uh.1.On.aA (vu.1))>>=fun TW=>((eY uh.1.On.aB (ui) (TW))>>=fun ZV=>((fits 8 (EI.length+ZV.length))>>=fun aue=>(some (Out.norm (EI++ZV,aj (ui+(1:Int)))))))) else (some (Out.exit 0 (EI,ui))))
def lN (x0:(List Int)):Option (bT×Int×Int×Int×Int):=
 ak (S:=Unit) ((qX x0)>>=fun y8=>(match y8 with | none=>none | some m15=>((oJ (aJ.mk x0 m15.At m15.an))>>=fun uh=>((iA (aJ.mk x0 uh.2.At uh.2.an) (uh.1.On.aB.aA))>>=fun vu=>((iA (aJ.mk x0 vu.2.At vu.2.an) (uh.1.On.aB.aA))>>=fun px=>((iA (aJ.mk x0 px.2.At px.2.an) ((uh.1.On.aB.aE.length:Int)))>>=fun Aj=>((iA (aJ.mk x0 Aj.2.At Aj.2.an) ((uh.1.On.aB.aE.length:Int)))>>=fun HM=>((pC uh.1)>>=fun ahR=>(bif ahR then ((jO uh.1.On.aB (vu.1))>>=fun ahS=>(bif ahS then ((jO uh.1.On.aB (px.1))>>=fun ahT=>(bif ahT then ((bY (aJ.mk x0 HM.2.At HM.2.an) ((8:Int)))>>=fun TX=>(bif decide (TX.1 > (0:Int)) then (af (ae 0 (ah (fun s=>mG uh vu s.1 s.2) (([]:(List Int)),(0:Int)))) (fun (EI,ui)=>((bY (aJ.mk x0 TX.2.At TX.2.an) ((EI.length:Int)))>>=fun K9=>((idx EI (K9.1))>>=fun ZW=>((idx uh.1.On.aA (px.1))>>=fun S9=>((eY uh.1.On.aB (vu.1) (S9))>>=fun TY=>(bif ((TY.length:Int)) == ((0:Int)) then ((idx uh.1.On.aA (vu.1))>>=fun TA=>((eY uh.1.On.aB (vu.1) (TA))>>=fun ZX=>((bY (aJ.mk x0 K9.2.At K9.2.an) ((ZX.length:Int)))>>=fun Cw=>((idx ZX (Cw.1))>>=fun ahU=>(some (Out.ret ((uh.1,vu.1,vu.1,ZW,ahU)))))))) else ((bY (aJ.mk x0 K9.2.At K9.2.an) ((TY.length:Int)))>>=fun ahV=>((idx TY (ahV.1))>>=fun ahW=>(some (Out.ret ((uh.1,vu.1,px.1,ZW,ahW))))))))))))) else (some (Out.ret ((uh.1,vu.1,px.1,Aj.1,HM.1)))))) else (some (Out.ret ((uh.1,vu.1,px.1,Aj.1,HM.1)))))) else (some (Out.ret ((uh.1,vu.1,px.1,Aj.1,HM.1)))))) else (some (Out.ret ((uh.1,vu.1,px.1,Aj.1,HM.1)))))))))))))
def cY (x0:aF):Option (Int):=
 ak (S:=Unit) (some (Out.ret (((x0.aE.length:Int)))))
def mS (x0:Int) (x1:Int) (x2:Int):Option (Bool):=
 ak (S:=Unit) (((bif decide (x0 ≥ x1) then (some (decide (x0≤x2))) else (some (false))))>>=fun g3=>(some (Out.ret (g3))))
def pD (x0:(List Int)) (x1:Int) (dn:Int):Option (Out (Int) (Bool)):=
 (bif decide (dn < (x0.length:Int)) then ((idx x0 (dn))>>=fun e9=>((mS (e9) ((0:Int)) (aj (x1 - (1:Int))))>>=fun Di=>(bif !(Di) then (some (Out.ret (false))) else (some (Out.norm (aj (dn+(1:Int)))))))) else (some (Out.exit 0 (dn))))
def gT (x0:(List Int)) (x1:Int):Option (Bool):=
 ak (S:=Unit) (af (ae 0 (ah (pD x0 x1) ((0:Int)))) (fun dn=>(some (Out.ret (true)))))
def eQ (x0:aF) (x1:Int):Option (vL):=
 ak (S:=Unit) ((idx x0.aE (x1))>>=fun e8=>((idx x0.To (x1))>>=fun Qw=>(some (Out.ret ((vL.mk e8 Qw))))))
def iP (x0:aF) (CF:Int):Option (Out (Int) (Bool)):=
 (bif decide (CF < (x0.aH.length:Int)) then ((idx x0.aH (CF))>>=fun KW=>((eQ x0 (KW))>>=fun Lb=>(bif !((Lb.aE) == (CF) && (Lb.To) == (CF)) then (some (Out.ret (false))) else (some (Out.norm (aj (CF+(1:Int)))))))) else (some (Out.exit 0 (CF))))
def iQ (x0:aF) (y3:Int) (w3:Int) (K1:(List Int)) (yq:Int):Option (Out (Int) (Bool)):=
 (bif decide (yq < (K1.length:Int)) then ((idx K1 (yq))>>=fun GH=>((idx x0.To (w3))>>=fun ZU=>((idx x0.aE (yq))>>=fun ZR=>(bif (ZU) != (ZR) then (bif (GH) != ((-1:Int)) then (some (Out.ret (false))) else (some (Out.norm (aj (yq+(1:Int)))))) else ((((mS (GH) ((0:Int)) (aj (y3 - (1:Int))))>>=fun ahX=>(bif !(ahX) then (some (true)) else ((eQ x0 (GH))>>=fun OU=>((idx x0.aE (w3))>>=fun ON=>((idx x0.To (yq))>>=fun wW=>(some (!((OU.aE) == (ON) && (OU.To) == (wW))))))))))>>=fun g99=>(bif g99 then (some (Out.ret (false))) else (some (Out.norm (aj (yq+(1:Int))))))))))) else (some (Out.exit 4 (yq))))
def lH (x0:aF) (y3:Int) (w3:Int):Option (Out (Int) (Bool)):=
 (bif decide (w3 < (x0.aC.length:Int)) then ((idx x0.aC (w3))>>=fun K1=>(bif ((K1.length:Int)) != (y3) then (some (Out.ret (false))) else (af (ae 4 (ah (iQ x0 y3 w3 K1) ((0:Int)))) (fun yq=>(some (Out.norm (aj (w3+(1:Int))))))))) else (some (Out.exit 2 (w3))))
def jZ (x0:aF):Option (Bool):=
 ak (S:=Unit) ((cY x0)>>=fun y3=>((((mS (x0.aA) ((0:Int)) ((8:Int)))>>=fun y9=>(bif !(y9) then (some (true)) else (bif decide (y3 > (40:Int)) then (some (true)) else (bif ((x0.To.length:Int)) != (y3) then (some (true)) else ((gT x0.aE (x0.aA))>>=fun GP=>(bif !(GP) then (some (true)) else ((gT x0.To (x0.aA))>>=fun uw=>(some (!(uw)))))))))))>>=fun g7=>(bif g7 then (some (Out.ret (false))) else (((bif ((x0.aH.length:Int)) != (x0.aA) then (some (true)) else ((gT x0.aH (y3))>>=fun Aa=>(bif !(Aa) then (some (true)) else (some (((x0.aC.length:Int)) != (y3)))))))>>=fun g24=>(bif g24 then (some (Out.ret (false))) else (af (ae 0 (ah (iP x0) ((0:Int)))) (fun CF=>(af (ae 2 (ah (lH x0 y3) ((0:Int)))) (fun w3=>(some (Out.ret (true))))))))))))
def cT (x0:aF) (x1:Int) (x2:Int):Option (Int):=
 ak (S:=Unit) ((idx x0.aC (x1))>>=fun e3=>((idx e3 (x2))>>=fun Qw=>(some (Out.ret (Qw)))))
def jQ (x0:aF) (y3:Int) (bb:Int):Option (Out (Int) (Int×Int×Int×Int)):=
 (bif decide (bb < y3) then ((((idx x0.aE (bb))>>=fun K0=>((idx x0.aH (K0))>>=fun GV=>((cT x0 (GV) (bb))>>=fun ug=>(bif (ug) != (bb) then (some (true)) else ((idx x0.To (bb))>>=fun KH=>((idx x0.aH (KH))>>=fun QG=>((cT x0 (bb) (QG))>>=fun BN=>(some ((BN) != (bb)))))))))))>>=fun g13=>(bif g13 then (some (Out.ret ((((1:Int)),bb,((0:Int)),((0:Int)))))) else (some (Out.norm (aj (bb+(1:Int))))))) else (some (Out.exit 0 (bb))))
def gU (x0:aF) (y3:Int) (cy:Int) (bx:Int) (gx:Int):Option (Out (Int) (Int×Int×Int×Int)):=
 (bif decide (gx < y3) then ((((cT x0 (bx) (gx))>>=fun ZE=>(bif decide (ZE ≥ (0:Int)) then ((cT x0 (cy) (bx))>>=fun Nl=>((cT x0 (Nl) (gx))>>=fun y68=>((cT x0 (bx) (gx))>>=fun y70=>((cT x0 (cy) (y70))>>=fun y72=>(some ((y68) != (y72))))))) else (some (false)))))>>=fun g61=>(bif g61 then (some (Out.ret ((((2:Int)),cy,bx,gx)))) else (some (Out.norm (aj (gx+(1:Int))))))) else (some (Out.exit 6 (gx))))
def gV (x0:aF) (y3:Int) (cy:Int) (bx:Int):Option (Out (Int) (Int×Int×Int×Int)):=
 (bif decide (bx < y3) then ((cT x0 (cy) (bx))>>=fun KO=>(bif decide (KO < (0:Int)) then (some (Out.norm (aj (bx+(1:Int))))) else (af (ae 6 (ah (gU x0 y3 cy bx) ((0:Int)))) (fun gx=>(some (Out.norm (aj (bx+(1:Int))))))))) else (some (Out.exit 4 (bx))))
def mH (x0:aF) (y3:Int) (cy:Int):Option (Out (Int) (Int×Int×Int×Int)):=
 (bif decide (cy < y3) then (af (ae 4 (ah (gV x0 y3 cy) ((0:Int)))) (fun bx=>(some (Out.norm (aj (cy+(1:Int))))))) else (some (Out.exit 2 (cy))))
def lO (x0:aF):Option (Int×Int×Int×Int):=
 ak (S:=Unit) ((cY x0)>>=fun y3=>(af (ae 0 (ah (jQ x0 y3) ((0:Int)))) (fun bb=>(af (ae 2 (ah (mH x0 y3) ((0:Int)))) (fun cy=>(some (Out.ret ((((0:Int)),((0:Int)),((0:Int)),((0:Int)))))))))))
def iR (x0:aF):Option (Bool):=
 ak (S:=Unit) ((jZ x0)>>=fun y3=>(bif !(y3) then (some (Out.ret (false))) else ((lO x0)>>=fun cb=>(some (Out.ret (((cb.1) == ((0:Int)))))))))
def kA (x0:(List aF)) (bb:Int):Option (Out (Int) (Bool)):=
 (bif decide (bb < (x0.length:Int)) then ((idx x0 (bb))>>=fun e9=>((iR e9)>>=fun dh=>(bif !(dh) then (some (Out.ret (false))) else (some (Out.norm (aj (bb+(1:Int)))))))) else (some (Out.exit 0 (bb))))
def lW (x0:(List aF)):Option (Bool):=
 ak (S:=Unit) (af (ae 0 (ah (kA x0) ((0:Int)))) (fun bb=>(some (Out.ret (true)))))
def nA (x0:aP) (CG:Int):Option (Out (Int) (Bool)):=
 (bif decide (CG < (x0.ab.length:Int)) then ((idx x0.ab (CG))>>=fun KJ=>((((idx x0.aG.aE (KJ))>>=fun GN=>((idx x0.aB.aE (CG))>>=fun Qy=>((idx x0.aA (Qy))>>=fun KW=>(bif (GN) != (KW) then (some (true)) else ((idx x0.aG.To (KJ))>>=fun yp=>((idx x0.aB.To (CG))>>=fun BO=>((idx x0.aA (BO))>>=fun Qr=>(some ((yp) != (Qr)))))))))))>>=fun g35=>(bif g35 then (some (Out.ret (false))) else (some (Out.norm (aj (CG+(1:Int)))))))) else (some (Out.exit 0 (CG))))
def nB (x0:aP) (BT:Int):Option (Out (Int) (Bool)):=
 (bif decide (BT < (x0.aB.aH.length:Int)) then ((idx x0.aB.aH (BT))>>=fun e64=>((idx x0.ab (e64))>>=fun QD=>((idx x0.aA (BT))>>=fun ZS=>((idx x0.aG.aH (ZS))>>=fun Fe=>(bif (QD) != (Fe) then (some (Out.ret (false))) else (some (Out.norm (aj (BT+(1:Int)))))))))) else (some (Out.exit 2 (BT))))
def nC (x0:aP) (yr:Int) (Fc:(List Int)) (BU:Int):Option (Out (Int) (Bool)):=
 (bif decide (BU < (Fc.length:Int)) then ((idx Fc (BU))>>=fun OT=>(((bif decide (OT ≥ (0:Int)) then ((idx x0.ab (OT))>>=fun Fy=>((idx x0.ab (yr))>>=fun K7=>((idx x0.ab (BU))>>=fun Tp=>((cT x0.aG (K7) (Tp))>>=fun TO=>(some ((Fy) != (TO))))))) else (some (false))))>>=fun ahY=>(bif ahY then (some (Out.ret (false))) else (some (Out.norm (aj (BU+(1:Int)))))))) else (some (Out.exit 6 (BU))))
def nD (x0:aP) (yr:Int):Option (Out (Int) (Bool)):=
 (bif decide (yr < (x0.aB.aC.length:Int)) then ((idx x0.aB.aC (yr))>>=fun Fc=>(af (ae 6 (ah (nC x0 yr Fc) ((0:Int)))) (fun BU=>(some (Out.norm (aj (yr+(1:Int)))))))) else (some (Out.exit 4 (yr))))
def mK (x0:aP):Option (Bool):=
 ak (S:=Unit) (((bif ((x0.aA.length:Int)) != (x0.aB.aA) then (some (true)) else ((cY x0.aB)>>=fun cb=>(bif ((x0.ab.length:Int)) != (cb) then (some (true)) else ((gT x0.aA (x0.aG.aA))>>=fun Di=>(bif !(Di) then (some (true)) else ((cY x0.aG)>>=fun qp=>((gT x0.ab (qp))>>=fun yn=>(some (!(yn)))))))))))>>=fun g7=>(bif g7 then (some (Out.ret (false))) else (af (ae 0 (ah (nA x0) ((0:Int)))) (fun CG=>(af (ae 2 (ah (nB x0) ((0:Int)))) (fun BT=>(af (ae 4 (ah (nD x0) ((0:Int)))) (fun yr=>(some (Out.ret (true)))))))))))
def gW (x0:aP):Option (Bool):=
 ak (S:=Unit) ((((lW [x0.aB,x0.aG])>>=fun GP=>(bif GP then ((mK x0)>>=fun uw=>(some (uw))) else (some (false)))))>>=fun g12=>(some (Out.ret (g12))))
def iS (x0:(List Int)) (x1:(List Int)) (ib:Int):Option (Out (Int) (Int)):=
 (bif decide (ib < (x0.length:Int)) then (bif (ib) == ((x1.length:Int)) then (some (Out.ret (((1:Int))))) else ((idx x0 (ib))>>=fun GF=>((idx x1 (ib))>>=fun yQ=>(bif (GF) != (yQ) then ((idx x0 (ib))>>=fun KT=>((idx x1 (ib))>>=fun IF=>(bif decide (KT < IF) then (some (Out.ret (((-1:Int))))) else (some (Out.ret (((1:Int)))))))) else (some (Out.norm (aj (ib+(1:Int))))))))) else (some (Out.exit 0 (ib))))
def tU (x0:(List Int)) (x1:(List Int)):Option (Int):=
 ak (S:=Unit) (af (ae 0 (ah (iS x0 x1) ((0:Int)))) (fun ib=>(bif decide ((x0.length:Int) < (x1.length:Int)) then (some (Out.ret (((-1:Int))))) else (some (Out.ret (((0:Int))))))))
def oP (x0:(List Int)) (x1:(List Int)):Option (Bool):=
 ak (S:=Unit) ((tU x0 x1)>>=fun y3=>(some (Out.ret (((y3) == ((0:Int)))))))
def kP (x0:aF) (x1:aF) (EJ:Int):Option (Out (Int) (Bool)):=
 (bif decide (EJ < (x0.aC.length:Int)) then ((idx x0.aC (EJ))>>=fun e28=>((idx x1.aC (EJ))>>=fun DX=>((oP e28 DX)>>=fun uz=>(bif !(uz) then (some (Out.ret (false))) else (some (Out.norm (aj (EJ+(1:Int))))))))) else (some (Out.exit 0 (EJ))))
def jA (x0:aF) (x1:aF):Option (Bool):=
 ak (S:=Unit) (((bif (x0.aA) != (x1.aA) then (some (true)) else ((oP x0.aE x1.aE)>>=fun y6=>(bif !(y6) then (some (true)) else ((oP x0.To x1.To)>>=fun y9=>(bif !(y9) then (some (true)) else ((oP x0.aH x1.aH)>>=fun Dh=>(bif !(Dh) then (some (true)) else (some (((x0.aC.length:Int)) != ((x1.aC.length:Int))))))))))))>>=fun g3=>(bif g3 then (some (Out.ret (false))) else (af (ae 0 (ah (kP x0 x1) ((0:Int)))) (fun EJ=>(some (Out.ret (true)))))))
def lX (n3:Nat) (dn:Int) (w4:(List Int)):Option (Out (Int×(List Int)) ((List Int))):=
 (bif decide (dn < ((List.replicate n3 (0:Int)).length:Int)) then ((idx w4 (dn))>>=fun IE=>(some (Out.norm (aj (dn+(1:Int)),w4.set (dn).toNat (dn))))) else (some (Out.exit 0 (dn,w4))))
def oQ (x0:Int):Option ((List Int)):=
 ak (S:=Unit) ((mk 8 (x0))>>=fun n3=>(af (ae 0 (ah (fun s=>lX n3 s.1 s.2) ((0:Int),List.replicate n3 (0:Int)))) (fun (dn,w4)=>(some (Out.ret (w4))))))
def jR (x0:(List Int)):Option ((List Int)):=
 ak (S:=Unit) ((fits 8 ((([]:(List Int))).length+x0.length))>>=fun n15=>(some (Out.ret ((([]:(List Int))++x0)))))
def mT (x0:(List (List Int))) (gf:(List (List Int))) (iw:Int):Option (Out ((List (List Int))×Int) ((List (List Int)))):=
 (bif decide (iw < (x0.length:Int)) then ((idx x0 (iw))>>=fun KZ=>((jR KZ)>>=fun Ff=>((fits 24 (gf.length+1))>>=fun n53=>(some (Out.norm (gf++[Ff],aj (iw+(1:Int)))))))) else (some (Out.exit 0 (gf,iw))))
def tA (x0:(List (List Int))):Option ((List (List Int))):=
 ak (S:=Unit) ((mk 24 ((x0.length:Int)))>>=fun n3=>(af (ae 0 (ah (fun s=>mT x0 s.1 s.2) (([]:(List (List Int))),(0:Int)))) (fun (gf,iw)=>(some (Out.ret (gf))))))
def jU (x0:aF):Option (aF):=
 ak (S:=Unit) ((jR x0.aE)>>=fun y8=>((jR x0.To)>>=fun uw=>((jR x0.aH)>>=fun Aa=>((tA x0.aC)>>=fun K8=>(some (Out.ret ((aF.mk x0.aA y8 uw Aa K8))))))))
def oR (x0:aF) (x1:aF) (x2:(List Int)) (x3:(List Int)):Option (aP):=
 ak (S:=Unit) ((jU x0)>>=fun y8=>((jU x1)>>=fun yR=>((jR x2)>>=fun ZC=>((jR x3)>>=fun Qn=>(some (Out.ret ((aP.mk y8 yR ZC Qn))))))))
def qB (x0:aF):Option (aP):=
 ak (S:=Unit) ((oQ (x0.aA))>>=fun y8=>((cY x0)>>=fun uw=>((oQ (uw))>>=fun QH=>((oR x0 x0 y8 QH)>>=fun Nh=>(some (Out.ret (Nh)))))))
def oS (x0:(List Int)) (x1:(List Int)) (s7:Int) (w4:(List Int)):Option (Out (Int×(List Int)) ((List Int))):=
 (bif decide (s7 < (x0.length:Int)) then ((idx x0 (s7))>>=fun GV=>((idx x1 (GV))>>=fun zV=>((idx w4 (s7))>>=fun KT=>(some (Out.norm (aj (s7+(1:Int)),w4.set (s7).toNat (zV))))))) else (some (Out.exit 0 (s7,w4))))
def tC (x0:(List Int)) (x1:(List Int)):Option ((List Int)):=
 ak (S:=Unit) ((mk 8 ((x0.length:Int)))>>=fun n3=>(af (ae 0 (ah (fun s=>oS x0 x1 s.1 s.2) ((0:Int),List.replicate n3 (0:Int)))) (fun (s7,w4)=>(some (Out.ret (w4))))))
def mL (x0:aP) (x1:aP):Option (aP):=
 ak (S:=Unit) ((tC x0.aA x1.aA)>>=fun cb=>((tC x0.ab x1.ab)>>=fun ug=>((oR x0.aB x1.aG cb ug)>>=fun Ff=>(some (Out.ret (Ff))))))
def lP (x0:(List aP)) (bb:Int):Option (Out (Int) (Bool)):=
 (bif decide (bb < (x0.length:Int)) then ((idx x0 (bb))>>=fun e9=>((gW e9)>>=fun yR=>(bif !(yR) then (some (Out.ret (false))) else (some (Out.norm (aj (bb+(1:Int)))))))) else (some (Out.exit 0 (bb))))
def nE (x0:(List aP)):Option (Bool):=
 ak (S:=Unit) (af (ae 0 (ah (lP x0) ((0:Int)))) (fun bb=>(some (Out.ret (true)))))
def kB (x0:aP) (x1:aP):Option (Bool):=
 ak (S:=Unit) ((((jA x0.aB x1.aB)>>=fun y7=>(bif y7 then ((jA x0.aG x1.aG)>>=fun Dh=>(some (Dh))) else (some (false)))))>>=fun g3=>(some (Out.ret (g3))))
def iU (x0:bU) (CH:Int):Option (Out (Int) (Bool)):=
 (bif decide (CH < (x0.bj.length:Int)) then ((idx x0.bj (CH))>>=fun IG=>((eQ x0.aB.aG (IG))>>=fun Lb=>((idx x0.aB.aA (CH))>>=fun GQ=>((idx x0.aG.aA (CH))>>=fun QI=>(bif !((Lb.aE) == (GQ) && (Lb.To) == (QI)) then (some (Out.ret (false))) else (some (Out.norm (aj (CH+(1:Int)))))))))) else (some (Out.exit 0 (CH))))
def gQ (x0:bU):Option (Bool):=
 ak (S:=Unit) ((((nE [x0.aB,x0.aG])>>=fun qp=>(bif !(qp) then (some (true)) else ((kB x0.aB x0.aG)>>=fun ug=>(bif !(ug) then (some (true)) else (bif ((x0.bj.length:Int)) != (x0.aB.aB.aA) then (some (true)) else ((cY x0.aB.aG)>>=fun nn=>((gT x0.bj (nn))>>=fun Aa=>(some (!(Aa)))))))))))>>=fun g14=>(bif g14 then (some (Out.ret (false))) else (af (ae 0 (ah (iU x0) ((0:Int)))) (fun CH=>(some (Out.ret (true)))))))
def nF (x0:bU) (x1:(aP→aP→(List Int)→Int→Option (Bool))) (vb:Int):Option (Out (Int) (Int)):=
 (bif decide (vb < (x0.aB.ab.length:Int)) then ((x1 x0.aB x0.aG x0.bj (vb))>>=fun GP=>(bif !(GP) then (some (Out.ret (vb))) else (some (Out.norm (aj (vb+(1:Int))))))) else (some (Out.exit 0 (vb))))
def mM (x0:bU) (x1:(aP→aP→(List Int)→Int→Option (Bool))):Option (Int):=
 ak (S:=Unit) (af (ae 0 (ah (nF x0 x1) ((0:Int)))) (fun vb=>(some (Out.ret (((-1:Int)))))))
def kG (x0:aP) (x1:aP) (x2:(List Int)) (x3:Int):Option (Bool):=
 ak (S:=Unit) ((idx x0.ab (x3))>>=fun e7=>((idx x0.aB.To (x3))>>=fun e9=>((idx x2 (e9))>>=fun ZO=>((cT x0.aG (e7) (ZO))>>=fun Di=>((idx x0.aB.aE (x3))>>=fun K0=>((idx x2 (K0))>>=fun GV=>((idx x1.ab (x3))>>=fun IE=>((cT x0.aG (GV) (IE))>>=fun QH=>(some (Out.ret (((Di) == (QH)))))))))))))
def gA (x0:bU):Option (Bool):=
 ak (S:=Unit) ((((gQ x0)>>=fun y5=>(bif y5 then ((mM x0 (fun a0 a1 a2 a3=>kG a0 a1 a2 (a3)))>>=fun y8=>(some (decide (y8 < (0:Int))))) else (some (false)))))>>=fun g3=>(some (Out.ret (g3))))
def lY (x0:(List bU)) (bb:Int):Option (Out (Int) (Bool)):=
 (bif decide (bb < (x0.length:Int)) then ((idx x0 (bb))>>=fun e9=>((gA e9)>>=fun y57=>(bif !(y57) then (some (Out.ret (false))) else (some (Out.norm (aj (bb+(1:Int)))))))) else (some (Out.exit 0 (bb))))
def lZ (x0:(List bU)):Option (Bool):=
 ak (S:=Unit) (af (ae 0 (ah (lY x0) ((0:Int)))) (fun bb=>(some (Out.ret (true)))))
def dP (x0:bT) (x1:Int):Option (Int):=
 ak (S:=Unit) ((idx x0.On.aA (x1))>>=fun e4=>(some (Out.ret (e4))))
def lJ (x0:bT) (x1:Int):Option (Int):=
 ak (S:=Unit) ((idx x0.On.ab (x1))>>=fun e4=>(some (Out.ret (e4))))
def mI (x0:bT) (bh:Int):Option (Out (Int) (Bool)):=
 (bif decide (bh < x0.On.aB.aA) then ((dP x0 (bh))>>=fun Di=>((((idx x0.Unit (bh))>>=fun IE=>((lJ x0 (IE))>>=fun QH=>((idx x0.cn (bh))>>=fun KT=>((cT x0.On.aB (QH) (KT))>>=fun nn=>((idx x0.On.aB.aH (Di))>>=fun Df=>(bif (nn) != (Df) then (some (true)) else ((idx x0.Unit (Di))>>=fun Zr=>((idx x0.cn (bh))>>=fun GL=>((cT x0.On.aB (Zr) (GL))>>=fun y34=>((idx x0.On.aB.aH (Di))>>=fun QB=>(some ((y34) != (QB))))))))))))))>>=fun g17=>(bif g17 then (some (Out.ret (false))) else ((idx x0.cn (bh))>>=fun Qs=>((lJ x0 (Qs))>>=fun Lb=>((idx x0.cn (bh))>>=fun GQ=>((cT x0.On.aB (Lb) (GQ))>>=fun DR=>((idx x0.cn (Di))>>=fun e51=>((idx x0.cn (bh))>>=fun Vn=>((cT x0.On.aB (e51) (Vn))>>=fun y55=>(bif (DR) != (y55) then (some (Out.ret (false))) else (some (Out.norm (aj (bh+(1:Int)))))))))))))))) else (some (Out.exit 0 (bh))))
def lQ (x0:bT):Option (Bool):=
 ak (S:=Unit) (af (ae 0 (ah (mI x0) ((0:Int)))) (fun bh=>(some (Out.ret (true)))))
def jV (x0:bT):Option (Bool):=
 ak (S:=Unit) ((((gW x0.On)>>=fun y6=>(bif !(y6) then (some (true)) else ((jA x0.On.aB x0.On.aG)>>=fun Di=>(some (!(Di)))))))>>=fun g3=>(bif g3 then (some (Out.ret (false))) else ((qB x0.On.aB)>>=fun GU=>((mL x0.On x0.On)>>=fun OU=>((lZ [(bU.mk GU x0.On x0.Unit),(bU.mk OU x0.On x0.cn)])>>=fun ahZ=>(bif ahZ then ((lQ x0)>>=fun ah0=>(some (Out.ret (ah0)))) else (some (Out.ret (false)))))))))
def fW (x0:Int) (x1:Int) (x2:Int) (x3:aF) (x4:bT):Option (Int):=
 ak (S:=Unit) ((idx x4.On.ab (x2))>>=fun e4=>((cT x3 (x1) (e4))>>=fun y6=>((idx x4.cn (x0))>>=fun e8=>((cT x3 (y6) (e8))>>=fun cb=>(some (Out.ret (cb)))))))
def fV:Option Unit:=
 ak (S:=Unit) (some (Out.ret ()))
def fH (x0:bT) (x1:Int) (x2:Int) (x3:Int) (x4:Int):Option (Int×Int):=
 ak (S:=Unit) ((jV x0)>>=fun y8=>(bif !(y8) then (some (Out.ret ((((0:Int)),((1:Int)))))) else ((gT [x1,x2] (x0.On.aB.aA))>>=fun ug=>(bif !(ug) then (some (Out.ret ((((0:Int)),((2:Int)))))) else ((cY x0.On.aB)>>=fun Ff=>((gT [x3,x4] (Ff))>>=fun Zx=>(bif !(Zx) then (some (Out.ret ((((0:Int)),((2:Int)))))) else ((((idx x0.On.aB.To (x3))>>=fun Qz=>((dP x0 (x1))>>=fun ZY=>(bif (Qz) != (ZY) then (some (true)) else ((eQ x0.On.aB (x4))>>=fun DQ=>((dP x0 (x2))>>=fun DR=>(some (!((DQ.aE) == (x1) && (DQ.To) == (DR))))))))))>>=fun ZZ=>(bif ZZ then (some (Out.ret ((((0:Int)),((5:Int)))))) else ((fV)>>=fun y60=>((fW (x2) (x3) (x4) x0.On.aB x0)>>=fun Qv=>(some (Out.ret ((Qv,((0:Int)))))))))))))))))
def nM (x0:aF) (x1:Int):Option (Bool):=
 ak (S:=Unit) (((bif decide (x1 ≥ (0:Int)) then (some (decide (x1 < (x0.aE.length:Int)))) else (some (false))))>>=fun g8=>(some (Out.ret (g8))))
def lK (x0:bT) (x1:Int) (x2:Int) (x3:Int):Option (Int):=
 ak (S:=Unit) ((idx x0.On.ab (x3))>>=fun KZ=>((eK x0.On.aB (x2) (KZ))>>=fun GU=>((idx x0.cn (x1))>>=fun QG=>((eK x0.On.aB (GU) (QG))>>=fun BN=>(some (Out.ret (BN)))))))
def kD (x0:bT) (x1:Int) (x2:Int) (x3:Int) (x4:Int):Option (Int×Int):=
 ak (S:=Unit) ((pC x0)>>=fun y8=>(bif !(y8) then (some (Out.ret ((((0:Int)),((1:Int)))))) else ((((jO x0.On.aB (x1))>>=fun Ff=>(bif !(Ff) then (some (true)) else ((jO x0.On.aB (x2))>>=fun QF=>(bif !(QF) then (some (true)) else ((nM x0.On.aB (x3))>>=fun yR=>(bif !(yR) then (some (true)) else ((nM x0.On.aB (x4))>>=fun K8=>(some (!(K8)))))))))))>>=fun ZQ=>(bif ZQ then (some (Out.ret ((((0:Int)),((2:Int)))))) else ((((idx x0.On.aB.To (x3))>>=fun GQ=>((idx x0.On.aA (x1))>>=fun QI=>(bif (GQ) != (QI) then (some (true)) else ((idx x0.On.aB.aE (x4))>>=fun DZ=>(bif (DZ) != (x1) then (some (true)) else ((idx x0.On.aB.To (x4))>>=fun DW=>((idx x0.On.aA (x2))>>=fun GC=>(some ((DW) != (GC)))))))))))>>=fun Z0=>(bif Z0 then (some (Out.ret ((((0:Int)),((5:Int)))))) else ((lK x0 (x2) (x3) (x4))>>=fun Z1=>(some (Out.ret ((Z1,((0:Int)))))))))))))
def iV (x0:aF) (x1:Int) (x2:Int) (bb:(List Int)) (ui:Int):Option (Out ((List Int)×Int) ((List Int))):=
 (bif decide (ui < (x0.aE.length:Int)) then ((((idx x0.aE (ui))>>=fun KH=>(bif (KH) == (x1) then ((idx x0.To (ui))>>=fun IF=>(some ((IF) == (x2)))) else (some (false)))))>>=fun g20=>(bif g20 then ((fits 8 (bb.length+1))>>=fun n44=>(some (Out.norm (bb++[ui],aj (ui+(1:Int)))))) else (some (Out.norm (bb,aj (ui+(1:Int))))))) else (some (Out.exit 0 (bb,ui))))
def kH (x0:aF) (x1:Int) (x2:Int):Option ((List Int)):=
 ak (S:=Unit) (af (ae 0 (ah (fun s=>iV x0 x1 x2 s.1 s.2) (([]:(List Int)),(0:Int)))) (fun (bb,ui)=>(some (Out.ret (bb)))))
def fI (ao:Int) (ef:Int) (yR:(List Int)) (yI:(List (List Int))) (GW:Int):Option (Out ((List (List Int))×Int) ((List (List Int)))):=
 (bif decide (GW < (yR.length:Int)) then ((idx yR (GW))>>=fun DZ=>((fits 24 (yI.length+1))>>=fun n67=>(some (Out.norm (yI++[([ao,ef,DZ]:(List Int))],aj (GW+(1:Int))))))) else (some (Out.exit 4 (yI,GW))))
def fJ (x0:bT) (ao:Int) (v7:(List (List Int))) (ef:Int):Option (Out ((List (List Int))×Int) ((List (List Int)))):=
 (bif decide (ef < x0.On.aB.aA) then ((dP x0 (ef))>>=fun Nh=>((kH x0.On.aB (ao) (Nh))>>=fun yR=>(af (ae 4 (ah (fun s=>fI ao ef yR s.1 s.2) (v7,(0:Int)))) (fun (yI,GW)=>(some (Out.norm (yI,aj (ef+(1:Int))))))))) else (some (Out.exit 2 (v7,ef))))
def fK (x0:bT) (bh:(List (List Int))) (ao:Int):Option (Out ((List (List Int))×Int) ((List (List Int)))):=
 (bif decide (ao < x0.On.aB.aA) then (af (ae 2 (ah (fun s=>fJ x0 ao s.1 s.2) (bh,(0:Int)))) (fun (v7,ef)=>(some (Out.norm (v7,aj (ao+(1:Int))))))) else (some (Out.exit 0 (bh,ao))))
def iW (x0:bT):Option ((List (List Int))):=
 ak (S:=Unit) (af (ae 0 (ah (fun s=>fK x0 s.1 s.2) (([]:(List (List Int))),(0:Int)))) (fun (bh,ao)=>(some (Out.ret (bh)))))
def pS (yQ:(List Int)) (s1_3:(List Int)) (GX:Int):Option (Out ((List Int)×Int) (ByteArray)):=
 (bif decide (GX < (yQ.length:Int)) then ((idx yQ (GX))>>=fun QB=>((fits 1 (s1_3.length+1))>>=fun n54=>(some (Out.norm (s1_3++[IntKind.u8.wrap QB],aj (GX+(1:Int))))))) else (some (Out.exit 2 (s1_3,GX))))
def pT (x0:(List (List Int))) (gf:(List Int)) (iw:Int):Option (Out ((List Int)×Int) (ByteArray)):=
 (bif decide (iw < (x0.length:Int)) then ((idx x0 (iw))>>=fun yQ=>(af (ae 2 (ah (fun s=>pS yQ s.1 s.2) (gf,(0:Int)))) (fun (s1_3,GX)=>((fits 1 (s1_3.length+1))>>=fun n75=>(some (Out.norm (s1_3++[(255:Int)],aj (iw+(1:Int))))))))) else (some (Out.exit 0 (gf,iw))))
def sT (x0:(List (List Int))):Option (ByteArray):=
 ak (S:=Unit) (af (ae 0 (ah (fun s=>pT x0 s.1 s.2) (([]:(List Int)),(0:Int)))) (fun (gf,iw)=>(some (Out.ret ((strOfNums gf))))))
def mU (x0:List (List Int)) (s:List (ByteArray×Int)×Int):Option (Out (List (ByteArray×Int)×Int) (List (ByteArray×Int))):=
 (bif decide (s.2 < (x0.length:Int)) then ((idx x0 (s.2))>>=fun Vw=>((sT [Vw])>>=fun uw=>(some (Out.norm (zD s.1 uw s.2,aj (s.2+(1:Int))))))) else (some (Out.exit 0 s)))
def tB (x0:List (List Int)):Option (List (ByteArray×Int)):=
 ak (S:=Unit) (af (ae 0 (ah (fun s=>mU x0 s) (([]:List (ByteArray×Int)),(0:Int)))) (fun s=>(some (Out.ret (s.1)))))
def mV (x0:(List (List Int))) (x1:Int) (ao:(List Int)) (iw:Int):Option (Out ((List Int)×Int) ((List Int))):=
 (bif decide (iw < (x0.length:Int)) then ((idx x0 (iw))>>=fun yQ=>((idx yQ (x1))>>=fun Df=>((fits 8 (ao.length+1))>>=fun n43=>(some (Out.norm (ao++[Df],aj (iw+(1:Int)))))))) else (some (Out.exit 0 (ao,iw))))
def pU (x0:(List (List Int))) (x1:Int):Option ((List Int)):=
 ak (S:=Unit) (af (ae 0 (ah (fun s=>mV x0 x1 s.1 s.2) (([]:(List Int)),(0:Int)))) (fun (ao,iw)=>(some (Out.ret (ao)))))
def gL (x0 x1:Int) (ll:List (List Int)) (mm:List (ByteArray×Int)) (mo:bT):Option Int:=
 ak (S:=Unit) ((idx ll (x0))>>=fun Vw=>((idx ll (x1))>>=fun GV=>((idx Vw ((0:Int)))>>=fun zV=>((idx GV ((1:Int)))>>=fun QG=>((idx GV ((1:Int)))>>=fun GK=>((idx Vw ((2:Int)))>>=fun GL=>((idx GV ((2:Int)))>>=fun DX=>((fW (GK) (GL) (DX) mo.On.aB mo)>>=fun KN=>((sT [[zV,QG,KN]])>>=fun Dd=>(some (Out.ret ((vV mm Dd).getD (0:Int)))))))))))))
def gX (x0:aF) (x1:(Int→Int→Option (Int))) (p6:Int) (DW:(List Int)) (vc:Int) (Al:(List (List Int))):Option (Out (Int×(List (List Int))) (aF)):=
 (bif decide (vc < (DW.length:Int)) then ((idx Al (p6))>>=fun Fe=>((idx Fe (vc))>>=fun Ng=>((idx x0.To (p6))>>=fun Vp=>((idx x0.aE (vc))>>=fun Dg=>(bif (Vp) == (Dg) then ((idx (Al.set (p6).toNat (Fe.set (vc).toNat ((-1:Int)))) (p6))>>=fun HG=>((x1 (p6) (vc))>>=fun ah1=>((idx HG (vc))>>=fun agn=>(some (Out.norm (aj (vc+(1:Int)),(Al.set (p6).toNat (Fe.set (vc).toNat ((-1:Int)))).set (p6).toNat (HG.set (vc).toNat (ah1)))))))) else (some (Out.norm (aj (vc+(1:Int)),Al.set (p6).toNat (Fe.set (vc).toNat ((-1:Int))))))))))) else (some (Out.exit 2 (vc,Al))))
def gY (x0:aF) (x1:(Int→Int→Option (Int))) (y7:Int) (n11:Nat) (p6:Int) (BV:(List (List Int))):Option (Out (Int×(List (List Int))) (aF)):=
 (bif decide (p6 < ((List.replicate n11 ([]:(List Int))).length:Int)) then ((mk 8 (y7))>>=fun n35=>((idx BV (p6))>>=fun Nj=>((idx (BV.set (p6).toNat (List.replicate n35 (0:Int))) (p6))>>=fun DW=>(af (ae 2 (ah (fun s=>gX x0 x1 p6 DW s.1 s.2) ((0:Int),BV.set (p6).toNat (List.replicate n35 (0:Int))))) (fun (vc,Al)=>(some (Out.norm (aj (p6+(1:Int)),Al)))))))) else (some (Out.exit 0 (p6,BV))))
def lR (x0:aF) (x1:(Int→Int→Option (Int))):Option (aF):=
 Hu (R:=(aF)) ((cY x0)>>=fun y7=>((mk 24 (y7))>>=fun n11=>(af (ae 0 (ah (fun s=>gY x0 x1 y7 n11 s.1 s.2) ((0:Int),List.replicate n11 ([]:(List Int))))) (fun (p6,BV)=>(some (Out.norm ((aF.mk x0.aA x0.aE x0.To x0.aH BV))))))))
def iB (mo:bT) (mm:List (ByteArray×Int)) (s:List Int×Int):Option (Out (List Int×Int) (aF×List (List Int)×Bool)):=
 (bif decide (s.2 < (mo.Unit.length:Int)) then ((idx mo.Unit (s.2))>>=fun IG=>((sT [[s.2,s.2,IG]])>>=fun DR=>((fits 8 (s.1.length+1))>>=fun n52=>(some (Out.norm (s.1++[(vV mm DR).getD (0:Int)],aj (s.2+(1:Int)))))))) else (some (Out.exit 0 s)))
def mA (x0:bT):Option (aF×List (List Int)×Bool):=
 ak (S:=Unit) ((iW x0)>>=fun Dh=>(bif decide ((Dh.length:Int) > (40:Int)) then (some (Out.ret (aF.mk (0:Int) [] [] [] [],[],false))) else ((tB Dh)>>=fun yn=>((fV)>>=fun _=>((pU Dh ((0:Int)))>>=fun Aa=>((pU Dh ((1:Int)))>>=fun Ff=>(af (ae 0 (ah (fun s=>iB x0 yn s) (([]:List Int),(0:Int)))) (fun s=>((lR (aF.mk x0.On.aB.aA Aa Ff s.1 ([]:List (List Int))) (fun a0 a1=>gL a0 a1 Dh yn x0))>>=fun y56=>(some (Out.ret (aF.mk y56.aA Aa Ff s.1 y56.aC,Dh,true))))))))))))
def lL (x0:bT):Option (aF×(List (List Int))×Int):=
 ak (S:=Unit) ((jV x0)>>=fun y8=>(bif !(y8) then (some (Out.ret (((aF.mk ((0:Int)) ([]) ([]) ([]) ([])),([]),((1:Int)))))) else ((mA x0)>>=fun uw=>(bif !(uw.2.2) then (some (Out.ret (((aF.mk ((0:Int)) ([]) ([]) ([]) ([])),([]),((3:Int)))))) else (some (Out.ret ((uw.1,uw.2.1,((0:Int))))))))))
def nG (x0:bT):Option (aF×Int):=
 ak (S:=Unit) ((lL x0)>>=fun qp=>(some (Out.ret ((qp.1,qp.2.2)))))
def oT (x0:bT):Option ((List (List Int))×Int):=
 ak (S:=Unit) ((lL x0)>>=fun y8=>(some (Out.ret ((y8.2.1,y8.2.2)))))
def jW (cf:Int) (jk:Int) (Vx:(List Int)) (Lc:(List (List Int))) (bx:Int):Option (Out ((List (List Int))×Int) (aF×(List (List Int)))):=
 (bif decide (bx < (Vx.length:Int)) then ((idx Vx (bx))>>=fun FG=>((fits 24 (Lc.length+1))>>=fun n117=>(some (Out.norm (Lc++[([cf,jk,FG]:(List Int))],aj (bx+(1:Int))))))) else (some (Out.exit 4 (Lc,bx))))
def jX (x0:bT) (cf:Int) (mj:(List (List Int))) (jk:Int):Option (Out ((List (List Int))×Int) (aF×(List (List Int)))):=
 (bif decide (jk < x0.On.aB.aA) then ((idx x0.On.aA (jk))>>=fun QD=>((eY x0.On.aB (cf) (QD))>>=fun Vx=>(af (ae 4 (ah (fun s=>jW cf jk Vx s.1 s.2) (mj,(0:Int)))) (fun (Lc,bx)=>(some (Out.norm (Lc,aj (jk+(1:Int))))))))) else (some (Out.exit 2 (mj,jk))))
def iC (x0:bT) (ao:(List (List Int))) (cf:Int):Option (Out ((List (List Int))×Int) (aF×(List (List Int)))):=
 (bif decide (cf < x0.On.aB.aA) then (af (ae 2 (ah (fun s=>jX x0 cf s.1 s.2) (ao,(0:Int)))) (fun (mj,jk)=>(some (Out.norm (mj,aj (cf+(1:Int))))))) else (some (Out.exit 0 (ao,cf))))
def iD (x0:bT) (ao:(List (List Int))) (du:Int) (si:(List Int)):Option (Out (Int×(List Int)) (aF×(List (List Int)))):=
 (bif decide (du < x0.On.aB.aA) then ((idx x0.Unit (du))>>=fun ah2=>((iO ao [du,du,ah2])>>=fun K6=>((fits 8 (si.length+1))>>=fun n280=>(some (Out.norm (aj (du+(1:Int)),si++[K6])))))) else (some (Out.exit 6 (du,si))))
def iE (x0:bT) (ao:(List (List Int))) (lp:Int) (CI:(List Int)) (nq:Int):Option (Out ((List Int)×Int) (aF×(List (List Int)))):=
 (bif decide (nq < (ao.length:Int)) then ((idx ao (lp))>>=fun TZ=>((idx ao (nq))>>=fun OV=>((idx TZ ((1:Int)))>>=fun Tr=>((idx OV ((0:Int)))>>=fun TW=>(bif (Tr) == (TW) then ((idx TZ ((0:Int)))>>=fun Ts=>((idx OV ((1:Int)))>>=fun ah3=>((idx OV ((1:Int)))>>=fun ah4=>((idx TZ ((2:Int)))>>=fun ah5=>((idx OV ((2:Int)))>>=fun ah6=>((lK x0 (ah4) (ah5) (ah6))>>=fun ah7=>((iO ao [Ts,ah3,ah7])>>=fun ah8=>((fits 8 (CI.length+1))>>=fun auf=>(some (Out.norm (CI++[ah8],aj (nq+(1:Int))))))))))))) else ((fits 8 (CI.length+1))>>=fun aug=>(some (Out.norm (CI++[(-1:Int)],aj (nq+(1:Int))))))))))) else (some (Out.exit 10 (CI,nq))))
def gI (x0:bT) (ao:(List (List Int))) (OX:(List Int)) (OY:(List Int)) (si:(List Int)) (lp:Int) (wy:(List (List Int))):Option (Out (Int×(List (List Int))) (aF×(List (List Int)))):=
 (((bif decide (lp < (ao.length:Int)) then ((dT (aF.mk x0.On.aB.aA OX OY si wy))>>=fun ah9=>(some (ah9))) else (some (false))))>>=fun aia=>(bif aia then (af (ae 10 (ah (fun s=>iE x0 ao lp s.1 s.2) (([]:(List Int)),(0:Int)))) (fun (CI,nq)=>((fits 24 (wy.length+1))>>=fun auh=>(some (Out.norm (aj (lp+(1:Int)),wy++[CI])))))) else (some (Out.exit 8 (lp,wy)))))
def nX (x0:bT):Option (aF×(List (List Int))):=
 ak (S:=Unit) (af (ae 0 (ah (fun s=>iC x0 s.1 s.2) (([]:(List (List Int))),(0:Int)))) (fun (ao,cf)=>((fU ao ((0:Int)))>>=fun OX=>((fU ao ((1:Int)))>>=fun OY=>(af (ae 6 (ah (fun s=>iD x0 ao s.1 s.2) ((0:Int),([]:(List Int))))) (fun (du,si)=>(af (ae 8 (ah (fun s=>gI x0 ao OX OY si s.1 s.2) ((0:Int),([]:(List (List Int)))))) (fun (lp,wy)=>(some (Out.ret (((aF.mk x0.On.aB.aA OX OY si wy),ao))))))))))))
def oU (x0:bT):Option (aF×(List (List Int))×Int):=
 ak (S:=Unit) ((pC x0)>>=fun qp=>(bif !(qp) then (some (Out.ret (((aF.mk ((0:Int)) ([]) ([]) ([]) ([])),([]),((1:Int)))))) else ((nX x0)>>=fun nn=>((dT nn.1)>>=fun QC=>(bif !(QC) then (some (Out.ret (((aF.mk ((0:Int)) ([]) ([]) ([]) ([])),([]),((3:Int)))))) else (some (Out.ret ((nn.1,nn.2,((0:Int)))))))))))
def nH (x0:bT):Option (aF×Int):=
 ak (S:=Unit) ((oU x0)>>=fun qp=>(some (Out.ret ((qp.1,qp.2.2)))))
def oV (x0:bT):Option ((List (List Int))×Int):=
 ak (S:=Unit) ((oU x0)>>=fun y8=>(some (Out.ret ((y8.2.1,y8.2.2)))))
def uZ (x0:(List Int)) (x1:(List Int)) (ao:Int):Option (Out (Int) (Bool)):=
 (bif decide (ao < (x0.length:Int)) then ((idx x0 (ao))>>=fun ur=>((idx x1 (ao))>>=fun GF=>(bif (ur) != (GF) then (some (Out.ret (false))) else (some (Out.norm (aj (ao+(1:Int)))))))) else (some (Out.exit 0 (ao))))
def eR (x0:(List Int)) (x1:(List Int)):Option (Bool):=
 ak (S:=Unit) (bif ((x0.length:Int)) != ((x1.length:Int)) then (some (Out.ret (false))) else (af (ae 0 (ah (uZ x0 x1) ((0:Int)))) (fun ao=>(some (Out.ret (true))))))
def pP (x0:(List (List Int))) (x1:(List (List Int))) (ao:Int):Option (Out (Int) (Bool)):=
 (bif decide (ao < (x0.length:Int)) then ((idx x0 (ao))>>=fun ur=>((idx x1 (ao))>>=fun zV=>((eR ur zV)>>=fun GR=>(bif !(GR) then (some (Out.ret (false))) else (some (Out.norm (aj (ao+(1:Int))))))))) else (some (Out.exit 0 (ao))))
def jP (x0:(List (List Int))) (x1:(List (List Int))):Option (Bool):=
 ak (S:=Unit) (bif ((x0.length:Int)) != ((x1.length:Int)) then (some (Out.ret (false))) else (af (ae 0 (ah (pP x0 x1) ((0:Int)))) (fun ao=>(some (Out.ret (true))))))
def gM (x0:aF) (x1:aF):Option (Bool):=
 ak (S:=Unit) (((bif (x0.aA) == (x1.aA) then ((eR x0.aE x1.aE)>>=fun ug=>(bif ug then ((eR x0.To x1.To)>>=fun GU=>(bif GU then ((eR x0.aH x1.aH)>>=fun nn=>(bif nn then ((jP x0.aC x1.aC)>>=fun GR=>(some (GR))) else (some (false)))) else (some (false)))) else (some (false)))) else (some (false))))>>=fun g16=>(some (Out.ret (g16))))
def iF (cb:bT×Int×Int×Int×Int) (D5:Int×Int) (w5:(List (List Int))×Int) (AZ:Int) (A3:Int) (A4:Int) (jq:Int):Option (Out (Int×Int×Int×Int) (Bool)):=
 (bif decide (jq < (w5.1.length:Int)) then ((idx w5.1 (jq))>>=fun aib=>((idx cb.1.On.aB.aE (cb.2.2.2.1))>>=fun aic=>((eR aib [aic,cb.2.1,cb.2.2.2.1])>>=fun aid=>(bif aid then ((idx w5.1 (jq))>>=fun aie=>((eR aie [cb.2.1,cb.2.2.1,cb.2.2.2.2])>>=fun aif=>(bif aif then ((idx w5.1 (jq))>>=fun aih=>((idx cb.1.On.aB.aE (cb.2.2.2.1))>>=fun aii=>((eR aih [aii,cb.2.2.1,D5.1])>>=fun aij=>(bif aij then (some (Out.norm (jq,jq,jq,aj (jq+(1:Int))))) else (some (Out.norm (jq,jq,A4,aj (jq+(1:Int))))))))) else ((idx w5.1 (jq))>>=fun aik=>((idx cb.1.On.aB.aE (cb.2.2.2.1))>>=fun TK=>((eR aik [TK,cb.2.2.1,D5.1])>>=fun ail=>(bif ail then (some (Out.norm (jq,A3,jq,aj (jq+(1:Int))))) else (some (Out.norm (jq,A3,A4,aj (jq+(1:Int)))))))))))) else ((idx w5.1 (jq))>>=fun aim=>((eR aim [cb.2.1,cb.2.2.1,cb.2.2.2.2])>>=fun ain=>(bif ain then ((idx w5.1 (jq))>>=fun aio=>((idx cb.1.On.aB.aE (cb.2.2.2.1))>>=fun aip=>((eR aio [aip,cb.2.2.1,D5.1])>>=fun TL=>(bif TL then (some (Out.norm (AZ,jq,jq,aj (jq+(1:Int))))) else (some (Out.norm (AZ,jq,A4,aj (jq+(1:Int))))))))) else ((idx w5.1 (jq))>>=fun aiq=>((idx cb.1.On.aB.aE (cb.2.2.2.1))>>=fun air=>((eR aiq [air,cb.2.2.1,D5.1])>>=fun ais=>(bif ais then (some (Out.norm (AZ,A3,jq,aj (jq+(1:Int))))) else (some (Out.norm (AZ,A3,A4,aj (jq+(1:Int)))))))))))))))) else (some (Out.exit 0 (AZ,A3,A4,jq))))
def mB (x0:(List Int)):Option (Bool):=
 ak (S:=Unit) ((uX x0)>>=fun y3=>(bif y3 then (some (Out.ret (true))) else ((lN x0)>>=fun cb=>((fH cb.1 (cb.2.1) (cb.2.2.1) (cb.2.2.2.1) (cb.2.2.2.2))>>=fun T0=>((kD cb.1 (cb.2.1) (cb.2.2.1) (cb.2.2.2.1) (cb.2.2.2.2))>>=fun D5=>(((bif (T0.2) != (D5.2) then (some (true)) else (some ((T0.1) != (D5.1)))))>>=fun ait=>(bif ait then (some (Out.ret (false))) else (bif (T0.2) != ((0:Int)) then (some (Out.ret (true))) else ((idx cb.1.On.aB.aE (cb.2.2.2.1))>>=fun OC=>((idx cb.1.On.aB.aE (cb.2.2.2.1))>>=fun aiu=>((idx cb.1.Unit (aiu))>>=fun aiv=>((fH cb.1 (OC) (cb.2.1) (aiv) (cb.2.2.2.1))>>=fun Z4=>((idx cb.1.Unit (cb.2.1))>>=fun aiw=>((fH cb.1 (cb.2.1) (cb.2.1) (cb.2.2.2.1) (aiw))>>=fun Z5=>(((bif (Z4.2) != ((0:Int)) then (some (true)) else (bif (Z5.2) != ((0:Int)) then (some (true)) else (bif (Z4.1) != (cb.2.2.2.1) then (some (true)) else (some ((Z5.1) != (cb.2.2.2.1)))))))>>=fun aix=>(bif aix then (some (Out.ret (false))) else ((nG cb.1)>>=fun Z6=>((oT cb.1)>>=fun Z7=>((nH cb.1)>>=fun Z8=>((oV cb.1)>>=fun w5=>(((bif (Z6.2) != (w5.2) then (some (true)) else (bif (Z7.2) != (w5.2) then (some (true)) else ((gM Z6.1 Z8.1)>>=fun Lf=>(bif !(Lf) then (some (true)) else ((jP Z7.1 w5.1)>>=fun Cw=>(some (!(Cw)))))))))>>=fun Lh=>(bif Lh then (some (Out.ret (false))) else (bif (w5.2) != ((0:Int)) then (some (Out.ret (true))) else (af (ae 0 (ah (fun s=>iF cb D5 w5 s.1 s.2.1 s.2.2.1 s.2.2.2) ((-1:Int),(-1:Int),(-1:Int),(0:Int)))) (fun (AZ,A3,A4,jq)=>(((bif decide (AZ ≥ (0:Int)) then (bif decide (A3 ≥ (0:Int)) then (bif decide (A4 ≥ (0:Int)) then ((idx Z8.1.aC (AZ))>>=fun aiy=>((idx aiy (A3))>>=fun aiz=>(some ((aiz) == (A4))))) else (some (false))) else (some (false))) else (some (false))))>>=fun aiA=>(some (Out.ret (aiA)))))))))))))))))))))))))))))
end
end Go.Proofs.YtilhlobfebngdaaGreat
