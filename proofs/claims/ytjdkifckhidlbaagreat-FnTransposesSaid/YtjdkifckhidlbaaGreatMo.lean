/- Models, printed by a program: what each function computes, on plain data. No condition. -/
import Derived.Test.YtjdkifckhidlbaaGreatLj
import Derived.Test.YtjdkifckhidlbaaGreatLn
import Derived.Test.YtjdkifckhidlbaaGreatLq
namespace Go.Proofs.YtjdkifckhidlbaaGreat
open Go Go.Li
set_option linter.unusedVariables false
noncomputable section
structure aK where
 Code:(List Int)
 At:Int
 aq:Int
structure aI where
 aA:Int
 aG:(List Int)
 To:(List Int)
 aJ:(List Int)
 aB:(List (List Int))
structure cC where
 aG:Int
 To:Int
 ly:(List Int)
structure aP where
 aE:aI
 aH:aI
 aA:(List Int)
 ae:(List Int)
structure bN where
 Left:aP
 ab:aP
 Unit:(List Int)
 br:(List Int)
structure pD where
 aG:Int
 To:Int
structure cD where
 aE:aP
 aH:aP
 bc:(List Int)
def qO (x0:(List Int)):Option (Bool):=
 ao (S:=Unit) (some (Out.ret ((decide ((x0.length:Int) > (4096:Int))))))
def nN (x0:(List Int)) (cn:Int) (Al:Int):Option (Out (Int×Int) ((Option aK))):=
 (((bif decide (cn < (x0.length:Int)) then (some (decide (cn < (4096:Int)))) else (some (false))))>>=fun g14=>(bif g14 then ((su .mul .u64 (Al) ((1099511628211:Int)))>>=fun z20=>((idx x0 (cn))>>=fun zI=>((su .add .u64 (z20) (IntKind.u64.wrap zI))>>=fun z23=>((su .add .u64 (z23) ((7:Int)))>>=fun z24=>(some (Out.norm (an (cn+(1:Int)),z24))))))) else (some (Out.exit 0 (cn,Al)))))
def nO (x0:(List Int)):Option ((Option aK)):=
 ao (S:=Unit) ((su .add .u64 ((7019:Int)) (IntKind.u64.wrap ((x0.length:Int))))>>=fun z3=>(ah (af 0 (aj (fun s=>nN x0 s.1 s.2) ((0:Int),z3))) (fun (cn,Al)=>(some (Out.ret ((some (aK.mk x0 ((0:Int)) Al))))))))
def cI (x0:aK) (x1:Int):Option (Int×aK):=
 ao (S:=Unit) (bif decide (x1 < (1:Int)) then (some (Out.ret ((((0:Int)),x0)))) else ((su .mul .u64 (x0.aq) ((6364136223846793005:Int)))>>=fun z9=>((su .add .u64 (z9) ((1442695040888963407:Int)))>>=fun R7=>((su .shr .u64 (R7) ((33:Int)))>>=fun R8=>((su .and .u64 (R8) ((16777215:Int)))>>=fun WH=>(bif decide (x0.At < (x0.Code.length:Int)) then ((idx x0.Code (x0.At))>>=fun FD=>((su .rem .i64 (an (IntKind.i64.wrap WH+IntKind.i64.wrap FD)) (x1))>>=fun z30=>(some (Out.ret ((z30,(aK.mk x0.Code (an (x0.At+(1:Int))) R7))))))) else ((su .rem .i64 (IntKind.i64.wrap WH) (x1))>>=fun z33=>(some (Out.ret ((z33,(aK.mk x0.Code x0.At R7))))))))))))
def kR (x0:aK) (x1:Int) (bx:Int) (nu:Int) (nv:Int) (zJ:(List Int)):Option (Out (Int×Int×Int×(List Int)) ((List (List Int))×aK)):=
 (bif decide (bx < x1) then ((cI (aK.mk x0.Code nu nv) ((2:Int)))>>=fun Kr=>((idx zJ (bx))>>=fun e53=>(some (Out.norm (an (bx+(1:Int)),Kr.2.At,Kr.2.aq,zJ.set (bx).toNat (Kr.1)))))) else (some (Out.exit 2 (bx,nu,nv,zJ))))
def kS (x0:aK) (x1:Int) (bn:(List (List Int))) (fg:Int) (je:Int) (jf:Int):Option (Out ((List (List Int))×Int×Int×Int) ((List (List Int))×aK)):=
 (bif decide (fg < x1) then ((mk 8 (x1))>>=fun n21=>((idx (List.replicate n21 (0:Int)) (fg))>>=fun Ks=>(ah (af 2 (aj (fun s=>kR x0 x1 s.1 s.2.1 s.2.2.1 s.2.2.2) (an (fg+(1:Int)),je,jf,(List.replicate n21 (0:Int)).set (fg).toNat ((1:Int))))) (fun (bx,nu,nv,zJ)=>((fits 24 (bn.length+1))>>=fun n78=>(some (Out.norm (bn++[zJ],an (fg+(1:Int)),nu,nv)))))))) else (some (Out.exit 0 (bn,fg,je,jf))))
def oF (x1:Int) (bq:Int) (fu:Int) (qe:Int) (s7:(List (List Int))):Option (Out (Int×(List (List Int))) ((List (List Int))×aK)):=
 (bif decide (qe < x1) then ((((idx s7 (fu))>>=fun XT=>((idx XT (bq))>>=fun MB=>(bif (MB) == ((1:Int)) then ((idx s7 (bq))>>=fun XU=>((idx XU (qe))>>=fun XV=>(some ((XV) == ((1:Int)))))) else (some (false))))))>>=fun XW=>(bif XW then ((idx s7 (fu))>>=fun R9=>((idx R9 (qe))>>=fun akv=>(some (Out.norm (an (qe+(1:Int)),s7.set (fu).toNat (R9.set (qe).toNat ((1:Int)))))))) else (some (Out.norm (an (qe+(1:Int)),s7))))) else (some (Out.exit 8 (qe,s7))))
def oG (x1:Int) (bq:Int) (fu:Int) (Am:(List (List Int))):Option (Out (Int×(List (List Int))) ((List (List Int))×aK)):=
 (bif decide (fu < x1) then (ah (af 8 (aj (fun s=>oF x1 bq fu s.1 s.2) ((0:Int),Am))) (fun (qe,s7)=>(some (Out.norm (an (fu+(1:Int)),s7))))) else (some (Out.exit 6 (fu,Am))))
def oH (x1:Int) (bq:Int) (An:(List (List Int))):Option (Out (Int×(List (List Int))) ((List (List Int))×aK)):=
 (bif decide (bq < x1) then (ah (af 6 (aj (fun s=>oG x1 bq s.1 s.2) ((0:Int),An))) (fun (fu,Am)=>(some (Out.norm (an (bq+(1:Int)),Am))))) else (some (Out.exit 4 (bq,An))))
def oI (x1:Int) (xp:Int) (vw:Int) (wY:Int) (uX:(List (List Int))):Option (Out (Int×(List (List Int))) ((List (List Int))×aK)):=
 (bif decide (wY < x1) then ((((idx uX (vw))>>=fun XX=>((idx XX (xp))>>=fun XY=>(bif (XY) == ((1:Int)) then ((idx uX (xp))>>=fun XZ=>((idx XZ (wY))>>=fun MC=>(some ((MC) == ((1:Int)))))) else (some (false))))))>>=fun X0=>(bif X0 then ((idx uX (vw))>>=fun Sa=>((idx Sa (wY))>>=fun akw=>(some (Out.norm (an (wY+(1:Int)),uX.set (vw).toNat (Sa.set (wY).toNat ((1:Int)))))))) else (some (Out.norm (an (wY+(1:Int)),uX))))) else (some (Out.exit 8 (wY,uX))))
def oJ (x1:Int) (xp:Int) (vw:Int) (B6:(List (List Int))):Option (Out (Int×(List (List Int))) ((List (List Int))×aK)):=
 (bif decide (vw < x1) then (ah (af 8 (aj (fun s=>oI x1 xp vw s.1 s.2) ((0:Int),B6))) (fun (wY,uX)=>(some (Out.norm (an (vw+(1:Int)),uX))))) else (some (Out.exit 6 (vw,B6))))
def oL (x1:Int) (xp:Int) (B7:(List (List Int))):Option (Out (Int×(List (List Int))) ((List (List Int))×aK)):=
 (bif decide (xp < x1) then (ah (af 6 (aj (fun s=>oJ x1 xp s.1 s.2) ((0:Int),B7))) (fun (vw,B6)=>(some (Out.norm (an (xp+(1:Int)),B6))))) else (some (Out.exit 4 (xp,B7))))
def nP (x1:Int) (xq:Int) (vx:Int) (uY:Int) (s8:(List (List Int))):Option (Out (Int×(List (List Int))) ((List (List Int))×aK)):=
 (bif decide (uY < x1) then ((((idx s8 (vx))>>=fun X1=>((idx X1 (xq))>>=fun v7=>(bif (v7) == ((1:Int)) then ((idx s8 (xq))>>=fun MD=>((idx MD (uY))>>=fun ME=>(some ((ME) == ((1:Int)))))) else (some (false))))))>>=fun X2=>(bif X2 then ((idx s8 (vx))>>=fun Sb=>((idx Sb (uY))>>=fun akx=>(some (Out.norm (an (uY+(1:Int)),s8.set (vx).toNat (Sb.set (uY).toNat ((1:Int)))))))) else (some (Out.norm (an (uY+(1:Int)),s8))))) else (some (Out.exit 8 (uY,s8))))
def oM (x1:Int) (xq:Int) (vx:Int) (B8:(List (List Int))):Option (Out (Int×(List (List Int))) ((List (List Int))×aK)):=
 (bif decide (vx < x1) then (ah (af 8 (aj (fun s=>nP x1 xq vx s.1 s.2) ((0:Int),B8))) (fun (uY,s8)=>(some (Out.norm (an (vx+(1:Int)),s8))))) else (some (Out.exit 6 (vx,B8))))
def oN (x1:Int) (xq:Int) (B9:(List (List Int))):Option (Out (Int×(List (List Int))) ((List (List Int))×aK)):=
 (bif decide (xq < x1) then (ah (af 6 (aj (fun s=>oM x1 xq s.1 s.2) ((0:Int),B9))) (fun (vx,B8)=>(some (Out.norm (an (xq+(1:Int)),B8))))) else (some (Out.exit 4 (xq,B9))))
def iS (x0:aK) (x1:Int):Option ((List (List Int))×aK):=
 ao (S:=Unit) (ah (af 0 (aj (fun s=>kS x0 x1 s.1 s.2.1 s.2.2.1 s.2.2.2) (([]:(List (List Int))),(0:Int),x0.At,x0.aq))) (fun (bn,fg,je,jf)=>(bif decide (x1 > (1:Int)) then ((cI (aK.mk x0.Code je jf) ((4:Int)))>>=fun Kt=>(bif (Kt.1) == ((0:Int)) then ((idx bn (an (x1 - (1:Int))))>>=fun WI=>((cI (aK.mk x0.Code Kt.2.At Kt.2.aq) (x1))>>=fun zK=>((idx WI (zK.1))>>=fun tG=>(ah (af 4 (aj (fun s=>oH x1 s.1 s.2) ((0:Int),bn.set (an (x1 - (1:Int))).toNat (WI.set (zK.1).toNat ((1:Int)))))) (fun (bq,An)=>(some (Out.ret ((An,(aK.mk x0.Code zK.2.At zK.2.aq)))))))))) else (ah (af 4 (aj (fun s=>oL x1 s.1 s.2) ((0:Int),bn))) (fun (xp,B7)=>(some (Out.ret ((B7,(aK.mk x0.Code Kt.2.At Kt.2.aq))))))))) else (ah (af 4 (aj (fun s=>oN x1 s.1 s.2) ((0:Int),bn))) (fun (xq,B9)=>(some (Out.ret ((B9,(aK.mk x0.Code je jf))))))))))
def mU (x0:(List (List Int))) (fg:Int) (si:(List Int)) (bx:Int) (r3:(List Int)) (um:(List Int)):Option (Out ((List Int)×Int×(List Int)×(List Int)) (aI)):=
 (bif decide (bx < (x0.length:Int)) then ((fits 8 (si.length+1))>>=fun n185=>((idx x0 (fg))>>=fun X3=>((idx X3 (bx))>>=fun X4=>(bif (X4) == ((1:Int)) then ((fits 8 (r3.length+1))>>=fun n229=>((fits 8 (um.length+1))>>=fun n265=>(some (Out.norm (si++[(r3.length:Int)],an (bx+(1:Int)),r3++[fg],um++[bx]))))) else (some (Out.norm (si++[(r3.length:Int)],an (bx+(1:Int)),r3,um))))))) else (some (Out.exit 2 (si,bx,r3,um))))
def mV (x0:(List (List Int))) (cn:(List (List Int))) (fg:Int) (nb:(List Int)) (p6:(List Int)):Option (Out ((List (List Int))×Int×(List Int)×(List Int)) (aI)):=
 (bif decide (fg < (x0.length:Int)) then (ah (af 2 (aj (fun s=>mU x0 fg s.1 s.2.1 s.2.2.1 s.2.2.2) (([]:(List Int)),(0:Int),nb,p6))) (fun (si,bx,r3,um)=>((fits 24 (cn.length+1))>>=fun n306=>(some (Out.norm (cn++[si],an (fg+(1:Int)),r3,um)))))) else (some (Out.exit 0 (cn,fg,nb,p6))))
def mW (x0:(List (List Int))) (cn:(List (List Int))) (bq:Int) (v8:(List Int)):Option (Out (Int×(List Int)) (aI)):=
 (bif decide (bq < (x0.length:Int)) then ((idx cn (bq))>>=fun X5=>((idx X5 (bq))>>=fun Sd=>((fits 8 (v8.length+1))>>=fun aky=>(some (Out.norm (an (bq+(1:Int)),v8++[Sd])))))) else (some (Out.exit 4 (bq,v8))))
def mX (cn:(List (List Int))) (nb:(List Int)) (p6:(List Int)) (fu:Int) (qe:(List Int)) (o5:Int):Option (Out ((List Int)×Int) (aI)):=
 (bif decide (o5 < (nb.length:Int)) then ((idx p6 (fu))>>=fun X6=>((idx nb (o5))>>=fun X7=>(bif (X6) == (X7) then ((idx nb (fu))>>=fun X8=>((idx cn (X8))>>=fun X9=>((idx p6 (o5))>>=fun Ya=>((idx X9 (Ya))>>=fun Yb=>((fits 8 (qe.length+1))>>=fun akz=>(some (Out.norm (qe++[Yb],an (o5+(1:Int)))))))))) else ((fits 8 (qe.length+1))>>=fun akA=>(some (Out.norm (qe++[(-1:Int)],an (o5+(1:Int))))))))) else (some (Out.exit 8 (qe,o5))))
def mY (cn:(List (List Int))) (nb:(List Int)) (p6:(List Int)) (fu:Int) (wa:(List (List Int))):Option (Out (Int×(List (List Int))) (aI)):=
 (bif decide (fu < (nb.length:Int)) then (ah (af 8 (aj (fun s=>mX cn nb p6 fu s.1 s.2) (([]:(List Int)),(0:Int)))) (fun (qe,o5)=>((fits 24 (wa.length+1))>>=fun akB=>(some (Out.norm (an (fu+(1:Int)),wa++[qe])))))) else (some (Out.exit 6 (fu,wa))))
def eJ (x0:(List (List Int))):Option (aI):=
 ao (S:=Unit) (ah (af 0 (aj (fun s=>mV x0 s.1 s.2.1 s.2.2.1 s.2.2.2) (([]:(List (List Int))),(0:Int),([]:(List Int)),([]:(List Int))))) (fun (cn,fg,nb,p6)=>(ah (af 4 (aj (fun s=>mW x0 cn s.1 s.2) ((0:Int),([]:(List Int))))) (fun (bq,v8)=>(ah (af 6 (aj (fun s=>mY cn nb p6 s.1 s.2) ((0:Int),([]:(List (List Int)))))) (fun (fu,wa)=>(some (Out.ret ((aI.mk ((x0.length:Int)) nb p6 v8 wa))))))))))
def dC (x0:(List Int)):Option ((List Int)):=
 ao (S:=Unit) ((fits 8 ((([]:(List Int))).length+x0.length))>>=fun n15=>(some (Out.ret ((([]:(List Int))++x0)))))
def eU (x0:(List Int)) (x1:(List Int)) (bn:Int):Option (Out (Int) (Bool)):=
 (((bif decide (bn < (x0.length:Int)) then (some (decide (bn < (x1.length:Int)))) else (some (false))))>>=fun g6=>(bif g6 then ((idx x0 (bn))>>=fun Ku=>((idx x1 (bn))>>=fun tH=>(bif (Ku) != (tH) then ((idx x0 (bn))>>=fun HI=>((idx x1 (bn))>>=fun zI=>(some (Out.ret ((decide (HI < zI))))))) else (some (Out.norm (an (bn+(1:Int)))))))) else (some (Out.exit 0 (bn)))))
def kZ (x0:(List Int)) (x1:(List Int)):Option (Bool):=
 ao (S:=Unit) (ah (af 0 (aj (eU x0 x1) ((0:Int)))) (fun bn=>(some (Out.ret ((decide ((x0.length:Int) < (x1.length:Int))))))))
def iN (x0:cC) (x1:cC):Option (Bool):=
 ao (S:=Unit) (bif (x0.aG) != (x1.aG) then (some (Out.ret ((decide (x0.aG < x1.aG))))) else (bif (x0.To) != (x1.To) then (some (Out.ret ((decide (x0.To < x1.To))))) else ((kZ x0.ly x1.ly)>>=fun zL=>(some (Out.ret (zL))))))
def jV (x0:Int) (s0:(List cC)) (s1:Int):Option (Out ((List cC)×Int) ((List cC))):=
 (bif decide (s1 < x0) then ((fits 40 (s0.length+1))>>=fun n26=>(some (Out.norm (s0++[cC.mk s1 s1 []],an (s1+(1:Int)))))) else (some (Out.exit 0 (s0,s1))))
def iO (x1:(List Int)) (x2:(List Int)) (s1:Int) (s0:(List cC)) (s2:Int):Option (Out ((List cC)×Int) ((List cC))):=
 (bif decide (s2 < (x1.length:Int)) then ((idx x1 (s2))>>=fun FG=>((idx s0 (s1))>>=fun Kv=>(bif (FG) == (Kv.To) then ((idx s0 (s1))>>=fun Se=>((idx x2 (s2))>>=fun AU=>((idx s0 (s1))>>=fun Sf=>((dC Sf.ly)>>=fun Kw=>((fits 8 (Kw.length+1))>>=fun n72=>((fits 40 (s0.length+1))>>=fun n75=>(some (Out.norm (s0++[cC.mk Se.aG AU (Kw++[s2])],an (s2+(1:Int))))))))))) else (some (Out.norm (s0,an (s2+(1:Int)))))))) else (some (Out.exit 4 (s0,s2))))
def jW (x1:(List Int)) (x2:(List Int)) (s0:(List cC)) (s1:Int):Option (Out ((List cC)×Int) ((List cC))):=
 (((bif decide (s1 < (s0.length:Int)) then (some (decide ((s0.length:Int)≤(40:Int)))) else (some (false))))>>=fun Sg=>(bif Sg then (ah (af 4 (aj (fun s=>iO x1 x2 s1 s.1 s.2) (s0,(0:Int)))) (fun (s0,s2)=>(some (Out.norm (s0,an (s1+(1:Int))))))) else (some (Out.exit 2 (s0,s1)))))
def jX (s0:(List cC)) (s1:Int):Option (Out ((List cC)×Int) ((List cC))):=
 (((bif decide ((0:Int) < s1) then ((idx s0 (s1))>>=fun AV=>((idx s0 (an (s1 - (1:Int))))>>=fun Ca=>((iN AV Ca)>>=fun Kx=>(some (Kx))))) else (some (false))))>>=fun Sh=>(bif Sh then ((idx s0 (s1))>>=fun MG=>((idx s0 (an (s1 - (1:Int))))>>=fun tG=>((idx s0 (s1))>>=fun Bp=>((idx (s0.set (s1).toNat tG) (an (s1 - (1:Int))))>>=fun MH=>(some (Out.norm ((s0.set (s1).toNat tG).set (an (s1 - (1:Int))).toNat MG,an (s1 - (1:Int))))))))) else (some (Out.exit 8 (s0,s1)))))
def jY (s0:(List cC)) (s1:Int):Option (Out ((List cC)×Int) ((List cC))):=
 (bif decide (s1 < (s0.length:Int)) then (ah (af 8 (aj (fun s=>jX s.1 s.2) (s0,s1))) (fun (s0,s2)=>(some (Out.norm (s0,an (s1+(1:Int))))))) else (some (Out.exit 6 (s0,s1))))
def kQ (x0:Int) (x1:(List Int)) (x2:(List Int)):Option ((List cC)):=
 ao (S:=Unit) (ah (af 0 (aj (fun s=>jV x0 s.1 s.2) (([]:(List cC)),(0:Int)))) (fun (s0,s1)=>(ah (af 2 (aj (fun s=>jW x1 x2 s.1 s.2) (s0,(0:Int)))) (fun (s0,s1)=>(ah (af 6 (aj (fun s=>jY s.1 s.2) (s0,(1:Int)))) (fun (s0,s1)=>(some (Out.ret (s0)))))))))
def dR (x0:aI):Option (Bool):=
 ao (S:=Unit) (((bif decide (x0.aA≤(8:Int)) then (some (decide ((x0.aG.length:Int)≤(40:Int)))) else (some (false))))>>=fun g8=>(some (Out.ret (g8))))
def kV (x0:(List Int)) (x1:(List Int)) (bn:Int):Option (Out (Int) (Bool)):=
 (bif decide (bn < (x0.length:Int)) then ((idx x0 (bn))>>=fun tH=>((idx x1 (bn))>>=fun FH=>(bif (tH) != (FH) then (some (Out.ret (false))) else (some (Out.norm (an (bn+(1:Int)))))))) else (some (Out.exit 0 (bn))))
def eP (x0:(List Int)) (x1:(List Int)):Option (Bool):=
 ao (S:=Unit) (bif ((x0.length:Int)) != ((x1.length:Int)) then (some (Out.ret (false))) else (ah (af 0 (aj (kV x0 x1) ((0:Int)))) (fun bn=>(some (Out.ret (true))))))
def iU (y8:(List cC)) (de:Int) (jg:(List Int)) (jh:(List Int)) (mm:(List Int)):Option (Out (Int×(List Int)×(List Int)×(List Int)) (aI)):=
 (bif decide (de < (y8.length:Int)) then ((idx y8 (de))>>=fun Bq=>((fits 8 (jg.length+1))>>=fun n134=>((idx y8 (de))>>=fun FI=>((fits 8 (jh.length+1))>>=fun n173=>((idx y8 (de))>>=fun MI=>(bif ((MI.ly.length:Int)) == ((0:Int)) then ((idx y8 (de))>>=fun FK=>((idx mm (FK.aG))>>=fun Yc=>(some (Out.norm (an (de+(1:Int)),jg++[Bq.aG],jh++[FI.To],mm.set (FK.aG).toNat (de)))))) else (some (Out.norm (an (de+(1:Int)),jg++[Bq.aG],jh++[FI.To],mm))))))))) else (some (Out.exit 0 (de,jg,jh,mm))))
def iV (y8:(List cC)) (fj:Int) (uo:(List Int)) (v7:cC) (vy:Int) (pw:Int):Option (Out (Int×Int) (aI)):=
 (bif decide (pw < (y8.length:Int)) then ((((idx y8 (pw))>>=fun MJ=>((idx y8 (fj))>>=fun MK=>(bif (MJ.aG) == (MK.aG) then ((idx y8 (pw))>>=fun ML=>((eP ML.ly (uo++v7.ly))>>=fun MN=>(some (MN)))) else (some (false))))))>>=fun MO=>(bif MO then (some (Out.norm (pw,an (pw+(1:Int))))) else (some (Out.norm (vy,an (pw+(1:Int))))))) else (some (Out.exit 6 (vy,pw))))
def iW (y8:(List cC)) (fj:Int) (my:(List Int)) (rj:Int):Option (Out ((List Int)×Int) (aI)):=
 (bif decide (rj < (y8.length:Int)) then ((idx y8 (fj))>>=fun MP=>((idx y8 (rj))>>=fun MQ=>(bif (MP.To) == (MQ.aG) then ((idx y8 (fj))>>=fun MR=>((dC MR.ly)>>=fun uo=>((idx y8 (rj))>>=fun v7=>((fits 8 (uo.length+v7.ly.length))>>=fun Yd=>(ah (af 6 (aj (fun s=>iV y8 fj uo v7 s.1 s.2) ((-1:Int),(0:Int)))) (fun (vy,pw)=>((fits 8 (my.length+1))>>=fun Ye=>(some (Out.norm (my++[vy],an (rj+(1:Int)))))))))))) else ((fits 8 (my.length+1))>>=fun Yf=>(some (Out.norm (my++[(-1:Int)],an (rj+(1:Int))))))))) else (some (Out.exit 4 (my,rj))))
def gI (y8:(List cC)) (fj:Int) (oq:(List (List Int))):Option (Out (Int×(List (List Int))) (aI)):=
 (bif decide (fj < (y8.length:Int)) then (ah (af 4 (aj (fun s=>iW y8 fj s.1 s.2) (([]:(List Int)),(0:Int)))) (fun (my,rj)=>((fits 24 (oq.length+1))>>=fun Yg=>(some (Out.norm (an (fj+(1:Int)),oq++[my])))))) else (some (Out.exit 2 (fj,oq))))
def fF (x0:Int) (x1:(List Int)) (x2:(List Int)):Option (aI):=
 ao (S:=Unit) ((kQ (x0) x1 x2)>>=fun y8=>((mk 8 (x0))>>=fun n36=>(ah (af 0 (aj (fun s=>iU y8 s.1 s.2.1 s.2.2.1 s.2.2.2) ((0:Int),([]:(List Int)),([]:(List Int)),List.replicate n36 (0:Int)))) (fun (de,jg,jh,mm)=>((dR (aI.mk x0 jg jh mm (([]:(List (List Int))))))>>=fun MS=>(bif !(MS) then (some (Out.ret ((aI.mk x0 jg jh mm (([]:(List (List Int)))))))) else (ah (af 2 (aj (fun s=>gI y8 s.1 s.2) ((0:Int),([]:(List (List Int)))))) (fun (fj,oq)=>(some (Out.ret ((aI.mk x0 jg jh mm oq))))))))))))
def iP (x0:aK):Option ((List (List Int))×aK):=
 ao (S:=Unit) ((cI x0 ((8:Int)))>>=fun y5=>(bif (y5.1) == ((0:Int)) then (some (Out.ret (((([[(0:Int)]]:(List (List Int)))),(aK.mk x0.Code y5.2.At y5.2.aq))))) else (bif (y5.1) == ((1:Int)) then (some (Out.ret (((([[(0:Int),(1:Int)],[(1:Int),(0:Int)]]:(List (List Int)))),(aK.mk x0.Code y5.2.At y5.2.aq))))) else (bif (y5.1) == ((2:Int)) then (some (Out.ret (((([[(0:Int),(1:Int)],[(1:Int),(1:Int)]]:(List (List Int)))),(aK.mk x0.Code y5.2.At y5.2.aq))))) else (bif (y5.1) == ((3:Int)) then (some (Out.ret (((([[(0:Int),(1:Int),(2:Int)],[(1:Int),(2:Int),(0:Int)],[(2:Int),(0:Int),(1:Int)]]:(List (List Int)))),(aK.mk x0.Code y5.2.At y5.2.aq))))) else (bif (y5.1) == ((4:Int)) then (some (Out.ret (((([[(0:Int),(1:Int),(2:Int)],[(1:Int),(1:Int),(2:Int)],[(2:Int),(2:Int),(2:Int)]]:(List (List Int)))),(aK.mk x0.Code y5.2.At y5.2.aq))))) else (bif (y5.1) == ((5:Int)) then (some (Out.ret (((([[(0:Int),(1:Int),(2:Int)],[(1:Int),(1:Int),(2:Int)],[(2:Int),(1:Int),(2:Int)]]:(List (List Int)))),(aK.mk x0.Code y5.2.At y5.2.aq))))) else (bif (y5.1) == ((6:Int)) then (some (Out.ret (((([[(0:Int),(1:Int),(2:Int),(3:Int)],[(1:Int),(0:Int),(2:Int),(3:Int)],[(2:Int),(3:Int),(2:Int),(3:Int)],[(3:Int),(2:Int),(2:Int),(3:Int)]]:(List (List Int)))),(aK.mk x0.Code y5.2.At y5.2.aq))))) else (some (Out.ret (((([[(0:Int),(1:Int),(2:Int)],[(1:Int),(2:Int),(2:Int)],[(2:Int),(2:Int),(2:Int)]]:(List (List Int)))),(aK.mk x0.Code y5.2.At y5.2.aq)))))))))))))
def jH (x0:(List (List Int))) (lg:(List (List Int))) (cn:Int):Option (Out ((List (List Int))×Int) ((List (List Int)))):=
 (bif decide (cn < (x0.length:Int)) then ((idx x0 (cn))>>=fun Cb=>((dC Cb)>>=fun qu=>((fits 24 (lg.length+1))>>=fun n49=>(some (Out.norm (lg++[qu],an (cn+(1:Int)))))))) else (some (Out.exit 0 (lg,cn))))
def lA (x0:(List (List Int))):Option ((List (List Int))):=
 ao (S:=Unit) (ah (af 0 (aj (fun s=>jH x0 s.1 s.2) (([]:(List (List Int))),(0:Int)))) (fun (lg,cn)=>(some (Out.ret (lg)))))
def iQ (x0:(List (List Int))):Option (aI):=
 ao (S:=Unit) ((mk 8 ((x0.length:Int)))>>=fun n10=>((mk 8 ((x0.length:Int)))>>=fun n19=>((lA x0)>>=fun y39=>(some (Out.ret ((aI.mk ((1:Int)) (List.replicate n10 (0:Int)) (List.replicate n19 (0:Int)) ([(0:Int)]) y39)))))))
def mL:Option (aI):=
 ao (S:=Unit) (some (Out.ret ((aI.mk ((2:Int)) (([(0:Int),(1:Int),(0:Int),(0:Int),(1:Int)]:(List Int))) (([(0:Int),(1:Int),(0:Int),(1:Int),(0:Int)]:(List Int))) (([(0:Int),(1:Int)]:(List Int))) (([[(0:Int),(-1:Int),(2:Int),(3:Int),(-1:Int)],[(-1:Int),(1:Int),(-1:Int),(-1:Int),(4:Int)],[(2:Int),(-1:Int),(2:Int),(3:Int),(-1:Int)],[(-1:Int),(3:Int),(-1:Int),(-1:Int),(2:Int)],[(4:Int),(-1:Int),(4:Int),(1:Int),(-1:Int)]]:(List (List Int))))))))
def jP (x0:aI):Option (aI):=
 ao (S:=Unit) ((dC x0.aG)>>=fun uZ=>((dC x0.To)>>=fun zL=>((dC x0.aJ)>>=fun Kz=>((lA x0.aB)>>=fun Si=>(some (Out.ret ((aI.mk x0.aA uZ zL Kz Si))))))))
def gJ (x0:aI) (x1:aI) (jz:Int) (wb:(List Int)):Option (Out (Int×(List Int)) (aI)):=
 (bif decide (jz < x1.aA) then ((idx x1.aJ (jz))>>=fun MT=>((fits 8 (wb.length+1))>>=fun n136=>(some (Out.norm (an (jz+(1:Int)),wb++[an (MT+(x0.aG.length:Int))]))))) else (some (Out.exit 0 (jz,wb))))
def gK (x1:aI) (pj:Int) (di:Int) (xI:(List (List Int))):Option (Out (Int×(List (List Int))) (aI)):=
 (bif decide (di < (x1.aG.length:Int)) then ((idx xI (pj))>>=fun Sj=>((fits 8 (Sj.length+1))>>=fun n233=>((idx xI (pj))>>=fun akC=>(some (Out.norm (an (di+(1:Int)),xI.set (pj).toNat (Sj++[(-1:Int)]))))))) else (some (Out.exit 4 (di,xI))))
def gL (x1:aI) (pj:Int) (zM:(List (List Int))):Option (Out (Int×(List (List Int))) (aI)):=
 (bif decide (pj < (zM.length:Int)) then (ah (af 4 (aj (fun s=>gK x1 pj s.1 s.2) ((0:Int),zM))) (fun (di,xI)=>(some (Out.norm (an (pj+(1:Int)),xI))))) else (some (Out.exit 2 (pj,zM))))
def gM (x0:aI) (o5:(List Int)) (nn:Int):Option (Out ((List Int)×Int) (aI)):=
 (bif decide (nn < (x0.aG.length:Int)) then ((fits 8 (o5.length+1))>>=fun akD=>(some (Out.norm (o5++[(-1:Int)],an (nn+(1:Int)))))) else (some (Out.exit 8 (o5,nn))))
def gN (x0:aI) (x1:aI) (dy:Int) (rm:(List Int)) (rT:Int):Option (Out ((List Int)×Int) (aI)):=
 (bif decide (rT < (x1.aG.length:Int)) then ((idx x1.aB (dy))>>=fun Yh=>((idx Yh (rT))>>=fun MU=>(bif decide (MU ≥ (0:Int)) then ((fits 8 (rm.length+1))>>=fun akE=>(some (Out.norm (rm++[an (MU+(x0.aG.length:Int))],an (rT+(1:Int)))))) else ((fits 8 (rm.length+1))>>=fun akF=>(some (Out.norm (rm++[MU],an (rT+(1:Int))))))))) else (some (Out.exit 10 (rm,rT))))
def gO (x0:aI) (x1:aI) (dy:Int) (wc:(List Int)) (we:(List Int)) (wg:(List (List Int))):Option (Out (Int×(List Int)×(List Int)×(List (List Int))) (aI)):=
 (bif decide (dy < (x1.aG.length:Int)) then ((idx x1.aG (dy))>>=fun Yi=>((fits 8 (wc.length+1))>>=fun n314=>((idx x1.To (dy))>>=fun MD=>((fits 8 (we.length+1))>>=fun akG=>(ah (af 8 (aj (fun s=>gM x0 s.1 s.2) (([]:(List Int)),(0:Int)))) (fun (o5,nn)=>(ah (af 10 (aj (fun s=>gN x0 x1 dy s.1 s.2) (o5,(0:Int)))) (fun (rm,rT)=>((fits 24 (wg.length+1))>>=fun akH=>(some (Out.norm (an (dy+(1:Int)),wc++[an (Yi+x0.aA)],we++[an (MD+x0.aA)],wg++[rm])))))))))))) else (some (Out.exit 6 (dy,wc,we,wg))))
def iL (x0:aI) (x1:aI):Option (aI):=
 ao (S:=Unit) ((jP x0)>>=fun wh=>(ah (af 0 (aj (fun s=>gJ x0 x1 s.1 s.2) ((0:Int),wh.aJ))) (fun (jz,wb)=>(ah (af 2 (aj (fun s=>gL x1 s.1 s.2) ((0:Int),wh.aB))) (fun (pj,zM)=>(ah (af 6 (aj (fun s=>gO x0 x1 s.1 s.2.1 s.2.2.1 s.2.2.2) ((0:Int),wh.aG,wh.To,zM))) (fun (dy,wc,we,wg)=>(some (Out.ret ((aI.mk (an (x0.aA+x1.aA)) wc we wb wg)))))))))))
def fU (x0:aI) (x1:aI) (bb:Int) (bx:Int) (wi:(List Int)) (wj:(List Int)):Option (Out (Int×(List Int)×(List Int)) (aI)):=
 (bif decide (bx < x1.aA) then ((fits 8 (wi.length+1))>>=fun n181=>((fits 8 (wj.length+1))>>=fun n217=>(some (Out.norm (an (bx+(1:Int)),wi++[bb],wj++[an (x0.aA+bx)]))))) else (some (Out.exit 2 (bx,wi,wj))))
def fV (x0:aI) (x1:aI) (bb:Int) (nh:(List Int)) (p7:(List Int)):Option (Out (Int×(List Int)×(List Int)) (aI)):=
 (bif decide (bb < x0.aA) then (ah (af 2 (aj (fun s=>fU x0 x1 bb s.1 s.2.1 s.2.2) ((0:Int),nh,p7))) (fun (bx,wi,wj)=>(some (Out.norm (an (bb+(1:Int)),wi,wj))))) else (some (Out.exit 0 (bb,nh,p7))))
def fW (x0:aI) (x1:aI) (qu:aI) (nh:(List Int)) (p7:(List Int)) (di:Int) (dy:(List Int)) (uE:Int):Option (Out ((List Int)×Int) (aI)):=
 (bif decide (uE < (nh.length:Int)) then ((idx p7 (di))>>=fun Yj=>((idx nh (uE))>>=fun Yk=>(bif (Yj) != (Yk) then ((fits 8 (dy.length+1))>>=fun akI=>(some (Out.norm (dy++[(-1:Int)],an (uE+(1:Int)))))) else (((bif decide (di < (qu.aG.length:Int)) then (some (decide (uE < (qu.aG.length:Int)))) else (some (false))))>>=fun Yl=>(bif Yl then ((idx qu.aB (di))>>=fun Ym=>((idx Ym (uE))>>=fun Yn=>((fits 8 (dy.length+1))>>=fun akJ=>(some (Out.norm (dy++[Yn],an (uE+(1:Int)))))))) else ((idx nh (di))>>=fun MW=>((idx p7 (uE))>>=fun MX=>((fits 8 (dy.length+1))>>=fun akK=>(some (Out.norm (dy++[an (an (an ((qu.aG.length:Int)+an (MW * x1.aA))+MX) - x0.aA)],an (uE+(1:Int))))))))))))) else (some (Out.exit 6 (dy,uE))))
def fX (x0:aI) (x1:aI) (qu:aI) (nh:(List Int)) (p7:(List Int)) (bq:(List (List Int))) (di:Int):Option (Out ((List (List Int))×Int) (aI)):=
 (bif decide (di < (nh.length:Int)) then (ah (af 6 (aj (fun s=>fW x0 x1 qu nh p7 di s.1 s.2) (([]:(List Int)),(0:Int)))) (fun (dy,uE)=>((fits 24 (bq.length+1))>>=fun Yo=>(some (Out.norm (bq++[dy],an (di+(1:Int)))))))) else (some (Out.exit 4 (bq,di))))
def gX (x0:aI) (x1:aI):Option (aI):=
 ao (S:=Unit) ((iL x0 x1)>>=fun qu=>(ah (af 0 (aj (fun s=>fV x0 x1 s.1 s.2.1 s.2.2) ((0:Int),qu.aG,qu.To))) (fun (bb,nh,p7)=>(ah (af 4 (aj (fun s=>fX x0 x1 qu nh p7 s.1 s.2) (([]:(List (List Int))),(0:Int)))) (fun (bq,di)=>(some (Out.ret ((aI.mk qu.aA nh p7 qu.aJ bq)))))))))
def kL (x0:aI) (cn:Int) (ot:(List Int)) (ew:Int):Option (Out ((List Int)×Int) (aI)):=
 (bif decide (ew < (x0.aG.length:Int)) then ((idx x0.aB (ew))>>=fun Yp=>((idx Yp (cn))>>=fun Yq=>((fits 8 (ot.length+1))>>=fun n187=>(some (Out.norm (ot++[Yq],an (ew+(1:Int)))))))) else (some (Out.exit 2 (ot,ew))))
def kM (x0:aI) (cn:Int) (wk:(List (List Int))):Option (Out (Int×(List (List Int))) (aI)):=
 (bif decide (cn < (x0.aG.length:Int)) then (ah (af 2 (aj (fun s=>kL x0 cn s.1 s.2) (([]:(List Int)),(0:Int)))) (fun (ot,ew)=>((fits 24 (wk.length+1))>>=fun n222=>(some (Out.norm (an (cn+(1:Int)),wk++[ot])))))) else (some (Out.exit 0 (cn,wk))))
def iI (x0:aI):Option (aI):=
 ao (S:=Unit) ((dC x0.To)>>=fun qu=>((dC x0.aG)>>=fun Sk=>((dC x0.aJ)>>=fun KA=>(ah (af 0 (aj (fun s=>kM x0 s.1 s.2) ((0:Int),([]:(List (List Int)))))) (fun (cn,wk)=>(some (Out.ret ((aI.mk x0.aA qu Sk KA wk)))))))))
def lW (zN:Int×aK) (ew:(List Int)) (si:Int):Option (Out ((List Int)×Int) (aI×aK)):=
 (bif decide (si < an ((1:Int)+zN.1)) then ((fits 8 (ew.length+1))>>=fun Yr=>(some (Out.norm (ew++[(1:Int)],an (si+(1:Int)))))) else (some (Out.exit 3 (ew,si))))
def lX (zN:Int×aK) (cn:(List (List Int))) (bn:Int):Option (Out ((List (List Int))×Int) (aI×aK)):=
 (bif decide (bn < an ((1:Int)+zN.1)) then (ah (af 3 (aj (fun s=>lW zN s.1 s.2) (([]:(List Int)),(0:Int)))) (fun (ew,si)=>((fits 24 (cn.length+1))>>=fun akL=>(some (Out.norm (cn++[ew],an (bn+(1:Int)))))))) else (some (Out.exit 1 (cn,bn))))
def lY (x0:aK) (yD:Int×aK) (bq:(List Int)) (di:(List Int)) (my:Int) (wZ:Int) (w3:Int):Option (Out ((List Int)×(List Int)×Int×Int×Int) (aI×aK)):=
 (bif decide (my > (0:Int)) then ((cI (aK.mk x0.Code wZ w3) (an (an ((2:Int)+yD.1) - (1:Int))))>>=fun Cc=>((fits 8 (bq.length+1))>>=fun ajj=>((cI (aK.mk x0.Code Cc.2.At Cc.2.aq) (an (an (an ((2:Int)+yD.1) - (1:Int)) - Cc.1)))>>=fun IQ=>((fits 8 (di.length+1))>>=fun ajk=>(some (Out.norm (bq++[Cc.1],di++[an (an (Cc.1+(1:Int))+IQ.1)],an (my - (1:Int)),IQ.2.At,IQ.2.aq))))))) else (some (Out.exit 5 (bq,di,my,wZ,w3))))
def gP (x0:aK):Option (aI×aK):=
 ao (S:=Unit) ((cI x0 ((12:Int)))>>=fun bz=>(bif (bz.1) == ((0:Int)) then ((cI (aK.mk x0.Code bz.2.At bz.2.aq) ((5:Int)))>>=fun FL=>((iS (aK.mk x0.Code FL.2.At FL.2.aq) (FL.1))>>=fun zL=>((eJ zL.1)>>=fun Kz=>(some (Out.ret ((Kz,(aK.mk x0.Code zL.2.At zL.2.aq)))))))) else (bif (bz.1) == ((1:Int)) then ((eJ [[(1:Int),(1:Int)],[(0:Int),(1:Int)]])>>=fun y85=>(some (Out.ret ((y85,(aK.mk x0.Code bz.2.At bz.2.aq)))))) else (bif (bz.1) == ((2:Int)) then ((eJ [[(1:Int),(1:Int),(1:Int)],[(0:Int),(1:Int),(0:Int)],[(0:Int),(0:Int),(1:Int)]])>>=fun FM=>(some (Out.ret ((FM,(aK.mk x0.Code bz.2.At bz.2.aq)))))) else (bif (bz.1) == ((3:Int)) then ((fF ((2:Int)) [(0:Int),(0:Int)] [(1:Int),(1:Int)])>>=fun Ys=>(some (Out.ret ((Ys,(aK.mk x0.Code bz.2.At bz.2.aq)))))) else (bif (bz.1) == ((4:Int)) then ((iP (aK.mk x0.Code bz.2.At bz.2.aq))>>=fun MY=>((iQ MY.1)>>=fun Yt=>(some (Out.ret ((Yt,(aK.mk x0.Code MY.2.At MY.2.aq))))))) else (bif (bz.1) == ((5:Int)) then ((cI (aK.mk x0.Code bz.2.At bz.2.aq) ((3:Int)))>>=fun zN=>(ah (af 1 (aj (fun s=>lX zN s.1 s.2) (([]:(List (List Int))),(0:Int)))) (fun (cn,bn)=>((eJ cn)>>=fun Yu=>(some (Out.ret ((Yu,(aK.mk x0.Code zN.2.At zN.2.aq))))))))) else (bif (bz.1) == ((6:Int)) then ((fF ((3:Int)) [(0:Int),(1:Int),(0:Int)] [(1:Int),(2:Int),(2:Int)])>>=fun Yv=>(some (Out.ret ((Yv,(aK.mk x0.Code bz.2.At bz.2.aq)))))) else (bif (bz.1) == ((7:Int)) then ((mL)>>=fun Yw=>(some (Out.ret ((Yw,(aK.mk x0.Code bz.2.At bz.2.aq)))))) else (bif (bz.1) == ((8:Int)) then ((iP (aK.mk x0.Code bz.2.At bz.2.aq))>>=fun MZ=>((iQ MZ.1)>>=fun Yx=>((eJ [[(1:Int)]])>>=fun Yy=>((gX Yx Yy)>>=fun Yz=>((iI Yz)>>=fun YA=>(some (Out.ret ((YA,(aK.mk x0.Code MZ.2.At MZ.2.aq)))))))))) else (bif (bz.1) == ((9:Int)) then ((iP (aK.mk x0.Code bz.2.At bz.2.aq))>>=fun M0=>((iQ M0.1)>>=fun YB=>((eJ [[(1:Int)]])>>=fun YC=>((gX YB YC)>>=fun YD=>(some (Out.ret ((YD,(aK.mk x0.Code M0.2.At M0.2.aq))))))))) else (bif (bz.1) == ((10:Int)) then ((cI (aK.mk x0.Code bz.2.At bz.2.aq) ((2:Int)))>>=fun IS=>((iS (aK.mk x0.Code IS.2.At IS.2.aq) (an ((2:Int)+IS.1)))>>=fun IT=>((eJ IT.1)>>=fun U7=>(some (Out.ret ((U7,(aK.mk x0.Code IT.2.At IT.2.aq)))))))) else ((cI (aK.mk x0.Code bz.2.At bz.2.aq) ((2:Int)))>>=fun yD=>((cI (aK.mk x0.Code yD.2.At yD.2.aq) ((4:Int)))>>=fun IU=>(ah (af 5 (aj (fun s=>lY x0 yD s.1 s.2.1 s.2.2.1 s.2.2.2.1 s.2.2.2.2) (([]:(List Int)),([]:(List Int)),IU.1,IU.2.At,IU.2.aq))) (fun (bq,di,my,wZ,w3)=>((fF (an ((2:Int)+yD.1)) bq di)>>=fun U8=>(some (Out.ret ((U8,(aK.mk x0.Code wZ w3))))))))))))))))))))))
def eX (x0:aI) (x1:aI) (jz:Int) (pj:Int) (wm:(List Int)):Option (Out (Int×(List Int)) (aI)):=
 (bif decide (pj < x1.aA) then ((idx x0.aJ (jz))>>=fun YE=>((idx x1.aJ (pj))>>=fun YF=>((fits 8 (wm.length+1))>>=fun n186=>(some (Out.norm (an (pj+(1:Int)),wm++[an (an (YE * (x1.aG.length:Int))+YF)])))))) else (some (Out.exit 2 (pj,wm))))
def eY (x0:aI) (x1:aI) (jz:Int) (yE:(List Int)):Option (Out (Int×(List Int)) (aI)):=
 (bif decide (jz < x0.aA) then (ah (af 2 (aj (fun s=>eX x0 x1 jz s.1 s.2) ((0:Int),yE))) (fun (pj,wm)=>(some (Out.norm (an (jz+(1:Int)),wm))))) else (some (Out.exit 0 (jz,yE))))
def eZ (x0:aI) (x1:aI) (di:Int) (dy:Int) (nn:Int) (rm:(List Int)) (rT:Int):Option (Out ((List Int)×Int) (aI)):=
 (bif decide (rT < (x1.aG.length:Int)) then ((((idx x0.aB (di))>>=fun YG=>((idx YG (nn))>>=fun YH=>(bif decide (YH ≥ (0:Int)) then ((idx x1.aB (dy))>>=fun M1=>((idx M1 (rT))>>=fun YI=>(some (decide (YI ≥ (0:Int)))))) else (some (false))))))>>=fun YJ=>(bif YJ then ((idx x0.aB (di))>>=fun YK=>((idx YK (nn))>>=fun YL=>((idx x1.aB (dy))>>=fun YM=>((idx YM (rT))>>=fun YN=>((fits 8 (rm.length+1))>>=fun akM=>(some (Out.norm (rm++[an (an (YL * (x1.aG.length:Int))+YN)],an (rT+(1:Int)))))))))) else ((fits 8 (rm.length+1))>>=fun akN=>(some (Out.norm (rm++[(-1:Int)],an (rT+(1:Int)))))))) else (some (Out.exit 10 (rm,rT))))
def fA (x0:aI) (x1:aI) (di:Int) (dy:Int) (o5:(List Int)) (nn:Int):Option (Out ((List Int)×Int) (aI)):=
 (bif decide (nn < (x0.aG.length:Int)) then (ah (af 10 (aj (fun s=>eZ x0 x1 di dy nn s.1 s.2) (o5,(0:Int)))) (fun (rm,rT)=>(some (Out.norm (rm,an (nn+(1:Int))))))) else (some (Out.exit 8 (o5,nn))))
def fB (x0:aI) (x1:aI) (di:Int) (dy:Int) (wo:(List Int)) (wq:(List Int)) (wu:(List (List Int))):Option (Out (Int×(List Int)×(List Int)×(List (List Int))) (aI)):=
 (bif decide (dy < (x1.aG.length:Int)) then ((idx x0.aG (di))>>=fun YO=>((idx x1.aG (dy))>>=fun YP=>((fits 8 (wo.length+1))>>=fun n318=>((idx x0.To (di))>>=fun YQ=>((idx x1.To (dy))>>=fun ME=>((fits 8 (wq.length+1))>>=fun akO=>(ah (af 8 (aj (fun s=>fA x0 x1 di dy s.1 s.2) (([]:(List Int)),(0:Int)))) (fun (o5,nn)=>((fits 24 (wu.length+1))>>=fun akP=>(some (Out.norm (an (dy+(1:Int)),wo++[an (an (YO * x1.aA)+YP)],wq++[an (an (YQ * x1.aA)+ME)],wu++[o5])))))))))))) else (some (Out.exit 6 (dy,wo,wq,wu))))
def fC (x0:aI) (x1:aI) (di:Int) (yF:(List Int)) (yG:(List Int)) (yH:(List (List Int))):Option (Out (Int×(List Int)×(List Int)×(List (List Int))) (aI)):=
 (bif decide (di < (x0.aG.length:Int)) then (ah (af 6 (aj (fun s=>fB x0 x1 di s.1 s.2.1 s.2.2.1 s.2.2.2) ((0:Int),yF,yG,yH))) (fun (dy,wo,wq,wu)=>(some (Out.norm (an (di+(1:Int)),wo,wq,wu))))) else (some (Out.exit 4 (di,yF,yG,yH))))
def fJ (x0:aI) (x1:aI):Option (aI):=
 ao (S:=Unit) (ah (af 0 (aj (fun s=>eY x0 x1 s.1 s.2) ((0:Int),([]:(List Int))))) (fun (jz,yE)=>(ah (af 4 (aj (fun s=>fC x0 x1 s.1 s.2.1 s.2.2.1 s.2.2.2) ((0:Int),([]:(List Int)),([]:(List Int)),([]:(List (List Int)))))) (fun (di,yF,yG,yH)=>(some (Out.ret ((aI.mk (an (x0.aA * x1.aA)) yF yG yE yH))))))))
def nQ (x0:aK) (x1:Int) (x2:Int) (bb:Int) (je:Int) (jf:Int):Option (Out (Int×Int×Int) (aI×aK)):=
 (bif decide (bb < (12:Int)) then ((gP (aK.mk x0.Code je jf))>>=fun tV=>((cI (aK.mk x0.Code tV.2.At tV.2.aq) ((5:Int)))>>=fun AW=>(bif (AW.1) == ((0:Int)) then ((gP (aK.mk x0.Code AW.2.At AW.2.aq))>>=fun Sl=>((iL tV.1 Sl.1)>>=fun FN=>((cI (aK.mk x0.Code Sl.2.At Sl.2.aq) ((8:Int)))>>=fun Br=>(bif (Br.1) == ((0:Int)) then ((gP (aK.mk x0.Code Br.2.At Br.2.aq))>>=fun FP=>((fJ FN FP.1)>>=fun IV=>(((bif decide (IV.aA≤x1) then (bif decide ((IV.aG.length:Int)≤x2) then ((dR IV)>>=fun YR=>(some (YR))) else (some (false))) else (some (false))))>>=fun YS=>(bif YS then (some (Out.ret ((IV,(aK.mk x0.Code FP.2.At FP.2.aq))))) else (some (Out.norm (an (bb+(1:Int)),FP.2.At,FP.2.aq))))))) else (((bif decide (FN.aA≤x1) then (bif decide ((FN.aG.length:Int)≤x2) then ((dR FN)>>=fun M3=>(some (M3))) else (some (false))) else (some (false))))>>=fun YT=>(bif YT then (some (Out.ret ((FN,(aK.mk x0.Code Br.2.At Br.2.aq))))) else (some (Out.norm (an (bb+(1:Int)),Br.2.At,Br.2.aq))))))))) else ((cI (aK.mk x0.Code AW.2.At AW.2.aq) ((8:Int)))>>=fun Bt=>(bif (Bt.1) == ((0:Int)) then ((gP (aK.mk x0.Code Bt.2.At Bt.2.aq))>>=fun Bv=>((fJ tV.1 Bv.1)>>=fun IW=>(((bif decide (IW.aA≤x1) then (bif decide ((IW.aG.length:Int)≤x2) then ((dR IW)>>=fun YU=>(some (YU))) else (some (false))) else (some (false))))>>=fun YV=>(bif YV then (some (Out.ret ((IW,(aK.mk x0.Code Bv.2.At Bv.2.aq))))) else (some (Out.norm (an (bb+(1:Int)),Bv.2.At,Bv.2.aq))))))) else (((bif decide (tV.1.aA≤x1) then (bif decide ((tV.1.aG.length:Int)≤x2) then ((dR tV.1)>>=fun YW=>(some (YW))) else (some (false))) else (some (false))))>>=fun YX=>(bif YX then (some (Out.ret ((tV.1,(aK.mk x0.Code Bt.2.At Bt.2.aq))))) else (some (Out.norm (an (bb+(1:Int)),Bt.2.At,Bt.2.aq)))))))))) else (some (Out.exit 0 (bb,je,jf))))
def gY (x0:aK) (x1:Int) (x2:Int):Option (aI×aK):=
 ao (S:=Unit) (ah (af 0 (aj (fun s=>nQ x0 x1 x2 s.1 s.2.1 s.2.2) ((0:Int),x0.At,x0.aq))) (fun (bb,je,jf)=>((eJ [[(1:Int)]])>>=fun YY=>(some (Out.ret ((YY,(aK.mk x0.Code je jf))))))))
def fO (x0:aI) (x1:Int):Option (Bool):=
 ao (S:=Unit) ((idx x0.aG (x1))>>=fun e8=>((idx x0.aJ (e8))>>=fun FQ=>(some (Out.ret (((FQ) == (x1)))))))
def lZ (x0:aI) (lg:(List Int)) (cn:Int):Option (Out ((List Int)×Int) ((List Int))):=
 (bif decide (cn < (x0.aG.length:Int)) then ((fO x0 (cn))>>=fun qu=>(bif !(qu) then ((fits 8 (lg.length+1))>>=fun n45=>(some (Out.norm (lg++[cn],an (cn+(1:Int)))))) else (some (Out.norm (lg,an (cn+(1:Int))))))) else (some (Out.exit 0 (lg,cn))))
def lT (x0:aI):Option ((List Int)):=
 ao (S:=Unit) (ah (af 0 (aj (fun s=>lZ x0 s.1 s.2) (([]:(List Int)),(0:Int)))) (fun (lg,cn)=>(some (Out.ret (lg)))))
def kN (x0:aI) (x1:aI):Option (Bool):=
 ao (S:=Unit) ((lT x0)>>=fun uZ=>(bif decide ((uZ.length:Int)≤(8:Int)) then (some (Out.ret ((decide ((x1.aG.length:Int)≤(16:Int)))))) else (some (Out.ret (false)))))
def oO (x0:aI) (x1:Int) (x2:Int) (bb:(List Int)) (jz:Int):Option (Out ((List Int)×Int) ((List Int))):=
 (bif decide (jz < (x0.aG.length:Int)) then ((((idx x0.aG (jz))>>=fun e27=>(bif (e27) == (x1) then ((idx x0.To (jz))>>=fun e30=>(some ((e30) == (x2)))) else (some (false)))))>>=fun g25=>(bif g25 then ((fits 8 (bb.length+1))>>=fun n50=>(some (Out.norm (bb++[jz],an (jz+(1:Int)))))) else (some (Out.norm (bb,an (jz+(1:Int))))))) else (some (Out.exit 0 (bb,jz))))
def gT (x0:aI) (x1:Int) (x2:Int):Option ((List Int)):=
 ao (S:=Unit) (ah (af 0 (aj (fun s=>oO x0 x1 x2 s.1 s.2) (([]:(List Int)),(0:Int)))) (fun (bb,jz)=>(some (Out.ret (bb)))))
def pP (x0:aI) (x1:aI) (x2:(List Int)) (bb:Int):Option (Out (Int) (Bool)):=
 (bif decide (bb < (x0.aG.length:Int)) then ((idx x0.aG (bb))>>=fun KB=>((idx x0.To (bb))>>=fun DF=>(bif decide (KB < (x2.length:Int)) then (bif decide (DF < (x2.length:Int)) then ((idx x2 (KB))>>=fun Ks=>((idx x2 (DF))>>=fun e33=>((gT x1 (Ks) (e33))>>=fun Cd=>(bif ((Cd.length:Int)) == ((0:Int)) then (some (Out.ret (false))) else (some (Out.norm (an (bb+(1:Int))))))))) else (some (Out.norm (an (bb+(1:Int)))))) else (some (Out.norm (an (bb+(1:Int)))))))) else (some (Out.exit 0 (bb))))
def mM (x0:aI) (x1:aI) (x2:(List Int)):Option (Bool):=
 ao (S:=Unit) (ah (af 0 (aj (pP x0 x1 x2) ((0:Int)))) (fun bb=>(some (Out.ret (true)))))
def mZ (x0:aI) (x1:aI) (bx:Int) (sM:Bool) (bq:Int) (mc:(List Int)):Option (Out (Bool×Int×(List Int)) (Bool×(List Int))):=
 (bif decide (bq < (mc.length:Int)) then ((idx x0.aB (bx))>>=fun e55=>((idx e55 (bq))>>=fun AU=>(((bif decide (AU < (0:Int)) then (some (true)) else ((idx mc (bx))>>=fun Sm=>(bif decide (Sm < (0:Int)) then (some (true)) else ((idx mc (bq))>>=fun KC=>(some (decide (KC < (0:Int)))))))))>>=fun g66=>(bif g66 then (some (Out.norm (sM,an (bq+(1:Int)),mc))) else ((idx mc (bx))>>=fun KD=>((idx x1.aB (KD))>>=fun Ce=>((idx mc (bq))>>=fun AV=>((idx Ce (AV))>>=fun WJ=>((((idx mc (AU))>>=fun Sn=>(bif decide (Sn ≥ (0:Int)) then ((idx mc (AU))>>=fun Sp=>(some ((Sp) != (WJ)))) else (some (false)))))>>=fun g94=>(bif g94 then (some (Out.ret ((false,mc)))) else (((bif sM then (some (true)) else ((idx mc (AU))>>=fun Bq=>(some (decide (Bq < (0:Int)))))))>>=fun YZ=>((idx mc (AU))>>=fun akQ=>(some (Out.norm (YZ,an (bq+(1:Int)),mc.set (AU).toNat (WJ)))))))))))))))) else (some (Out.exit 4 (sM,bq,mc))))
def nA (x0:aI) (x1:aI) (si:Bool) (bx:Int) (xJ:(List Int)):Option (Out (Bool×Int×(List Int)) (Bool×(List Int))):=
 (bif decide (bx < (xJ.length:Int)) then (ah (af 4 (aj (fun s=>mZ x0 x1 bx s.1 s.2.1 s.2.2) (si,(0:Int),xJ))) (fun (sM,bq,mc)=>(some (Out.norm (sM,an (bx+(1:Int)),mc))))) else (some (Out.exit 2 (si,bx,xJ))))
def nB (x0:aI) (x1:aI) (bb:Bool) (Ao:(List Int)):Option (Out (Bool×(List Int)) (Bool×(List Int))):=
 (bif bb then (ah (af 2 (aj (fun s=>nA x0 x1 s.1 s.2.1 s.2.2) (false,(0:Int),Ao))) (fun (si,bx,xJ)=>(some (Out.norm (si,xJ))))) else (some (Out.exit 0 (bb,Ao))))
def mN (x0:aI) (x1:aI) (x2:(List Int)):Option (Bool×(List Int)):=
 ao (S:=Unit) (ah (af 0 (aj (fun s=>nB x0 x1 s.1 s.2) (true,x2))) (fun (bb,Ao)=>(some (Out.ret ((true,Ao))))))
def pN (x3:(List Int)) (cn:Int):Option (Out (Int) ((List (List Int)))):=
 (((bif decide (cn < (x3.length:Int)) then ((idx x3 (cn))>>=fun FR=>(some (decide (FR ≥ (0:Int))))) else (some (false))))>>=fun g32=>(bif g32 then (some (Out.norm (an (cn+(1:Int))))) else (some (Out.exit 0 (cn)))))
def mA (rc:aI→aI→(List Int)→(List Int)→Int→(List (List Int))→Option ((List (List Int)))) (x0:aI) (x1:aI) (x2:(List Int)) (x3:(List Int)) (cn:Int) (OB:(List Int)) (ot:(List (List Int))) (rU:Int):Option (Out ((List (List Int))×Int) ((List (List Int)))):=
 (((bif decide (rU < (OB.length:Int)) then (some (decide ((ot.length:Int)≤(200:Int)))) else (some (false))))>>=fun Y0=>(bif Y0 then ((dC x3)>>=fun Sr=>((idx OB (rU))>>=fun Y1=>((idx Sr (cn))>>=fun akR=>((mN x0 x1 (Sr.set (cn).toNat (Y1)))>>=fun Ss=>(bif Ss.1 then ((rc x0 x1 x2 Ss.2 (an (cn+(1:Int))) ot)>>=fun Y2=>(some (Out.norm (Y2,an (rU+(1:Int)))))) else (some (Out.norm (ot,an (rU+(1:Int)))))))))) else (some (Out.exit 2 (ot,rU)))))
def kB (rc:aI→aI→(List Int)→(List Int)→Int→(List (List Int))→Option ((List (List Int)))) (x0:aI) (x1:aI) (x2:(List Int)) (x3:(List Int)) (x4:Int) (x5:(List (List Int))):Option ((List (List Int))):=
 ao (S:=Unit) (ah (af 0 (aj (pN x3) (x4))) (fun cn=>(bif (cn) == ((x3.length:Int)) then ((dC x3)>>=fun Su=>((fits 24 (x5.length+1))>>=fun n70=>(some (Out.ret ((x5++[Su])))))) else ((idx x0.aG (cn))>>=fun e75=>((idx x2 (e75))>>=fun e77=>((idx x0.To (cn))>>=fun KD=>((idx x2 (KD))>>=fun Ce=>((gT x1 (e77) (Ce))>>=fun OB=>(ah (af 2 (aj (fun s=>mA rc x0 x1 x2 x3 cn OB s.1 s.2) (x5,(0:Int)))) (fun (ot,rU)=>(some (Out.ret (ot)))))))))))))
def gQ:Nat→aI→aI→(List Int)→(List Int)→Int→(List (List Int))→Option ((List (List Int)))
 | 0=>fun _ _ _ _ _ _=>none
 | n+1=>kB (gQ n)
def fD (x0:aI) (x1:aI) (x2:(List Int)) (x3:(List Int)):Option (aP):=
 ao (S:=Unit) ((jP x0)>>=fun qu=>((jP x1)>>=fun y60=>((dC x2)>>=fun Y3=>((dC x3)>>=fun Y4=>(some (Out.ret ((aP.mk qu y60 Y3 Y4))))))))
def mB (x0:aI) (de:(List Int)) (uF:Int):Option (Out ((List Int)×Int) ((List aP))):=
 (bif decide (uF < (x0.aG.length:Int)) then ((fits 8 (de.length+1))>>=fun n78=>(some (Out.norm (de++[(-1:Int)],an (uF+(1:Int)))))) else (some (Out.exit 0 (de,uF))))
def mC (x0:aI) (x1:aI) (x2:(List Int)) (sC:Int) (zO:(List Int)):Option (Out (Int×(List Int)) ((List aP))):=
 (bif decide (sC < (x2.length:Int)) then ((idx x0.aJ (sC))>>=fun IX=>((idx x2 (sC))>>=fun M4=>((idx x1.aJ (M4))>>=fun FU=>((idx zO (IX))>>=fun IY=>(some (Out.norm (an (sC+(1:Int)),zO.set (IX).toNat (FU)))))))) else (some (Out.exit 2 (sC,zO))))
def mD (x0:aI) (x1:aI) (x2:(List Int)) (IZ:(List (List Int))) (CN:(List aP)) (Cf:Int):Option (Out ((List aP)×Int) ((List aP))):=
 (((bif decide (Cf < (IZ.length:Int)) then (some (decide ((CN.length:Int)≤(200:Int)))) else (some (false))))>>=fun Y5=>(bif Y5 then ((idx IZ (Cf))>>=fun Y6=>((fD x0 x1 x2 Y6)>>=fun Y7=>((fits 256 (CN.length+1))>>=fun n290=>(some (Out.norm (CN++[Y7],an (Cf+(1:Int)))))))) else (some (Out.exit 4 (CN,Cf)))))
def mE (rc:aI→aI→(List Int)→(List aP)→Option ((List aP))) (x0:aI) (x1:aI) (x2:(List Int)) (FW:(List aP)) (Cg:Int):Option (Out ((List aP)×Int) ((List aP))):=
 (((bif decide (Cg < x1.aA) then (some (decide ((FW.length:Int)≤(200:Int)))) else (some (false))))>>=fun Y8=>(bif Y8 then ((dC x2)>>=fun By=>((fits 8 (By.length+1))>>=fun n342=>((rc x0 x1 (By++[Cg]) FW)>>=fun Y9=>(some (Out.norm (Y9,an (Cg+(1:Int)))))))) else (some (Out.exit 6 (FW,Cg)))))
def kC (rc:aI→aI→(List Int)→(List aP)→Option ((List aP))) (x0:aI) (x1:aI) (x2:(List Int)) (x3:(List aP)):Option ((List aP)):=
 ao (S:=Unit) ((mM x0 x1 x2)>>=fun wh=>(bif !(wh) then (some (Out.ret (x3))) else (bif ((x2.length:Int)) == (x0.aA) then (ah (af 0 (aj (fun s=>mB x0 s.1 s.2) (([]:(List Int)),(0:Int)))) (fun (de,uF)=>(ah (af 2 (aj (fun s=>mC x0 x1 x2 s.1 s.2) ((0:Int),de))) (fun (sC,zO)=>((gQ 64 x0 x1 x2 zO ((0:Int)) (([]:(List (List Int)))))>>=fun IZ=>(ah (af 4 (aj (fun s=>mD x0 x1 x2 IZ s.1 s.2) (x3,(0:Int)))) (fun (CN,Cf)=>(some (Out.ret (CN)))))))))) else (ah (af 6 (aj (fun s=>mE rc x0 x1 x2 s.1 s.2) (x3,(0:Int)))) (fun (FW,Cg)=>(some (Out.ret (FW))))))))
def gR:Nat→aI→aI→(List Int)→(List aP)→Option ((List aP))
 | 0=>fun _ _ _ _=>none
 | n+1=>kC (gR n)
def mJ (x0:aI) (x1:aI):Option ((List aP)):=
 ao (S:=Unit) ((gR 64 x0 x1 (([]:(List Int))) (([]:(List aP))))>>=fun y33=>(some (Out.ret (y33))))
def kT (x0:aI) (x2:Int) (bb:(List Int)) (de:Int):Option (Out ((List Int)×Int) (aP)):=
 (bif decide (de < x0.aA) then ((fits 8 (bb.length+1))>>=fun n81=>(some (Out.norm (bb++[x2],an (de+(1:Int)))))) else (some (Out.exit 0 (bb,de))))
def kU (x0:aI) (x1:aI) (x2:Int) (bx:(List Int)) (fj:Int):Option (Out ((List Int)×Int) (aP)):=
 (bif decide (fj < (x0.aG.length:Int)) then ((idx x1.aJ (x2))>>=fun Za=>((fits 8 (bx.length+1))>>=fun n131=>(some (Out.norm (bx++[Za],an (fj+(1:Int))))))) else (some (Out.exit 2 (bx,fj))))
def iX (x0:aI) (x1:aI) (x2:Int):Option (aP):=
 ao (S:=Unit) (ah (af 0 (aj (fun s=>kT x0 x2 s.1 s.2) (([]:(List Int)),(0:Int)))) (fun (bb,de)=>(ah (af 2 (aj (fun s=>kU x0 x1 x2 s.1 s.2) (([]:(List Int)),(0:Int)))) (fun (bx,fj)=>((fD x0 x1 bb bx)>>=fun Zb=>(some (Out.ret (Zb))))))))
def fY (x0:aI) (lg:(List Int)) (bn:Int):Option (Out ((List Int)×Int) (aP)):=
 (bif decide (bn < x0.aA) then ((fits 8 (lg.length+1))>>=fun n65=>(some (Out.norm (lg++[bn],an (bn+(1:Int)))))) else (some (Out.exit 0 (lg,bn))))
def fZ (x0:aI) (FX:(List Int)) (ew:Int):Option (Out ((List Int)×Int) (aP)):=
 (bif decide (ew < (x0.aG.length:Int)) then ((fits 8 (FX.length+1))>>=fun n107=>(some (Out.norm (FX++[ew],an (ew+(1:Int)))))) else (some (Out.exit 2 (FX,ew))))
def dX (x0:aI):Option (aP):=
 ao (S:=Unit) (ah (af 0 (aj (fun s=>fY x0 s.1 s.2) (([]:(List Int)),(0:Int)))) (fun (lg,bn)=>(ah (af 2 (aj (fun s=>fZ x0 s.1 s.2) (([]:(List Int)),(0:Int)))) (fun (FX,ew)=>((fD x0 x0 lg FX)>>=fun Zc=>(some (Out.ret (Zc))))))))
def lB (x0:aK) (x1:aI) (x2:Int) (x3:Int):Option (aP×aK):=
 ao (S:=Unit) ((gY x0 (x2) (x3))>>=fun cw=>((kN x1 cw.1)>>=fun Sw=>(bif Sw then ((mJ x1 cw.1)>>=fun Sx=>(bif decide ((Sx.length:Int) > (0:Int)) then ((cI (aK.mk x0.Code cw.2.At cw.2.aq) ((Sx.length:Int)))>>=fun zK=>((idx Sx (zK.1))>>=fun tG=>(some (Out.ret ((tG,(aK.mk x0.Code zK.2.At zK.2.aq))))))) else (bif decide (cw.1.aA > (0:Int)) then ((cI (aK.mk x0.Code cw.2.At cw.2.aq) ((2:Int)))>>=fun FY=>(bif (FY.1) == ((0:Int)) then ((cI (aK.mk x0.Code FY.2.At FY.2.aq) (cw.1.aA))>>=fun FM=>((iX x1 cw.1 (FM.1))>>=fun Zd=>(some (Out.ret ((Zd,(aK.mk x0.Code FM.2.At FM.2.aq))))))) else ((dX x1)>>=fun Ze=>(some (Out.ret ((Ze,(aK.mk x0.Code FY.2.At FY.2.aq)))))))) else ((dX x1)>>=fun Zf=>(some (Out.ret ((Zf,(aK.mk x0.Code cw.2.At cw.2.aq))))))))) else (bif decide (cw.1.aA > (0:Int)) then ((cI (aK.mk x0.Code cw.2.At cw.2.aq) ((2:Int)))>>=fun FZ=>(bif (FZ.1) == ((0:Int)) then ((cI (aK.mk x0.Code FZ.2.At FZ.2.aq) (cw.1.aA))>>=fun M5=>((iX x1 cw.1 (M5.1))>>=fun Zg=>(some (Out.ret ((Zg,(aK.mk x0.Code M5.2.At M5.2.aq))))))) else ((dX x1)>>=fun Zh=>(some (Out.ret ((Zh,(aK.mk x0.Code FZ.2.At FZ.2.aq)))))))) else ((dX x1)>>=fun Zi=>(some (Out.ret ((Zi,(aK.mk x0.Code cw.2.At cw.2.aq))))))))))
def mG (x0:(List (List Int))) (x1:Int) (bn:(List Int)) (fg:Int):Option (Out ((List Int)×Int) ((List Int))):=
 (bif decide (fg < (x0.length:Int)) then ((idx x0 (fg))>>=fun Cb=>((idx Cb (x1))>>=fun DF=>((fits 8 (bn.length+1))>>=fun n41=>(some (Out.norm (bn++[DF],an (fg+(1:Int)))))))) else (some (Out.exit 0 (bn,fg))))
def iR (x0:(List (List Int))) (x1:Int):Option ((List Int)):=
 ao (S:=Unit) (ah (af 0 (aj (fun s=>mG x0 x1 s.1 s.2) (([]:(List Int)),(0:Int)))) (fun (bn,fg)=>(some (Out.ret (bn)))))
def pU (x0:(List (List Int))) (x1:(List Int)) (bn:Int):Option (Out (Int) (Int)):=
 (bif decide (bn < (x0.length:Int)) then ((idx x0 (bn))>>=fun e9=>((eP e9 x1)>>=fun uZ=>(bif uZ then (some (Out.ret (bn))) else (some (Out.norm (an (bn+(1:Int)))))))) else (some (Out.exit 0 (bn))))
def iY (x0:(List (List Int))) (x1:(List Int)):Option (Int):=
 ao (S:=Unit) (ah (af 0 (aj (pU x0 x1) ((0:Int)))) (fun bn=>(some (Out.ret (((-1:Int)))))))
def eK (x0:aI) (x1:Int) (x2:Int):Option (Int):=
 ao (S:=Unit) ((idx x0.aB (x1))>>=fun e8=>((idx e8 (x2))>>=fun F4=>(some (Out.ret (F4)))))
def oP (x1:aI) (fg:(List Int)) (bb:Int):Option (Out ((List Int)×Int) (aI×aP×aK)):=
 (bif decide (bb < x1.aA) then ((fits 8 (fg.length+1))>>=fun n80=>(some (Out.norm (fg++[bb],an (bb+(1:Int)))))) else (some (Out.exit 0 (fg,bb))))
def oQ (x0:aK) (x1:aI) (ew:(List Int)) (bx:Int) (nu:Int) (nv:Int):Option (Out ((List Int)×Int×Int×Int) (aI×aP×aK)):=
 (((bif decide (bx > (0:Int)) then (some (decide (x1.aA > (0:Int)))) else (some (false))))>>=fun M6=>(bif M6 then ((cI (aK.mk x0.Code nu nv) (x1.aA))>>=fun M7=>((fits 8 (ew.length+1))>>=fun n142=>(some (Out.norm (ew++[M7.1],an (bx - (1:Int)),M7.2.At,M7.2.aq))))) else (some (Out.exit 2 (ew,bx,nu,nv)))))
def oR (di:Int) (dy:Int) (I0:(List Int)) (F5:(List (List Int))) (nn:Int):Option (Out ((List (List Int))×Int) (aI×aP×aK)):=
 (bif decide (nn < (I0.length:Int)) then ((idx I0 (nn))>>=fun Zj=>((fits 24 (F5.length+1))>>=fun n276=>(some (Out.norm (F5++[([di,dy,Zj]:(List Int))],an (nn+(1:Int))))))) else (some (Out.exit 8 (F5,nn))))
def oS (x1:aI) (ew:(List Int)) (di:Int) (I1:(List (List Int))) (dy:Int):Option (Out ((List (List Int))×Int) (aI×aP×aK)):=
 (bif decide (dy < (ew.length:Int)) then ((idx ew (di))>>=fun Zk=>((idx ew (dy))>>=fun Zm=>((gT x1 (Zk) (Zm))>>=fun I0=>(ah (af 8 (aj (fun s=>oR di dy I0 s.1 s.2) (I1,(0:Int)))) (fun (F5,nn)=>(some (Out.norm (F5,an (dy+(1:Int)))))))))) else (some (Out.exit 6 (I1,dy))))
def oT (x1:aI) (ew:(List Int)) (bq:(List (List Int))) (di:Int):Option (Out ((List (List Int))×Int) (aI×aP×aK)):=
 (bif decide (di < (ew.length:Int)) then (ah (af 6 (aj (fun s=>oS x1 ew di s.1 s.2) (bq,(0:Int)))) (fun (I1,dy)=>(some (Out.norm (I1,an (di+(1:Int))))))) else (some (Out.exit 4 (bq,di))))
def oU (x1:aI) (ew:(List Int)) (bq:(List (List Int))) (yI:Int) (nw:(List Int)):Option (Out (Int×(List Int)) (aI×aP×aK)):=
 (bif decide (yI < (ew.length:Int)) then ((idx ew (yI))>>=fun Zo=>((idx x1.aJ (Zo))>>=fun Zp=>((iY bq [yI,yI,Zp])>>=fun M8=>((fits 8 (nw.length+1))>>=fun akS=>(some (Out.norm (an (yI+(1:Int)),nw++[M8]))))))) else (some (Out.exit 10 (yI,nw))))
def oV (x1:aI) (bq:(List (List Int))) (vz:Int) (yJ:(List Int)) (w4:Int):Option (Out ((List Int)×Int) (aI×aP×aK)):=
 (bif decide (w4 < (bq.length:Int)) then ((idx bq (vz))>>=fun Zq=>((idx Zq ((1:Int)))>>=fun Zr=>((idx bq (w4))>>=fun Zs=>((idx Zs ((0:Int)))>>=fun Zt=>(bif (Zr) == (Zt) then ((idx bq (vz))>>=fun Zu=>((idx Zu ((0:Int)))>>=fun Zv=>((idx bq (w4))>>=fun Zw=>((idx Zw ((1:Int)))>>=fun Zx=>((idx bq (vz))>>=fun Zy=>((idx Zy ((2:Int)))>>=fun Zz=>((idx bq (w4))>>=fun ZA=>((idx ZA ((2:Int)))>>=fun ZB=>((eK x1 (Zz) (ZB))>>=fun ZC=>((iY bq [Zv,Zx,ZC])>>=fun ZD=>((fits 8 (yJ.length+1))>>=fun akT=>(some (Out.norm (yJ++[ZD],an (w4+(1:Int)))))))))))))))) else ((fits 8 (yJ.length+1))>>=fun akU=>(some (Out.norm (yJ++[(-1:Int)],an (w4+(1:Int))))))))))) else (some (Out.exit 14 (yJ,w4))))
def oW (x1:aI) (ew:(List Int)) (bq:(List (List Int))) (CO:(List Int)) (CP:(List Int)) (nw:(List Int)) (vz:Int) (qv:(List (List Int))):Option (Out (Int×(List (List Int))) (aI×aP×aK)):=
 (((bif decide (vz < (bq.length:Int)) then ((dR (aI.mk ((ew.length:Int)) CO CP nw qv))>>=fun ZE=>(some (ZE))) else (some (false))))>>=fun ZF=>(bif ZF then (ah (af 14 (aj (fun s=>oV x1 bq vz s.1 s.2) (([]:(List Int)),(0:Int)))) (fun (yJ,w4)=>((fits 24 (qv.length+1))>>=fun akV=>(some (Out.norm (an (vz+(1:Int)),qv++[yJ])))))) else (some (Out.exit 12 (vz,qv)))))
def pA (x0:aK) (x1:aI):Option (aI×aP×aK):=
 ao (S:=Unit) (ah (af 0 (aj (fun s=>oP x1 s.1 s.2) (([]:(List Int)),(0:Int)))) (fun (fg,bb)=>((cI x0 ((3:Int)))>>=fun zP=>(ah (af 2 (aj (fun s=>oQ x0 x1 s.1 s.2.1 s.2.2.1 s.2.2.2) (fg,zP.1,zP.2.At,zP.2.aq))) (fun (ew,bx,nu,nv)=>(ah (af 4 (aj (fun s=>oT x1 ew s.1 s.2) (([]:(List (List Int))),(0:Int)))) (fun (bq,di)=>((iR bq ((0:Int)))>>=fun CO=>((iR bq ((1:Int)))>>=fun CP=>(ah (af 10 (aj (fun s=>oU x1 ew bq s.1 s.2) ((0:Int),([]:(List Int))))) (fun (yI,nw)=>(ah (af 12 (aj (fun s=>oW x1 ew bq CO CP nw s.1 s.2) ((0:Int),([]:(List (List Int)))))) (fun (vz,qv)=>((dR (aI.mk ((ew.length:Int)) CO CP nw qv))>>=fun ZG=>(bif !(ZG) then ((dX x1)>>=fun ZH=>(some (Out.ret ((x1,ZH,(aK.mk x0.Code nu nv)))))) else ((iR bq ((2:Int)))>>=fun ZI=>((fD (aI.mk ((ew.length:Int)) CO CP nw qv) x1 ew ZI)>>=fun U9=>(some (Out.ret (((aI.mk ((ew.length:Int)) CO CP nw qv),U9,(aK.mk x0.Code nu nv))))))))))))))))))))))
def nC (x0:aP) (x3:Int) (x4:Int) (y8:(List Int)) (o6:(List Int)) (rn:Int):Option (Out ((List Int)×Int) ((List Int))):=
 (bif decide (rn < (y8.length:Int)) then ((idx y8 (rn))>>=fun Sy=>((idx x0.ae (Sy))>>=fun KE=>((eK x0.aH (KE) (x3))>>=fun Sz=>(bif (Sz) == (x4) then ((idx y8 (rn))>>=fun FG=>((fits 8 (o6.length+1))>>=fun n64=>(some (Out.norm (o6++[FG],an (rn+(1:Int))))))) else (some (Out.norm (o6,an (rn+(1:Int))))))))) else (some (Out.exit 0 (o6,rn))))
def fG (x0:aP) (x1:Int) (x2:Int) (x3:Int) (x4:Int):Option ((List Int)):=
 ao (S:=Unit) ((gT x0.aE (x1) (x2))>>=fun y8=>(ah (af 0 (aj (fun s=>nC x0 x3 x4 y8 s.1 s.2) (([]:(List Int)),(0:Int)))) (fun (o6,rn)=>(some (Out.ret (o6))))))
def nR (x0:aP) (x2:Int) (x3:Int) (de:Int) (nz:(List Int)) (sC:Int):Option (Out (Int) (Bool)):=
 (bif decide (sC < (nz.length:Int)) then ((idx nz (sC))>>=fun FR=>((fG x0 (de) (x2) (x3) (FR))>>=fun y40=>(bif ((y40.length:Int)) != ((1:Int)) then (some (Out.ret (false))) else (some (Out.norm (an (sC+(1:Int)))))))) else (some (Out.exit 2 (sC))))
def nS (x0:aP) (x1:Int) (x2:Int) (x3:Int) (de:Int):Option (Out (Int) (Bool)):=
 (bif decide (de < x0.aE.aA) then ((idx x0.aA (de))>>=fun tH=>((gT x0.aH (tH) (x1))>>=fun nz=>(ah (af 2 (aj (nR x0 x2 x3 de nz) ((0:Int)))) (fun sC=>(some (Out.norm (an (de+(1:Int))))))))) else (some (Out.exit 0 (de))))
def jR (x0:aP) (x1:Int) (x2:Int) (x3:Int):Option (Bool):=
 ao (S:=Unit) (ah (af 0 (aj (nS x0 x1 x2 x3) ((0:Int)))) (fun de=>(some (Out.ret (true)))))
def pV (x0:aP) (x1:Int) (bb:Int) (nz:(List Int)) (pj:Int):Option (Out (Int) (Int×Int×Bool)):=
 (bif decide (pj < (nz.length:Int)) then ((idx nz (pj))>>=fun FR=>((jR x0 (x1) (bb) (FR))>>=fun Kz=>(bif Kz then ((idx nz (pj))>>=fun e42=>(some (Out.ret ((bb,e42,true))))) else (some (Out.norm (an (pj+(1:Int)))))))) else (some (Out.exit 2 (pj))))
def pW (x0:aP) (x1:Int) (bb:Int):Option (Out (Int) (Int×Int×Bool)):=
 (bif decide (bb < x0.aE.aA) then ((idx x0.aA (bb))>>=fun tH=>((gT x0.aH (tH) (x1))>>=fun nz=>(ah (af 2 (aj (pV x0 x1 bb nz) ((0:Int)))) (fun pj=>(some (Out.norm (an (bb+(1:Int))))))))) else (some (Out.exit 0 (bb))))
def nT (x0:aP) (x1:Int):Option (Int×Int×Bool):=
 ao (S:=Unit) (ah (af 0 (aj (pW x0 x1) ((0:Int)))) (fun bb=>(some (Out.ret ((((0:Int)),((0:Int)),false))))))
def pB (x0:aP):Option (aP):=
 ao (S:=Unit) ((fD x0.aE x0.aH x0.aA x0.ae)>>=fun uZ=>(some (Out.ret (uZ))))
def nD (x0:aP) (fg:(List Int)) (bb:(List Int)) (uF:Int):Option (Out ((List Int)×(List Int)×Int) (bN×Bool)):=
 (bif decide (uF < x0.aH.aA) then ((nT x0 (uF))>>=fun M9=>(bif !(M9.2.2) then (some (Out.ret (((bN.mk (aP.mk (aI.mk ((0:Int)) ([]) ([]) ([]) ([])) (aI.mk ((0:Int)) ([]) ([]) ([]) ([])) ([]) ([])) (aP.mk (aI.mk ((0:Int)) ([]) ([]) ([]) ([])) (aI.mk ((0:Int)) ([]) ([]) ([]) ([])) ([]) ([])) ([]) ([])),false)))) else ((fits 8 (fg.length+1))>>=fun n161=>((fits 8 (bb.length+1))>>=fun n193=>(some (Out.norm (fg++[M9.1],bb++[M9.2.1],an (uF+(1:Int))))))))) else (some (Out.exit 0 (fg,bb,uF))))
def nE (x0:aP) (fg:(List Int)) (bb:(List Int)) (bx:(List Int)) (rU:Int):Option (Out ((List Int)×Int) (bN×Bool)):=
 (bif decide (rU < (x0.aH.aG.length:Int)) then ((idx x0.aH.aG (rU))>>=fun SB=>((idx x0.aH.To (rU))>>=fun SC=>((idx fg (SB))>>=fun MC=>((idx fg (SC))>>=fun SD=>((idx bb (SC))>>=fun ZJ=>((idx bb (SB))>>=fun ZK=>((eK x0.aH (ZK) (rU))>>=fun ZL=>((fG x0 (MC) (SD) (ZJ) (ZL))>>=fun ZM=>((idx ZM ((0:Int)))>>=fun ZN=>((fits 8 (bx.length+1))>>=fun n302=>(some (Out.norm (bx++[ZN],an (rU+(1:Int))))))))))))))) else (some (Out.exit 2 (bx,rU))))
def nF (x0:aP) (fg:(List Int)) (bb:(List Int)) (bq:(List Int)) (Ap:Int):Option (Out ((List Int)×Int) (bN×Bool)):=
 (bif decide (Ap < x0.aE.aA) then ((idx x0.aA (Ap))>>=fun Na=>((idx fg (Na))>>=fun ZO=>((idx bb (Na))>>=fun ZP=>((idx x0.aH.aJ (Na))>>=fun ZQ=>((fG x0 (Ap) (ZO) (ZP) (ZQ))>>=fun Bv=>((idx Bv ((0:Int)))>>=fun ZR=>((fits 8 (bq.length+1))>>=fun akW=>(some (Out.norm (bq++[ZR],an (Ap+(1:Int)))))))))))) else (some (Out.exit 4 (bq,Ap))))
def iC (x0:aP):Option (bN×Bool):=
 ao (S:=Unit) (ah (af 0 (aj (fun s=>nD x0 s.1 s.2.1 s.2.2) (([]:(List Int)),([]:(List Int)),(0:Int)))) (fun (fg,bb,uF)=>(ah (af 2 (aj (fun s=>nE x0 fg bb s.1 s.2) (([]:(List Int)),(0:Int)))) (fun (bx,rU)=>(ah (af 4 (aj (fun s=>nF x0 fg bb s.1 s.2) (([]:(List Int)),(0:Int)))) (fun (bq,Ap)=>((pB x0)>>=fun ZS=>((fD x0.aH x0.aE fg bx)>>=fun ZT=>(some (Out.ret (((bN.mk ZS ZT bq bb),true))))))))))))
def kD (x0:aP):Option (aP):=
 ao (S:=Unit) ((iI x0.aE)>>=fun uZ=>((iI x0.aH)>>=fun Kr=>((fD uZ Kr x0.aA x0.ae)>>=fun y94=>(some (Out.ret (y94))))))
def nU (x0:bN):Option (bN):=
 ao (S:=Unit) ((kD x0.ab)>>=fun uZ=>((kD x0.Left)>>=fun Nb=>((dC x0.br)>>=fun ZU=>((dC x0.Unit)>>=fun M3=>(some (Out.ret ((bN.mk uZ Nb ZU M3))))))))
def nV (x0:aK) (lg:Int) (je:Int) (jf:Int):Option (Out (Int×Int×Int) (bN×aK)):=
 (bif decide (lg < (10:Int)) then ((gY (aK.mk x0.Code je jf) ((4:Int)) ((10:Int)))>>=fun tV=>((lB (aK.mk x0.Code tV.2.At tV.2.aq) tV.1 ((4:Int)) ((10:Int)))>>=fun AW=>((cI (aK.mk x0.Code AW.2.At AW.2.aq) ((3:Int)))>>=fun uq=>(bif (uq.1) == ((0:Int)) then ((gY (aK.mk x0.Code uq.2.At uq.2.aq) ((3:Int)) ((6:Int)))>>=fun Nc=>((pA (aK.mk x0.Code Nc.2.At Nc.2.aq) Nc.1)>>=fun zQ=>((iC zQ.2.1)>>=fun SE=>(bif SE.2 then (some (Out.ret ((SE.1,(aK.mk x0.Code zQ.2.2.At zQ.2.2.aq))))) else ((kD zQ.2.1)>>=fun Va=>((iC Va)>>=fun OC=>(bif OC.2 then ((nU OC.1)>>=fun Vb=>(some (Out.ret ((Vb,(aK.mk x0.Code zQ.2.2.At zQ.2.2.aq)))))) else (some (Out.norm (an (lg+(1:Int)),zQ.2.2.At,zQ.2.2.aq)))))))))) else ((iC AW.1)>>=fun OD=>(bif OD.2 then (some (Out.ret ((OD.1,(aK.mk x0.Code uq.2.At uq.2.aq))))) else ((kD AW.1)>>=fun Vc=>((iC Vc)>>=fun OF=>(bif OF.2 then ((nU OF.1)>>=fun Vd=>(some (Out.ret ((Vd,(aK.mk x0.Code uq.2.At uq.2.aq)))))) else (some (Out.norm (an (lg+(1:Int)),uq.2.At,uq.2.aq)))))))))))) else (some (Out.exit 0 (lg,je,jf))))
def nW (x0:aK):Option (bN×aK):=
 ao (S:=Unit) (ah (af 0 (aj (fun s=>nV x0 s.1 s.2.1 s.2.2) ((0:Int),x0.At,x0.aq))) (fun (lg,je,jf)=>((gY (aK.mk x0.Code je jf) ((4:Int)) ((10:Int)))>>=fun Aq=>((dX Aq.1)>>=fun Ve=>((dX Aq.1)>>=fun Vf=>(some (Out.ret (((bN.mk Ve Vf Aq.1.aJ Aq.1.aJ),(aK.mk x0.Code Aq.2.At Aq.2.aq))))))))))
def lC (x0:aK) (x1:(List Int)):Option (Int×aK):=
 ao (S:=Unit) ((cI x0 ((x1.length:Int)))>>=fun y6=>((idx x1 (y6.1))>>=fun Ku=>(some (Out.ret ((Ku,(aK.mk x0.Code y6.2.At y6.2.aq)))))))
def gS (x0:aK) (x1:Int):Option (Int×aK):=
 ao (S:=Unit) ((cI x0 ((40:Int)))>>=fun y5=>(bif (y5.1) == ((0:Int)) then ((lC (aK.mk x0.Code y5.2.At y5.2.aq) ([(-1:Int),x1,(9223372036854775807:Int),(-9223372036854775808:Int)]))>>=fun xK=>(some (Out.ret ((xK.1,(aK.mk x0.Code xK.2.At xK.2.aq)))))) else ((cI (aK.mk x0.Code y5.2.At y5.2.aq) (x1))>>=fun FL=>(some (Out.ret ((FL.1,(aK.mk x0.Code FL.2.At FL.2.aq))))))))
def nX (x0:aK) (x1:aI):Option (aI×aK):=
 ao (S:=Unit) ((jP x1)>>=fun cw=>((cI x0 ((cw.aG.length:Int)))>>=fun xL=>((cI (aK.mk x0.Code xL.2.At xL.2.aq) ((8:Int)))>>=fun mq=>(bif (mq.1) == ((0:Int)) then ((lC (aK.mk x0.Code mq.2.At mq.2.aq) ([an (cw.aA+(1:Int)),(-1:Int),(9:Int)]))>>=fun SF=>(some (Out.ret (((aI.mk SF.1 cw.aG cw.To cw.aJ cw.aB),(aK.mk x0.Code SF.2.At SF.2.aq)))))) else (bif (mq.1) == ((1:Int)) then ((fits 8 (cw.aG.length+1))>>=fun n120=>(some (Out.ret (((aI.mk cw.aA (cw.aG++[(0:Int)]) cw.To cw.aJ cw.aB),(aK.mk x0.Code mq.2.At mq.2.aq)))))) else (bif (mq.1) == ((2:Int)) then (bif decide ((cw.aJ.length:Int) > (0:Int)) then ((cI (aK.mk x0.Code mq.2.At mq.2.aq) (an ((cw.aG.length:Int)+(1:Int))))>>=fun Nd=>((idx cw.aJ ((0:Int)))>>=fun akX=>(some (Out.ret (((aI.mk cw.aA cw.aG cw.To (cw.aJ.set ((0:Int)).toNat (Nd.1)) cw.aB),(aK.mk x0.Code Nd.2.At Nd.2.aq))))))) else (some (Out.ret ((cw,(aK.mk x0.Code mq.2.At mq.2.aq)))))) else (bif (mq.1) == ((3:Int)) then (bif decide ((cw.aG.length:Int) > (0:Int)) then ((idx cw.aB (xL.1))>>=fun SG=>((cI (aK.mk x0.Code mq.2.At mq.2.aq) ((cw.aG.length:Int)))>>=fun I2=>((cI (aK.mk x0.Code I2.2.At I2.2.aq) (an ((cw.aG.length:Int)+(1:Int))))>>=fun Nf=>((idx SG (I2.1))>>=fun akY=>(some (Out.ret (((aI.mk cw.aA cw.aG cw.To cw.aJ (cw.aB.set (xL.1).toNat (SG.set (I2.1).toNat (an (Nf.1 - (1:Int)))))),(aK.mk x0.Code Nf.2.At Nf.2.aq))))))))) else (some (Out.ret ((cw,(aK.mk x0.Code mq.2.At mq.2.aq)))))) else (bif (mq.1) == ((4:Int)) then (bif decide ((cw.aG.length:Int) > (0:Int)) then ((idx cw.aB (xL.1))>>=fun SH=>((cI (aK.mk x0.Code mq.2.At mq.2.aq) ((cw.aG.length:Int)))>>=fun I3=>((cI (aK.mk x0.Code I3.2.At I3.2.aq) (an ((cw.aG.length:Int)+(1:Int))))>>=fun uq=>((idx SH (I3.1))>>=fun SD=>(some (Out.ret (((aI.mk cw.aA cw.aG cw.To cw.aJ (cw.aB.set (xL.1).toNat (SH.set (I3.1).toNat (an (uq.1 - (1:Int)))))),(aK.mk x0.Code uq.2.At uq.2.aq))))))))) else (some (Out.ret ((cw,(aK.mk x0.Code mq.2.At mq.2.aq)))))) else (bif (mq.1) == ((5:Int)) then (bif decide ((cw.aG.length:Int) > (0:Int)) then ((idx cw.aB (xL.1))>>=fun SI=>((cI (aK.mk x0.Code mq.2.At mq.2.aq) ((cw.aG.length:Int)))>>=fun I4=>((cI (aK.mk x0.Code I4.2.At I4.2.aq) (an ((cw.aG.length:Int)+(1:Int))))>>=fun Ng=>((idx SI (I4.1))>>=fun akZ=>(some (Out.ret (((aI.mk cw.aA cw.aG cw.To cw.aJ (cw.aB.set (xL.1).toNat (SI.set (I4.1).toNat (an (Ng.1 - (1:Int)))))),(aK.mk x0.Code Ng.2.At Ng.2.aq))))))))) else (some (Out.ret ((cw,(aK.mk x0.Code mq.2.At mq.2.aq)))))) else (bif (mq.1) == ((6:Int)) then (bif decide ((cw.aG.length:Int) > (0:Int)) then ((cI (aK.mk x0.Code mq.2.At mq.2.aq) (an (cw.aA+(1:Int))))>>=fun Nh=>((idx cw.To (xL.1))>>=fun Sd=>(some (Out.ret (((aI.mk cw.aA cw.aG (cw.To.set (xL.1).toNat (Nh.1)) cw.aJ cw.aB),(aK.mk x0.Code Nh.2.At Nh.2.aq))))))) else (some (Out.ret ((cw,(aK.mk x0.Code mq.2.At mq.2.aq)))))) else (bif decide ((cw.aG.length:Int) > (0:Int)) then ((idx cw.aB (xL.1))>>=fun ZV=>((tl ZV ((1:Int)))>>=fun ZW=>((idx cw.aB (xL.1))>>=fun ak0=>(some (Out.ret (((aI.mk cw.aA cw.aG cw.To cw.aJ (cw.aB.set (xL.1).toNat ZW)),(aK.mk x0.Code mq.2.At mq.2.aq)))))))) else (some (Out.ret ((cw,(aK.mk x0.Code mq.2.At mq.2.aq))))))))))))))))
def nY (x0:aK):Option (aP×aK):=
 ao (S:=Unit) ((gY x0 ((4:Int)) ((10:Int)))>>=fun bz=>((lB (aK.mk x0.Code bz.2.At bz.2.aq) bz.1 ((4:Int)) ((12:Int)))>>=fun r4=>((cI (aK.mk x0.Code r4.2.At r4.2.aq) ((30:Int)))>>=fun ur=>(bif (ur.1) == ((0:Int)) then ((nX (aK.mk x0.Code ur.2.At ur.2.aq) r4.1.aE)>>=fun Ni=>(some (Out.ret (((aP.mk Ni.1 r4.1.aH r4.1.aA r4.1.ae),(aK.mk x0.Code Ni.2.At Ni.2.aq)))))) else (bif (ur.1) == ((1:Int)) then (bif decide ((r4.1.ae.length:Int) > (0:Int)) then ((cI (aK.mk x0.Code ur.2.At ur.2.aq) ((r4.1.ae.length:Int)))>>=fun By=>((cI (aK.mk x0.Code By.2.At By.2.aq) (an ((r4.1.aH.aG.length:Int)+(1:Int))))>>=fun uo=>((idx r4.1.ae (By.1))>>=fun ak1=>(some (Out.ret (((aP.mk r4.1.aE r4.1.aH r4.1.aA (r4.1.ae.set (By.1).toNat (uo.1))),(aK.mk x0.Code uo.2.At uo.2.aq)))))))) else (some (Out.ret ((r4.1,(aK.mk x0.Code ur.2.At ur.2.aq)))))) else (bif (ur.1) == ((2:Int)) then ((fits 8 (r4.1.aA.length+1))>>=fun Yr=>(some (Out.ret (((aP.mk r4.1.aE r4.1.aH (r4.1.aA++[(0:Int)]) r4.1.ae),(aK.mk x0.Code ur.2.At ur.2.aq)))))) else (some (Out.ret ((r4.1,(aK.mk x0.Code ur.2.At ur.2.aq)))))))))))
def lD (x0:aK):Option (bN×aK):=
 ao (S:=Unit) ((nW x0)>>=fun bz=>((cI (aK.mk x0.Code bz.2.At bz.2.aq) ((30:Int)))>>=fun uw=>(bif (uw.1) == ((0:Int)) then (bif decide ((bz.1.Unit.length:Int) > (0:Int)) then ((dC bz.1.Unit)>>=fun SJ=>((gS (aK.mk x0.Code uw.2.At uw.2.aq) ((bz.1.Left.aE.aG.length:Int)))>>=fun Nj=>((idx SJ ((0:Int)))>>=fun ak2=>(some (Out.ret (((bN.mk bz.1.Left bz.1.ab (SJ.set ((0:Int)).toNat (Nj.1)) bz.1.br),(aK.mk x0.Code Nj.2.At Nj.2.aq)))))))) else (some (Out.ret ((bz.1,(aK.mk x0.Code uw.2.At uw.2.aq)))))) else (bif (uw.1) == ((1:Int)) then ((dC bz.1.br)>>=fun SK=>((fits 8 (SK.length+1))>>=fun Yo=>(some (Out.ret (((bN.mk bz.1.Left bz.1.ab bz.1.Unit (SK++[(0:Int)])),(aK.mk x0.Code uw.2.At uw.2.aq))))))) else (bif (uw.1) == ((2:Int)) then ((nY (aK.mk x0.Code uw.2.At uw.2.aq))>>=fun Nl=>(some (Out.ret (((bN.mk Nl.1 bz.1.ab bz.1.Unit bz.1.br),(aK.mk x0.Code Nl.2.At Nl.2.aq)))))) else (some (Out.ret ((bz.1,(aK.mk x0.Code uw.2.At uw.2.aq))))))))))
def pO (x0:Int) (x1:Int) (x2:Int):Option (Bool):=
 ao (S:=Unit) (((bif decide (x0 ≥ x1) then (some (decide (x0≤x2))) else (some (false))))>>=fun g3=>(some (Out.ret (g3))))
def lU (x0:Int) (x1:(List Int)) (bn:Int):Option (Out (Int) (Bool)):=
 (bif decide (bn < (x1.length:Int)) then ((((idx x1 (bn))>>=fun SM=>(bif decide (SM < (0:Int)) then (some (true)) else ((idx x1 (bn))>>=fun tH=>(some (decide (tH ≥ x0)))))))>>=fun g9=>(bif g9 then (some (Out.ret (false))) else (some (Out.norm (an (bn+(1:Int))))))) else (some (Out.exit 0 (bn))))
def iM (x0:Int) (x1:(List Int)):Option (Bool):=
 ao (S:=Unit) (ah (af 0 (aj (lU x0 x1) ((0:Int)))) (fun bn=>(some (Out.ret (true)))))
def lE (x0:(List Int)) (x1:Int) (x2:Int):Option (Bool):=
 ao (S:=Unit) (((bif ((x0.length:Int)) == (x1) then ((iM (x2) x0)>>=fun y6=>(some (y6))) else (some (false))))>>=fun g3=>(some (Out.ret (g3))))
def kW (x0:aI) (cn:Int):Option (Out (Int) (Bool)):=
 (bif decide (cn < x0.aA) then ((((idx x0.aJ (cn))>>=fun e45=>((idx x0.aG (e45))>>=fun SN=>(bif (SN) != (cn) then (some (true)) else ((idx x0.aJ (cn))>>=fun Kv=>((idx x0.To (Kv))>>=fun e52=>(some ((e52) != (cn)))))))))>>=fun SP=>(bif SP then (some (Out.ret (false))) else (some (Out.norm (an (cn+(1:Int))))))) else (some (Out.exit 0 (cn))))
def kX (x0:aI) (ot:Int) (xr:Int):Option (Out (Int) (Bool)):=
 (bif decide (xr < (x0.aG.length:Int)) then ((idx x0.aB (ot))>>=fun e86=>((idx e86 (xr))>>=fun Ca=>((idx x0.To (ot))>>=fun e97=>((idx x0.aG (xr))>>=fun Sp=>(bif (e97) != (Sp) then (bif (Ca) != ((-1:Int)) then (some (Out.ret (false))) else (some (Out.norm (an (xr+(1:Int)))))) else (((bif decide (Ca < (0:Int)) then (some (true)) else (bif decide (Ca ≥ (x0.aG.length:Int)) then (some (true)) else ((idx x0.aG (Ca))>>=fun MH=>((idx x0.aG (ot))>>=fun ZX=>(bif (MH) != (ZX) then (some (true)) else ((idx x0.To (Ca))>>=fun ZY=>((idx x0.To (xr))>>=fun ZZ=>(some ((ZY) != (ZZ)))))))))))>>=fun M6=>(bif M6 then (some (Out.ret (false))) else (some (Out.norm (an (xr+(1:Int)))))))))))) else (some (Out.exit 4 (xr))))
def nZ (x0:aI) (ot:Int):Option (Out (Int) (Bool)):=
 (bif decide (ot < (x0.aG.length:Int)) then ((idx x0.aB (ot))>>=fun SR=>(bif ((SR.length:Int)) != ((x0.aG.length:Int)) then (some (Out.ret (false))) else (ah (af 4 (aj (kX x0 ot) ((0:Int)))) (fun xr=>(some (Out.norm (an (ot+(1:Int))))))))) else (some (Out.exit 2 (ot))))
def oA (x0:aI):Option (Bool):=
 ao (S:=Unit) ((((pO (x0.aA) ((0:Int)) ((8:Int)))>>=fun Ch=>(bif !(Ch) then (some (true)) else (bif decide ((x0.aG.length:Int) > (40:Int)) then (some (true)) else ((lE x0.aG ((x0.aG.length:Int)) (x0.aA))>>=fun uZ=>(bif !(uZ) then (some (true)) else ((lE x0.To ((x0.aG.length:Int)) (x0.aA))>>=fun nz=>(bif !(nz) then (some (true)) else (some (((x0.aB.length:Int)) != ((x0.aG.length:Int))))))))))))>>=fun g10=>(bif g10 then (some (Out.ret (false))) else (((bif ((x0.aJ.length:Int)) != (x0.aA) then (some (true)) else ((iM ((x0.aG.length:Int)) x0.aJ)>>=fun y30=>(some (!(y30))))))>>=fun g27=>(bif g27 then (some (Out.ret (false))) else (ah (af 0 (aj (kW x0) ((0:Int)))) (fun cn=>(ah (af 2 (aj (nZ x0) ((0:Int)))) (fun ot=>(some (Out.ret (true)))))))))))
def kE (x0:aI) (bb:Int):Option (Out (Int) (Int×Int×Int×Int)):=
 (bif decide (bb < (x0.aG.length:Int)) then ((((idx x0.aG (bb))>>=fun Cb=>((idx x0.aJ (Cb))>>=fun KF=>((idx x0.aB (KF))>>=fun FD=>((idx FD (bb))>>=fun e29=>(bif (e29) != (bb) then (some (true)) else ((idx x0.aB (bb))>>=fun e32=>((idx x0.To (bb))>>=fun KE=>((idx x0.aJ (KE))>>=fun KG=>((idx e32 (KG))>>=fun SS=>(some ((SS) != (bb)))))))))))))>>=fun g16=>(bif g16 then (some (Out.ret ((((1:Int)),bb,((0:Int)),((0:Int)))))) else (some (Out.norm (an (bb+(1:Int))))))) else (some (Out.exit 0 (bb))))
def iZ (x0:aI) (bx:Int) (bq:Int) (fu:Int):Option (Out (Int) (Int×Int×Int×Int)):=
 (bif decide (fu < (x0.aG.length:Int)) then ((((idx x0.To (bq))>>=fun e82=>((idx x0.aG (fu))>>=fun e84=>(bif (e82) == (e84) then ((idx x0.aB (bx))>>=fun SU=>((idx SU (bq))>>=fun e94=>((idx x0.aB (e94))>>=fun Sn=>((idx Sn (fu))>>=fun I5=>((idx x0.aB (bx))>>=fun Z0=>((idx x0.aB (bq))>>=fun F6=>((idx F6 (fu))>>=fun Z1=>((idx Z0 (Z1))>>=fun Z4=>(some ((I5) != (Z4))))))))))) else (some (false))))))>>=fun g80=>(bif g80 then (some (Out.ret ((((2:Int)),bx,bq,fu)))) else (some (Out.norm (an (fu+(1:Int))))))) else (some (Out.exit 6 (fu))))
def jA (x0:aI) (bx:Int) (bq:Int):Option (Out (Int) (Int×Int×Int×Int)):=
 (bif decide (bq < (x0.aG.length:Int)) then ((idx x0.To (bx))>>=fun e65=>((idx x0.aG (bq))>>=fun SV=>(bif (e65) != (SV) then (some (Out.norm (an (bq+(1:Int))))) else (ah (af 6 (aj (iZ x0 bx bq) ((0:Int)))) (fun fu=>(some (Out.norm (an (bq+(1:Int)))))))))) else (some (Out.exit 4 (bq))))
def nG (x0:aI) (bx:Int):Option (Out (Int) (Int×Int×Int×Int)):=
 (bif decide (bx < (x0.aG.length:Int)) then (ah (af 4 (aj (jA x0 bx) ((0:Int)))) (fun bq=>(some (Out.norm (an (bx+(1:Int))))))) else (some (Out.exit 2 (bx))))
def mO (x0:aI):Option (Int×Int×Int×Int):=
 ao (S:=Unit) (ah (af 0 (aj (kE x0) ((0:Int)))) (fun bb=>(ah (af 2 (aj (nG x0) ((0:Int)))) (fun bx=>(some (Out.ret ((((0:Int)),((0:Int)),((0:Int)),((0:Int))))))))))
def oB (x0:aI):Option (Bool):=
 ao (S:=Unit) ((oA x0)>>=fun y8=>(bif !(y8) then (some (Out.ret (false))) else ((mO x0)>>=fun y15=>(some (Out.ret (((y15.1) == ((0:Int)))))))))
def pG (x0:aP) (bn:Int):Option (Out (Int) (Bool)):=
 (bif decide (bn < (x0.aE.aG.length:Int)) then ((((idx x0.ae (bn))>>=fun SX=>((idx x0.aH.aG (SX))>>=fun KC=>((idx x0.aE.aG (bn))>>=fun SY=>((idx x0.aA (SY))>>=fun SZ=>(bif (KC) != (SZ) then (some (true)) else ((idx x0.ae (bn))>>=fun KD=>((idx x0.aH.To (KD))>>=fun Ce=>((idx x0.aE.To (bn))>>=fun e83=>((idx x0.aA (e83))>>=fun S4=>(some ((Ce) != (S4)))))))))))))>>=fun g68=>(bif g68 then (some (Out.ret (false))) else (some (Out.norm (an (bn+(1:Int))))))) else (some (Out.exit 0 (bn))))
def pH (x0:aP) (ew:Int):Option (Out (Int) (Bool)):=
 (bif decide (ew < x0.aE.aA) then ((idx x0.aE.aJ (ew))>>=fun FU=>((idx x0.ae (FU))>>=fun IY=>((idx x0.aA (ew))>>=fun tG=>((idx x0.aH.aJ (tG))>>=fun Bp=>(bif (IY) != (Bp) then (some (Out.ret (false))) else (some (Out.norm (an (ew+(1:Int)))))))))) else (some (Out.exit 2 (ew))))
def pI (x0:aP) (sM:Int) (Bz:Int):Option (Out (Int) (Bool)):=
 (bif decide (Bz < (x0.aE.aG.length:Int)) then ((((idx x0.aE.To (sM))>>=fun Z5=>((idx x0.aE.aG (Bz))>>=fun Z6=>(bif (Z5) == (Z6) then ((idx x0.aE.aB (sM))>>=fun Z7=>((idx Z7 (Bz))>>=fun Z8=>((idx x0.ae (Z8))>>=fun Z9=>((idx x0.ae (sM))>>=fun MB=>((idx x0.aH.aB (MB))>>=fun aaa=>((idx x0.ae (Bz))>>=fun aab=>((idx aaa (aab))>>=fun aac=>(some ((Z9) != (aac)))))))))) else (some (false))))))>>=fun aad=>(bif aad then (some (Out.ret (false))) else (some (Out.norm (an (Bz+(1:Int))))))) else (some (Out.exit 6 (Bz))))
def pJ (x0:aP) (sM:Int):Option (Out (Int) (Bool)):=
 (bif decide (sM < (x0.aE.aG.length:Int)) then (ah (af 6 (aj (pI x0 sM) ((0:Int)))) (fun Bz=>(some (Out.norm (an (sM+(1:Int))))))) else (some (Out.exit 4 (sM))))
def oC (x0:aP):Option (Bool):=
 ao (S:=Unit) ((((oB x0.aE)>>=fun Cd=>(bif !(Cd) then (some (true)) else ((oB x0.aH)>>=fun KH=>(bif !(KH) then (some (true)) else (bif ((x0.aA.length:Int)) != (x0.aE.aA) then (some (true)) else (some (((x0.ae.length:Int)) != ((x0.aE.aG.length:Int))))))))))>>=fun S5=>(bif S5 then (some (Out.ret (false))) else ((((iM (x0.aH.aA) x0.aA)>>=fun Si=>(bif !(Si) then (some (true)) else ((iM ((x0.aH.aG.length:Int)) x0.ae)>>=fun y52=>(some (!(y52)))))))>>=fun g47=>(bif g47 then (some (Out.ret (false))) else (ah (af 0 (aj (pG x0) ((0:Int)))) (fun bn=>(ah (af 2 (aj (pH x0) ((0:Int)))) (fun ew=>(ah (af 4 (aj (pJ x0) ((0:Int)))) (fun sM=>(some (Out.ret (true)))))))))))))
def qP (x0:(List (List Int))) (x1:(List (List Int))) (bn:Int):Option (Out (Int) (Bool)):=
 (bif decide (bn < (x0.length:Int)) then ((idx x0 (bn))>>=fun tH=>((idx x1 (bn))>>=fun zI=>((eP tH zI)>>=fun KJ=>(bif !(KJ) then (some (Out.ret (false))) else (some (Out.norm (an (bn+(1:Int))))))))) else (some (Out.exit 0 (bn))))
def pK (x0:(List (List Int))) (x1:(List (List Int))):Option (Bool):=
 ao (S:=Unit) (bif ((x0.length:Int)) != ((x1.length:Int)) then (some (Out.ret (false))) else (ah (af 0 (aj (qP x0 x1) ((0:Int)))) (fun bn=>(some (Out.ret (true))))))
def lF (x0:aI) (x1:aI):Option (Bool):=
 ao (S:=Unit) (((bif (x0.aA) == (x1.aA) then ((eP x0.aG x1.aG)>>=fun nz=>(bif nz then ((eP x0.To x1.To)>>=fun S6=>(bif S6 then ((eP x0.aJ x1.aJ)>>=fun qu=>(bif qu then ((pK x0.aB x1.aB)>>=fun KJ=>(some (KJ))) else (some (false)))) else (some (false)))) else (some (false)))) else (some (false))))>>=fun g16=>(some (Out.ret (g16))))
def mP (x0:aP) (x1:aP):Option (Bool):=
 ao (S:=Unit) ((((lF x0.aH x1.aE)>>=fun tV=>(bif tV then ((lF x1.aH x0.aE)>>=fun F7=>(some (F7))) else (some (false)))))>>=fun g16=>(some (Out.ret (g16))))
def jI (x0:(List Int)) (x1:(List Int)) (bn:(List Int)) (fg:Int):Option (Out ((List Int)×Int) ((List Int))):=
 (bif decide (fg < (x0.length:Int)) then ((idx x0 (fg))>>=fun Cb=>((idx x1 (Cb))>>=fun KF=>((fits 8 (bn.length+1))>>=fun n36=>(some (Out.norm (bn++[KF],an (fg+(1:Int)))))))) else (some (Out.exit 0 (bn,fg))))
def lG (x0:(List Int)) (x1:(List Int)):Option ((List Int)):=
 ao (S:=Unit) (ah (af 0 (aj (fun s=>jI x0 x1 s.1 s.2) (([]:(List Int)),(0:Int)))) (fun (bn,fg)=>(some (Out.ret (bn)))))
def jZ (x0:aP) (x1:aP):Option (aP):=
 ao (S:=Unit) ((lG x0.aA x1.aA)>>=fun qu=>((lG x0.ae x1.ae)>>=fun Sk=>((fD x0.aE x1.aH qu Sk)>>=fun KA=>(some (Out.ret (KA))))))
def lH (x0:aP) (x1:aP) (x2:(List Int)) (de:Int):Option (Out (Int) (Bool)):=
 (bif decide (de < (x2.length:Int)) then ((((idx x2 (de))>>=fun SV=>((idx x0.aH.aG (SV))>>=fun Sm=>((idx x0.aA (de))>>=fun e71=>(bif (Sm) != (e71) then (some (true)) else ((idx x2 (de))>>=fun SY=>((idx x0.aH.To (SY))>>=fun SZ=>((idx x1.aA (de))>>=fun e78=>(some ((SZ) != (e78)))))))))))>>=fun g65=>(bif g65 then (some (Out.ret (false))) else (some (Out.norm (an (de+(1:Int))))))) else (some (Out.exit 0 (de))))
def lJ (x0:aP) (x1:aP) (x2:(List Int)) (fj:Int):Option (Out (Int) (Bool)):=
 (bif decide (fj < (x0.aE.aG.length:Int)) then ((idx x0.ae (fj))>>=fun IX=>((idx x0.aE.To (fj))>>=fun M4=>((idx x2 (M4))>>=fun FU=>((eK x0.aH (IX) (FU))>>=fun aae=>((idx x0.aE.aG (fj))>>=fun tG=>((idx x2 (tG))>>=fun Bp=>((idx x1.ae (fj))>>=fun F6=>((eK x0.aH (Bp) (F6))>>=fun aaf=>(bif (aae) != (aaf) then (some (Out.ret (false))) else (some (Out.norm (an (fj+(1:Int)))))))))))))) else (some (Out.exit 2 (fj))))
def fK (x0:aP) (x1:aP) (x2:(List Int)):Option (Bool):=
 ao (S:=Unit) (((bif ((x2.length:Int)) != ((x0.aA.length:Int)) then (some (true)) else ((iM ((x0.aH.aG.length:Int)) x2)>>=fun Su=>(some (!(Su))))))>>=fun SP=>(bif SP then (some (Out.ret (false))) else (ah (af 0 (aj (lH x0 x1 x2) ((0:Int)))) (fun de=>(ah (af 2 (aj (lJ x0 x1 x2) ((0:Int)))) (fun fj=>(some (Out.ret (true)))))))))
def mQ (x0:bN) (bb:Int):Option (Out (Int) (Bool)):=
 (bif decide (bb < x0.Left.aE.aA) then ((idx x0.Unit (bb))>>=fun Vg=>((idx x0.Left.ae (Vg))>>=fun Vh=>((idx x0.Left.aA (bb))>>=fun Vi=>((idx x0.br (Vi))>>=fun Vj=>((eK x0.Left.aH (Vh) (Vj))>>=fun Vk=>((fO x0.Left.aH (Vk))>>=fun Vl=>(bif !(Vl) then (some (Out.ret (false))) else (some (Out.norm (an (bb+(1:Int)))))))))))) else (some (Out.exit 0 (bb))))
def pL (x0:bN) (bx:Int):Option (Out (Int) (Bool)):=
 (bif decide (bx < x0.Left.aH.aA) then ((idx x0.ab.aA (bx))>>=fun Vm=>((idx x0.Unit (Vm))>>=fun Vn=>((idx x0.br (bx))>>=fun Vp=>((idx x0.ab.ae (Vp))>>=fun Vq=>((eK x0.Left.aE (Vn) (Vq))>>=fun Vs=>((fO x0.Left.aE (Vs))>>=fun Vt=>(bif !(Vt) then (some (Out.ret (false))) else (some (Out.norm (an (bx+(1:Int)))))))))))) else (some (Out.exit 2 (bx))))
def oD (x0:bN):Option (Bool):=
 ao (S:=Unit) ((((oC x0.Left)>>=fun Cd=>(bif !(Cd) then (some (true)) else ((oC x0.ab)>>=fun KH=>(bif !(KH) then (some (true)) else ((mP x0.Left x0.ab)>>=fun Sz=>(some (!(Sz)))))))))>>=fun S5=>(bif S5 then (some (Out.ret (false))) else (WB (((dX x0.Left.aE)>>=fun Sw=>((jZ x0.Left x0.ab)>>=fun aag=>((fK Sw aag x0.Unit)>>=fun aah=>(bif !(aah) then (some (Out.ret (false))) else none))))) (((dX x0.Left.aE)>>=fun M8=>((jZ x0.Left x0.ab)>>=fun aai=>((fK M8 aai x0.Unit)>>=fun aaj=>(bif !(aaj) then none else ((jZ x0.ab x0.Left)>>=fun aak=>((dX x0.Left.aH)>>=fun Vu=>((fK aak Vu x0.br)>>=fun Vv=>(bif !(Vv) then (some (Out.ret (false))) else (ah (af 0 (aj (mQ x0) ((0:Int)))) (fun bb=>(ah (af 2 (aj (pL x0) ((0:Int)))) (fun bx=>(some (Out.ret (true)))))))))))))))))))
def fS (x0:aI) (x1:Int):Option (Bool):=
 ao (S:=Unit) (((bif decide (x1 ≥ (0:Int)) then (some (decide (x1 < x0.aA))) else (some (false))))>>=fun g8=>(some (Out.ret (g8))))
def gG (x0:aI) (x1:Int):Option (Bool):=
 ao (S:=Unit) (((bif decide (x1 ≥ (0:Int)) then (some (decide (x1 < (x0.aG.length:Int)))) else (some (false))))>>=fun g8=>(some (Out.ret (g8))))
def iD (qw:bN×aK) (xu:Int×aK) (px:Int) (o6:Int):Option (Out (Int×Int) (bN×Int×Int×Int)):=
 (((bif decide (o6 < (qw.1.Left.aH.aG.length:Int)) then ((oD qw.1)>>=fun aal=>(bif aal then ((fS qw.1.Left.aE (xu.1))>>=fun aam=>(bif aam then ((gG qw.1.Left.aH (px))>>=fun aan=>(bif aan then ((idx qw.1.Left.aH.aG (px))>>=fun aao=>((idx qw.1.Left.aA (xu.1))>>=fun aap=>(some ((aao) != (aap))))) else (some (false)))) else (some (false)))) else (some (false)))) else (some (false))))>>=fun aaq=>(bif aaq then ((su .rem .i64 (an (px+(1:Int))) ((qw.1.Left.aH.aG.length:Int)))>>=fun aar=>(some (Out.norm (aar,an (o6+(1:Int)))))) else (some (Out.exit 0 (px,o6)))))
def gH (x0:(List Int)):Option (bN×Int×Int×Int):=
 ao (S:=Unit) ((nO x0)>>=fun y8=>(match y8 with | none=>none | some m15=>((lD (aK.mk x0 m15.At m15.aq))>>=fun qw=>((gS (aK.mk x0 qw.2.At qw.2.aq) (qw.1.Left.aE.aA))>>=fun xu=>((gS (aK.mk x0 xu.2.At xu.2.aq) (qw.1.Left.aH.aA))>>=fun F8=>((gS (aK.mk x0 F8.2.At F8.2.aq) ((qw.1.Left.aH.aG.length:Int)))>>=fun Nn=>(ah (af 0 (aj (fun s=>iD qw xu s.1 s.2) (Nn.1,(0:Int)))) (fun (px,o6)=>((gG qw.1.Left.aH (px))>>=fun aas=>(bif aas then ((cI (aK.mk x0 Nn.2.At Nn.2.aq) ((10:Int)))>>=fun aat=>(bif decide (aat.1 > (0:Int)) then (bif ((qw.1.Left.aH.To.length:Int)) == ((qw.1.Left.aH.aG.length:Int)) then ((idx qw.1.Left.aH.To (px))>>=fun aau=>(some (Out.ret ((qw.1,xu.1,aau,px))))) else (some (Out.ret ((qw.1,xu.1,F8.1,px))))) else (some (Out.ret ((qw.1,xu.1,F8.1,px)))))) else (some (Out.ret ((qw.1,xu.1,F8.1,px))))))))))))))
def cX (x0:aI):Option (Int):=
 ao (S:=Unit) (some (Out.ret (((x0.aG.length:Int)))))
def fP (x0:Int) (x1:Int) (x2:Int):Option (Bool):=
 ao (S:=Unit) (((bif decide (x0 ≥ x1) then (some (decide (x0≤x2))) else (some (false))))>>=fun g3=>(some (Out.ret (g3))))
def lV (x0:(List Int)) (x1:Int) (de:Int):Option (Out (Int) (Bool)):=
 (bif decide (de < (x0.length:Int)) then ((idx x0 (de))>>=fun e9=>((fP (e9) ((0:Int)) (an (x1 - (1:Int))))>>=fun KK=>(bif !(KK) then (some (Out.ret (false))) else (some (Out.norm (an (de+(1:Int)))))))) else (some (Out.exit 0 (de))))
def fT (x0:(List Int)) (x1:Int):Option (Bool):=
 ao (S:=Unit) (ah (af 0 (aj (lV x0 x1) ((0:Int)))) (fun de=>(some (Out.ret (true)))))
def eE (x0:aI) (x1:Int):Option (pD):=
 ao (S:=Unit) ((idx x0.aG (x1))>>=fun e8=>((idx x0.To (x1))>>=fun FQ=>(some (Out.ret ((pD.mk e8 FQ))))))
def gA (x0:aI) (yK:Int):Option (Out (Int) (Bool)):=
 (bif decide (yK < (x0.aJ.length:Int)) then ((idx x0.aJ (yK))>>=fun KG=>((eE x0 (KG))>>=fun KL=>(bif !((KL.aG) == (yK) && (KL.To) == (yK)) then (some (Out.ret (false))) else (some (Out.norm (an (yK+(1:Int)))))))) else (some (Out.exit 0 (yK))))
def gB (x0:aI) (y3:Int) (tI:Int) (KM:(List Int)) (u2:Int):Option (Out (Int) (Bool)):=
 (bif decide (u2 < (KM.length:Int)) then ((idx KM (u2))>>=fun Ce=>((idx x0.To (tI))>>=fun S4=>((idx x0.aG (u2))>>=fun SU=>(bif (S4) != (SU) then (bif (Ce) != ((-1:Int)) then (some (Out.ret (false))) else (some (Out.norm (an (u2+(1:Int)))))) else ((((fP (Ce) ((0:Int)) (an (y3 - (1:Int))))>>=fun aav=>(bif !(aav) then (some (true)) else ((eE x0 (Ce))>>=fun S7=>((idx x0.aG (tI))>>=fun IY=>((idx x0.To (u2))>>=fun tG=>(some (!((S7.aG) == (IY) && (S7.To) == (tG))))))))))>>=fun g99=>(bif g99 then (some (Out.ret (false))) else (some (Out.norm (an (u2+(1:Int))))))))))) else (some (Out.exit 4 (u2))))
def jB (x0:aI) (y3:Int) (tI:Int):Option (Out (Int) (Bool)):=
 (bif decide (tI < (x0.aB.length:Int)) then ((idx x0.aB (tI))>>=fun KM=>(bif ((KM.length:Int)) != (y3) then (some (Out.ret (false))) else (ah (af 4 (aj (gB x0 y3 tI KM) ((0:Int)))) (fun u2=>(some (Out.norm (an (tI+(1:Int))))))))) else (some (Out.exit 2 (tI))))
def hY (x0:aI):Option (Bool):=
 ao (S:=Unit) ((cX x0)>>=fun y3=>((((fP (x0.aA) ((0:Int)) ((8:Int)))>>=fun y9=>(bif !(y9) then (some (true)) else (bif decide (y3 > (40:Int)) then (some (true)) else (bif ((x0.To.length:Int)) != (y3) then (some (true)) else ((fT x0.aG (x0.aA))>>=fun xK=>(bif !(xK) then (some (true)) else ((fT x0.To (x0.aA))>>=fun AX=>(some (!(AX)))))))))))>>=fun g7=>(bif g7 then (some (Out.ret (false))) else (((bif ((x0.aJ.length:Int)) != (x0.aA) then (some (true)) else ((fT x0.aJ (y3))>>=fun wh=>(bif !(wh) then (some (true)) else (some (((x0.aB.length:Int)) != (y3)))))))>>=fun g24=>(bif g24 then (some (Out.ret (false))) else (ah (af 0 (aj (gA x0) ((0:Int)))) (fun yK=>(ah (af 2 (aj (jB x0 y3) ((0:Int)))) (fun tI=>(some (Out.ret (true))))))))))))
def cT (x0:aI) (x1:Int) (x2:Int):Option (Int):=
 ao (S:=Unit) ((idx x0.aB (x1))>>=fun e3=>((idx e3 (x2))>>=fun FQ=>(some (Out.ret (FQ)))))
def gU (x0:aI) (y3:Int) (bb:Int):Option (Out (Int) (Int×Int×Int×Int)):=
 (bif decide (bb < y3) then ((((idx x0.aG (bb))>>=fun F4=>((idx x0.aJ (F4))>>=fun Ci=>((cT x0 (Ci) (bb))>>=fun nz=>(bif (nz) != (bb) then (some (true)) else ((idx x0.To (bb))>>=fun FD=>((idx x0.aJ (FD))>>=fun e24=>((cT x0 (bb) (e24))>>=fun zL=>(some ((zL) != (bb)))))))))))>>=fun g13=>(bif g13 then (some (Out.ret ((((1:Int)),bb,((0:Int)),((0:Int)))))) else (some (Out.norm (an (bb+(1:Int))))))) else (some (Out.exit 0 (bb))))
def fQ (x0:aI) (y3:Int) (bx:Int) (bq:Int) (fu:Int):Option (Out (Int) (Int×Int×Int×Int)):=
 (bif decide (fu < y3) then ((((cT x0 (bq) (fu))>>=fun y63=>(bif decide (y63 ≥ (0:Int)) then ((cT x0 (bx) (bq))>>=fun y66=>((cT x0 (y66) (fu))>>=fun y68=>((cT x0 (bq) (fu))>>=fun y70=>((cT x0 (bx) (y70))>>=fun y72=>(some ((y68) != (y72))))))) else (some (false)))))>>=fun g61=>(bif g61 then (some (Out.ret ((((2:Int)),bx,bq,fu)))) else (some (Out.norm (an (fu+(1:Int))))))) else (some (Out.exit 6 (fu))))
def fR (x0:aI) (y3:Int) (bx:Int) (bq:Int):Option (Out (Int) (Int×Int×Int×Int)):=
 (bif decide (bq < y3) then ((cT x0 (bx) (bq))>>=fun KA=>(bif decide (KA < (0:Int)) then (some (Out.norm (an (bq+(1:Int))))) else (ah (af 6 (aj (fQ x0 y3 bx bq) ((0:Int)))) (fun fu=>(some (Out.norm (an (bq+(1:Int))))))))) else (some (Out.exit 4 (bq))))
def jQ (x0:aI) (y3:Int) (bx:Int):Option (Out (Int) (Int×Int×Int×Int)):=
 (bif decide (bx < y3) then (ah (af 4 (aj (fR x0 y3 bx) ((0:Int)))) (fun bq=>(some (Out.norm (an (bx+(1:Int))))))) else (some (Out.exit 2 (bx))))
def jD (x0:aI):Option (Int×Int×Int×Int):=
 ao (S:=Unit) ((cX x0)>>=fun y3=>(ah (af 0 (aj (gU x0 y3) ((0:Int)))) (fun bb=>(ah (af 2 (aj (jQ x0 y3) ((0:Int)))) (fun bx=>(some (Out.ret ((((0:Int)),((0:Int)),((0:Int)),((0:Int)))))))))))
def fE (x0:aI):Option (Bool):=
 ao (S:=Unit) ((hY x0)>>=fun y3=>(bif !(y3) then (some (Out.ret (false))) else ((jD x0)>>=fun bz=>(some (Out.ret (((bz.1) == ((0:Int)))))))))
def iA (x0:(List aI)) (bb:Int):Option (Out (Int) (Bool)):=
 (bif decide (bb < (x0.length:Int)) then ((idx x0 (bb))>>=fun e9=>((fE e9)>>=fun cw=>(bif !(cw) then (some (Out.ret (false))) else (some (Out.norm (an (bb+(1:Int)))))))) else (some (Out.exit 0 (bb))))
def jJ (x0:(List aI)):Option (Bool):=
 ao (S:=Unit) (ah (af 0 (aj (iA x0) ((0:Int)))) (fun bb=>(some (Out.ret (true)))))
def kF (x0:aP) (yL:Int):Option (Out (Int) (Bool)):=
 (bif decide (yL < (x0.ae.length:Int)) then ((idx x0.ae (yL))>>=fun Ks=>((((idx x0.aH.aG (Ks))>>=fun Sy=>((idx x0.aE.aG (yL))>>=fun KE=>((idx x0.aA (KE))>>=fun KG=>(bif (Sy) != (KG) then (some (true)) else ((idx x0.aH.To (Ks))>>=fun e44=>((idx x0.aE.To (yL))>>=fun FG=>((idx x0.aA (FG))>>=fun e48=>(some ((e44) != (e48)))))))))))>>=fun g35=>(bif g35 then (some (Out.ret (false))) else (some (Out.norm (an (yL+(1:Int)))))))) else (some (Out.exit 0 (yL))))
def kG (x0:aP) (xM:Int):Option (Out (Int) (Bool)):=
 (bif decide (xM < (x0.aE.aJ.length:Int)) then ((idx x0.aE.aJ (xM))>>=fun e64=>((idx x0.ae (e64))>>=fun SR=>((idx x0.aA (xM))>>=fun SX=>((idx x0.aH.aJ (SX))>>=fun KC=>(bif (SR) != (KC) then (some (Out.ret (false))) else (some (Out.norm (an (xM+(1:Int)))))))))) else (some (Out.exit 2 (xM))))
def kH (x0:aP) (u3:Int) (AV:(List Int)) (xN:Int):Option (Out (Int) (Bool)):=
 (bif decide (xN < (AV.length:Int)) then ((idx AV (xN))>>=fun I5=>(((bif decide (I5 ≥ (0:Int)) then ((idx x0.ae (I5))>>=fun Bp=>((idx x0.ae (u3))>>=fun F6=>((idx x0.ae (xN))>>=fun MT=>((cT x0.aH (F6) (MT))>>=fun Nb=>(some ((Bp) != (Nb))))))) else (some (false))))>>=fun aaw=>(bif aaw then (some (Out.ret (false))) else (some (Out.norm (an (xN+(1:Int)))))))) else (some (Out.exit 6 (xN))))
def kI (x0:aP) (u3:Int):Option (Out (Int) (Bool)):=
 (bif decide (u3 < (x0.aE.aB.length:Int)) then ((idx x0.aE.aB (u3))>>=fun AV=>(ah (af 6 (aj (kH x0 u3 AV) ((0:Int)))) (fun xN=>(some (Out.norm (an (u3+(1:Int)))))))) else (some (Out.exit 4 (u3))))
def jS (x0:aP):Option (Bool):=
 ao (S:=Unit) (((bif ((x0.aA.length:Int)) != (x0.aE.aA) then (some (true)) else ((cX x0.aE)>>=fun bz=>(bif ((x0.ae.length:Int)) != (bz) then (some (true)) else ((fT x0.aA (x0.aH.aA))>>=fun KK=>(bif !(KK) then (some (true)) else ((cX x0.aH)>>=fun uZ=>((fT x0.ae (uZ))>>=fun tV=>(some (!(tV)))))))))))>>=fun g7=>(bif g7 then (some (Out.ret (false))) else (ah (af 0 (aj (kF x0) ((0:Int)))) (fun yL=>(ah (af 2 (aj (kG x0) ((0:Int)))) (fun xM=>(ah (af 4 (aj (kI x0) ((0:Int)))) (fun u3=>(some (Out.ret (true)))))))))))
def gV (x0:aP):Option (Bool):=
 ao (S:=Unit) ((((jJ [x0.aE,x0.aH])>>=fun xK=>(bif xK then ((jS x0)>>=fun AX=>(some (AX))) else (some (false)))))>>=fun g12=>(some (Out.ret (g12))))
def jE (x0:(List aP)) (bb:Int):Option (Out (Int) (Bool)):=
 (bif decide (bb < (x0.length:Int)) then ((idx x0 (bb))>>=fun e9=>((gV e9)>>=fun Cd=>(bif !(Cd) then (some (Out.ret (false))) else (some (Out.norm (an (bb+(1:Int)))))))) else (some (Out.exit 0 (bb))))
def jC (x0:(List aP)):Option (Bool):=
 ao (S:=Unit) (ah (af 0 (aj (jE x0) ((0:Int)))) (fun bb=>(some (Out.ret (true)))))
def gC (x0:(List Int)) (x1:(List Int)) (jz:Int):Option (Out (Int) (Int)):=
 (bif decide (jz < (x0.length:Int)) then (bif (jz) == ((x1.length:Int)) then (some (Out.ret (((1:Int))))) else ((idx x0 (jz))>>=fun FH=>((idx x1 (jz))>>=fun Cb=>(bif (FH) != (Cb) then ((idx x0 (jz))>>=fun KB=>((idx x1 (jz))>>=fun DF=>(bif decide (KB < DF) then (some (Out.ret (((-1:Int))))) else (some (Out.ret (((1:Int)))))))) else (some (Out.norm (an (jz+(1:Int))))))))) else (some (Out.exit 0 (jz))))
def pQ (x0:(List Int)) (x1:(List Int)):Option (Int):=
 ao (S:=Unit) (ah (af 0 (aj (gC x0 x1) ((0:Int)))) (fun jz=>(bif decide ((x0.length:Int) < (x1.length:Int)) then (some (Out.ret (((-1:Int))))) else (some (Out.ret (((0:Int))))))))
def lK (x0:(List Int)) (x1:(List Int)):Option (Bool):=
 ao (S:=Unit) ((pQ x0 x1)>>=fun y3=>(some (Out.ret (((y3) == ((0:Int)))))))
def iJ (x0:aI) (x1:aI) (Ar:Int):Option (Out (Int) (Bool)):=
 (bif decide (Ar < (x0.aB.length:Int)) then ((idx x0.aB (Ar))>>=fun e28=>((idx x1.aB (Ar))>>=fun FR=>((lK e28 FR)>>=fun r4=>(bif !(r4) then (some (Out.ret (false))) else (some (Out.norm (an (Ar+(1:Int))))))))) else (some (Out.exit 0 (Ar))))
def fI (x0:aI) (x1:aI):Option (Bool):=
 ao (S:=Unit) (((bif (x0.aA) != (x1.aA) then (some (true)) else ((lK x0.aG x1.aG)>>=fun y6=>(bif !(y6) then (some (true)) else ((lK x0.To x1.To)>>=fun y9=>(bif !(y9) then (some (true)) else ((lK x0.aJ x1.aJ)>>=fun Ch=>(bif !(Ch) then (some (true)) else (some (((x0.aB.length:Int)) != ((x1.aB.length:Int))))))))))))>>=fun g3=>(bif g3 then (some (Out.ret (false))) else (ah (af 0 (aj (iJ x0 x1) ((0:Int)))) (fun Ar=>(some (Out.ret (true)))))))
def mR (x0:aP) (x1:aP):Option (Bool):=
 ao (S:=Unit) ((((fI x0.aE x1.aH)>>=fun y7=>(bif y7 then ((fI x0.aH x1.aE)>>=fun Ch=>(some (Ch))) else (some (false)))))>>=fun g3=>(some (Out.ret (g3))))
def lL (x0:(List Int)) (x1:(List Int)) (rn:Int) (tJ:(List Int)):Option (Out (Int×(List Int)) ((List Int))):=
 (bif decide (rn < (x0.length:Int)) then ((idx x0 (rn))>>=fun Ci=>((idx x1 (Ci))>>=fun zI=>((idx tJ (rn))>>=fun KB=>(some (Out.norm (an (rn+(1:Int)),tJ.set (rn).toNat (zI))))))) else (some (Out.exit 0 (rn,tJ))))
def pE (x0:(List Int)) (x1:(List Int)):Option ((List Int)):=
 ao (S:=Unit) ((mk 8 ((x0.length:Int)))>>=fun n3=>(ah (af 0 (aj (fun s=>lL x0 x1 s.1 s.2) ((0:Int),List.replicate n3 (0:Int)))) (fun (rn,tJ)=>(some (Out.ret (tJ))))))
def gW (x0:(List Int)):Option ((List Int)):=
 ao (S:=Unit) ((fits 8 ((([]:(List Int))).length+x0.length))>>=fun n15=>(some (Out.ret ((([]:(List Int))++x0)))))
def kA (x0:(List (List Int))) (lg:(List (List Int))) (px:Int):Option (Out ((List (List Int))×Int) ((List (List Int)))):=
 (bif decide (px < (x0.length:Int)) then ((idx x0 (px))>>=fun KF=>((gW KF)>>=fun S8=>((fits 24 (lg.length+1))>>=fun n53=>(some (Out.norm (lg++[S8],an (px+(1:Int)))))))) else (some (Out.exit 0 (lg,px))))
def pC (x0:(List (List Int))):Option ((List (List Int))):=
 ao (S:=Unit) ((mk 24 ((x0.length:Int)))>>=fun n3=>(ah (af 0 (aj (fun s=>kA x0 s.1 s.2) (([]:(List (List Int))),(0:Int)))) (fun (lg,px)=>(some (Out.ret (lg))))))
def gZ (x0:aI):Option (aI):=
 ao (S:=Unit) ((gW x0.aG)>>=fun y8=>((gW x0.To)>>=fun AX=>((gW x0.aJ)>>=fun wh=>((pC x0.aB)>>=fun KH=>(some (Out.ret ((aI.mk x0.aA y8 AX wh KH))))))))
def lM (x0:aI) (x1:aI) (x2:(List Int)) (x3:(List Int)):Option (aP):=
 ao (S:=Unit) ((gZ x0)>>=fun y8=>((gZ x1)>>=fun Cd=>((gW x2)>>=fun y78=>((gW x3)>>=fun Kx=>(some (Out.ret ((aP.mk y8 Cd y78 Kx))))))))
def iF (x0:aP) (x1:aP):Option (aP):=
 ao (S:=Unit) ((pE x0.aA x1.aA)>>=fun bz=>((pE x0.ae x1.ae)>>=fun nz=>((lM x0.aE x1.aH bz nz)>>=fun S8=>(some (Out.ret (S8))))))
def jK (n3:Nat) (de:Int) (tJ:(List Int)):Option (Out (Int×(List Int)) ((List Int))):=
 (bif decide (de < ((List.replicate n3 (0:Int)).length:Int)) then ((idx tJ (de))>>=fun HI=>(some (Out.norm (an (de+(1:Int)),tJ.set (de).toNat (de))))) else (some (Out.exit 0 (de,tJ))))
def lN (x0:Int):Option ((List Int)):=
 ao (S:=Unit) ((mk 8 (x0))>>=fun n3=>(ah (af 0 (aj (fun s=>jK n3 s.1 s.2) ((0:Int),List.replicate n3 (0:Int)))) (fun (de,tJ)=>(some (Out.ret (tJ))))))
def kO (x0:aI):Option (aP):=
 ao (S:=Unit) ((lN (x0.aA))>>=fun y8=>((cX x0)>>=fun AX=>((lN (AX))>>=fun F7=>((lM x0 x0 y8 F7)>>=fun y31=>(some (Out.ret (y31)))))))
def iB (x0:aP) (x1:aP):Option (Bool):=
 ao (S:=Unit) ((((fI x0.aE x1.aE)>>=fun y7=>(bif y7 then ((fI x0.aH x1.aH)>>=fun Ch=>(some (Ch))) else (some (false)))))>>=fun g3=>(some (Out.ret (g3))))
def gD (x0:cD) (yM:Int):Option (Out (Int) (Bool)):=
 (bif decide (yM < (x0.bc.length:Int)) then ((idx x0.bc (yM))>>=fun OG=>((eE x0.aE.aH (OG))>>=fun KL=>((idx x0.aE.aA (yM))>>=fun SN=>((idx x0.aH.aA (yM))>>=fun e49=>(bif !((KL.aG) == (SN) && (KL.To) == (e49)) then (some (Out.ret (false))) else (some (Out.norm (an (yM+(1:Int)))))))))) else (some (Out.exit 0 (yM))))
def fL (x0:cD):Option (Bool):=
 ao (S:=Unit) ((((jC [x0.aE,x0.aH])>>=fun uZ=>(bif !(uZ) then (some (true)) else ((iB x0.aE x0.aH)>>=fun nz=>(bif !(nz) then (some (true)) else (bif ((x0.bc.length:Int)) != (x0.aE.aE.aA) then (some (true)) else ((cX x0.aE.aH)>>=fun qu=>((fT x0.bc (qu))>>=fun wh=>(some (!(wh)))))))))))>>=fun g14=>(bif g14 then (some (Out.ret (false))) else (ah (af 0 (aj (gD x0) ((0:Int)))) (fun yM=>(some (Out.ret (true)))))))
def kJ (x0:cD) (x1:(aP→aP→(List Int)→Int→Option (Bool))) (o6:Int):Option (Out (Int) (Int)):=
 (bif decide (o6 < (x0.aE.ae.length:Int)) then ((x1 x0.aE x0.aH x0.bc (o6))>>=fun xK=>(bif !(xK) then (some (Out.ret (o6))) else (some (Out.norm (an (o6+(1:Int))))))) else (some (Out.exit 0 (o6))))
def jT (x0:cD) (x1:(aP→aP→(List Int)→Int→Option (Bool))):Option (Int):=
 ao (S:=Unit) (ah (af 0 (aj (kJ x0 x1) ((0:Int)))) (fun o6=>(some (Out.ret (((-1:Int)))))))
def iE (x0:aP) (x1:aP) (x2:(List Int)) (x3:Int):Option (Bool):=
 ao (S:=Unit) ((idx x0.ae (x3))>>=fun e7=>((idx x0.aE.To (x3))>>=fun e9=>((idx x2 (e9))>>=fun SM=>((cT x0.aH (e7) (SM))>>=fun KK=>((idx x0.aE.aG (x3))>>=fun F4=>((idx x2 (F4))>>=fun Ci=>((idx x1.ae (x3))>>=fun HI=>((cT x0.aH (Ci) (HI))>>=fun F7=>(some (Out.ret (((KK) == (F7)))))))))))))
def eW (x0:cD):Option (Bool):=
 ao (S:=Unit) ((((fL x0)>>=fun y5=>(bif y5 then ((jT x0 (fun a0 a1 a2 a3=>iE a0 a1 a2 (a3)))>>=fun y8=>(some (decide (y8 < (0:Int))))) else (some (false)))))>>=fun g3=>(some (Out.ret (g3))))
def jL (x0:(List cD)) (bb:Int):Option (Out (Int) (Bool)):=
 (bif decide (bb < (x0.length:Int)) then ((idx x0 (bb))>>=fun e9=>((eW e9)>>=fun y57=>(bif !(y57) then (some (Out.ret (false))) else (some (Out.norm (an (bb+(1:Int)))))))) else (some (Out.exit 0 (bb))))
def jM (x0:(List cD)):Option (Bool):=
 ao (S:=Unit) (ah (af 0 (aj (jL x0) ((0:Int)))) (fun bb=>(some (Out.ret (true)))))
def jF (x0:bN) (As:Int):Option (Out (Int) (Bool)):=
 (bif decide (As < (x0.Left.aA.length:Int)) then ((idx x0.Left.aA (As))>>=fun OH=>((idx x0.Unit (As))>>=fun Vw=>((idx x0.Left.ae (Vw))>>=fun Vx=>((idx x0.br (OH))>>=fun Vy=>((cT x0.Left.aH (Vx) (Vy))>>=fun Vz=>((idx x0.Left.aH.aJ (OH))>>=fun VA=>(bif (Vz) != (VA) then (some (Out.ret (false))) else (some (Out.norm (an (As+(1:Int)))))))))))) else (some (Out.exit 0 (As))))
def jG (x0:bN) (xO:Int):Option (Out (Int) (Bool)):=
 (bif decide (xO < (x0.ab.aA.length:Int)) then ((idx x0.ab.aA (xO))>>=fun OI=>((idx x0.Unit (OI))>>=fun VB=>((idx x0.br (xO))>>=fun VC=>((idx x0.ab.ae (VC))>>=fun VD=>((cT x0.Left.aE (VB) (VD))>>=fun VE=>((idx x0.Left.aE.aJ (OI))>>=fun VF=>(bif (VE) != (VF) then (some (Out.ret (false))) else (some (Out.norm (an (xO+(1:Int)))))))))))) else (some (Out.exit 2 (xO))))
def iK (x0:bN):Option (Bool):=
 ao (S:=Unit) ((iF x0.Left x0.ab)>>=fun y11=>((iF x0.ab x0.Left)>>=fun y93=>((kO x0.Left.aE)>>=fun aax=>((kO x0.Left.aH)>>=fun aay=>((jM [(cD.mk aax y11 x0.Unit),(cD.mk y93 aay x0.br)])>>=fun VG=>(bif !(VG) then (some (Out.ret (false))) else (ah (af 0 (aj (jF x0) ((0:Int)))) (fun As=>(ah (af 2 (aj (jG x0) ((0:Int)))) (fun xO=>(some (Out.ret (true)))))))))))))
def fH (x0:bN):Option (Bool):=
 ao (S:=Unit) ((((jC [x0.Left,x0.ab])>>=fun xK=>(bif xK then ((mR x0.Left x0.ab)>>=fun nz=>(bif nz then ((iK x0)>>=fun S6=>(some (S6))) else (some (false)))) else (some (false)))))>>=fun g12=>(some (Out.ret (g12))))
def dY (x0:bN) (x1:Int) (x2:Int):Option (Int):=
 ao (S:=Unit) ((fH x0)>>=fun y3=>(bif !(y3) then (some (Out.ret (((1:Int))))) else ((((fP (x1) ((0:Int)) (an (x0.Left.aE.aA - (1:Int))))>>=fun xK=>(bif !(xK) then (some (true)) else ((fP (x2) ((0:Int)) (an (x0.Left.aH.aA - (1:Int))))>>=fun nz=>(some (!(nz)))))))>>=fun g10=>(bif g10 then (some (Out.ret (((2:Int))))) else (some (Out.ret (((0:Int)))))))))
def eV (x0:bN) (x1:Int) (x2:Int):Option (Int):=
 ao (S:=Unit) ((idx x0.Unit (x1))>>=fun e5=>((idx x0.ab.ae (x2))>>=fun e8=>((cT x0.Left.aE (e5) (e8))>>=fun bz=>(some (Out.ret (bz))))))
def eD (x0:bN) (x1:Int) (x2:Int) (x3:Int) (x4:aI) (x5:pD) (x6:Int) (x7:(Int→Int→Option (Int))):Option (Int×Int):=
 ao (S:=Unit) ((cX x4)>>=fun y8=>((fP (x3) ((0:Int)) (an (y8 - (1:Int))))>>=fun bz=>(bif !(bz) then (some (Out.ret ((((0:Int)),((2:Int)))))) else ((eE x4 (x3))>>=fun AX=>(bif !((AX.aG) == (x5.aG) && (AX.To) == (x5.To)) then (some (Out.ret ((((0:Int)),((5:Int)))))) else ((x7 (x6) (x3))>>=fun qw=>(some (Out.ret ((qw,((0:Int))))))))))))
def eR (x0:bN) (x1:Int) (x2:Int) (x3:Int):Option (Int×Int):=
 ao (S:=Unit) ((dY x0 (x1) (x2))>>=fun y8=>(bif (y8) != ((0:Int)) then (some (Out.ret ((((0:Int)),y8)))) else ((idx x0.Left.aA (x1))>>=fun Ci=>((eD x0 (x1) (x2) (x3) x0.Left.aH (pD.mk Ci x2) (x1) (fun a0 a1=>eV x0 (a0) (a1)))>>=fun nz=>(some (Out.ret ((nz.1,nz.2))))))))
def pR (x0:bN) (x1:Int) (x2:Int) (x3:aI) (x4:Int):Option (Int):=
 ao (S:=Unit) ((((fS x0.Left.aE (x1))>>=fun tV=>(bif !(tV) then (some (true)) else ((fS x0.Left.aH (x2))>>=fun F7=>(bif !(F7) then (some (true)) else ((gG x3 (x4))>>=fun qw=>(some (!(qw)))))))))>>=fun g16=>(bif g16 then (some (Out.ret (((2:Int))))) else (some (Out.ret (((0:Int)))))))
def mS (x0:bN) (x1:Int) (x2:Int):Option (Int):=
 ao (S:=Unit) ((idx x0.Unit (x1))>>=fun e8=>((idx x0.ab.ae (x2))>>=fun FQ=>((eK x0.Left.aE (e8) (FQ))>>=fun Ch=>(some (Out.ret (Ch))))))
def fN (x0:bN) (x1:Int) (x2:Int) (x3:Int):Option (Int×Int):=
 ao (S:=Unit) ((oD x0)>>=fun y8=>(bif !(y8) then (some (Out.ret ((((0:Int)),((1:Int)))))) else ((pR x0 (x1) (x2) x0.Left.aH (x3))>>=fun wh=>(bif (wh) != ((0:Int)) then (some (Out.ret ((((0:Int)),wh)))) else ((((idx x0.Left.aH.aG (x3))>>=fun e38=>((idx x0.Left.aA (x1))>>=fun OG=>(bif (e38) != (OG) then (some (true)) else ((idx x0.Left.aH.To (x3))>>=fun SS=>(some ((SS) != (x2))))))))>>=fun g36=>(bif g36 then (some (Out.ret ((((0:Int)),((5:Int)))))) else ((mS x0 (x1) (x3))>>=fun y50=>(some (Out.ret ((y50,((0:Int)))))))))))))
def eG (x0:bN) (x1:Int) (x2:Int):Option (Int):=
 ao (S:=Unit) ((idx x0.Left.ae (x2))>>=fun e6=>((idx x0.br (x1))>>=fun e8=>((cT x0.Left.aH (e6) (e8))>>=fun bz=>(some (Out.ret (bz))))))
def jN (x0:bN) (x1:Int) (x2:Int) (x3:Int):Option (Int×Int):=
 ao (S:=Unit) ((dY x0 (x1) (x2))>>=fun y8=>(bif (y8) != ((0:Int)) then (some (Out.ret ((((0:Int)),y8)))) else ((idx x0.ab.aA (x2))>>=fun Ci=>((eD x0 (x1) (x2) (x3) x0.Left.aE (pD.mk x1 Ci) (x2) (fun a0 a1=>eG x0 (a0) (a1)))>>=fun nz=>(some (Out.ret ((nz.1,nz.2))))))))
def oE (x0:aI) (x1:(List Int)):Option (Int):=
 ao (S:=Unit) ((fE x0)>>=fun y3=>(bif !(y3) then (some (Out.ret (((1:Int))))) else ((fT x1 (x0.aA))>>=fun bz=>(bif !(bz) then (some (Out.ret (((2:Int))))) else (some (Out.ret (((0:Int)))))))))
def gE (x0:aI) (x1:Int) (x2:Int) (bb:(List Int)) (w5:Int):Option (Out ((List Int)×Int) ((List Int))):=
 (bif decide (w5 < (x0.aG.length:Int)) then ((((idx x0.aG (w5))>>=fun FD=>(bif (FD) == (x1) then ((idx x0.To (w5))>>=fun DF=>(some ((DF) == (x2)))) else (some (false)))))>>=fun g20=>(bif g20 then ((fits 8 (bb.length+1))>>=fun n44=>(some (Out.norm (bb++[w5],an (w5+(1:Int)))))) else (some (Out.norm (bb,an (w5+(1:Int))))))) else (some (Out.exit 0 (bb,w5))))
def iG (x0:aI) (x1:Int) (x2:Int):Option ((List Int)):=
 ao (S:=Unit) (ah (af 0 (aj (fun s=>gE x0 x1 x2 s.1 s.2) (([]:(List Int)),(0:Int)))) (fun (bb,w5)=>(some (Out.ret (bb)))))
def mK (x0:aI) (x1:Int) (x2:Int):Option ((List Int)×Int):=
 ao (S:=Unit) ((oE x0 [x1,x2])>>=fun bz=>(bif (bz) != ((0:Int)) then (some (Out.ret ((([]),bz)))) else ((iG x0 (x1) (x2))>>=fun nz=>(some (Out.ret ((nz,((0:Int)))))))))
def kK (bz:bN×Int×Int×Int) (CQ:Int×Int) (vA:Int):Option (Out (Int) (Bool)):=
 (bif decide (vA < (bz.1.Left.aH.aG.length:Int)) then ((idx bz.1.Left.aH.aG (vA))>>=fun aaz=>(bif (aaz) != (bz.2.2.1) then (some (Out.norm (an (vA+(1:Int))))) else ((idx bz.1.Left.aH.To (vA))>>=fun aaA=>((idx bz.1.Left.aH.aB (bz.2.2.2))>>=fun aaB=>((idx aaB (vA))>>=fun aaC=>((eR bz.1 (bz.2.1) (aaA) (aaC))>>=fun S9=>(((bif (S9.2) != ((0:Int)) then (some (true)) else ((idx bz.1.Left.aE.aB (CQ.1))>>=fun aaD=>((idx bz.1.ab.ae (vA))>>=fun aaE=>((idx aaD (aaE))>>=fun aaF=>(some ((S9.1) != (aaF))))))))>>=fun aaG=>(bif aaG then (some (Out.ret (false))) else (some (Out.norm (an (vA+(1:Int))))))))))))) else (some (Out.exit 0 (vA))))
def jU (x0:(List Int)):Option (Bool):=
 ao (S:=Unit) ((qO x0)>>=fun y3=>(bif y3 then (some (Out.ret (true))) else ((gH x0)>>=fun bz=>((eR bz.1 (bz.2.1) (bz.2.2.1) (bz.2.2.2))>>=fun No=>((fN bz.1 (bz.2.1) (bz.2.2.1) (bz.2.2.2))>>=fun CQ=>(((bif (No.2) != (CQ.2) then (some (true)) else (some ((No.1) != (CQ.1)))))>>=fun aaH=>(bif aaH then (some (Out.ret (false))) else (bif (No.2) != ((0:Int)) then (some (Out.ret (true))) else ((jN bz.1 (bz.2.1) (bz.2.2.1) (CQ.1))>>=fun Tb=>(((bif (Tb.2) != ((0:Int)) then (some (true)) else (some ((Tb.1) != (bz.2.2.2)))))>>=fun aaI=>(bif aaI then (some (Out.ret (false))) else ((idx bz.1.Left.aA (bz.2.1))>>=fun M1=>((mK bz.1.Left.aH (M1) (bz.2.2.1))>>=fun Tc=>((idx bz.1.ab.aA (bz.2.2.1))>>=fun aaJ=>((mK bz.1.Left.aE (bz.2.1) (aaJ))>>=fun Td=>(((bif (Tc.2) != ((0:Int)) then (some (true)) else (bif (Td.2) != ((0:Int)) then (some (true)) else (some (((Tc.1.length:Int)) != ((Td.1.length:Int)))))))>>=fun aaK=>(bif aaK then (some (Out.ret (false))) else (ah (af 0 (aj (kK bz CQ) ((0:Int)))) (fun vA=>(some (Out.ret (true))))))))))))))))))))))
end
end Go.Proofs.YtjdkifckhidlbaaGreat
