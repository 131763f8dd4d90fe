/- Models, printed by a program: what each function computes, on plain data. No condition. -/
import Derived.Test.YtgjbmjjihmfppaaGreatLj
import Derived.Test.YtgjbmjjihmfppaaGreatLn
import Derived.Test.YtgjbmjjihmfppaaGreatLq
namespace Go.Proofs.YtgjbmjjihmfppaaGreat
open Go Go.Li
set_option linter.unusedVariables false
noncomputable section
structure aL where
 Code:(List Int)
 At:Int
 au:Int
structure aG where
 aA:Int
 aD:(List Int)
 To:(List Int)
 aJ:(List Int)
 aB:(List (List Int))
structure bG where
 aD:Int
 To:Int
 l7:(List Int)
structure aN where
 aH:aG
 aI:aG
 aA:(List Int)
 aj:(List Int)
structure qM where
 aD:Int
 To:Int
structure gJ where
 cj:aN
structure bD where
 ef:Int
 cf:(List Int)
structure bX where
 F:aN
 G:aN
 yE:Bool
 vA:Int
 Found:(List (List Int))
def qB (x0:(List Int)):Option (Bool):=
 an (S:=Unit) (some (Out.ret ((decide ((x0.length:Int) > (4096:Int))))))
def nC (x0:(List Int)) (cb:Int) (Br:Int):Option (Out (Int×Int) ((Option aL))):=
 (((bif decide (cb < (x0.length:Int)) then (some (decide (cb < (4096:Int)))) else (some (false))))>>=fun g14=>(bif g14 then ((uw .mul .u64 (Br) ((1099511628211:Int)))>>=fun z20=>((idx x0 (cb))>>=fun LW=>((uw .add .u64 (z20) (IntKind.u64.wrap LW))>>=fun z23=>((uw .add .u64 (z23) ((7:Int)))>>=fun z24=>(some (Out.norm (ai (cb+(1:Int)),z24))))))) else (some (Out.exit 0 (cb,Br)))))
def nD (x0:(List Int)):Option ((Option aL)):=
 an (S:=Unit) ((uw .add .u64 ((7019:Int)) (IntKind.u64.wrap ((x0.length:Int))))>>=fun z3=>(ag (ae 0 (ah (fun s=>nC x0 s.1 s.2) ((0:Int),z3))) (fun (cb,Br)=>(some (Out.ret ((some (aL.mk x0 ((0:Int)) Br))))))))
def bJ (x0:aL) (x1:Int):Option (Int×aL):=
 an (S:=Unit) (bif decide (x1 < (1:Int)) then (some (Out.ret ((((0:Int)),x0)))) else ((uw .mul .u64 (x0.au) ((6364136223846793005:Int)))>>=fun z9=>((uw .add .u64 (z9) ((1442695040888963407:Int)))>>=fun UI=>((uw .shr .u64 (UI) ((33:Int)))>>=fun UJ=>((uw .and .u64 (UJ) ((16777215:Int)))>>=fun Yk=>(bif decide (x0.At < (x0.Code.length:Int)) then ((idx x0.Code (x0.At))>>=fun GA=>((uw .rem .i64 (ai (IntKind.i64.wrap Yk+IntKind.i64.wrap GA)) (x1))>>=fun z30=>(some (Out.ret ((z30,(aL.mk x0.Code (ai (x0.At+(1:Int))) UI))))))) else ((uw .rem .i64 (IntKind.i64.wrap Yk) (x1))>>=fun z33=>(some (Out.ret ((z33,(aL.mk x0.Code x0.At UI))))))))))))
def kE (x0:aL) (x1:Int) (ec:Int) (xM:Int) (xN:Int) (AP:(List Int)):Option (Out (Int×Int×Int×(List Int)) ((List (List Int))×aL)):=
 (bif decide (ec < x1) then ((bJ (aL.mk x0.Code xM xN) ((2:Int)))>>=fun LX=>((idx AP (ec))>>=fun Qu=>(some (Out.norm (ai (ec+(1:Int)),LX.2.At,LX.2.au,AP.set (ec).toNat (LX.1)))))) else (some (Out.exit 2 (ec,xM,xN,AP))))
def kG (x0:aL) (x1:Int) (bh:(List (List Int))) (fu:Int) (j5:Int) (j6:Int):Option (Out ((List (List Int))×Int×Int×Int) ((List (List Int))×aL)):=
 (bif decide (fu < x1) then ((mk 8 (x1))>>=fun n21=>((idx (List.replicate n21 (0:Int)) (fu))>>=fun GB=>(ag (ae 2 (ah (fun s=>kE x0 x1 s.1 s.2.1 s.2.2.1 s.2.2.2) (ai (fu+(1:Int)),j5,j6,(List.replicate n21 (0:Int)).set (fu).toNat ((1:Int))))) (fun (ec,xM,xN,AP)=>((fits 24 (bh.length+1))>>=fun n78=>(some (Out.norm (bh++[AP],ai (fu+(1:Int)),xM,xN)))))))) else (some (Out.exit 0 (bh,fu,j5,j6))))
def oE (x1:Int) (du:Int) (gp:Int) (rn:Int) (tw:(List (List Int))):Option (Out (Int×(List (List Int))) ((List (List Int))×aL)):=
 (bif decide (rn < x1) then ((((idx tw (gp))>>=fun ZM=>((idx ZM (du))>>=fun Og=>(bif (Og) == ((1:Int)) then ((idx tw (du))>>=fun ZN=>((idx ZN (rn))>>=fun ZO=>(some ((ZO) == ((1:Int)))))) else (some (false))))))>>=fun ZP=>(bif ZP then ((idx tw (gp))>>=fun UK=>((idx UK (rn))>>=fun alE=>(some (Out.norm (ai (rn+(1:Int)),tw.set (gp).toNat (UK.set (rn).toNat ((1:Int)))))))) else (some (Out.norm (ai (rn+(1:Int)),tw))))) else (some (Out.exit 8 (rn,tw))))
def oF (x1:Int) (du:Int) (gp:Int) (Bt:(List (List Int))):Option (Out (Int×(List (List Int))) ((List (List Int))×aL)):=
 (bif decide (gp < x1) then (ag (ae 8 (ah (fun s=>oE x1 du gp s.1 s.2) ((0:Int),Bt))) (fun (rn,tw)=>(some (Out.norm (ai (gp+(1:Int)),tw))))) else (some (Out.exit 6 (gp,Bt))))
def oG (x1:Int) (du:Int) (Bv:(List (List Int))):Option (Out (Int×(List (List Int))) ((List (List Int))×aL)):=
 (bif decide (du < x1) then (ag (ae 6 (ah (fun s=>oF x1 du s.1 s.2) ((0:Int),Bv))) (fun (gp,Bt)=>(some (Out.norm (ai (du+(1:Int)),Bt))))) else (some (Out.exit 4 (du,Bv))))
def oH (x1:Int) (yj:Int) (vZ:Int) (xO:Int) (vf:(List (List Int))):Option (Out (Int×(List (List Int))) ((List (List Int))×aL)):=
 (bif decide (xO < x1) then ((((idx vf (vZ))>>=fun ZQ=>((idx ZQ (yj))>>=fun ZR=>(bif (ZR) == ((1:Int)) then ((idx vf (yj))>>=fun ZS=>((idx ZS (xO))>>=fun ZT=>(some ((ZT) == ((1:Int)))))) else (some (false))))))>>=fun ZU=>(bif ZU then ((idx vf (vZ))>>=fun UL=>((idx UL (xO))>>=fun alF=>(some (Out.norm (ai (xO+(1:Int)),vf.set (vZ).toNat (UL.set (xO).toNat ((1:Int)))))))) else (some (Out.norm (ai (xO+(1:Int)),vf))))) else (some (Out.exit 8 (xO,vf))))
def oI (x1:Int) (yj:Int) (vZ:Int) (C1:(List (List Int))):Option (Out (Int×(List (List Int))) ((List (List Int))×aL)):=
 (bif decide (vZ < x1) then (ag (ae 8 (ah (fun s=>oH x1 yj vZ s.1 s.2) ((0:Int),C1))) (fun (xO,vf)=>(some (Out.norm (ai (vZ+(1:Int)),vf))))) else (some (Out.exit 6 (vZ,C1))))
def oJ (x1:Int) (yj:Int) (C2:(List (List Int))):Option (Out (Int×(List (List Int))) ((List (List Int))×aL)):=
 (bif decide (yj < x1) then (ag (ae 6 (ah (fun s=>oI x1 yj s.1 s.2) ((0:Int),C2))) (fun (vZ,C1)=>(some (Out.norm (ai (yj+(1:Int)),C1))))) else (some (Out.exit 4 (yj,C2))))
def nE (x1:Int) (yk:Int) (v7:Int) (vh:Int) (tx:(List (List Int))):Option (Out (Int×(List (List Int))) ((List (List Int))×aL)):=
 (bif decide (vh < x1) then ((((idx tx (v7))>>=fun ZV=>((idx ZV (yk))>>=fun wR=>(bif (wR) == ((1:Int)) then ((idx tx (yk))>>=fun Oh=>((idx Oh (vh))>>=fun Oi=>(some ((Oi) == ((1:Int)))))) else (some (false))))))>>=fun ZW=>(bif ZW then ((idx tx (v7))>>=fun UM=>((idx UM (vh))>>=fun alG=>(some (Out.norm (ai (vh+(1:Int)),tx.set (v7).toNat (UM.set (vh).toNat ((1:Int)))))))) else (some (Out.norm (ai (vh+(1:Int)),tx))))) else (some (Out.exit 8 (vh,tx))))
def oL (x1:Int) (yk:Int) (v7:Int) (C3:(List (List Int))):Option (Out (Int×(List (List Int))) ((List (List Int))×aL)):=
 (bif decide (v7 < x1) then (ag (ae 8 (ah (fun s=>nE x1 yk v7 s.1 s.2) ((0:Int),C3))) (fun (vh,tx)=>(some (Out.norm (ai (v7+(1:Int)),tx))))) else (some (Out.exit 6 (v7,C3))))
def oM (x1:Int) (yk:Int) (C4:(List (List Int))):Option (Out (Int×(List (List Int))) ((List (List Int))×aL)):=
 (bif decide (yk < x1) then (ag (ae 6 (ah (fun s=>oL x1 yk s.1 s.2) ((0:Int),C4))) (fun (v7,C3)=>(some (Out.norm (ai (yk+(1:Int)),C3))))) else (some (Out.exit 4 (yk,C4))))
def gS (x0:aL) (x1:Int):Option ((List (List Int))×aL):=
 an (S:=Unit) (ag (ae 0 (ah (fun s=>kG x0 x1 s.1 s.2.1 s.2.2.1 s.2.2.2) (([]:(List (List Int))),(0:Int),x0.At,x0.au))) (fun (bh,fu,j5,j6)=>(bif decide (x1 > (1:Int)) then ((bJ (aL.mk x0.Code j5 j6) ((4:Int)))>>=fun LY=>(bif (LY.1) == ((0:Int)) then ((idx bh (ai (x1 - (1:Int))))>>=fun Qv=>((bJ (aL.mk x0.Code LY.2.At LY.2.au) (x1))>>=fun uP=>((idx Qv (uP.1))>>=fun vB=>(ag (ae 4 (ah (fun s=>oG x1 s.1 s.2) ((0:Int),bh.set (ai (x1 - (1:Int))).toNat (Qv.set (uP.1).toNat ((1:Int)))))) (fun (du,Bv)=>(some (Out.ret ((Bv,(aL.mk x0.Code uP.2.At uP.2.au)))))))))) else (ag (ae 4 (ah (fun s=>oJ x1 s.1 s.2) ((0:Int),bh))) (fun (yj,C2)=>(some (Out.ret ((C2,(aL.mk x0.Code LY.2.At LY.2.au))))))))) else (ag (ae 4 (ah (fun s=>oM x1 s.1 s.2) ((0:Int),bh))) (fun (yk,C4)=>(some (Out.ret ((C4,(aL.mk x0.Code j5 j6))))))))))
def mH (x0:(List (List Int))) (fu:Int) (l8:(List Int)) (ec:Int) (sg:(List Int)) (uQ:(List Int)):Option (Out ((List Int)×Int×(List Int)×(List Int)) (aG)):=
 (bif decide (ec < (x0.length:Int)) then ((fits 8 (l8.length+1))>>=fun n185=>((idx x0 (fu))>>=fun ZX=>((idx ZX (ec))>>=fun ZY=>(bif (ZY) == ((1:Int)) then ((fits 8 (sg.length+1))>>=fun n229=>((fits 8 (uQ.length+1))>>=fun n265=>(some (Out.norm (l8++[(sg.length:Int)],ai (ec+(1:Int)),sg++[fu],uQ++[ec]))))) else (some (Out.norm (l8++[(sg.length:Int)],ai (ec+(1:Int)),sg,uQ))))))) else (some (Out.exit 2 (l8,ec,sg,uQ))))
def mI (x0:(List (List Int))) (cb:(List (List Int))) (fu:Int) (oq:(List Int)) (rf:(List Int)):Option (Out ((List (List Int))×Int×(List Int)×(List Int)) (aG)):=
 (bif decide (fu < (x0.length:Int)) then (ag (ae 2 (ah (fun s=>mH x0 fu s.1 s.2.1 s.2.2.1 s.2.2.2) (([]:(List Int)),(0:Int),oq,rf))) (fun (l8,ec,sg,uQ)=>((fits 24 (cb.length+1))>>=fun n306=>(some (Out.norm (cb++[l8],ai (fu+(1:Int)),sg,uQ)))))) else (some (Out.exit 0 (cb,fu,oq,rf))))
def mJ (x0:(List (List Int))) (cb:(List (List Int))) (du:Int) (wS:(List Int)):Option (Out (Int×(List Int)) (aG)):=
 (bif decide (du < (x0.length:Int)) then ((idx cb (du))>>=fun ZZ=>((idx ZZ (du))>>=fun UN=>((fits 8 (wS.length+1))>>=fun alH=>(some (Out.norm (ai (du+(1:Int)),wS++[UN])))))) else (some (Out.exit 4 (du,wS))))
def mK (cb:(List (List Int))) (oq:(List Int)) (rf:(List Int)) (gp:Int) (rn:(List Int)) (qo:Int):Option (Out ((List Int)×Int) (aG)):=
 (bif decide (qo < (oq.length:Int)) then ((idx rf (gp))>>=fun Z0=>((idx oq (qo))>>=fun Z1=>(bif (Z0) == (Z1) then ((idx oq (gp))>>=fun Z4=>((idx cb (Z4))>>=fun Z5=>((idx rf (qo))>>=fun Z6=>((idx Z5 (Z6))>>=fun Z7=>((fits 8 (rn.length+1))>>=fun alJ=>(some (Out.norm (rn++[Z7],ai (qo+(1:Int)))))))))) else ((fits 8 (rn.length+1))>>=fun alK=>(some (Out.norm (rn++[(-1:Int)],ai (qo+(1:Int))))))))) else (some (Out.exit 8 (rn,qo))))
def mL (cb:(List (List Int))) (oq:(List Int)) (rf:(List Int)) (gp:Int) (wT:(List (List Int))):Option (Out (Int×(List (List Int))) (aG)):=
 (bif decide (gp < (oq.length:Int)) then (ag (ae 8 (ah (fun s=>mK cb oq rf gp s.1 s.2) (([]:(List Int)),(0:Int)))) (fun (rn,qo)=>((fits 24 (wT.length+1))>>=fun alL=>(some (Out.norm (ai (gp+(1:Int)),wT++[rn])))))) else (some (Out.exit 6 (gp,wT))))
def cK (x0:(List (List Int))):Option (aG):=
 an (S:=Unit) (ag (ae 0 (ah (fun s=>mI x0 s.1 s.2.1 s.2.2.1 s.2.2.2) (([]:(List (List Int))),(0:Int),([]:(List Int)),([]:(List Int))))) (fun (cb,fu,oq,rf)=>(ag (ae 4 (ah (fun s=>mJ x0 cb s.1 s.2) ((0:Int),([]:(List Int))))) (fun (du,wS)=>(ag (ae 6 (ah (fun s=>mL cb oq rf s.1 s.2) ((0:Int),([]:(List (List Int)))))) (fun (gp,wT)=>(some (Out.ret ((aG.mk ((x0.length:Int)) oq rf wS wT))))))))))
def cX (x0:(List Int)):Option ((List Int)):=
 an (S:=Unit) ((fits 8 ((([]:(List Int))).length+x0.length))>>=fun n15=>(some (Out.ret ((([]:(List Int))++x0)))))
def dS (x0:(List Int)) (x1:(List Int)) (bh:Int):Option (Out (Int) (Bool)):=
 (((bif decide (bh < (x0.length:Int)) then (some (decide (bh < (x1.length:Int)))) else (some (false))))>>=fun g6=>(bif g6 then ((idx x0 (bh))>>=fun LZ=>((idx x1 (bh))>>=fun wU=>(bif (LZ) != (wU) then ((idx x0 (bh))>>=fun UO=>((idx x1 (bh))>>=fun LW=>(some (Out.ret ((decide (UO < LW))))))) else (some (Out.norm (ai (bh+(1:Int)))))))) else (some (Out.exit 0 (bh)))))
def kN (x0:(List Int)) (x1:(List Int)):Option (Bool):=
 an (S:=Unit) (ag (ae 0 (ah (dS x0 x1) ((0:Int)))) (fun bh=>(some (Out.ret ((decide ((x0.length:Int) < (x1.length:Int))))))))
def gO (x0:bG) (x1:bG):Option (Bool):=
 an (S:=Unit) (bif (x0.aD) != (x1.aD) then (some (Out.ret ((decide (x0.aD < x1.aD))))) else (bif (x0.To) != (x1.To) then (some (Out.ret ((decide (x0.To < x1.To))))) else ((kN x0.l7 x1.l7)>>=fun yF=>(some (Out.ret (yF))))))
def jA (x0:Int) (s0:(List bG)) (s1:Int):Option (Out ((List bG)×Int) ((List bG))):=
 (bif decide (s1 < x0) then ((fits 40 (s0.length+1))>>=fun n26=>(some (Out.norm (s0++[bG.mk s1 s1 []],ai (s1+(1:Int)))))) else (some (Out.exit 0 (s0,s1))))
def gP (x1:(List Int)) (x2:(List Int)) (s1:Int) (s0:(List bG)) (s2:Int):Option (Out ((List bG)×Int) ((List bG))):=
 (bif decide (s2 < (x1.length:Int)) then ((idx x1 (s2))>>=fun C5=>((idx s0 (s1))>>=fun L5=>(bif (C5) == (L5.To) then ((idx s0 (s1))>>=fun UP=>((idx x2 (s2))>>=fun Ac=>((idx s0 (s1))>>=fun L6=>((cX L6.l7)>>=fun GC=>((fits 8 (GC.length+1))>>=fun n72=>((fits 40 (s0.length+1))>>=fun n75=>(some (Out.norm (s0++[bG.mk UP.aD Ac (GC++[s2])],ai (s2+(1:Int))))))))))) else (some (Out.norm (s0,ai (s2+(1:Int)))))))) else (some (Out.exit 4 (s0,s2))))
def jB (x1:(List Int)) (x2:(List Int)) (s0:(List bG)) (s1:Int):Option (Out ((List bG)×Int) ((List bG))):=
 (((bif decide (s1 < (s0.length:Int)) then (some (decide ((s0.length:Int)≤(40:Int)))) else (some (false))))>>=fun UQ=>(bif UQ then (ag (ae 4 (ah (fun s=>gP x1 x2 s1 s.1 s.2) (s0,(0:Int)))) (fun (s0,s2)=>(some (Out.norm (s0,ai (s1+(1:Int))))))) else (some (Out.exit 2 (s0,s1)))))
def jC (s0:(List bG)) (s1:Int):Option (Out ((List bG)×Int) ((List bG))):=
 (((bif decide ((0:Int) < s1) then ((idx s0 (s1))>>=fun Ae=>((idx s0 (ai (s1 - (1:Int))))>>=fun C6=>((gO Ae C6)>>=fun GD=>(some (GD))))) else (some (false))))>>=fun UR=>(bif UR then ((idx s0 (s1))>>=fun Oj=>((idx s0 (ai (s1 - (1:Int))))>>=fun vB=>((idx s0 (s1))>>=fun GF=>((idx (s0.set (s1).toNat vB) (ai (s1 - (1:Int))))>>=fun Ol=>(some (Out.norm ((s0.set (s1).toNat vB).set (ai (s1 - (1:Int))).toNat Oj,ai (s1 - (1:Int))))))))) else (some (Out.exit 8 (s0,s1)))))
def jD (s0:(List bG)) (s1:Int):Option (Out ((List bG)×Int) ((List bG))):=
 (bif decide (s1 < (s0.length:Int)) then (ag (ae 8 (ah (fun s=>jC s.1 s.2) (s0,s1))) (fun (s0,s2)=>(some (Out.norm (s0,ai (s1+(1:Int))))))) else (some (Out.exit 6 (s0,s1))))
def kC (x0:Int) (x1:(List Int)) (x2:(List Int)):Option ((List bG)):=
 an (S:=Unit) (ag (ae 0 (ah (fun s=>jA x0 s.1 s.2) (([]:(List bG)),(0:Int)))) (fun (s0,s1)=>(ag (ae 2 (ah (fun s=>jB x1 x2 s.1 s.2) (s0,(0:Int)))) (fun (s0,s1)=>(ag (ae 6 (ah (fun s=>jD s.1 s.2) (s0,(1:Int)))) (fun (s0,s1)=>(some (Out.ret (s0)))))))))
def dM (x0:aG):Option (Bool):=
 an (S:=Unit) (((bif decide (x0.aA≤(8:Int)) then (some (decide ((x0.aD.length:Int)≤(40:Int)))) else (some (false))))>>=fun g8=>(some (Out.ret (g8))))
def kH (x0:(List Int)) (x1:(List Int)) (bh:Int):Option (Out (Int) (Bool)):=
 (bif decide (bh < (x0.length:Int)) then ((idx x0 (bh))>>=fun wU=>((idx x1 (bh))>>=fun GG=>(bif (wU) != (GG) then (some (Out.ret (false))) else (some (Out.norm (ai (bh+(1:Int)))))))) else (some (Out.exit 0 (bh))))
def jE (x0:(List Int)) (x1:(List Int)):Option (Bool):=
 an (S:=Unit) (bif ((x0.length:Int)) != ((x1.length:Int)) then (some (Out.ret (false))) else (ag (ae 0 (ah (kH x0 x1) ((0:Int)))) (fun bh=>(some (Out.ret (true))))))
def gT (y8:(List bG)) (ez:Int) (j7:(List Int)) (j8:(List Int)) (np:(List Int)):Option (Out (Int×(List Int)×(List Int)×(List Int)) (aG)):=
 (bif decide (ez < (y8.length:Int)) then ((idx y8 (ez))>>=fun Cb=>((fits 8 (j7.length+1))>>=fun n134=>((idx y8 (ez))>>=fun GH=>((fits 8 (j8.length+1))>>=fun n173=>((idx y8 (ez))>>=fun Om=>(bif ((Om.l7.length:Int)) == ((0:Int)) then ((idx y8 (ez))>>=fun GI=>((idx np (GI.aD))>>=fun Z8=>(some (Out.norm (ai (ez+(1:Int)),j7++[Cb.aD],j8++[GH.To],np.set (GI.aD).toNat (ez)))))) else (some (Out.norm (ai (ez+(1:Int)),j7++[Cb.aD],j8++[GH.To],np))))))))) else (some (Out.exit 0 (ez,j7,j8,np))))
def gU (y8:(List bG)) (ir:Int) (uR:(List Int)) (wR:bG) (v8:Int) (qU:Int):Option (Out (Int×Int) (aG)):=
 (bif decide (qU < (y8.length:Int)) then ((((idx y8 (qU))>>=fun On=>((idx y8 (ir))>>=fun Oo=>(bif (On.aD) == (Oo.aD) then ((idx y8 (qU))>>=fun Oq=>((jE Oq.l7 (uR++wR.l7))>>=fun Ot=>(some (Ot)))) else (some (false))))))>>=fun Ou=>(bif Ou then (some (Out.norm (qU,ai (qU+(1:Int))))) else (some (Out.norm (v8,ai (qU+(1:Int))))))) else (some (Out.exit 6 (v8,qU))))
def gV (y8:(List bG)) (ir:Int) (n4:(List Int)) (rI:Int):Option (Out ((List Int)×Int) (aG)):=
 (bif decide (rI < (y8.length:Int)) then ((idx y8 (ir))>>=fun Ov=>((idx y8 (rI))>>=fun Ow=>(bif (Ov.To) == (Ow.aD) then ((idx y8 (ir))>>=fun Ox=>((cX Ox.l7)>>=fun uR=>((idx y8 (rI))>>=fun wR=>((fits 8 (uR.length+wR.l7.length))>>=fun Z9=>(ag (ae 6 (ah (fun s=>gU y8 ir uR wR s.1 s.2) ((-1:Int),(0:Int)))) (fun (v8,qU)=>((fits 8 (n4.length+1))>>=fun aaa=>(some (Out.norm (n4++[v8],ai (rI+(1:Int)))))))))))) else ((fits 8 (n4.length+1))>>=fun aab=>(some (Out.norm (n4++[(-1:Int)],ai (rI+(1:Int))))))))) else (some (Out.exit 4 (n4,rI))))
def fH (y8:(List bG)) (ir:Int) (qg:(List (List Int))):Option (Out (Int×(List (List Int))) (aG)):=
 (bif decide (ir < (y8.length:Int)) then (ag (ae 4 (ah (fun s=>gV y8 ir s.1 s.2) (([]:(List Int)),(0:Int)))) (fun (n4,rI)=>((fits 24 (qg.length+1))>>=fun aac=>(some (Out.norm (ai (ir+(1:Int)),qg++[n4])))))) else (some (Out.exit 2 (ir,qg))))
def dR (x0:Int) (x1:(List Int)) (x2:(List Int)):Option (aG):=
 an (S:=Unit) ((kC (x0) x1 x2)>>=fun y8=>((mk 8 (x0))>>=fun n36=>(ag (ae 0 (ah (fun s=>gT y8 s.1 s.2.1 s.2.2.1 s.2.2.2) ((0:Int),([]:(List Int)),([]:(List Int)),List.replicate n36 (0:Int)))) (fun (ez,j7,j8,np)=>((dM (aG.mk x0 j7 j8 np (([]:(List (List Int))))))>>=fun Oy=>(bif !(Oy) then (some (Out.ret ((aG.mk x0 j7 j8 np (([]:(List (List Int)))))))) else (ag (ae 2 (ah (fun s=>fH y8 s.1 s.2) ((0:Int),([]:(List (List Int)))))) (fun (ir,qg)=>(some (Out.ret ((aG.mk x0 j7 j8 np qg))))))))))))
def fI (x0:aL):Option ((List (List Int))×aL):=
 an (S:=Unit) ((bJ x0 ((8:Int)))>>=fun y5=>(bif (y5.1) == ((0:Int)) then (some (Out.ret (((([[(0:Int)]]:(List (List Int)))),(aL.mk x0.Code y5.2.At y5.2.au))))) else (bif (y5.1) == ((1:Int)) then (some (Out.ret (((([[(0:Int),(1:Int)],[(1:Int),(0:Int)]]:(List (List Int)))),(aL.mk x0.Code y5.2.At y5.2.au))))) else (bif (y5.1) == ((2:Int)) then (some (Out.ret (((([[(0:Int),(1:Int)],[(1:Int),(1:Int)]]:(List (List Int)))),(aL.mk x0.Code y5.2.At y5.2.au))))) else (bif (y5.1) == ((3:Int)) then (some (Out.ret (((([[(0:Int),(1:Int),(2:Int)],[(1:Int),(2:Int),(0:Int)],[(2:Int),(0:Int),(1:Int)]]:(List (List Int)))),(aL.mk x0.Code y5.2.At y5.2.au))))) else (bif (y5.1) == ((4:Int)) then (some (Out.ret (((([[(0:Int),(1:Int),(2:Int)],[(1:Int),(1:Int),(2:Int)],[(2:Int),(2:Int),(2:Int)]]:(List (List Int)))),(aL.mk x0.Code y5.2.At y5.2.au))))) else (bif (y5.1) == ((5:Int)) then (some (Out.ret (((([[(0:Int),(1:Int),(2:Int)],[(1:Int),(1:Int),(2:Int)],[(2:Int),(1:Int),(2:Int)]]:(List (List Int)))),(aL.mk x0.Code y5.2.At y5.2.au))))) else (bif (y5.1) == ((6:Int)) then (some (Out.ret (((([[(0:Int),(1:Int),(2:Int),(3:Int)],[(1:Int),(0:Int),(2:Int),(3:Int)],[(2:Int),(3:Int),(2:Int),(3:Int)],[(3:Int),(2:Int),(2:Int),(3:Int)]]:(List (List Int)))),(aL.mk x0.Code y5.2.At y5.2.au))))) else (some (Out.ret (((([[(0:Int),(1:Int),(2:Int)],[(1:Int),(2:Int),(2:Int)],[(2:Int),(2:Int),(2:Int)]]:(List (List Int)))),(aL.mk x0.Code y5.2.At y5.2.au)))))))))))))
def iK (x0:(List (List Int))) (jg:(List (List Int))) (cb:Int):Option (Out ((List (List Int))×Int) ((List (List Int)))):=
 (bif decide (cb < (x0.length:Int)) then ((idx x0 (cb))>>=fun US=>((cX US)>>=fun lh=>((fits 24 (jg.length+1))>>=fun n49=>(some (Out.norm (jg++[lh],ai (cb+(1:Int)))))))) else (some (Out.exit 0 (jg,cb))))
def kO (x0:(List (List Int))):Option ((List (List Int))):=
 an (S:=Unit) (ag (ae 0 (ah (fun s=>iK x0 s.1 s.2) (([]:(List (List Int))),(0:Int)))) (fun (jg,cb)=>(some (Out.ret (jg)))))
def fJ (x0:(List (List Int))):Option (aG):=
 an (S:=Unit) ((mk 8 ((x0.length:Int)))>>=fun n10=>((mk 8 ((x0.length:Int)))>>=fun n19=>((kO x0)>>=fun Af=>(some (Out.ret ((aG.mk ((1:Int)) (List.replicate n10 (0:Int)) (List.replicate n19 (0:Int)) ([(0:Int)]) Af)))))))
def jT:Option (aG):=
 an (S:=Unit) (some (Out.ret ((aG.mk ((2:Int)) (([(0:Int),(1:Int),(0:Int),(0:Int),(1:Int)]:(List Int))) (([(0:Int),(1:Int),(0:Int),(1:Int),(0:Int)]:(List Int))) (([(0:Int),(1:Int)]:(List Int))) (([[(0:Int),(-1:Int),(2:Int),(3:Int),(-1:Int)],[(-1:Int),(1:Int),(-1:Int),(-1:Int),(4:Int)],[(2:Int),(-1:Int),(2:Int),(3:Int),(-1:Int)],[(-1:Int),(3:Int),(-1:Int),(-1:Int),(2:Int)],[(4:Int),(-1:Int),(4:Int),(1:Int),(-1:Int)]]:(List (List Int))))))))
def iS (x0:aG):Option (aG):=
 an (S:=Unit) ((cX x0.aD)>>=fun r3=>((cX x0.To)>>=fun yF=>((cX x0.aJ)>>=fun L7=>((kO x0.aB)>>=fun L8=>(some (Out.ret ((aG.mk x0.aA r3 yF L7 L8))))))))
def fK (x0:aG) (x1:aG) (l9:Int) (wV:(List Int)):Option (Out (Int×(List Int)) (aG)):=
 (bif decide (l9 < x1.aA) then ((idx x1.aJ (l9))>>=fun Oz=>((fits 8 (wV.length+1))>>=fun n136=>(some (Out.norm (ai (l9+(1:Int)),wV++[ai (Oz+(x0.aD.length:Int))]))))) else (some (Out.exit 0 (l9,wV))))
def fL (x1:aG) (sX:Int) (ei:Int) (yG:(List (List Int))):Option (Out (Int×(List (List Int))) (aG)):=
 (bif decide (ei < (x1.aD.length:Int)) then ((idx yG (sX))>>=fun UT=>((fits 8 (UT.length+1))>>=fun n233=>((idx yG (sX))>>=fun alM=>(some (Out.norm (ai (ei+(1:Int)),yG.set (sX).toNat (UT++[(-1:Int)]))))))) else (some (Out.exit 4 (ei,yG))))
def fM (x1:aG) (sX:Int) (AQ:(List (List Int))):Option (Out (Int×(List (List Int))) (aG)):=
 (bif decide (sX < (AQ.length:Int)) then (ag (ae 4 (ah (fun s=>fL x1 sX s.1 s.2) ((0:Int),AQ))) (fun (ei,yG)=>(some (Out.norm (ai (sX+(1:Int)),yG))))) else (some (Out.exit 2 (sX,AQ))))
def fN (x0:aG) (qo:(List Int)) (sx:Int):Option (Out ((List Int)×Int) (aG)):=
 (bif decide (sx < (x0.aD.length:Int)) then ((fits 8 (qo.length+1))>>=fun alN=>(some (Out.norm (qo++[(-1:Int)],ai (sx+(1:Int)))))) else (some (Out.exit 8 (qo,sx))))
def fO (x0:aG) (x1:aG) (iy:Int) (rJ:(List Int)) (r4:Int):Option (Out ((List Int)×Int) (aG)):=
 (bif decide (r4 < (x1.aD.length:Int)) then ((idx x1.aB (iy))>>=fun aad=>((idx aad (r4))>>=fun OA=>(bif decide (OA ≥ (0:Int)) then ((fits 8 (rJ.length+1))>>=fun alO=>(some (Out.norm (rJ++[ai (OA+(x0.aD.length:Int))],ai (r4+(1:Int)))))) else ((fits 8 (rJ.length+1))>>=fun alP=>(some (Out.norm (rJ++[OA],ai (r4+(1:Int))))))))) else (some (Out.exit 10 (rJ,r4))))
def fP (x0:aG) (x1:aG) (iy:Int) (wW:(List Int)) (wX:(List Int)) (wY:(List (List Int))):Option (Out (Int×(List Int)×(List Int)×(List (List Int))) (aG)):=
 (bif decide (iy < (x1.aD.length:Int)) then ((idx x1.aD (iy))>>=fun aae=>((fits 8 (wW.length+1))>>=fun n314=>((idx x1.To (iy))>>=fun Oh=>((fits 8 (wX.length+1))>>=fun alQ=>(ag (ae 8 (ah (fun s=>fN x0 s.1 s.2) (([]:(List Int)),(0:Int)))) (fun (qo,sx)=>(ag (ae 10 (ah (fun s=>fO x0 x1 iy s.1 s.2) (qo,(0:Int)))) (fun (rJ,r4)=>((fits 24 (wY.length+1))>>=fun alR=>(some (Out.norm (ai (iy+(1:Int)),wW++[ai (aae+x0.aA)],wX++[ai (Oh+x0.aA)],wY++[rJ])))))))))))) else (some (Out.exit 6 (iy,wW,wX,wY))))
def gN (x0:aG) (x1:aG):Option (aG):=
 an (S:=Unit) ((iS x0)>>=fun vN=>(ag (ae 0 (ah (fun s=>fK x0 x1 s.1 s.2) ((0:Int),vN.aJ))) (fun (l9,wV)=>(ag (ae 2 (ah (fun s=>fM x1 s.1 s.2) ((0:Int),vN.aB))) (fun (sX,AQ)=>(ag (ae 6 (ah (fun s=>fP x0 x1 s.1 s.2.1 s.2.2.1 s.2.2.2) ((0:Int),vN.aD,vN.To,AQ))) (fun (iy,wW,wX,wY)=>(some (Out.ret ((aG.mk (ai (x0.aA+x1.aA)) wW wX wV wY)))))))))))
def eP (x0:aG) (x1:aG) (bx:Int) (ec:Int) (wZ:(List Int)) (w4:(List Int)):Option (Out (Int×(List Int)×(List Int)) (aG)):=
 (bif decide (ec < x1.aA) then ((fits 8 (wZ.length+1))>>=fun n181=>((fits 8 (w4.length+1))>>=fun n217=>(some (Out.norm (ai (ec+(1:Int)),wZ++[bx],w4++[ai (x0.aA+ec)]))))) else (some (Out.exit 2 (ec,wZ,w4))))
def eQ (x0:aG) (x1:aG) (bx:Int) (ot:(List Int)) (rh:(List Int)):Option (Out (Int×(List Int)×(List Int)) (aG)):=
 (bif decide (bx < x0.aA) then (ag (ae 2 (ah (fun s=>eP x0 x1 bx s.1 s.2.1 s.2.2) ((0:Int),ot,rh))) (fun (ec,wZ,w4)=>(some (Out.norm (ai (bx+(1:Int)),wZ,w4))))) else (some (Out.exit 0 (bx,ot,rh))))
def eR (x0:aG) (x1:aG) (lh:aG) (ot:(List Int)) (rh:(List Int)) (ei:Int) (iy:(List Int)) (u2:Int):Option (Out ((List Int)×Int) (aG)):=
 (bif decide (u2 < (ot.length:Int)) then ((idx rh (ei))>>=fun aaf=>((idx ot (u2))>>=fun aag=>(bif (aaf) != (aag) then ((fits 8 (iy.length+1))>>=fun alS=>(some (Out.norm (iy++[(-1:Int)],ai (u2+(1:Int)))))) else (((bif decide (ei < (lh.aD.length:Int)) then (some (decide (u2 < (lh.aD.length:Int)))) else (some (false))))>>=fun aah=>(bif aah then ((idx lh.aB (ei))>>=fun aai=>((idx aai (u2))>>=fun aaj=>((fits 8 (iy.length+1))>>=fun alT=>(some (Out.norm (iy++[aaj],ai (u2+(1:Int)))))))) else ((idx ot (ei))>>=fun OB=>((idx rh (u2))>>=fun OC=>((fits 8 (iy.length+1))>>=fun alU=>(some (Out.norm (iy++[ai (ai (ai ((lh.aD.length:Int)+ai (OB * x1.aA))+OC) - x0.aA)],ai (u2+(1:Int))))))))))))) else (some (Out.exit 6 (iy,u2))))
def eS (x0:aG) (x1:aG) (lh:aG) (ot:(List Int)) (rh:(List Int)) (du:(List (List Int))) (ei:Int):Option (Out ((List (List Int))×Int) (aG)):=
 (bif decide (ei < (ot.length:Int)) then (ag (ae 6 (ah (fun s=>eR x0 x1 lh ot rh ei s.1 s.2) (([]:(List Int)),(0:Int)))) (fun (iy,u2)=>((fits 24 (du.length+1))>>=fun alV=>(some (Out.norm (du++[iy],ai (ei+(1:Int)))))))) else (some (Out.exit 4 (du,ei))))
def fY (x0:aG) (x1:aG):Option (aG):=
 an (S:=Unit) ((gN x0 x1)>>=fun lh=>(ag (ae 0 (ah (fun s=>eQ x0 x1 s.1 s.2.1 s.2.2) ((0:Int),lh.aD,lh.To))) (fun (bx,ot,rh)=>(ag (ae 4 (ah (fun s=>eS x0 x1 lh ot rh s.1 s.2) (([]:(List (List Int))),(0:Int)))) (fun (du,ei)=>(some (Out.ret ((aG.mk lh.aA ot rh lh.aJ du)))))))))
def jU (x0:aG) (cb:Int) (qh:(List Int)) (o9:Int):Option (Out ((List Int)×Int) (aG)):=
 (bif decide (o9 < (x0.aD.length:Int)) then ((idx x0.aB (o9))>>=fun aak=>((idx aak (cb))>>=fun aal=>((fits 8 (qh.length+1))>>=fun n187=>(some (Out.norm (qh++[aal],ai (o9+(1:Int)))))))) else (some (Out.exit 2 (qh,o9))))
def jV (x0:aG) (cb:Int) (w5:(List (List Int))):Option (Out (Int×(List (List Int))) (aG)):=
 (bif decide (cb < (x0.aD.length:Int)) then (ag (ae 2 (ah (fun s=>jU x0 cb s.1 s.2) (([]:(List Int)),(0:Int)))) (fun (qh,o9)=>((fits 24 (w5.length+1))>>=fun n222=>(some (Out.norm (ai (cb+(1:Int)),w5++[qh])))))) else (some (Out.exit 0 (cb,w5))))
def fV (x0:aG):Option (aG):=
 an (S:=Unit) ((cX x0.To)>>=fun lh=>((cX x0.aD)>>=fun C7=>((cX x0.aJ)>>=fun IE=>(ag (ae 0 (ah (fun s=>jV x0 s.1 s.2) ((0:Int),([]:(List (List Int)))))) (fun (cb,w5)=>(some (Out.ret ((aG.mk x0.aA lh C7 IE w5)))))))))
def lM (AR:Int×aL) (o9:(List Int)) (l8:Int):Option (Out ((List Int)×Int) (aG×aL)):=
 (bif decide (l8 < ai ((1:Int)+AR.1)) then ((fits 8 (o9.length+1))>>=fun aam=>(some (Out.norm (o9++[(1:Int)],ai (l8+(1:Int)))))) else (some (Out.exit 3 (o9,l8))))
def lN (AR:Int×aL) (cb:(List (List Int))) (bh:Int):Option (Out ((List (List Int))×Int) (aG×aL)):=
 (bif decide (bh < ai ((1:Int)+AR.1)) then (ag (ae 3 (ah (fun s=>lM AR s.1 s.2) (([]:(List Int)),(0:Int)))) (fun (o9,l8)=>((fits 24 (cb.length+1))>>=fun alW=>(some (Out.norm (cb++[o9],ai (bh+(1:Int)))))))) else (some (Out.exit 1 (cb,bh))))
def lO (x0:aL) (zB:Int×aL) (du:(List Int)) (ei:(List Int)) (n4:Int) (xP:Int) (xQ:Int):Option (Out ((List Int)×(List Int)×Int×Int×Int) (aG×aL)):=
 (bif decide (n4 > (0:Int)) then ((bJ (aL.mk x0.Code xP xQ) (ai (ai ((2:Int)+zB.1) - (1:Int))))>>=fun C8=>((fits 8 (du.length+1))>>=fun ajP=>((bJ (aL.mk x0.Code C8.2.At C8.2.au) (ai (ai (ai ((2:Int)+zB.1) - (1:Int)) - C8.1)))>>=fun JT=>((fits 8 (ei.length+1))>>=fun ajQ=>(some (Out.norm (du++[C8.1],ei++[ai (ai (C8.1+(1:Int))+JT.1)],ai (n4 - (1:Int)),JT.2.At,JT.2.au))))))) else (some (Out.exit 5 (du,ei,n4,xP,xQ))))
def fQ (x0:aL):Option (aG×aL):=
 an (S:=Unit) ((bJ x0 ((12:Int)))>>=fun cw=>(bif (cw.1) == ((0:Int)) then ((bJ (aL.mk x0.Code cw.2.At cw.2.au) ((5:Int)))>>=fun IF=>((gS (aL.mk x0.Code IF.2.At IF.2.au) (IF.1))>>=fun yF=>((cK yF.1)>>=fun L7=>(some (Out.ret ((L7,(aL.mk x0.Code yF.2.At yF.2.au)))))))) else (bif (cw.1) == ((1:Int)) then ((cK [[(1:Int),(1:Int)],[(0:Int),(1:Int)]])>>=fun AS=>(some (Out.ret ((AS,(aL.mk x0.Code cw.2.At cw.2.au)))))) else (bif (cw.1) == ((2:Int)) then ((cK [[(1:Int),(1:Int),(1:Int)],[(0:Int),(1:Int),(0:Int)],[(0:Int),(0:Int),(1:Int)]])>>=fun GJ=>(some (Out.ret ((GJ,(aL.mk x0.Code cw.2.At cw.2.au)))))) else (bif (cw.1) == ((3:Int)) then ((dR ((2:Int)) [(0:Int),(0:Int)] [(1:Int),(1:Int)])>>=fun aan=>(some (Out.ret ((aan,(aL.mk x0.Code cw.2.At cw.2.au)))))) else (bif (cw.1) == ((4:Int)) then ((fI (aL.mk x0.Code cw.2.At cw.2.au))>>=fun OD=>((fJ OD.1)>>=fun aao=>(some (Out.ret ((aao,(aL.mk x0.Code OD.2.At OD.2.au))))))) else (bif (cw.1) == ((5:Int)) then ((bJ (aL.mk x0.Code cw.2.At cw.2.au) ((3:Int)))>>=fun AR=>(ag (ae 1 (ah (fun s=>lN AR s.1 s.2) (([]:(List (List Int))),(0:Int)))) (fun (cb,bh)=>((cK cb)>>=fun aap=>(some (Out.ret ((aap,(aL.mk x0.Code AR.2.At AR.2.au))))))))) else (bif (cw.1) == ((6:Int)) then ((dR ((3:Int)) [(0:Int),(1:Int),(0:Int)] [(1:Int),(2:Int),(2:Int)])>>=fun aaq=>(some (Out.ret ((aaq,(aL.mk x0.Code cw.2.At cw.2.au)))))) else (bif (cw.1) == ((7:Int)) then ((jT)>>=fun aar=>(some (Out.ret ((aar,(aL.mk x0.Code cw.2.At cw.2.au)))))) else (bif (cw.1) == ((8:Int)) then ((fI (aL.mk x0.Code cw.2.At cw.2.au))>>=fun OF=>((fJ OF.1)>>=fun aas=>((cK [[(1:Int)]])>>=fun aat=>((fY aas aat)>>=fun aau=>((fV aau)>>=fun aav=>(some (Out.ret ((aav,(aL.mk x0.Code OF.2.At OF.2.au)))))))))) else (bif (cw.1) == ((9:Int)) then ((fI (aL.mk x0.Code cw.2.At cw.2.au))>>=fun OG=>((fJ OG.1)>>=fun aaw=>((cK [[(1:Int)]])>>=fun aax=>((fY aaw aax)>>=fun aay=>(some (Out.ret ((aay,(aL.mk x0.Code OG.2.At OG.2.au))))))))) else (bif (cw.1) == ((10:Int)) then ((bJ (aL.mk x0.Code cw.2.At cw.2.au) ((2:Int)))>>=fun JU=>((gS (aL.mk x0.Code JU.2.At JU.2.au) (ai ((2:Int)+JU.1)))>>=fun JV=>((cK JV.1)>>=fun Xo=>(some (Out.ret ((Xo,(aL.mk x0.Code JV.2.At JV.2.au)))))))) else ((bJ (aL.mk x0.Code cw.2.At cw.2.au) ((2:Int)))>>=fun zB=>((bJ (aL.mk x0.Code zB.2.At zB.2.au) ((4:Int)))>>=fun JW=>(ag (ae 5 (ah (fun s=>lO x0 zB s.1 s.2.1 s.2.2.1 s.2.2.2.1 s.2.2.2.2) (([]:(List Int)),([]:(List Int)),JW.1,JW.2.At,JW.2.au))) (fun (du,ei,n4,xP,xQ)=>((dR (ai ((2:Int)+zB.1)) du ei)>>=fun Xp=>(some (Out.ret ((Xp,(aL.mk x0.Code xP xQ))))))))))))))))))))))
def dV (x0:aG) (x1:aG) (l9:Int) (sX:Int) (w6:(List Int)):Option (Out (Int×(List Int)) (aG)):=
 (bif decide (sX < x1.aA) then ((idx x0.aJ (l9))>>=fun aaz=>((idx x1.aJ (sX))>>=fun aaA=>((fits 8 (w6.length+1))>>=fun n186=>(some (Out.norm (ai (sX+(1:Int)),w6++[ai (ai (aaz * (x1.aD.length:Int))+aaA)])))))) else (some (Out.exit 2 (sX,w6))))
def dW (x0:aG) (x1:aG) (l9:Int) (zD:(List Int)):Option (Out (Int×(List Int)) (aG)):=
 (bif decide (l9 < x0.aA) then (ag (ae 2 (ah (fun s=>dV x0 x1 l9 s.1 s.2) ((0:Int),zD))) (fun (sX,w6)=>(some (Out.norm (ai (l9+(1:Int)),w6))))) else (some (Out.exit 0 (l9,zD))))
def dX (x0:aG) (x1:aG) (ei:Int) (iy:Int) (sx:Int) (rJ:(List Int)) (r4:Int):Option (Out ((List Int)×Int) (aG)):=
 (bif decide (r4 < (x1.aD.length:Int)) then ((((idx x0.aB (ei))>>=fun aaB=>((idx aaB (sx))>>=fun aaC=>(bif decide (aaC ≥ (0:Int)) then ((idx x1.aB (iy))>>=fun aaD=>((idx aaD (r4))>>=fun aaE=>(some (decide (aaE ≥ (0:Int)))))) else (some (false))))))>>=fun aaF=>(bif aaF then ((idx x0.aB (ei))>>=fun aaG=>((idx aaG (sx))>>=fun aaH=>((idx x1.aB (iy))>>=fun aaI=>((idx aaI (r4))>>=fun aaJ=>((fits 8 (rJ.length+1))>>=fun alX=>(some (Out.norm (rJ++[ai (ai (aaH * (x1.aD.length:Int))+aaJ)],ai (r4+(1:Int)))))))))) else ((fits 8 (rJ.length+1))>>=fun alY=>(some (Out.norm (rJ++[(-1:Int)],ai (r4+(1:Int)))))))) else (some (Out.exit 10 (rJ,r4))))
def dY (x0:aG) (x1:aG) (ei:Int) (iy:Int) (qo:(List Int)) (sx:Int):Option (Out ((List Int)×Int) (aG)):=
 (bif decide (sx < (x0.aD.length:Int)) then (ag (ae 10 (ah (fun s=>dX x0 x1 ei iy sx s.1 s.2) (qo,(0:Int)))) (fun (rJ,r4)=>(some (Out.norm (rJ,ai (sx+(1:Int))))))) else (some (Out.exit 8 (qo,sx))))
def dZ (x0:aG) (x1:aG) (ei:Int) (iy:Int) (w7:(List Int)) (w8:(List Int)) (w9:(List (List Int))):Option (Out (Int×(List Int)×(List Int)×(List (List Int))) (aG)):=
 (bif decide (iy < (x1.aD.length:Int)) then ((idx x0.aD (ei))>>=fun aaK=>((idx x1.aD (iy))>>=fun aaL=>((fits 8 (w7.length+1))>>=fun n318=>((idx x0.To (ei))>>=fun aaM=>((idx x1.To (iy))>>=fun Oi=>((fits 8 (w8.length+1))>>=fun alZ=>(ag (ae 8 (ah (fun s=>dY x0 x1 ei iy s.1 s.2) (([]:(List Int)),(0:Int)))) (fun (qo,sx)=>((fits 24 (w9.length+1))>>=fun al0=>(some (Out.norm (ai (iy+(1:Int)),w7++[ai (ai (aaK * x1.aA)+aaL)],w8++[ai (ai (aaM * x1.aA)+Oi)],w9++[qo])))))))))))) else (some (Out.exit 6 (iy,w7,w8,w9))))
def eA (x0:aG) (x1:aG) (ei:Int) (zE:(List Int)) (zF:(List Int)) (zG:(List (List Int))):Option (Out (Int×(List Int)×(List Int)×(List (List Int))) (aG)):=
 (bif decide (ei < (x0.aD.length:Int)) then (ag (ae 6 (ah (fun s=>dZ x0 x1 ei s.1 s.2.1 s.2.2.1 s.2.2.2) ((0:Int),zE,zF,zG))) (fun (iy,w7,w8,w9)=>(some (Out.norm (ai (ei+(1:Int)),w7,w8,w9))))) else (some (Out.exit 4 (ei,zE,zF,zG))))
def eC (x0:aG) (x1:aG):Option (aG):=
 an (S:=Unit) (ag (ae 0 (ah (fun s=>dW x0 x1 s.1 s.2) ((0:Int),([]:(List Int))))) (fun (l9,zD)=>(ag (ae 4 (ah (fun s=>eA x0 x1 s.1 s.2.1 s.2.2.1 s.2.2.2) ((0:Int),([]:(List Int)),([]:(List Int)),([]:(List (List Int)))))) (fun (ei,zE,zF,zG)=>(some (Out.ret ((aG.mk (ai (x0.aA * x1.aA)) zE zF zD zG))))))))
def nF (x0:aL) (x1:Int) (x2:Int) (bx:Int) (j5:Int) (j6:Int):Option (Out (Int×Int×Int) (aG×aL)):=
 (bif decide (bx < (12:Int)) then ((fQ (aL.mk x0.Code j5 j6))>>=fun tz=>((bJ (aL.mk x0.Code tz.2.At tz.2.au) ((5:Int)))>>=fun L9=>(bif (L9.1) == ((0:Int)) then ((fQ (aL.mk x0.Code L9.2.At L9.2.au))>>=fun UU=>((gN tz.1 UU.1)>>=fun GK=>((bJ (aL.mk x0.Code UU.2.At UU.2.au) ((8:Int)))>>=fun Cc=>(bif (Cc.1) == ((0:Int)) then ((fQ (aL.mk x0.Code Cc.2.At Cc.2.au))>>=fun GL=>((eC GK GL.1)>>=fun JX=>(((bif decide (JX.aA≤x1) then (bif decide ((JX.aD.length:Int)≤x2) then ((dM JX)>>=fun aaN=>(some (aaN))) else (some (false))) else (some (false))))>>=fun aaO=>(bif aaO then (some (Out.ret ((JX,(aL.mk x0.Code GL.2.At GL.2.au))))) else (some (Out.norm (ai (bx+(1:Int)),GL.2.At,GL.2.au))))))) else (((bif decide (GK.aA≤x1) then (bif decide ((GK.aD.length:Int)≤x2) then ((dM GK)>>=fun OH=>(some (OH))) else (some (false))) else (some (false))))>>=fun aaP=>(bif aaP then (some (Out.ret ((GK,(aL.mk x0.Code Cc.2.At Cc.2.au))))) else (some (Out.norm (ai (bx+(1:Int)),Cc.2.At,Cc.2.au))))))))) else ((bJ (aL.mk x0.Code L9.2.At L9.2.au) ((8:Int)))>>=fun Cd=>(bif (Cd.1) == ((0:Int)) then ((fQ (aL.mk x0.Code Cd.2.At Cd.2.au))>>=fun GM=>((eC tz.1 GM.1)>>=fun JY=>(((bif decide (JY.aA≤x1) then (bif decide ((JY.aD.length:Int)≤x2) then ((dM JY)>>=fun aaQ=>(some (aaQ))) else (some (false))) else (some (false))))>>=fun aaR=>(bif aaR then (some (Out.ret ((JY,(aL.mk x0.Code GM.2.At GM.2.au))))) else (some (Out.norm (ai (bx+(1:Int)),GM.2.At,GM.2.au))))))) else (((bif decide (tz.1.aA≤x1) then (bif decide ((tz.1.aD.length:Int)≤x2) then ((dM tz.1)>>=fun aaS=>(some (aaS))) else (some (false))) else (some (false))))>>=fun aaT=>(bif aaT then (some (Out.ret ((tz.1,(aL.mk x0.Code Cd.2.At Cd.2.au))))) else (some (Out.norm (ai (bx+(1:Int)),Cd.2.At,Cd.2.au)))))))))) else (some (Out.exit 0 (bx,j5,j6))))
def gW (x0:aL) (x1:Int) (x2:Int):Option (aG×aL):=
 an (S:=Unit) (ag (ae 0 (ah (fun s=>nF x0 x1 x2 s.1 s.2.1 s.2.2) ((0:Int),x0.At,x0.au))) (fun (bx,j5,j6)=>((cK [[(1:Int)]])>>=fun aaU=>(some (Out.ret ((aaU,(aL.mk x0.Code j5 j6))))))))
def nG (x0:aG) (x1:Int):Option (Bool):=
 an (S:=Unit) ((idx x0.aD (x1))>>=fun e8=>((idx x0.aJ (e8))>>=fun Ma=>(some (Out.ret (((Ma) == (x1)))))))
def lP (x0:aG) (jg:(List Int)) (cb:Int):Option (Out ((List Int)×Int) ((List Int))):=
 (bif decide (cb < (x0.aD.length:Int)) then ((nG x0 (cb))>>=fun lh=>(bif !(lh) then ((fits 8 (jg.length+1))>>=fun n45=>(some (Out.norm (jg++[cb],ai (cb+(1:Int)))))) else (some (Out.norm (jg,ai (cb+(1:Int))))))) else (some (Out.exit 0 (jg,cb))))
def lA (x0:aG):Option ((List Int)):=
 an (S:=Unit) (ag (ae 0 (ah (fun s=>lP x0 s.1 s.2) (([]:(List Int)),(0:Int)))) (fun (jg,cb)=>(some (Out.ret (jg)))))
def iI (x0:aG) (x1:aG):Option (Bool):=
 an (S:=Unit) ((lA x0)>>=fun r3=>(bif decide ((r3.length:Int)≤(8:Int)) then (some (Out.ret ((decide ((x1.aD.length:Int)≤(16:Int)))))) else (some (Out.ret (false)))))
def fR (x0:aG) (x1:Int) (x2:Int) (bx:(List Int)) (l9:Int):Option (Out ((List Int)×Int) ((List Int))):=
 (bif decide (l9 < (x0.aD.length:Int)) then ((((idx x0.aD (l9))>>=fun EB=>(bif (EB) == (x1) then ((idx x0.To (l9))>>=fun e30=>(some ((e30) == (x2)))) else (some (false)))))>>=fun Mb=>(bif Mb then ((fits 8 (bx.length+1))>>=fun n50=>(some (Out.norm (bx++[l9],ai (l9+(1:Int)))))) else (some (Out.norm (bx,ai (l9+(1:Int))))))) else (some (Out.exit 0 (bx,l9))))
def fW (x0:aG) (x1:Int) (x2:Int):Option ((List Int)):=
 an (S:=Unit) (ag (ae 0 (ah (fun s=>fR x0 x1 x2 s.1 s.2) (([]:(List Int)),(0:Int)))) (fun (bx,l9)=>(some (Out.ret (bx)))))
def pF (x0:aG) (x1:aG) (x2:(List Int)) (bx:Int):Option (Out (Int) (Bool)):=
 (bif decide (bx < (x0.aD.length:Int)) then ((idx x0.aD (bx))>>=fun Qw=>((idx x0.To (bx))>>=fun Qx=>(bif decide (Qw < (x2.length:Int)) then (bif decide (Qx < (x2.length:Int)) then ((idx x2 (Qw))>>=fun GB=>((idx x2 (Qx))>>=fun Mc=>((fW x1 (GB) (Mc))>>=fun Md=>(bif ((Md.length:Int)) == ((0:Int)) then (some (Out.ret (false))) else (some (Out.norm (ai (bx+(1:Int))))))))) else (some (Out.norm (ai (bx+(1:Int)))))) else (some (Out.norm (ai (bx+(1:Int)))))))) else (some (Out.exit 0 (bx))))
def lZ (x0:aG) (x1:aG) (x2:(List Int)):Option (Bool):=
 an (S:=Unit) (ag (ae 0 (ah (pF x0 x1 x2) ((0:Int)))) (fun bx=>(some (Out.ret (true)))))
def mM (x0:aG) (x1:aG) (ec:Int) (sY:Bool) (du:Int) (mq:(List Int)):Option (Out (Bool×Int×(List Int)) (Bool×(List Int))):=
 (bif decide (du < (mq.length:Int)) then ((idx x0.aB (ec))>>=fun C9=>((idx C9 (du))>>=fun Ac=>(((bif decide (Ac < (0:Int)) then (some (true)) else ((idx mq (ec))>>=fun UW=>(bif decide (UW < (0:Int)) then (some (true)) else ((idx mq (du))>>=fun BU=>(some (decide (BU < (0:Int)))))))))>>=fun g66=>(bif g66 then (some (Out.norm (sY,ai (du+(1:Int)),mq))) else ((idx mq (ec))>>=fun IG=>((idx x1.aB (IG))>>=fun Da=>((idx mq (du))>>=fun Ae=>((idx Da (Ae))>>=fun Yl=>((((idx mq (Ac))>>=fun UX=>(bif decide (UX ≥ (0:Int)) then ((idx mq (Ac))>>=fun Qy=>(some ((Qy) != (Yl)))) else (some (false)))))>>=fun g94=>(bif g94 then (some (Out.ret ((false,mq)))) else (((bif sY then (some (true)) else ((idx mq (Ac))>>=fun Cb=>(some (decide (Cb < (0:Int)))))))>>=fun aaV=>((idx mq (Ac))>>=fun aaW=>(some (Out.norm (aaV,ai (du+(1:Int)),mq.set (Ac).toNat (Yl)))))))))))))))) else (some (Out.exit 4 (sY,du,mq))))
def mN (x0:aG) (x1:aG) (l8:Bool) (ec:Int) (yH:(List Int)):Option (Out (Bool×Int×(List Int)) (Bool×(List Int))):=
 (bif decide (ec < (yH.length:Int)) then (ag (ae 4 (ah (fun s=>mM x0 x1 ec s.1 s.2.1 s.2.2) (l8,(0:Int),yH))) (fun (sY,du,mq)=>(some (Out.norm (sY,ai (ec+(1:Int)),mq))))) else (some (Out.exit 2 (l8,ec,yH))))
def mO (x0:aG) (x1:aG) (bx:Bool) (Bw:(List Int)):Option (Out (Bool×(List Int)) (Bool×(List Int))):=
 (bif bx then (ag (ae 2 (ah (fun s=>mN x0 x1 s.1 s.2.1 s.2.2) (false,(0:Int),Bw))) (fun (l8,ec,yH)=>(some (Out.norm (l8,yH))))) else (some (Out.exit 0 (bx,Bw))))
def mA (x0:aG) (x1:aG) (x2:(List Int)):Option (Bool×(List Int)):=
 an (S:=Unit) (ag (ae 0 (ah (fun s=>mO x0 x1 s.1 s.2) (true,x2))) (fun (bx,Bw)=>(some (Out.ret ((true,Bw))))))
def pB (x3:(List Int)) (cb:Int):Option (Out (Int) ((List (List Int)))):=
 (((bif decide (cb < (x3.length:Int)) then ((idx x3 (cb))>>=fun UY=>(some (decide (UY ≥ (0:Int))))) else (some (false))))>>=fun g32=>(bif g32 then (some (Out.norm (ai (cb+(1:Int))))) else (some (Out.exit 0 (cb)))))
def lQ (rc:aG→aG→(List Int)→(List Int)→Int→(List (List Int))→Option ((List (List Int)))) (x0:aG) (x1:aG) (x2:(List Int)) (x3:(List Int)) (cb:Int) (Qz:(List Int)) (qh:(List (List Int))) (ma:Int):Option (Out ((List (List Int))×Int) ((List (List Int)))):=
 (((bif decide (ma < (Qz.length:Int)) then (some (decide ((qh.length:Int)≤(200:Int)))) else (some (false))))>>=fun aaX=>(bif aaX then ((cX x3)>>=fun UZ=>((idx Qz (ma))>>=fun GN=>((idx UZ (cb))>>=fun JZ=>((mA x0 x1 (UZ.set (cb).toNat (GN)))>>=fun U0=>(bif U0.1 then ((rc x0 x1 x2 U0.2 (ai (cb+(1:Int))) qh)>>=fun aaY=>(some (Out.norm (aaY,ai (ma+(1:Int)))))) else (some (Out.norm (qh,ai (ma+(1:Int)))))))))) else (some (Out.exit 2 (qh,ma)))))
def jL (rc:aG→aG→(List Int)→(List Int)→Int→(List (List Int))→Option ((List (List Int)))) (x0:aG) (x1:aG) (x2:(List Int)) (x3:(List Int)) (x4:Int) (x5:(List (List Int))):Option ((List (List Int))):=
 an (S:=Unit) (ag (ae 0 (ah (pB x3) (x4))) (fun cb=>(bif (cb) == ((x3.length:Int)) then ((cX x3)>>=fun y46=>((fits 24 (x5.length+1))>>=fun n70=>(some (Out.ret ((x5++[y46])))))) else ((idx x0.aD (cb))>>=fun e75=>((idx x2 (e75))>>=fun e77=>((idx x0.To (cb))>>=fun IG=>((idx x2 (IG))>>=fun Da=>((fW x1 (e77) (Da))>>=fun Qz=>(ag (ae 2 (ah (fun s=>lQ rc x0 x1 x2 x3 cb Qz s.1 s.2) (x5,(0:Int)))) (fun (qh,ma)=>(some (Out.ret (qh)))))))))))))
def fS:Nat→aG→aG→(List Int)→(List Int)→Int→(List (List Int))→Option ((List (List Int)))
 | 0=>fun _ _ _ _ _ _=>none
 | n+1=>jL (fS n)
def gX (x0:aG) (x1:aG) (x2:(List Int)) (x3:(List Int)):Option (aN):=
 an (S:=Unit) ((iS x0)>>=fun lh=>((iS x1)>>=fun y60=>((cX x2)>>=fun aaZ=>((cX x3)>>=fun aa0=>(some (Out.ret ((aN.mk lh y60 aaZ aa0))))))))
def lR (x0:aG) (ez:(List Int)) (qp:Int):Option (Out ((List Int)×Int) ((List aN))):=
 (bif decide (qp < (x0.aD.length:Int)) then ((fits 8 (ez.length+1))>>=fun n78=>(some (Out.norm (ez++[(-1:Int)],ai (qp+(1:Int)))))) else (some (Out.exit 0 (ez,qp))))
def lS (x0:aG) (x1:aG) (x2:(List Int)) (sy:Int) (AT:(List Int)):Option (Out (Int×(List Int)) ((List aN))):=
 (bif decide (sy < (x2.length:Int)) then ((idx x0.aJ (sy))>>=fun U1=>((idx x2 (sy))>>=fun DO=>((idx x1.aJ (DO))>>=fun OI=>((idx AT (U1))>>=fun J3=>(some (Out.norm (ai (sy+(1:Int)),AT.set (U1).toNat (OI)))))))) else (some (Out.exit 2 (sy,AT))))
def lT (x0:aG) (x1:aG) (x2:(List Int)) (Ce:(List (List Int))) (DP:(List aN)) (Db:Int):Option (Out ((List aN)×Int) ((List aN))):=
 (((bif decide (Db < (Ce.length:Int)) then (some (decide ((DP.length:Int)≤(200:Int)))) else (some (false))))>>=fun aa1=>(bif aa1 then ((idx Ce (Db))>>=fun aa2=>((gX x0 x1 x2 aa2)>>=fun aa3=>((fits 256 (DP.length+1))>>=fun n290=>(some (Out.norm (DP++[aa3],ai (Db+(1:Int)))))))) else (some (Out.exit 4 (DP,Db)))))
def lU (rc:aG→aG→(List Int)→(List aN)→Option ((List aN))) (x0:aG) (x1:aG) (x2:(List Int)) (GO:(List aN)) (Dc:Int):Option (Out ((List aN)×Int) ((List aN))):=
 (((bif decide (Dc < x1.aA) then (some (decide ((GO.length:Int)≤(200:Int)))) else (some (false))))>>=fun aa4=>(bif aa4 then ((cX x2)>>=fun Cf=>((fits 8 (Cf.length+1))>>=fun n342=>((rc x0 x1 (Cf++[Dc]) GO)>>=fun aa5=>(some (Out.norm (aa5,ai (Dc+(1:Int)))))))) else (some (Out.exit 6 (GO,Dc)))))
def jM (rc:aG→aG→(List Int)→(List aN)→Option ((List aN))) (x0:aG) (x1:aG) (x2:(List Int)) (x3:(List aN)):Option ((List aN)):=
 an (S:=Unit) ((lZ x0 x1 x2)>>=fun vN=>(bif !(vN) then (some (Out.ret (x3))) else (bif ((x2.length:Int)) == (x0.aA) then (ag (ae 0 (ah (fun s=>lR x0 s.1 s.2) (([]:(List Int)),(0:Int)))) (fun (ez,qp)=>(ag (ae 2 (ah (fun s=>lS x0 x1 x2 s.1 s.2) ((0:Int),ez))) (fun (sy,AT)=>((fS 64 x0 x1 x2 AT ((0:Int)) (([]:(List (List Int)))))>>=fun Ce=>(ag (ae 4 (ah (fun s=>lT x0 x1 x2 Ce s.1 s.2) (x3,(0:Int)))) (fun (DP,Db)=>(some (Out.ret (DP)))))))))) else (ag (ae 6 (ah (fun s=>lU rc x0 x1 x2 s.1 s.2) (x3,(0:Int)))) (fun (GO,Dc)=>(some (Out.ret (GO))))))))
def fT:Nat→aG→aG→(List Int)→(List aN)→Option ((List aN))
 | 0=>fun _ _ _ _=>none
 | n+1=>jM (fT n)
def kD (x0:aG) (x1:aG):Option ((List aN)):=
 an (S:=Unit) ((fT 64 x0 x1 (([]:(List Int))) (([]:(List aN))))>>=fun U2=>(some (Out.ret (U2))))
def fD (x0:aG) (x2:Int) (bx:(List Int)) (ez:Int):Option (Out ((List Int)×Int) (aN)):=
 (bif decide (ez < x0.aA) then ((fits 8 (bx.length+1))>>=fun n81=>(some (Out.norm (bx++[x2],ai (ez+(1:Int)))))) else (some (Out.exit 0 (bx,ez))))
def fE (x0:aG) (x1:aG) (x2:Int) (ec:(List Int)) (ir:Int):Option (Out ((List Int)×Int) (aN)):=
 (bif decide (ir < (x0.aD.length:Int)) then ((idx x1.aJ (x2))>>=fun aa6=>((fits 8 (ec.length+1))>>=fun n131=>(some (Out.norm (ec++[aa6],ai (ir+(1:Int))))))) else (some (Out.exit 2 (ec,ir))))
def dP (x0:aG) (x1:aG) (x2:Int):Option (aN):=
 an (S:=Unit) (ag (ae 0 (ah (fun s=>fD x0 x2 s.1 s.2) (([]:(List Int)),(0:Int)))) (fun (bx,ez)=>(ag (ae 2 (ah (fun s=>fE x0 x1 x2 s.1 s.2) (([]:(List Int)),(0:Int)))) (fun (ec,ir)=>((gX x0 x1 bx ec)>>=fun aa7=>(some (Out.ret (aa7))))))))
def nH (x0:aG) (jg:(List Int)) (bh:Int):Option (Out ((List Int)×Int) (aN)):=
 (bif decide (bh < x0.aA) then ((fits 8 (jg.length+1))>>=fun n65=>(some (Out.norm (jg++[bh],ai (bh+(1:Int)))))) else (some (Out.exit 0 (jg,bh))))
def nI (x0:aG) (GP:(List Int)) (o9:Int):Option (Out ((List Int)×Int) (aN)):=
 (bif decide (o9 < (x0.aD.length:Int)) then ((fits 8 (GP.length+1))>>=fun n107=>(some (Out.norm (GP++[o9],ai (o9+(1:Int)))))) else (some (Out.exit 2 (GP,o9))))
def fZ (x0:aG):Option (aN):=
 an (S:=Unit) (ag (ae 0 (ah (fun s=>nH x0 s.1 s.2) (([]:(List Int)),(0:Int)))) (fun (jg,bh)=>(ag (ae 2 (ah (fun s=>nI x0 s.1 s.2) (([]:(List Int)),(0:Int)))) (fun (GP,o9)=>((gX x0 x0 jg GP)>>=fun aa8=>(some (Out.ret (aa8))))))))
def nJ (x0:aL) (x1:aG) (x2:Int) (x3:Int):Option (aN×aL):=
 an (S:=Unit) ((gW x0 (x2) (x3))>>=fun di=>((iI x1 di.1)>>=fun y77=>(bif y77 then ((kD x1 di.1)>>=fun U3=>(bif decide ((U3.length:Int) > (0:Int)) then ((bJ (aL.mk x0.Code di.2.At di.2.au) ((U3.length:Int)))>>=fun uP=>((idx U3 (uP.1))>>=fun vB=>(some (Out.ret ((vB,(aL.mk x0.Code uP.2.At uP.2.au))))))) else (bif decide (di.1.aA > (0:Int)) then ((bJ (aL.mk x0.Code di.2.At di.2.au) ((2:Int)))>>=fun GQ=>(bif (GQ.1) == ((0:Int)) then ((bJ (aL.mk x0.Code GQ.2.At GQ.2.au) (di.1.aA))>>=fun GJ=>((dP x1 di.1 (GJ.1))>>=fun OJ=>(some (Out.ret ((OJ,(aL.mk x0.Code GJ.2.At GJ.2.au))))))) else ((fZ x1)>>=fun aa9=>(some (Out.ret ((aa9,(aL.mk x0.Code GQ.2.At GQ.2.au)))))))) else ((fZ x1)>>=fun aba=>(some (Out.ret ((aba,(aL.mk x0.Code di.2.At di.2.au))))))))) else (bif decide (di.1.aA > (0:Int)) then ((bJ (aL.mk x0.Code di.2.At di.2.au) ((2:Int)))>>=fun GR=>(bif (GR.1) == ((0:Int)) then ((bJ (aL.mk x0.Code GR.2.At GR.2.au) (di.1.aA))>>=fun OK=>((dP x1 di.1 (OK.1))>>=fun abb=>(some (Out.ret ((abb,(aL.mk x0.Code OK.2.At OK.2.au))))))) else ((fZ x1)>>=fun abc=>(some (Out.ret ((abc,(aL.mk x0.Code GR.2.At GR.2.au)))))))) else ((fZ x1)>>=fun abd=>(some (Out.ret ((abd,(aL.mk x0.Code di.2.At di.2.au))))))))))
def nK (x0:aL) (x1:(List Int)):Option (Int×aL):=
 an (S:=Unit) ((bJ x0 ((x1.length:Int)))>>=fun y6=>((idx x1 (y6.1))>>=fun LZ=>(some (Out.ret ((LZ,(aL.mk x0.Code y6.2.At y6.2.au)))))))
def nL (x0:aL) (x1:aG):Option (aG×aL):=
 an (S:=Unit) ((iS x1)>>=fun di=>((bJ x0 ((di.aD.length:Int)))>>=fun vO=>((bJ (aL.mk x0.Code vO.2.At vO.2.au) ((8:Int)))>>=fun nq=>(bif (nq.1) == ((0:Int)) then ((nK (aL.mk x0.Code nq.2.At nq.2.au) ([ai (di.aA+(1:Int)),(-1:Int),(9:Int)]))>>=fun U4=>(some (Out.ret (((aG.mk U4.1 di.aD di.To di.aJ di.aB),(aL.mk x0.Code U4.2.At U4.2.au)))))) else (bif (nq.1) == ((1:Int)) then ((fits 8 (di.aD.length+1))>>=fun n120=>(some (Out.ret (((aG.mk di.aA (di.aD++[(0:Int)]) di.To di.aJ di.aB),(aL.mk x0.Code nq.2.At nq.2.au)))))) else (bif (nq.1) == ((2:Int)) then (bif decide ((di.aJ.length:Int) > (0:Int)) then ((bJ (aL.mk x0.Code nq.2.At nq.2.au) (ai ((di.aD.length:Int)+(1:Int))))>>=fun GS=>((idx di.aJ ((0:Int)))>>=fun al1=>(some (Out.ret (((aG.mk di.aA di.aD di.To (di.aJ.set ((0:Int)).toNat (GS.1)) di.aB),(aL.mk x0.Code GS.2.At GS.2.au))))))) else (some (Out.ret ((di,(aL.mk x0.Code nq.2.At nq.2.au)))))) else (bif (nq.1) == ((3:Int)) then (bif decide ((di.aD.length:Int) > (0:Int)) then ((idx di.aB (vO.1))>>=fun U5=>((bJ (aL.mk x0.Code nq.2.At nq.2.au) ((di.aD.length:Int)))>>=fun J4=>((bJ (aL.mk x0.Code J4.2.At J4.2.au) (ai ((di.aD.length:Int)+(1:Int))))>>=fun OL=>((idx U5 (J4.1))>>=fun al2=>(some (Out.ret (((aG.mk di.aA di.aD di.To di.aJ (di.aB.set (vO.1).toNat (U5.set (J4.1).toNat (ai (OL.1 - (1:Int)))))),(aL.mk x0.Code OL.2.At OL.2.au))))))))) else (some (Out.ret ((di,(aL.mk x0.Code nq.2.At nq.2.au)))))) else (bif (nq.1) == ((4:Int)) then (bif decide ((di.aD.length:Int) > (0:Int)) then ((idx di.aB (vO.1))>>=fun U6=>((bJ (aL.mk x0.Code nq.2.At nq.2.au) ((di.aD.length:Int)))>>=fun J5=>((bJ (aL.mk x0.Code J5.2.At J5.2.au) (ai ((di.aD.length:Int)+(1:Int))))>>=fun ON=>((idx U6 (J5.1))>>=fun al3=>(some (Out.ret (((aG.mk di.aA di.aD di.To di.aJ (di.aB.set (vO.1).toNat (U6.set (J5.1).toNat (ai (ON.1 - (1:Int)))))),(aL.mk x0.Code ON.2.At ON.2.au))))))))) else (some (Out.ret ((di,(aL.mk x0.Code nq.2.At nq.2.au)))))) else (bif (nq.1) == ((5:Int)) then (bif decide ((di.aD.length:Int) > (0:Int)) then ((idx di.aB (vO.1))>>=fun U7=>((bJ (aL.mk x0.Code nq.2.At nq.2.au) ((di.aD.length:Int)))>>=fun J6=>((bJ (aL.mk x0.Code J6.2.At J6.2.au) (ai ((di.aD.length:Int)+(1:Int))))>>=fun OP=>((idx U7 (J6.1))>>=fun al4=>(some (Out.ret (((aG.mk di.aA di.aD di.To di.aJ (di.aB.set (vO.1).toNat (U7.set (J6.1).toNat (ai (OP.1 - (1:Int)))))),(aL.mk x0.Code OP.2.At OP.2.au))))))))) else (some (Out.ret ((di,(aL.mk x0.Code nq.2.At nq.2.au)))))) else (bif (nq.1) == ((6:Int)) then (bif decide ((di.aD.length:Int) > (0:Int)) then ((bJ (aL.mk x0.Code nq.2.At nq.2.au) (ai (di.aA+(1:Int))))>>=fun OQ=>((idx di.To (vO.1))>>=fun UN=>(some (Out.ret (((aG.mk di.aA di.aD (di.To.set (vO.1).toNat (OQ.1)) di.aJ di.aB),(aL.mk x0.Code OQ.2.At OQ.2.au))))))) else (some (Out.ret ((di,(aL.mk x0.Code nq.2.At nq.2.au)))))) else (bif decide ((di.aD.length:Int) > (0:Int)) then ((idx di.aB (vO.1))>>=fun abe=>((tl abe ((1:Int)))>>=fun abf=>((idx di.aB (vO.1))>>=fun al5=>(some (Out.ret (((aG.mk di.aA di.aD di.To di.aJ (di.aB.set (vO.1).toNat abf)),(aL.mk x0.Code nq.2.At nq.2.au)))))))) else (some (Out.ret ((di,(aL.mk x0.Code nq.2.At nq.2.au))))))))))))))))
def nM (x0:aL):Option (aN×aL):=
 an (S:=Unit) ((gW x0 ((4:Int)) ((10:Int)))>>=fun cw=>((nJ (aL.mk x0.Code cw.2.At cw.2.au) cw.1 ((4:Int)) ((12:Int)))>>=fun sP=>((bJ (aL.mk x0.Code sP.2.At sP.2.au) ((30:Int)))>>=fun uS=>(bif (uS.1) == ((0:Int)) then ((nL (aL.mk x0.Code uS.2.At uS.2.au) sP.1.aH)>>=fun OR=>(some (Out.ret (((aN.mk OR.1 sP.1.aI sP.1.aA sP.1.aj),(aL.mk x0.Code OR.2.At OR.2.au)))))) else (bif (uS.1) == ((1:Int)) then (bif decide ((sP.1.aj.length:Int) > (0:Int)) then ((bJ (aL.mk x0.Code uS.2.At uS.2.au) ((sP.1.aj.length:Int)))>>=fun Cf=>((bJ (aL.mk x0.Code Cf.2.At Cf.2.au) (ai ((sP.1.aI.aD.length:Int)+(1:Int))))>>=fun uR=>((idx sP.1.aj (Cf.1))>>=fun al6=>(some (Out.ret (((aN.mk sP.1.aH sP.1.aI sP.1.aA (sP.1.aj.set (Cf.1).toNat (uR.1))),(aL.mk x0.Code uR.2.At uR.2.au)))))))) else (some (Out.ret ((sP.1,(aL.mk x0.Code uS.2.At uS.2.au)))))) else (bif (uS.1) == ((2:Int)) then ((fits 8 (sP.1.aA.length+1))>>=fun aam=>(some (Out.ret (((aN.mk sP.1.aH sP.1.aI (sP.1.aA++[(0:Int)]) sP.1.aj),(aL.mk x0.Code uS.2.At uS.2.au)))))) else (some (Out.ret ((sP.1,(aL.mk x0.Code uS.2.At uS.2.au)))))))))))
def lX:Option (aG):=
 an (S:=Unit) ((cK [[(1:Int)]])>>=fun tz=>(some (Out.ret (tz))))
def mB (x0:aL):Option (aG×aL):=
 an (S:=Unit) ((bJ x0 ((9:Int)))>>=fun cw=>(bif (cw.1) == ((0:Int)) then ((cK (([]:(List (List Int)))))>>=fun vN=>(some (Out.ret ((vN,(aL.mk x0.Code cw.2.At cw.2.au)))))) else (bif (cw.1) == ((1:Int)) then ((lX)>>=fun GC=>(some (Out.ret ((GC,(aL.mk x0.Code cw.2.At cw.2.au)))))) else (bif (cw.1) == ((2:Int)) then ((cK [[(1:Int),(0:Int)],[(0:Int),(1:Int)]])>>=fun abg=>(some (Out.ret ((abg,(aL.mk x0.Code cw.2.At cw.2.au)))))) else (bif (cw.1) == ((3:Int)) then ((dR ((2:Int)) [(0:Int),(0:Int)] [(1:Int),(1:Int)])>>=fun abh=>(some (Out.ret ((abh,(aL.mk x0.Code cw.2.At cw.2.au)))))) else (bif (cw.1) == ((4:Int)) then ((cK [[(1:Int),(1:Int),(1:Int)],[(0:Int),(1:Int),(0:Int)],[(0:Int),(0:Int),(1:Int)]])>>=fun abi=>((fV abi)>>=fun abj=>(some (Out.ret ((abj,(aL.mk x0.Code cw.2.At cw.2.au))))))) else (bif (cw.1) == ((5:Int)) then ((cK [[(1:Int),(1:Int),(1:Int)],[(0:Int),(1:Int),(0:Int)],[(0:Int),(0:Int),(1:Int)]])>>=fun OH=>(some (Out.ret ((OH,(aL.mk x0.Code cw.2.At cw.2.au)))))) else (bif (cw.1) == ((6:Int)) then ((fI (aL.mk x0.Code cw.2.At cw.2.au))>>=fun OS=>((fJ OS.1)>>=fun abk=>(some (Out.ret ((abk,(aL.mk x0.Code OS.2.At OS.2.au))))))) else (bif (cw.1) == ((7:Int)) then ((cK [[(1:Int),(1:Int)],[(0:Int),(1:Int)]])>>=fun abl=>(some (Out.ret ((abl,(aL.mk x0.Code cw.2.At cw.2.au)))))) else ((gW (aL.mk x0.Code cw.2.At cw.2.au) ((3:Int)) ((5:Int)))>>=fun OT=>(some (Out.ret ((OT.1,(aL.mk x0.Code OT.2.At OT.2.au)))))))))))))))
def lB (x0:aL):Option (aG×aL):=
 an (S:=Unit) ((bJ x0 ((6:Int)))>>=fun cw=>(bif (cw.1) == ((0:Int)) then ((cK [[(1:Int),(1:Int),(1:Int),(1:Int)],[(0:Int),(1:Int),(0:Int),(1:Int)],[(0:Int),(0:Int),(1:Int),(1:Int)],[(0:Int),(0:Int),(0:Int),(1:Int)]])>>=fun U8=>(some (Out.ret ((U8,(aL.mk x0.Code cw.2.At cw.2.au)))))) else (bif (cw.1) == ((1:Int)) then ((cK [[(1:Int),(1:Int),(1:Int)],[(0:Int),(1:Int),(1:Int)],[(0:Int),(0:Int),(1:Int)]])>>=fun GD=>(some (Out.ret ((GD,(aL.mk x0.Code cw.2.At cw.2.au)))))) else (bif (cw.1) == ((2:Int)) then ((jT)>>=fun OJ=>(some (Out.ret ((OJ,(aL.mk x0.Code cw.2.At cw.2.au)))))) else ((gW (aL.mk x0.Code cw.2.At cw.2.au) ((4:Int)) ((12:Int)))>>=fun OU=>(some (Out.ret ((OU.1,(aL.mk x0.Code OU.2.At OU.2.au))))))))))
def kP (x0:aL) (jg:Int) (j5:Int) (j6:Int):Option (Out (Int×Int×Int) (aN×aL)):=
 (bif decide (jg < (8:Int)) then ((mB (aL.mk x0.Code j5 j6))>>=fun tz=>((lB (aL.mk x0.Code tz.2.At tz.2.au))>>=fun EC=>((iI tz.1 EC.1)>>=fun abm=>(bif abm then ((kD tz.1 EC.1)>>=fun OV=>(bif decide ((OV.length:Int) > (0:Int)) then ((bJ (aL.mk x0.Code EC.2.At EC.2.au) ((OV.length:Int)))>>=fun OX=>((idx OV (OX.1))>>=fun abn=>(some (Out.ret ((abn,(aL.mk x0.Code OX.2.At OX.2.au))))))) else (some (Out.norm (ai (jg+(1:Int)),EC.2.At,EC.2.au))))) else (some (Out.norm (ai (jg+(1:Int)),EC.2.At,EC.2.au))))))) else (some (Out.exit 0 (jg,j5,j6))))
def kI (x0:aL):Option (aN×aL):=
 an (S:=Unit) (ag (ae 0 (ah (fun s=>kP x0 s.1 s.2.1 s.2.2) ((0:Int),x0.At,x0.au))) (fun (jg,j5,j6)=>((lX)>>=fun abo=>((fZ abo)>>=fun abp=>(some (Out.ret ((abp,(aL.mk x0.Code j5 j6)))))))))
def kQ (x0:aL):Option (aN×aL):=
 an (S:=Unit) ((bJ x0 ((16:Int)))>>=fun cw=>(bif (cw.1) == ((0:Int)) then ((nM (aL.mk x0.Code cw.2.At cw.2.au))>>=fun xc=>(some (Out.ret ((xc.1,(aL.mk x0.Code xc.2.At xc.2.au)))))) else ((kI (aL.mk x0.Code cw.2.At cw.2.au))>>=fun OY=>(some (Out.ret ((OY.1,(aL.mk x0.Code OY.2.At OY.2.au))))))))
def iL (x0:(List Int)):Option (aN):=
 an (S:=Unit) ((nD x0)>>=fun y8=>(match y8 with | none=>none | some m15=>((kQ (aL.mk x0 m15.At m15.au))>>=fun QB=>(some (Out.ret (QB.1))))))
def cL (x0:aG):Option (Int):=
 an (S:=Unit) (some (Out.ret (((x0.aD.length:Int)))))
def eB (x0:Int) (x1:Int) (x2:Int):Option (Bool):=
 an (S:=Unit) (((bif decide (x0 ≥ x1) then (some (decide (x0≤x2))) else (some (false))))>>=fun g3=>(some (Out.ret (g3))))
def gQ (x0:(List Int)) (x1:Int) (ez:Int):Option (Out (Int) (Bool)):=
 (bif decide (ez < (x0.length:Int)) then ((idx x0 (ez))>>=fun e9=>((eB (e9) ((0:Int)) (ai (x1 - (1:Int))))>>=fun AU=>(bif !(AU) then (some (Out.ret (false))) else (some (Out.norm (ai (ez+(1:Int)))))))) else (some (Out.exit 0 (ez))))
def eE (x0:(List Int)) (x1:Int):Option (Bool):=
 an (S:=Unit) (ag (ae 0 (ah (gQ x0 x1) ((0:Int)))) (fun ez=>(some (Out.ret (true)))))
def dN (x0:aG) (x1:Int):Option (qM):=
 an (S:=Unit) ((idx x0.aD (x1))>>=fun e8=>((idx x0.To (x1))>>=fun Ma=>(some (Out.ret ((qM.mk e8 Ma))))))
def eU (x0:aG) (zH:Int):Option (Out (Int) (Bool)):=
 (bif decide (zH < (x0.aJ.length:Int)) then ((idx x0.aJ (zH))>>=fun GU=>((dN x0 (GU))>>=fun QC=>(bif !((QC.aD) == (zH) && (QC.To) == (zH)) then (some (Out.ret (false))) else (some (Out.norm (ai (zH+(1:Int)))))))) else (some (Out.exit 0 (zH))))
def eV (x0:aG) (y3:Int) (ud:Int) (GV:(List Int)) (vi:Int):Option (Out (Int) (Bool)):=
 (bif decide (vi < (GV.length:Int)) then ((idx GV (vi))>>=fun Da=>((idx x0.To (ud))>>=fun U9=>((idx x0.aD (vi))>>=fun Va=>(bif (U9) != (Va) then (bif (Da) != ((-1:Int)) then (some (Out.ret (false))) else (some (Out.norm (ai (vi+(1:Int)))))) else ((((eB (Da) ((0:Int)) (ai (y3 - (1:Int))))>>=fun abq=>(bif !(abq) then (some (true)) else ((dN x0 (Da))>>=fun Vb=>((idx x0.aD (ud))>>=fun J3=>((idx x0.To (vi))>>=fun vB=>(some (!((Vb.aD) == (J3) && (Vb.To) == (vB))))))))))>>=fun g99=>(bif g99 then (some (Out.ret (false))) else (some (Out.norm (ai (vi+(1:Int))))))))))) else (some (Out.exit 4 (vi))))
def gY (x0:aG) (y3:Int) (ud:Int):Option (Out (Int) (Bool)):=
 (bif decide (ud < (x0.aB.length:Int)) then ((idx x0.aB (ud))>>=fun GV=>(bif ((GV.length:Int)) != (y3) then (some (Out.ret (false))) else (ag (ae 4 (ah (eV x0 y3 ud GV) ((0:Int)))) (fun vi=>(some (Out.norm (ai (ud+(1:Int))))))))) else (some (Out.exit 2 (ud))))
def gE (x0:aG):Option (Bool):=
 an (S:=Unit) ((cL x0)>>=fun y3=>((((eB (x0.aA) ((0:Int)) ((8:Int)))>>=fun y9=>(bif !(y9) then (some (true)) else (bif decide (y3 > (40:Int)) then (some (true)) else (bif ((x0.To.length:Int)) != (y3) then (some (true)) else ((eE x0.aD (x0.aA))>>=fun Vc=>(bif !(Vc) then (some (true)) else ((eE x0.To (x0.aA))>>=fun xc=>(some (!(xc)))))))))))>>=fun g7=>(bif g7 then (some (Out.ret (false))) else (((bif ((x0.aJ.length:Int)) != (x0.aA) then (some (true)) else ((eE x0.aJ (y3))>>=fun vN=>(bif !(vN) then (some (true)) else (some (((x0.aB.length:Int)) != (y3)))))))>>=fun g24=>(bif g24 then (some (Out.ret (false))) else (ag (ae 0 (ah (eU x0) ((0:Int)))) (fun zH=>(ag (ae 2 (ah (gY x0 y3) ((0:Int)))) (fun ud=>(some (Out.ret (true))))))))))))
def cI (x0:aG) (x1:Int) (x2:Int):Option (Int):=
 an (S:=Unit) ((idx x0.aB (x1))>>=fun e3=>((idx e3 (x2))>>=fun Ma=>(some (Out.ret (Ma)))))
def fX (x0:aG) (y3:Int) (bx:Int):Option (Out (Int) (Int×Int×Int×Int)):=
 (bif decide (bx < y3) then ((((idx x0.aD (bx))>>=fun Me=>((idx x0.aJ (Me))>>=fun e17=>((cI x0 (e17) (bx))>>=fun ED=>(bif (ED) != (bx) then (some (true)) else ((idx x0.To (bx))>>=fun GA=>((idx x0.aJ (GA))>>=fun QD=>((cI x0 (bx) (QD))>>=fun yF=>(some ((yF) != (bx)))))))))))>>=fun g13=>(bif g13 then (some (Out.ret ((((1:Int)),bx,((0:Int)),((0:Int)))))) else (some (Out.norm (ai (bx+(1:Int))))))) else (some (Out.exit 0 (bx))))
def eG (x0:aG) (y3:Int) (ec:Int) (du:Int) (gp:Int):Option (Out (Int) (Int×Int×Int×Int)):=
 (bif decide (gp < y3) then ((((cI x0 (du) (gp))>>=fun Vd=>(bif decide (Vd ≥ (0:Int)) then ((cI x0 (ec) (du))>>=fun y66=>((cI x0 (y66) (gp))>>=fun y68=>((cI x0 (du) (gp))>>=fun y70=>((cI x0 (ec) (y70))>>=fun y72=>(some ((y68) != (y72))))))) else (some (false)))))>>=fun g61=>(bif g61 then (some (Out.ret ((((2:Int)),ec,du,gp)))) else (some (Out.norm (ai (gp+(1:Int))))))) else (some (Out.exit 6 (gp))))
def eH (x0:aG) (y3:Int) (ec:Int) (du:Int):Option (Out (Int) (Int×Int×Int×Int)):=
 (bif decide (du < y3) then ((cI x0 (ec) (du))>>=fun IE=>(bif decide (IE < (0:Int)) then (some (Out.norm (ai (du+(1:Int))))) else (ag (ae 6 (ah (eG x0 y3 ec du) ((0:Int)))) (fun gp=>(some (Out.norm (ai (du+(1:Int))))))))) else (some (Out.exit 4 (du))))
def iU (x0:aG) (y3:Int) (ec:Int):Option (Out (Int) (Int×Int×Int×Int)):=
 (bif decide (ec < y3) then (ag (ae 4 (ah (eH x0 y3 ec) ((0:Int)))) (fun du=>(some (Out.norm (ai (ec+(1:Int))))))) else (some (Out.exit 2 (ec))))
def iD (x0:aG):Option (Int×Int×Int×Int):=
 an (S:=Unit) ((cL x0)>>=fun y3=>(ag (ae 0 (ah (fX x0 y3) ((0:Int)))) (fun bx=>(ag (ae 2 (ah (iU x0 y3) ((0:Int)))) (fun ec=>(some (Out.ret ((((0:Int)),((0:Int)),((0:Int)),((0:Int)))))))))))
def eW (x0:aG):Option (Bool):=
 an (S:=Unit) ((gE x0)>>=fun y3=>(bif !(y3) then (some (Out.ret (false))) else ((iD x0)>>=fun cw=>(some (Out.ret (((cw.1) == ((0:Int)))))))))
def gF (x0:(List aG)) (bx:Int):Option (Out (Int) (Bool)):=
 (bif decide (bx < (x0.length:Int)) then ((idx x0 (bx))>>=fun e9=>((eW e9)>>=fun di=>(bif !(di) then (some (Out.ret (false))) else (some (Out.norm (ai (bx+(1:Int)))))))) else (some (Out.exit 0 (bx))))
def iM (x0:(List aG)):Option (Bool):=
 an (S:=Unit) (ag (ae 0 (ah (gF x0) ((0:Int)))) (fun bx=>(some (Out.ret (true)))))
def jN (x0:aN) (zI:Int):Option (Out (Int) (Bool)):=
 (bif decide (zI < (x0.aj.length:Int)) then ((idx x0.aj (zI))>>=fun GB=>((((idx x0.aI.aD (GB))>>=fun Mf=>((idx x0.aH.aD (zI))>>=fun GW=>((idx x0.aA (GW))>>=fun GU=>(bif (Mf) != (GU) then (some (true)) else ((idx x0.aI.To (GB))>>=fun Dd=>((idx x0.aH.To (zI))>>=fun C5=>((idx x0.aA (C5))>>=fun Mg=>(some ((Dd) != (Mg)))))))))))>>=fun g35=>(bif g35 then (some (Out.ret (false))) else (some (Out.norm (ai (zI+(1:Int)))))))) else (some (Out.exit 0 (zI))))
def jO (x0:aN) (yI:Int):Option (Out (Int) (Bool)):=
 (bif decide (yI < (x0.aH.aJ.length:Int)) then ((idx x0.aH.aJ (yI))>>=fun e64=>((idx x0.aj (e64))>>=fun Mh=>((idx x0.aA (yI))>>=fun Ve=>((idx x0.aI.aJ (Ve))>>=fun BU=>(bif (Mh) != (BU) then (some (Out.ret (false))) else (some (Out.norm (ai (yI+(1:Int)))))))))) else (some (Out.exit 2 (yI))))
def jP (x0:aN) (vj:Int) (Ae:(List Int)) (yJ:Int):Option (Out (Int) (Bool)):=
 (bif decide (yJ < (Ae.length:Int)) then ((idx Ae (yJ))>>=fun J7=>(((bif decide (J7 ≥ (0:Int)) then ((idx x0.aj (J7))>>=fun GF=>((idx x0.aj (vj))>>=fun OZ=>((idx x0.aj (yJ))>>=fun Oz=>((cI x0.aI (OZ) (Oz))>>=fun abr=>(some ((GF) != (abr))))))) else (some (false))))>>=fun abt=>(bif abt then (some (Out.ret (false))) else (some (Out.norm (ai (yJ+(1:Int)))))))) else (some (Out.exit 6 (yJ))))
def jQ (x0:aN) (vj:Int):Option (Out (Int) (Bool)):=
 (bif decide (vj < (x0.aH.aB.length:Int)) then ((idx x0.aH.aB (vj))>>=fun Ae=>(ag (ae 6 (ah (jP x0 vj Ae) ((0:Int)))) (fun yJ=>(some (Out.norm (ai (vj+(1:Int)))))))) else (some (Out.exit 4 (vj))))
def iX (x0:aN):Option (Bool):=
 an (S:=Unit) (((bif ((x0.aA.length:Int)) != (x0.aH.aA) then (some (true)) else ((cL x0.aH)>>=fun cw=>(bif ((x0.aj.length:Int)) != (cw) then (some (true)) else ((eE x0.aA (x0.aI.aA))>>=fun AU=>(bif !(AU) then (some (true)) else ((cL x0.aI)>>=fun r3=>((eE x0.aj (r3))>>=fun tz=>(some (!(tz)))))))))))>>=fun g7=>(bif g7 then (some (Out.ret (false))) else (ag (ae 0 (ah (jN x0) ((0:Int)))) (fun zI=>(ag (ae 2 (ah (jO x0) ((0:Int)))) (fun yI=>(ag (ae 4 (ah (jQ x0) ((0:Int)))) (fun vj=>(some (Out.ret (true)))))))))))
def dC (x0:aN):Option (Bool):=
 an (S:=Unit) ((((iM [x0.aH,x0.aI])>>=fun Vc=>(bif Vc then ((iX x0)>>=fun xc=>(some (xc))) else (some (false)))))>>=fun g12=>(some (Out.ret (g12))))
def dT (x0:(List Int)):Option ((List Int)):=
 an (S:=Unit) ((fits 8 ((([]:(List Int))).length+x0.length))>>=fun n15=>(some (Out.ret ((([]:(List Int))++x0)))))
def dU (x0:Int) (x1:Int) (x2:aG):Option (Int):=
 an (S:=Unit) ((cI x2 (x1) (x0))>>=fun y3=>(some (Out.ret (y3))))
def iV (x0:aG) (x1:(Int→Int→Option (Int))) (qt:Int) (C9:(List Int)) (sA:Int) (xd:(List (List Int))):Option (Out (Int×(List (List Int))) (aG)):=
 (bif decide (sA < (C9.length:Int)) then ((idx xd (qt))>>=fun BU=>((idx BU (sA))>>=fun IG=>((idx x0.To (qt))>>=fun Qv=>((idx x0.aD (sA))>>=fun Ag=>(bif (Qv) == (Ag) then ((idx (xd.set (qt).toNat (BU.set (sA).toNat ((-1:Int)))) (qt))>>=fun DO=>((x1 (qt) (sA))>>=fun abu=>((idx DO (sA))>>=fun aaW=>(some (Out.norm (ai (sA+(1:Int)),(xd.set (qt).toNat (BU.set (sA).toNat ((-1:Int)))).set (qt).toNat (DO.set (sA).toNat (abu)))))))) else (some (Out.norm (ai (sA+(1:Int)),xd.set (qt).toNat (BU.set (sA).toNat ((-1:Int))))))))))) else (some (Out.exit 2 (sA,xd))))
def eI (x0:aG) (x1:(Int→Int→Option (Int))) (y7:Int) (n11:Nat) (qt:Int) (yK:(List (List Int))):Option (Out (Int×(List (List Int))) (aG)):=
 (bif decide (qt < ((List.replicate n11 ([]:(List Int))).length:Int)) then ((mk 8 (y7))>>=fun n35=>((idx yK (qt))>>=fun IH=>((idx (yK.set (qt).toNat (List.replicate n35 (0:Int))) (qt))>>=fun C9=>(ag (ae 2 (ah (fun s=>iV x0 x1 qt C9 s.1 s.2) ((0:Int),yK.set (qt).toNat (List.replicate n35 (0:Int))))) (fun (sA,xd)=>(some (Out.norm (ai (qt+(1:Int)),xd)))))))) else (some (Out.exit 0 (qt,yK))))
def fF (x0:aG) (x1:(Int→Int→Option (Int))):Option (aG):=
 DD (R:=(aG)) ((cL x0)>>=fun y7=>((mk 24 (y7))>>=fun n11=>(ag (ae 0 (ah (fun s=>eI x0 x1 y7 n11 s.1 s.2) ((0:Int),List.replicate n11 ([]:(List Int))))) (fun (qt,yK)=>(some (Out.norm ((aG.mk x0.aA x0.aD x0.To x0.aJ yK))))))))
def jW (x0:aG):Option (aG):=
 an (S:=Unit) ((dT x0.To)>>=fun lh=>((dT x0.aD)>>=fun C7=>((dT x0.aJ)>>=fun IE=>((fF (aG.mk x0.aA lh C7 IE (([]:(List (List Int))))) (fun a0 a1=>dU (a0) (a1) x0))>>=fun vO=>(some (Out.ret ((aG.mk vO.aA lh C7 IE vO.aB))))))))
def jF (x0:(List (List Int))) (jg:(List (List Int))) (jy:Int):Option (Out ((List (List Int))×Int) ((List (List Int)))):=
 (bif decide (jy < (x0.length:Int)) then ((idx x0 (jy))>>=fun Vf=>((dT Vf)>>=fun U8=>((fits 24 (jg.length+1))>>=fun n53=>(some (Out.norm (jg++[U8],ai (jy+(1:Int)))))))) else (some (Out.exit 0 (jg,jy))))
def oR (x0:(List (List Int))):Option ((List (List Int))):=
 an (S:=Unit) ((mk 24 ((x0.length:Int)))>>=fun n3=>(ag (ae 0 (ah (fun s=>jF x0 s.1 s.2) (([]:(List (List Int))),(0:Int)))) (fun (jg,jy)=>(some (Out.ret (jg))))))
def gA (x0:aG):Option (aG):=
 an (S:=Unit) ((dT x0.aD)>>=fun y8=>((dT x0.To)>>=fun xc=>((dT x0.aJ)>>=fun vN=>((oR x0.aB)>>=fun QF=>(some (Out.ret ((aG.mk x0.aA y8 xc vN QF))))))))
def nN (x0:aG) (x1:aG) (x2:(List Int)) (x3:(List Int)):Option (aN):=
 an (S:=Unit) ((gA x0)>>=fun y8=>((gA x1)>>=fun Md=>((dT x2)>>=fun Vg=>((dT x3)>>=fun GD=>(some (Out.ret ((aN.mk y8 Md Vg GD))))))))
def eN (x0:aN):Option (aN):=
 an (S:=Unit) ((jW x0.aH)>>=fun y9=>((jW x0.aI)>>=fun L7=>((nN y9 L7 x0.aA x0.aj)>>=fun abv=>(some (Out.ret (abv))))))
def fU (x0:aN):Option aN:=
 an (S:=Unit) ((eN x0)>>=fun y5=>(some (Out.ret (y5))))
def dD:Option Unit:=
 an (S:=Unit) (some (Out.ret ()))
def pS:Option Unit:=
 an (S:=Unit) (some (Out.ret ()))
def dK (x0:List Int) (x1:List bD) (x2:Int):Option (Bool×List bD):=
 an (S:=Unit) ((dT x0)>>=fun y8=>((fits 32 (x1.length+1))>>=fun n11=>(some (Out.ret (decide (((x1++[bD.mk x2 y8]).length:Int)≤(400:Int)),x1++[bD.mk x2 y8])))))
def eX (x0:aG) (x1:Int) (x2:Int) (bx:(List Int)) (xR:Int):Option (Out ((List Int)×Int) ((List Int))):=
 (bif decide (xR < (x0.aD.length:Int)) then ((((idx x0.aD (xR))>>=fun GA=>(bif (GA) == (x1) then ((idx x0.To (xR))>>=fun Qx=>(some ((Qx) == (x2)))) else (some (false)))))>>=fun g20=>(bif g20 then ((fits 8 (bx.length+1))>>=fun n44=>(some (Out.norm (bx++[xR],ai (xR+(1:Int)))))) else (some (Out.norm (bx,ai (xR+(1:Int))))))) else (some (Out.exit 0 (bx,xR))))
def gK (x0:aG) (x1:Int) (x2:Int):Option ((List Int)):=
 an (S:=Unit) (ag (ae 0 (ah (fun s=>eX x0 x1 x2 s.1 s.2) (([]:(List Int)),(0:Int)))) (fun (bx,xR)=>(some (Out.ret (bx)))))
def lC {ρ:Type} (x0:aN) (x:Int) (cs:List Int) (s:Int):Option (Out Int ρ):=
 (bif decide (s < (x0.aj.length:Int)) then ((idx x0.aj (s))>>=fun Qu=>((idx x0.aH.aD (s))>>=fun Mi=>((idx x0.aH.To (s))>>=fun Mj=>((bif (if Mj > Mi then Mj else Mi) == (x) then ((idx cs (Mi))>>=fun Vh=>((cI x0.aI (Vh) (Qu))>>=fun y80=>((idx cs (Mj))>>=fun Vi=>(some ((y80) != (Vi)))))) else (some (false)))>>=fun Vj=>(bif Vj then (some (Out.exit 1 s)) else (some (Out.norm (ai (s+(1:Int)))))))))) else (some (Out.exit 2 s)))
def jG {σ:Type} (rc:Int→List Int→σ→Option (Bool×List Int×σ)) (x0:aN) (x:Int) (l:List Int) (s:Int×List Int×σ):Option (Out (Int×List Int×σ) (Bool×List Int×σ)):=
 (bif decide (s.1 < (l.length:Int)) then ((idx l (s.1))>>=fun GW=>((idx s.2.1 (x))>>=fun _=>(Ev 2 1 (ah (fun s2=>lC x0 x (s.2.1.set (x).toNat (GW)) s2) (0:Int)) (fun _=>((rc (ai (x+(1:Int))) (s.2.1.set (x).toNat (GW)) s.2.2)>>=fun Mk=>(bif !(Mk.1) then (some (Out.ret (false,Mk.2.1,Mk.2.2))) else (some (Out.norm (ai (s.1+(1:Int)),Mk.2.1,Mk.2.2)))))) (fun _=>(some (Out.norm (ai (s.1+(1:Int)),s.2.1.set (x).toNat (GW),s.2.2))))))) else (some (Out.exit 0 s)))
def mC {σ:Type} (fo:List Int→σ→Option (Bool×σ)) (x0:aN) (xa:Int) (rc:Int→List Int→σ→Option (Bool×List Int×σ)) (x:Int) (cs:List Int) (st:σ):Option (Bool×List Int×σ):=
 an (S:=Unit) (bif (x) == (x0.aH.aA) then ((fo cs st)>>=fun QB=>(some (Out.ret (QB.1,cs,QB.2)))) else ((idx x0.aA (x))>>=fun Mc=>((gK x0.aI (xa) (Mc))>>=fun y34=>(ag (ae 0 (ah (fun s=>jG rc x0 x y34 s) ((0:Int),cs,st))) (fun s=>(some (Out.ret (true,s.2.1,s.2.2))))))))
def eJ {σ:Type} (fo:List Int→σ→Option (Bool×σ)) (x0:aN) (xa:Int):Nat→Int→List Int→σ→Option (Bool×List Int×σ)
 | 0=>fun _ _ _=>none
 | n+1=>mC fo x0 xa (eJ fo x0 xa n)
def pJ {σ:Type} (fo:List Int→σ→Option (Bool×σ)) (x0:aN) (xa:Int) (st:σ):Option (Bool×σ):=
 an (S:=Unit) ((mk 8 (x0.aA.length:Int))>>=fun n22=>((eJ fo x0 xa 64 (0:Int) (List.replicate n22 (0:Int)) st)>>=fun lh=>(some (Out.ret (lh.1,lh.2.2)))))
def mP (x0:aN) (s:Int×List bD):Option (Out (Int×List bD) (List bD×Bool)):=
 (bif decide (s.1 < (x0.aI.aA)) then ((pJ (fun a0 a1=>dK a0 a1 s.1) x0 (s.1) s.2)>>=fun IF=>(bif !(IF.1) then (some (Out.ret (([]:List bD),false))) else (some (Out.norm (ai (s.1+(1:Int)),IF.2))))) else (some (Out.exit 0 s)))
def iJ (x0:aN):Option (List bD×Bool):=
 an (S:=Unit) (ag (ae 0 (ah (fun s=>mP x0 s) ((0:Int),([]:List bD)))) (fun s=>(some (Out.ret (s.2,true)))))
def mQ (x0:aN) (x1 x2:bD) (u:Int) (s:Int):Option (Out Int (List Int)):=
 (bif decide (s < (x2.cf.length:Int)) then ((idx x2.cf (s))>>=fun UY=>((cI x0.aI (u) (UY))>>=fun Af=>((idx x1.cf (s))>>=fun Dd=>(bif (Af) != (Dd) then (some (Out.exit 1 s)) else (some (Out.norm (ai (s+(1:Int))))))))) else (some (Out.exit 2 s)))
def gZ (x0:aN) (x1 x2:bD) (l:List Int) (s:List Int×Int):Option (Out (List Int×Int) (List Int)):=
 (bif decide (s.2 < (l.length:Int)) then ((idx l (s.2))>>=fun EB=>(Ev 2 1 (ah (fun s2=>mQ x0 x1 x2 EB s2) (0:Int)) (fun _=>((fits 8 (s.1.length+1))>>=fun n50=>(some (Out.norm (s.1++[EB],ai (s.2+(1:Int))))))) (fun _=>(some (Out.norm (s.1,ai (s.2+(1:Int)))))))) else (some (Out.exit 0 s)))
def jX (x0:aN) (x1 x2:bD):Option (List Int):=
 an (S:=Unit) ((gK x0.aI (x1.ef) (x2.ef))>>=fun QG=>(ag (ae 0 (ah (fun s=>gZ x0 x1 x2 QG s) (([]:List Int),(0:Int)))) (fun s=>(some (Out.ret (s.1))))))
def iE (x0:aN) (x1:(List bD)) (x2:bD) (jy:Int):Option (Out (Int) (Bool)):=
 (bif decide (jy < (x1.length:Int)) then ((idx x1 (jy))>>=fun wU=>((jX x0 wU x2)>>=fun II=>(bif ((II.length:Int)) != ((1:Int)) then (some (Out.ret (false))) else (some (Out.norm (ai (jy+(1:Int)))))))) else (some (Out.exit 0 (jy))))
def hJ (x0:aN) (x1:(List bD)) (x2:bD):Option (Bool):=
 an (S:=Unit) (ag (ae 0 (ah (iE x0 x1 x2) ((0:Int)))) (fun jy=>(some (Out.ret (true)))))
def jH (x0:aN) (x1:Int) (l:List bD) (s:List bD×Int):Option (Out (List bD×Int) (List bD×Bool)):=
 (bif decide (s.2 < (l.length:Int)) then ((idx l (s.2))>>=fun QD=>((bif decide ((s.1.length:Int) < (x1)) then ((hJ x0 l QD)>>=fun U2=>(some (U2))) else (some (false)))>>=fun g29=>(bif g29 then ((fits 32 (s.1.length+1))>>=fun n38=>(some (Out.norm (s.1++[QD],ai (s.2+(1:Int)))))) else (some (Out.norm (s.1,ai (s.2+(1:Int)))))))) else (some (Out.exit 0 s)))
def oS (x0:aN) (x1:Int):Option ((List bD)×Bool):=
 an (S:=Unit) ((iJ x0)>>=fun AU=>(bif !(AU.2) then (some (Out.ret (([]:List bD),false))) else (ag (ae 0 (ah (fun s=>jH x0 x1 AU.1 s) (([]:List bD),(0:Int)))) (fun s=>(some (Out.ret (s.1,true)))))))
def nO (x0:aN):Option (bD×Int):=
 an (S:=Unit) ((oS x0 ((1:Int)))>>=fun y8=>(bif !(y8.2) then (some (Out.ret (((bD.mk ((0:Int)) ([])),((3:Int)))))) else (bif ((y8.1.length:Int)) == ((0:Int)) then (some (Out.ret (((bD.mk ((0:Int)) ([])),((4:Int)))))) else ((idx y8.1 ((0:Int)))>>=fun Mc=>(some (Out.ret ((Mc,((0:Int))))))))))
def lD (x0:aN):Option (bD×Int):=
 an (S:=Unit) ((dC x0)>>=fun y4=>(bif !(y4) then (some (Out.ret (((bD.mk ((0:Int)) ([])),((1:Int)))))) else ((fU x0)>>=fun y7=>(dD>>=fun _=>((nO y7)>>=fun y9=>(some (Out.ret ((y9.1,y9.2)))))))))
def pC (x0:Int) (x1:Int) (x2:Int):Option (Bool):=
 an (S:=Unit) (((bif decide (x0 ≥ x1) then (some (decide (x0≤x2))) else (some (false))))>>=fun g3=>(some (Out.ret (g3))))
def lE (x0:Int) (x1:(List Int)) (bh:Int):Option (Out (Int) (Bool)):=
 (bif decide (bh < (x1.length:Int)) then ((((idx x1 (bh))>>=fun e11=>(bif decide (e11 < (0:Int)) then (some (true)) else ((idx x1 (bh))>>=fun wU=>(some (decide (wU ≥ x0)))))))>>=fun g9=>(bif g9 then (some (Out.ret (false))) else (some (Out.norm (ai (bh+(1:Int))))))) else (some (Out.exit 0 (bh))))
def iW (x0:Int) (x1:(List Int)):Option (Bool):=
 an (S:=Unit) (ag (ae 0 (ah (lE x0 x1) ((0:Int)))) (fun bh=>(some (Out.ret (true)))))
def kR (x0:(List Int)) (x1:Int) (x2:Int):Option (Bool):=
 an (S:=Unit) (((bif ((x0.length:Int)) == (x1) then ((iW (x2) x0)>>=fun y6=>(some (y6))) else (some (false))))>>=fun g3=>(some (Out.ret (g3))))
def kJ (x0:aG) (cb:Int):Option (Out (Int) (Bool)):=
 (bif decide (cb < x0.aA) then ((((idx x0.aJ (cb))>>=fun IH=>((idx x0.aD (IH))>>=fun e47=>(bif (e47) != (cb) then (some (true)) else ((idx x0.aJ (cb))>>=fun L5=>((idx x0.To (L5))>>=fun Ml=>(some ((Ml) != (cb)))))))))>>=fun g43=>(bif g43 then (some (Out.ret (false))) else (some (Out.norm (ai (cb+(1:Int))))))) else (some (Out.exit 0 (cb))))
def kK (x0:aG) (qh:Int) (ym:Int):Option (Out (Int) (Bool)):=
 (bif decide (ym < (x0.aD.length:Int)) then ((idx x0.aB (qh))>>=fun Vk=>((idx Vk (ym))>>=fun C6=>((idx x0.To (qh))>>=fun Ag=>((idx x0.aD (ym))>>=fun Qy=>(bif (Ag) != (Qy) then (bif (C6) != ((-1:Int)) then (some (Out.ret (false))) else (some (Out.norm (ai (ym+(1:Int)))))) else (((bif decide (C6 < (0:Int)) then (some (true)) else (bif decide (C6 ≥ (x0.aD.length:Int)) then (some (true)) else ((idx x0.aD (C6))>>=fun Ol=>((idx x0.aD (qh))>>=fun abw=>(bif (Ol) != (abw) then (some (true)) else ((idx x0.To (C6))>>=fun abx=>((idx x0.To (ym))>>=fun aby=>(some ((abx) != (aby)))))))))))>>=fun abz=>(bif abz then (some (Out.ret (false))) else (some (Out.norm (ai (ym+(1:Int)))))))))))) else (some (Out.exit 4 (ym))))
def nP (x0:aG) (qh:Int):Option (Out (Int) (Bool)):=
 (bif decide (qh < (x0.aD.length:Int)) then ((idx x0.aB (qh))>>=fun Mh=>(bif ((Mh.length:Int)) != ((x0.aD.length:Int)) then (some (Out.ret (false))) else (ag (ae 4 (ah (kK x0 qh) ((0:Int)))) (fun ym=>(some (Out.norm (ai (qh+(1:Int))))))))) else (some (Out.exit 2 (qh))))
def nQ (x0:aG):Option (Bool):=
 an (S:=Unit) ((((pC (x0.aA) ((0:Int)) ((8:Int)))>>=fun y12=>(bif !(y12) then (some (true)) else (bif decide ((x0.aD.length:Int) > (40:Int)) then (some (true)) else ((kR x0.aD ((x0.aD.length:Int)) (x0.aA))>>=fun r3=>(bif !(r3) then (some (true)) else ((kR x0.To ((x0.aD.length:Int)) (x0.aA))>>=fun ED=>(bif !(ED) then (some (true)) else (some (((x0.aB.length:Int)) != ((x0.aD.length:Int))))))))))))>>=fun g10=>(bif g10 then (some (Out.ret (false))) else (((bif ((x0.aJ.length:Int)) != (x0.aA) then (some (true)) else ((iW ((x0.aD.length:Int)) x0.aJ)>>=fun IJ=>(some (!(IJ))))))>>=fun g27=>(bif g27 then (some (Out.ret (false))) else (ag (ae 0 (ah (kJ x0) ((0:Int)))) (fun cb=>(ag (ae 2 (ah (nP x0) ((0:Int)))) (fun qh=>(some (Out.ret (true)))))))))))
def jR (x0:aG) (bx:Int):Option (Out (Int) (Int×Int×Int×Int)):=
 (bif decide (bx < (x0.aD.length:Int)) then ((((idx x0.aD (bx))>>=fun US=>((idx x0.aJ (US))>>=fun Vf=>((idx x0.aB (Vf))>>=fun GA=>((idx GA (bx))>>=fun GX=>(bif (GX) != (bx) then (some (true)) else ((idx x0.aB (bx))>>=fun GY=>((idx x0.To (bx))>>=fun GW=>((idx x0.aJ (GW))>>=fun GU=>((idx GY (GU))>>=fun Vl=>(some ((Vl) != (bx)))))))))))))>>=fun g16=>(bif g16 then (some (Out.ret ((((1:Int)),bx,((0:Int)),((0:Int)))))) else (some (Out.norm (ai (bx+(1:Int))))))) else (some (Out.exit 0 (bx))))
def hY (x0:aG) (ec:Int) (du:Int) (gp:Int):Option (Out (Int) (Int×Int×Int×Int)):=
 (bif decide (gp < (x0.aD.length:Int)) then ((((idx x0.To (du))>>=fun e82=>((idx x0.aD (gp))>>=fun Vi=>(bif (e82) == (Vi) then ((idx x0.aB (ec))>>=fun Va=>((idx Va (du))>>=fun e94=>((idx x0.aB (e94))>>=fun UX=>((idx UX (gp))>>=fun J7=>((idx x0.aB (ec))>>=fun abA=>((idx x0.aB (du))>>=fun OZ=>((idx OZ (gp))>>=fun abB=>((idx abA (abB))>>=fun abC=>(some ((J7) != (abC))))))))))) else (some (false))))))>>=fun Vm=>(bif Vm then (some (Out.ret ((((2:Int)),ec,du,gp)))) else (some (Out.norm (ai (gp+(1:Int))))))) else (some (Out.exit 6 (gp))))
def iA (x0:aG) (ec:Int) (du:Int):Option (Out (Int) (Int×Int×Int×Int)):=
 (bif decide (du < (x0.aD.length:Int)) then ((idx x0.To (ec))>>=fun IK=>((idx x0.aD (du))>>=fun Mj=>(bif (IK) != (Mj) then (some (Out.norm (ai (du+(1:Int))))) else (ag (ae 6 (ah (hY x0 ec du) ((0:Int)))) (fun gp=>(some (Out.norm (ai (du+(1:Int)))))))))) else (some (Out.exit 4 (du))))
def mR (x0:aG) (ec:Int):Option (Out (Int) (Int×Int×Int×Int)):=
 (bif decide (ec < (x0.aD.length:Int)) then (ag (ae 4 (ah (iA x0 ec) ((0:Int)))) (fun du=>(some (Out.norm (ai (ec+(1:Int))))))) else (some (Out.exit 2 (ec))))
def mD (x0:aG):Option (Int×Int×Int×Int):=
 an (S:=Unit) (ag (ae 0 (ah (jR x0) ((0:Int)))) (fun bx=>(ag (ae 2 (ah (mR x0) ((0:Int)))) (fun ec=>(some (Out.ret ((((0:Int)),((0:Int)),((0:Int)),((0:Int))))))))))
def nR (x0:aG):Option (Bool):=
 an (S:=Unit) ((nQ x0)>>=fun y8=>(bif !(y8) then (some (Out.ret (false))) else ((mD x0)>>=fun y15=>(some (Out.ret (((y15.1) == ((0:Int)))))))))
def oV (x0:aN) (bh:Int):Option (Out (Int) (Bool)):=
 (bif decide (bh < (x0.aH.aD.length:Int)) then ((((idx x0.aj (bh))>>=fun Ve=>((idx x0.aI.aD (Ve))>>=fun BU=>((idx x0.aH.aD (bh))>>=fun e74=>((idx x0.aA (e74))>>=fun Vn=>(bif (BU) != (Vn) then (some (true)) else ((idx x0.aj (bh))>>=fun IG=>((idx x0.aI.To (IG))>>=fun Da=>((idx x0.aH.To (bh))>>=fun Ym=>((idx x0.aA (Ym))>>=fun U9=>(some ((Da) != (U9)))))))))))))>>=fun g68=>(bif g68 then (some (Out.ret (false))) else (some (Out.norm (ai (bh+(1:Int))))))) else (some (Out.exit 0 (bh))))
def oW (x0:aN) (o9:Int):Option (Out (Int) (Bool)):=
 (bif decide (o9 < x0.aH.aA) then ((idx x0.aH.aJ (o9))>>=fun OI=>((idx x0.aj (OI))>>=fun J3=>((idx x0.aA (o9))>>=fun vB=>((idx x0.aI.aJ (vB))>>=fun GF=>(bif (J3) != (GF) then (some (Out.ret (false))) else (some (Out.norm (ai (o9+(1:Int)))))))))) else (some (Out.exit 2 (o9))))
def oX (x0:aN) (sY:Int) (Cg:Int):Option (Out (Int) (Bool)):=
 (bif decide (Cg < (x0.aH.aD.length:Int)) then ((((idx x0.aH.To (sY))>>=fun O0=>((idx x0.aH.aD (Cg))>>=fun abD=>(bif (O0) == (abD) then ((idx x0.aH.aB (sY))>>=fun O1=>((idx O1 (Cg))>>=fun abE=>((idx x0.aj (abE))>>=fun abF=>((idx x0.aj (sY))>>=fun Og=>((idx x0.aI.aB (Og))>>=fun abG=>((idx x0.aj (Cg))>>=fun O2=>((idx abG (O2))>>=fun abH=>(some ((abF) != (abH)))))))))) else (some (false))))))>>=fun abI=>(bif abI then (some (Out.ret (false))) else (some (Out.norm (ai (Cg+(1:Int))))))) else (some (Out.exit 6 (Cg))))
def oY (x0:aN) (sY:Int):Option (Out (Int) (Bool)):=
 (bif decide (sY < (x0.aH.aD.length:Int)) then (ag (ae 6 (ah (oX x0 sY) ((0:Int)))) (fun Cg=>(some (Out.norm (ai (sY+(1:Int))))))) else (some (Out.exit 4 (sY))))
def pD (x0:aN):Option (Bool):=
 an (S:=Unit) ((((nR x0.aH)>>=fun Md=>(bif !(Md) then (some (true)) else ((nR x0.aI)>>=fun QF=>(bif !(QF) then (some (true)) else (bif ((x0.aA.length:Int)) != (x0.aH.aA) then (some (true)) else (some (((x0.aj.length:Int)) != ((x0.aH.aD.length:Int))))))))))>>=fun g33=>(bif g33 then (some (Out.ret (false))) else ((((iW (x0.aI.aA) x0.aA)>>=fun L8=>(bif !(L8) then (some (true)) else ((iW ((x0.aI.aD.length:Int)) x0.aj)>>=fun y52=>(some (!(y52)))))))>>=fun g47=>(bif g47 then (some (Out.ret (false))) else (ag (ae 0 (ah (oV x0) ((0:Int)))) (fun bh=>(ag (ae 2 (ah (oW x0) ((0:Int)))) (fun o9=>(ag (ae 4 (ah (oY x0) ((0:Int)))) (fun sY=>(some (Out.ret (true)))))))))))))
def pE (x0:aN):Option (aN):=
 an (S:=Unit) ((fV x0.aH)>>=fun r3=>((fV x0.aI)>>=fun LX=>((gX r3 LX x0.aA x0.aj)>>=fun y94=>(some (Out.ret (y94))))))
def pG (x0:(List Int)) (x1:Int) (bh:Int):Option (Out (Int) (Int)):=
 (bif decide (bh < (x0.length:Int)) then ((idx x0 (bh))>>=fun e9=>(bif (e9) == (x1) then (some (Out.ret (bh))) else (some (Out.norm (ai (bh+(1:Int))))))) else (some (Out.exit 0 (bh))))
def mE (x0:(List Int)) (x1:Int):Option (Int):=
 an (S:=Unit) (ag (ae 0 (ah (pG x0 x1) ((0:Int)))) (fun bh=>(some (Out.ret (((-1:Int)))))))
def kS (x0:(List Int)) (jg:(List Int)) (cb:(List Int)) (bh:Int):Option (Out ((List Int)×(List Int)×Int) ((List Int))):=
 (bif decide (bh < (x0.length:Int)) then ((idx x0 (bh))>>=fun GX=>((mE cb (GX))>>=fun II=>(bif decide (II < (0:Int)) then ((idx x0 (bh))>>=fun e40=>((fits 8 (cb.length+1))>>=fun n57=>((fits 8 (jg.length+1))>>=fun n77=>(some (Out.norm (jg++[(cb.length:Int)],cb++[e40],ai (bh+(1:Int)))))))) else ((fits 8 (jg.length+1))>>=fun n99=>(some (Out.norm (jg++[II],cb,ai (bh+(1:Int))))))))) else (some (Out.exit 0 (jg,cb,bh))))
def kL (x0:(List Int)):Option ((List Int)):=
 an (S:=Unit) (ag (ae 0 (ah (fun s=>kS x0 s.1 s.2.1 s.2.2) (([]:(List Int)),([]:(List Int)),(0:Int)))) (fun (jg,cb,bh)=>(some (Out.ret (jg)))))
def nS (x0:Int) (bh:(List Int)) (fu:Int):Option (Out ((List Int)×Int) ((List Int))):=
 (bif decide (fu < x0) then ((fits 8 (bh.length+1))>>=fun n32=>(some (Out.norm (bh++[fu],ai (fu+(1:Int)))))) else (some (Out.exit 0 (bh,fu))))
def nT (BV:Int) (IK:Int) (ei:Int) (vl:(List Int)):Option (Out (Int×(List Int)) ((List Int))):=
 (((bif decide (ei < (vl.length:Int)) then (some ((BV) != (IK))) else (some (false))))>>=fun g72=>(bif g72 then ((idx vl (ei))>>=fun Vh=>(bif (Vh) == (IK) then ((idx vl (ei))>>=fun Ym=>(some (Out.norm (ai (ei+(1:Int)),vl.set (ei).toNat (BV))))) else (some (Out.norm (ai (ei+(1:Int)),vl))))) else (some (Out.exit 4 (ei,vl)))))
def nU (x1:(List (List Int))) (l8:Int) (yL:(List Int)):Option (Out (Int×(List Int)) ((List Int))):=
 (bif decide (l8 < (x1.length:Int)) then ((idx x1 (l8))>>=fun IH=>((idx IH ((0:Int)))>>=fun Ml=>((idx yL (Ml))>>=fun BV=>((idx x1 (l8))>>=fun Vp=>((idx Vp ((1:Int)))>>=fun e63=>((idx yL (e63))>>=fun IK=>(ag (ae 4 (ah (fun s=>nT BV IK s.1 s.2) ((0:Int),yL))) (fun (ei,vl)=>(some (Out.norm (ai (l8+(1:Int)),vl))))))))))) else (some (Out.exit 2 (l8,yL))))
def nV (x0:Int) (x1:(List (List Int))):Option ((List Int)):=
 an (S:=Unit) (ag (ae 0 (ah (fun s=>nS x0 s.1 s.2) (([]:(List Int)),(0:Int)))) (fun (bh,fu)=>(ag (ae 2 (ah (fun s=>nU x1 s.1 s.2) ((0:Int),bh))) (fun (l8,yL)=>((kL yL)>>=fun y97=>(some (Out.ret (y97))))))))
def eK (x0:aG) (x1:Int) (bh:(List Int)) (fu:Int):Option (Out ((List Int)×Int) ((List Int))):=
 (bif decide (fu < (x0.aD.length:Int)) then ((((idx x0.aD (fu))>>=fun EB=>((idx x0.To (x1))>>=fun GX=>(bif (EB) == (GX) then ((idx x0.To (fu))>>=fun GY=>((idx x0.aD (x1))>>=fun De=>(bif (GY) == (De) then ((idx x0.aB (x1))>>=fun Mf=>((idx Mf (fu))>>=fun Dd=>((idx x0.aD (x1))>>=fun C5=>((idx x0.aJ (C5))>>=fun Mg=>(some ((Dd) == (Mg))))))) else (some (false))))) else (some (false))))))>>=fun Mb=>(bif Mb then ((fits 8 (bh.length+1))>>=fun Yn=>(some (Out.norm (bh++[fu],ai (fu+(1:Int)))))) else (some (Out.norm (bh,ai (fu+(1:Int))))))) else (some (Out.exit 0 (bh,fu))))
def iG (x0:aG) (x1:Int):Option ((List Int)):=
 an (S:=Unit) (ag (ae 0 (ah (fun s=>eK x0 x1 s.1 s.2) (([]:(List Int)),(0:Int)))) (fun (bh,fu)=>(some (Out.ret (bh)))))
def fG (x0:aG) (x1:Int) (bh:(List Int)) (fu:Int):Option (Out ((List Int)×Int) ((List Int))):=
 (bif decide (fu < (x0.aD.length:Int)) then ((((idx x0.aD (fu))>>=fun EB=>((idx x0.To (x1))>>=fun GX=>(bif (EB) == (GX) then ((idx x0.To (fu))>>=fun GY=>((idx x0.aD (x1))>>=fun De=>(bif (GY) == (De) then ((idx x0.aB (fu))>>=fun Mf=>((idx Mf (x1))>>=fun Dd=>((idx x0.To (x1))>>=fun C5=>((idx x0.aJ (C5))>>=fun Mg=>(some ((Dd) == (Mg))))))) else (some (false))))) else (some (false))))))>>=fun Mb=>(bif Mb then ((fits 8 (bh.length+1))>>=fun Yn=>(some (Out.norm (bh++[fu],ai (fu+(1:Int)))))) else (some (Out.norm (bh,ai (fu+(1:Int))))))) else (some (Out.exit 0 (bh,fu))))
def jS (x0:aG) (x1:Int):Option ((List Int)):=
 an (S:=Unit) (ag (ae 0 (ah (fun s=>fG x0 x1 s.1 s.2) (([]:(List Int)),(0:Int)))) (fun (bh,fu)=>(some (Out.ret (bh)))))
def lF (x0:(List Int)) (x1:Int) (bh:Int):Option (Out (Int) (Bool)):=
 (bif decide (bh < (x0.length:Int)) then ((idx x0 (bh))>>=fun e9=>(bif (e9) == (x1) then (some (Out.ret (true))) else (some (Out.norm (ai (bh+(1:Int))))))) else (some (Out.exit 0 (bh))))
def oT (x0:(List Int)) (x1:Int):Option (Bool):=
 an (S:=Unit) (ag (ae 0 (ah (lF x0 x1) ((0:Int)))) (fun bh=>(some (Out.ret (false)))))
def gB (y8:(List Int)) (xc:(List Int)) (bx:Int):Option (Out (Int) (Int)):=
 (bif decide (bx < (y8.length:Int)) then ((idx y8 (bx))>>=fun De=>((oT xc (De))>>=fun C7=>(bif C7 then ((idx y8 (bx))>>=fun GU=>(some (Out.ret (GU)))) else (some (Out.norm (ai (bx+(1:Int)))))))) else (some (Out.exit 0 (bx))))
def iN (x0:aG) (x1:Int):Option (Int):=
 an (S:=Unit) ((iG x0 (x1))>>=fun y8=>((jS x0 (x1))>>=fun xc=>(ag (ae 0 (ah (gB y8 xc) ((0:Int)))) (fun bx=>(some (Out.ret (((-1:Int)))))))))
def gR (x0:aN) (x1:aN) (x2:(List Int)) (x3:Int):Option (Bool):=
 an (S:=Unit) ((idx x0.aj (x3))>>=fun Vl=>((idx x0.aI.aB (Vl))>>=fun IH=>((idx x0.aH.To (x3))>>=fun Ml=>((idx x2 (Ml))>>=fun BV=>((idx IH (BV))>>=fun Vp=>((idx x0.aH.aD (x3))>>=fun e58=>((idx x2 (e58))>>=fun Mi=>((idx x0.aI.aB (Mi))>>=fun Ac=>((idx x1.aj (x3))>>=fun UW=>((idx Ac (UW))>>=fun e71=>(some (Out.ret (((Vp) == (e71)))))))))))))))
def iO (x0:bX) (x2:Int) (AS:(List Int)) (Ag:Int) (u3:Bool) (ma:Int):Option (Out (Bool×Int) ((List Int))):=
 (((bif u3 then (some (decide (ma < (x0.F.aj.length:Int)))) else (some (false))))>>=fun abJ=>(bif abJ then ((idx x0.F.aH.aD (ma))>>=fun GN=>((idx x0.F.aH.To (ma))>>=fun JZ=>(((bif (GN) != (x2) then (bif (JZ) != (x2) then (some (true)) else ((idx (AS.set (x2).toNat (Ag)) (GN))>>=fun abK=>(bif decide (abK < (0:Int)) then (some (true)) else ((idx (AS.set (x2).toNat (Ag)) (JZ))>>=fun O0=>(bif decide (O0 < (0:Int)) then (some (true)) else ((gR x0.F x0.G (AS.set (x2).toNat (Ag)) (ma))>>=fun GS=>(some (GS)))))))) else ((idx (AS.set (x2).toNat (Ag)) (GN))>>=fun Vq=>(bif decide (Vq < (0:Int)) then (some (true)) else ((idx (AS.set (x2).toNat (Ag)) (JZ))>>=fun abL=>(bif decide (abL < (0:Int)) then (some (true)) else ((gR x0.F x0.G (AS.set (x2).toNat (Ag)) (ma))>>=fun abM=>(some (abM)))))))))>>=fun abN=>(some (Out.norm (abN,ai (ma+(1:Int)))))))) else (some (Out.exit 2 (u3,ma)))))
def gC (x0:bX) (x1:(List Int)) (x2:Int) (Af:(List Int)) (qp:(List Int)) (jy:Int):Option (Out ((List Int)×Int) ((List Int))):=
 (bif decide (jy < (Af.length:Int)) then (((bif x0.yE then ((idx Af (jy))>>=fun Vn=>((iN x0.F.aI (Vn))>>=fun Vg=>(some (decide (Vg < (0:Int)))))) else (some (false))))>>=fun Vj=>(bif Vj then (some (Out.norm (qp,ai (jy+(1:Int))))) else ((cX x1)>>=fun AS=>((idx Af (jy))>>=fun Ag=>((idx AS (x2))>>=fun Qy=>(ag (ae 2 (ah (fun s=>iO x0 x2 AS Ag s.1 s.2) (true,(0:Int)))) (fun (u3,ma)=>(bif u3 then ((idx Af (jy))>>=fun O2=>((fits 8 (qp.length+1))>>=fun n184=>(some (Out.norm (qp++[O2],ai (jy+(1:Int))))))) else (some (Out.norm (qp,ai (jy+(1:Int))))))))))))) else (some (Out.exit 0 (qp,jy))))
def gG (x0:bX) (x1:(List Int)) (x2:Int):Option ((List Int)):=
 an (S:=Unit) ((idx x0.F.aA (x2))>>=fun GB=>((idx x0.G.aA (x2))>>=fun De=>((fW x0.F.aI (GB) (De))>>=fun Af=>(ag (ae 0 (ah (fun s=>gC x0 x1 x2 Af s.1 s.2) (([]:(List Int)),(0:Int)))) (fun (qp,jy)=>(some (Out.ret (qp))))))))
def jY (x0:bX) (x1:(List Int)) (cb:Int) (bh:Int):Option (Out (Int×Int) (bX)):=
 (bif decide (bh ≥ (0:Int)) then ((idx x1 (bh))>>=fun De=>(bif (De) == ((-1:Int)) then ((gG x0 x1 (bh))>>=fun Yo=>(bif ((Yo.length:Int)) == ((0:Int)) then (some (Out.ret (x0))) else (some (Out.norm (bh,ai (bh - (1:Int))))))) else (some (Out.norm (cb,ai (bh - (1:Int))))))) else (some (Out.exit 0 (cb,bh))))
def gI (rc:bX→(List Int)→Option (bX)) (x0:bX) (x1:(List Int)) (cb:Int) (uP:(List Int)) (l8:Int) (xS:Int) (xT:Int) (wa:Int) (wb:Int) (wc:Bool) (ue:Int) (uf:(List (List Int))):Option (Out (Int×Int×Int×Int×Int×Bool×Int×(List (List Int))) (bX)):=
 (((bif decide (l8 < (uP.length:Int)) then (some (decide ((uf.length:Int) < ue))) else (some (false))))>>=fun abO=>(bif abO then ((cX x1)>>=fun Vs=>((idx uP (l8))>>=fun O1=>((idx Vs (cb))>>=fun Vq=>((rc (bX.mk (aN.mk (aG.mk xS x0.F.aH.aD x0.F.aH.To x0.F.aH.aJ x0.F.aH.aB) (aG.mk xT x0.F.aI.aD x0.F.aI.To x0.F.aI.aJ x0.F.aI.aB) x0.F.aA x0.F.aj) (aN.mk (aG.mk wa x0.G.aH.aD x0.G.aH.To x0.G.aH.aJ x0.G.aH.aB) (aG.mk wb x0.G.aI.aD x0.G.aI.To x0.G.aI.aJ x0.G.aI.aB) x0.G.aA x0.G.aj) wc ue uf) (Vs.set (cb).toNat (O1)))>>=fun Ch=>(some (Out.norm (ai (l8+(1:Int)),Ch.F.aH.aA,Ch.F.aI.aA,Ch.G.aH.aA,Ch.G.aI.aA,Ch.yE,Ch.vA,Ch.Found))))))) else (some (Out.exit 2 (l8,xS,xT,wa,wb,wc,ue,uf)))))
def nW (rc:bX→(List Int)→Option (bX)) (x0:bX) (x1:(List Int)):Option (bX):=
 DD (R:=(bX)) (ag (ae 0 (ah (fun s=>jY x0 x1 s.1 s.2) ((-1:Int),ai ((x1.length:Int) - (1:Int))))) (fun (cb,bh)=>(bif decide (cb < (0:Int)) then ((cX x1)>>=fun y61=>((fits 24 (x0.Found.length+1))>>=fun n89=>(some (Out.ret ((bX.mk x0.F x0.G x0.yE x0.vA (x0.Found++[y61]))))))) else ((gG x0 x1 (cb))>>=fun uP=>(ag (ae 2 (ah (fun s=>gI rc x0 x1 cb uP s.1 s.2.1 s.2.2.1 s.2.2.2.1 s.2.2.2.2.1 s.2.2.2.2.2.1 s.2.2.2.2.2.2.1 s.2.2.2.2.2.2.2) ((0:Int),x0.F.aH.aA,x0.F.aI.aA,x0.G.aH.aA,x0.G.aI.aA,x0.yE,x0.vA,x0.Found))) (fun (l8,xS,xT,wa,wb,wc,ue,uf)=>(some (Out.norm ((bX.mk (aN.mk (aG.mk xS x0.F.aH.aD x0.F.aH.To x0.F.aH.aJ x0.F.aH.aB) (aG.mk xT x0.F.aI.aD x0.F.aI.To x0.F.aI.aJ x0.F.aI.aB) x0.F.aA x0.F.aj) (aN.mk (aG.mk wa x0.G.aH.aD x0.G.aH.To x0.G.aH.aJ x0.G.aH.aB) (aG.mk wb x0.G.aI.aD x0.G.aI.To x0.G.aI.aJ x0.G.aI.aB) x0.G.aA x0.G.aj) wc ue uf))))))))))
def eY:Nat→bX→(List Int)→Option (bX)
 | 0=>fun _ _=>none
 | n+1=>nW (eY n)
def nX (x0:aN) (qp:(List (List Int))) (jy:Int):Option (Out ((List (List Int))×Int) ((List (List Int)))):=
 (bif decide (jy < (x0.aH.aD.length:Int)) then ((idx x0.aH.aD (jy))>>=fun Qu=>((idx x0.aH.To (jy))>>=fun C9=>((fits 24 (qp.length+1))>>=fun Yn=>(some (Out.norm (qp++[([Qu,C9]:(List Int))],ai (jy+(1:Int)))))))) else (some (Out.exit 0 (qp,jy))))
def nY (GZ:(List Int)) (ma:Int) (zJ:(List Int)) (By:Int):Option (Out ((List Int)×Int) ((List (List Int)))):=
 (bif decide (By < (GZ.length:Int)) then ((idx GZ (By))>>=fun abP=>(bif (abP) == (ma) then ((fits 8 (zJ.length+1))>>=fun n191=>(some (Out.norm (zJ++[(-1:Int)],ai (By+(1:Int)))))) else ((fits 8 (zJ.length+1))>>=fun n219=>(some (Out.norm (zJ++[(-2:Int)],ai (By+(1:Int)))))))) else (some (Out.exit 4 (zJ,By))))
def nZ (x0:aN) (x1:aN) (x2:Bool) (GZ:(List Int)) (u3:(List Int)) (ma:Int):Option (Out ((List Int)×Int) ((List (List Int)))):=
 (bif decide (ma < (GZ.length:Int)) then ((fits 8 (u3.length+1))>>=fun n132=>(ag (ae 4 (ah (fun s=>nY GZ ma s.1 s.2) (([]:(List Int)),(0:Int)))) (fun (zJ,By)=>((eY 64 (bX.mk x0 x1 x2 ((1:Int)) (([]:(List (List Int))))) zJ)>>=fun abQ=>(bif ((abQ.Found.length:Int)) == ((0:Int)) then (some (Out.ret ((([]:(List (List Int))))))) else (some (Out.norm (u3++[(-1:Int)],ai (ma+(1:Int)))))))))) else (some (Out.exit 2 (u3,ma))))
def kU (x0:aN) (x1:aN) (x2:Bool) (x3:Int):Option ((List (List Int))):=
 an (S:=Unit) (ag (ae 0 (ah (fun s=>nX x0 s.1 s.2) (([]:(List (List Int))),(0:Int)))) (fun (qp,jy)=>((nV (x0.aH.aA) qp)>>=fun GZ=>(ag (ae 2 (ah (fun s=>nZ x0 x1 x2 GZ s.1 s.2) (([]:(List Int)),(0:Int)))) (fun (u3,ma)=>((eY 64 (bX.mk x0 x1 x2 x3 (([]:(List (List Int))))) u3)>>=fun abR=>(some (Out.ret (abR.Found)))))))))
def mS (x:Int) (IJ:List (List Int)) (s:List bD×Int):Option (Out (List bD×Int) (List bD)):=
 (bif decide (s.2 < (IJ.length:Int)) then ((idx IJ (s.2))>>=fun e42=>((fits 32 (s.1.length+1))>>=fun n45=>(some (Out.norm (s.1++[bD.mk x e42],ai (s.2+(1:Int))))))) else (some (Out.exit 2 s)))
def mT (x0:aN) (s:List bD×Int):Option (Out (List bD×Int) (List bD)):=
 ((bif decide (s.2 < (x0.aI.aA)) then (some (decide ((s.1.length:Int)≤(400:Int)))) else (some (false)))>>=fun g13=>(bif g13 then ((dP x0.aH x0.aI (s.2))>>=fun lh=>((kU lh x0 (false) (ai ((401:Int) - (s.1.length:Int))))>>=fun IJ=>(ag (ae 2 (ah (fun s2=>mS s.2 IJ s2) (s.1,(0:Int)))) (fun s2=>(some (Out.norm (s2.1,ai (s.2+(1:Int))))))))) else (some (Out.exit 0 s))))
def jZ (x0:aN):Option ((List bD)):=
 an (S:=Unit) (ag (ae 0 (ah (fun s=>mT x0 s) (([]:List bD),(0:Int)))) (fun s=>(some (Out.ret (s.1)))))
def oA (x0:aN):Option ((List bD)×Int):=
 an (S:=Unit) ((jZ x0)>>=fun y8=>(bif decide ((y8.length:Int) > (400:Int)) then (some (Out.ret ((([]),((3:Int)))))) else (some (Out.ret ((y8,((0:Int))))))))
def oB (x0:aG) (x1:Int) (x2:Int):Option (Int):=
 an (S:=Unit) ((idx x0.aB (x1))>>=fun e8=>((idx e8 (x2))>>=fun Me=>(some (Out.ret (Me)))))
def iP (x0:aN) (x1:bD) (x2:bD) (lh:(List Int)) (ez:Int) (ir:Bool) (sy:Int):Option (Out (Bool×Int) ((List Int))):=
 (((bif decide (sy < (x1.cf.length:Int)) then (some (ir)) else (some (false))))>>=fun Vm=>(bif Vm then ((idx lh (ez))>>=fun Vk=>((idx x2.cf (sy))>>=fun Ae=>((oB x0.aI (Vk) (Ae))>>=fun y90=>((idx x1.cf (sy))>>=fun e92=>(some (Out.norm ((y90) == (e92),ai (sy+(1:Int))))))))) else (some (Out.exit 2 (ir,sy)))))
def iQ (x0:aN) (x1:bD) (x2:bD) (lh:(List Int)) (l9:(List Int)) (ez:Int):Option (Out ((List Int)×Int) ((List Int))):=
 (bif decide (ez < (lh.length:Int)) then (ag (ae 2 (ah (fun s=>iP x0 x1 x2 lh ez s.1 s.2) (true,(0:Int)))) (fun (ir,sy)=>(bif ir then ((idx lh (ez))>>=fun DO=>((fits 8 (l9.length+1))>>=fun n122=>(some (Out.norm (l9++[DO],ai (ez+(1:Int))))))) else (some (Out.norm (l9,ai (ez+(1:Int)))))))) else (some (Out.exit 0 (l9,ez))))
def oC (x0:aN) (x1:bD) (x2:bD):Option ((List Int)):=
 an (S:=Unit) ((fW x0.aI (x1.ef) (x2.ef))>>=fun lh=>(ag (ae 0 (ah (fun s=>iQ x0 x1 x2 lh s.1 s.2) (([]:(List Int)),(0:Int)))) (fun (l9,ez)=>(some (Out.ret (l9))))))
def gL (x0:aN) (x1:(List bD)) (x2:bD) (bx:Int):Option (Out (Int) (Bool)):=
 (bif decide (bx < (x1.length:Int)) then ((idx x1 (bx))>>=fun Qw=>((oC x0 Qw x2)>>=fun II=>(bif ((II.length:Int)) != ((1:Int)) then (some (Out.ret (false))) else (some (Out.norm (ai (bx+(1:Int)))))))) else (some (Out.exit 0 (bx))))
def iY (x0:aN) (x1:(List bD)) (x2:bD):Option (Bool):=
 an (S:=Unit) (ag (ae 0 (ah (gL x0 x1 x2) ((0:Int)))) (fun bx=>(some (Out.ret (true)))))
def mU (x0:aN) (r3:(List bD)×Int) (fu:Int):Option (Out (Int) (bD×Int)):=
 (bif decide (fu < (r3.1.length:Int)) then ((idx r3.1 (fu))>>=fun Dd=>((iY x0 r3.1 Dd)>>=fun L8=>(bif L8 then ((idx r3.1 (fu))>>=fun BV=>(some (Out.ret ((BV,((0:Int))))))) else (some (Out.norm (ai (fu+(1:Int)))))))) else (some (Out.exit 0 (fu))))
def kA (x0:aN):Option (bD×Int):=
 an (S:=Unit) ((oA x0)>>=fun r3=>(bif (r3.2) != ((0:Int)) then (some (Out.ret (((bD.mk ((0:Int)) ([])),r3.2)))) else (ag (ae 0 (ah (mU x0 r3) ((0:Int)))) (fun fu=>(some (Out.ret (((bD.mk ((0:Int)) ([])),((4:Int))))))))))
def lG (x0:aN):Option (bD×Int):=
 an (S:=Unit) ((pD x0)>>=fun r3=>(bif !(r3) then (some (Out.ret (((bD.mk ((0:Int)) ([])),((1:Int)))))) else ((pE x0)>>=fun lh=>((kA lh)>>=fun Ce=>(some (Out.ret ((Ce.1,Ce.2))))))))
def qC (x0:(List Int)) (x1:(List Int)) (bh:Int):Option (Out (Int) (Bool)):=
 (bif decide (bh < (x0.length:Int)) then ((idx x0 (bh))>>=fun wU=>((idx x1 (bh))>>=fun GG=>(bif (wU) != (GG) then (some (Out.ret (false))) else (some (Out.norm (ai (bh+(1:Int)))))))) else (some (Out.exit 0 (bh))))
def oZ (x0:(List Int)) (x1:(List Int)):Option (Bool):=
 an (S:=Unit) (bif ((x0.length:Int)) != ((x1.length:Int)) then (some (Out.ret (false))) else (ag (ae 0 (ah (qC x0 x1) ((0:Int)))) (fun bh=>(some (Out.ret (true))))))
def iR (x0:bD) (x1:bD):Option (Bool):=
 an (S:=Unit) (((bif (x0.ef) == (x1.ef) then ((oZ x0.cf x1.cf)>>=fun ED=>(some (ED))) else (some (false))))>>=fun g16=>(some (Out.ret (g16))))
def oN (x0:aN):Option (Bool):=
 an (S:=Unit) ((dC x0)>>=fun y8=>(some (Out.ret (y8))))
def gM (x0:aN):Option (aN×Int):=
 an (S:=Unit) ((dC x0)>>=fun r3=>(bif !(r3) then (some (Out.ret (((aN.mk (aG.mk ((0:Int)) ([]) ([]) ([]) ([])) (aG.mk ((0:Int)) ([]) ([]) ([]) ([])) ([]) ([])),((1:Int)))))) else ((eN x0)>>=fun lh=>(some (Out.ret ((lh,((0:Int)))))))))
def oD (x0:aN):Option (bD×Int):=
 an (S:=Unit) ((dC x0)>>=fun r3=>(bif !(r3) then (some (Out.ret (((bD.mk ((0:Int)) ([])),((1:Int)))))) else ((nO x0)>>=fun lh=>(some (Out.ret ((lh.1,lh.2)))))))
def lH (x0:aN) (x1:bD) (Bz:Int):Option (Out (Int) (Bool)):=
 (bif decide (Bz < (x1.cf.length:Int)) then ((idx x1.cf (Bz))>>=fun GY=>((dN x0.aI (GY))>>=fun C7=>((idx x0.aA (Bz))>>=fun e38=>(bif !((C7.aD) == (x1.ef) && (C7.To) == (e38)) then (some (Out.ret (false))) else (some (Out.norm (ai (Bz+(1:Int))))))))) else (some (Out.exit 0 (Bz))))
def lJ (x0:aN) (x1:bD) (zK:Int):Option (Out (Int) (Bool)):=
 (bif decide (zK < (x0.aj.length:Int)) then ((idx x0.aj (zK))>>=fun BV=>((idx x0.aH.aD (zK))>>=fun e59=>((idx x1.cf (e59))>>=fun GV=>((cI x0.aI (GV) (BV))>>=fun Vd=>((idx x0.aH.To (zK))>>=fun L6=>((idx x1.cf (L6))>>=fun Mh=>(bif (Vd) != (Mh) then (some (Out.ret (false))) else (some (Out.norm (ai (zK+(1:Int)))))))))))) else (some (Out.exit 2 (zK))))
def oU (x0:aN) (x1:bD):Option (Bool):=
 an (S:=Unit) ((((eB (x1.ef) ((0:Int)) (ai (x0.aI.aA - (1:Int))))>>=fun AU=>(bif !(AU) then (some (true)) else (bif ((x1.cf.length:Int)) != ((x0.aA.length:Int)) then (some (true)) else ((cL x0.aI)>>=fun xc=>((eE x1.cf (xc))>>=fun ED=>(some (!(ED)))))))))>>=fun g11=>(bif g11 then (some (Out.ret (false))) else (ag (ae 0 (ah (lH x0 x1) ((0:Int)))) (fun Bz=>(ag (ae 2 (ah (lJ x0 x1) ((0:Int)))) (fun zK=>(some (Out.ret (true)))))))))
def mV (x0:gJ) (x1:(List bD)) (ez:Int):Option (Out (Int) (Int)):=
 (bif decide (ez < (x1.length:Int)) then ((idx x1 (ez))>>=fun e9=>((dD)>>=fun lh=>((oU x0.cj e9)>>=fun yF=>(bif !(yF) then (some (Out.ret (((5:Int))))) else (some (Out.norm (ai (ez+(1:Int))))))))) else (some (Out.exit 0 (ez))))
def kB (x0:gJ) (x1:(List bD)):Option (Int):=
 an (S:=Unit) (ag (ae 0 (ah (mV x0 x1) ((0:Int)))) (fun ez=>(some (Out.ret (((0:Int)))))))
def jI (x0:gJ) (x1:bD):Option (Bool×Int):=
 an (S:=Unit) ((kB x0 [x1])>>=fun cw=>(bif (cw) != ((0:Int)) then (some (Out.ret ((false,cw)))) else ((dD)>>=fun ED=>((iJ x0.cj)>>=fun QG=>(bif !(QG.2) then (some (Out.ret ((false,((3:Int)))))) else ((dD)>>=fun QF=>((hJ x0.cj QG.1 x1)>>=fun Af=>(some (Out.ret ((Af,((0:Int)))))))))))))
def lK (x0:aN) (x1:bD):Option (Bool×Int):=
 an (S:=Unit) ((dC x0)>>=fun y6=>(bif !(y6) then (some (Out.ret ((false,(1:Int))))) else ((fU x0)>>=fun y8=>((jI (gJ.mk y8) x1)>>=fun cw=>(some (Out.ret ((cw.1,cw.2))))))))
def lL (x0:gJ) (x1:bD) (x2:bD):Option (Int×Int):=
 an (S:=Unit) ((kB x0 [x1,x2])>>=fun tz=>(bif (tz) != ((0:Int)) then (some (Out.ret ((((0:Int)),tz)))) else ((jI x0 x1)>>=fun vN=>(bif (vN.2) != ((0:Int)) then (some (Out.ret ((((0:Int)),vN.2)))) else (bif !(vN.1) then (some (Out.ret ((((0:Int)),((5:Int)))))) else ((dD)>>=fun Yo=>((jX x0.cj x2 x1)>>=fun QC=>((idx QC ((0:Int)))>>=fun C9=>(some (Out.ret ((C9,((0:Int))))))))))))))
def gH (x0:aN) (x1 x2:bD):Option (Int×Int):=
 an (S:=Unit) ((dC x0)>>=fun y8=>(bif !(y8) then (some (Out.ret (((0:Int),(1:Int))))) else ((fU x0)>>=fun cw=>((lL (gJ.mk cw) x1 x2)>>=fun AU=>(some (Out.ret ((AU.1,AU.2))))))))
def iZ (x0:(List Int)):Option (Bool):=
 an (S:=Unit) ((qB x0)>>=fun y3=>(bif y3 then (some (Out.ret (true))) else ((iL x0)>>=fun cw=>((lD cw)>>=fun G0=>((lG cw)>>=fun Ci=>(((bif (G0.2) != (Ci.2) then (some (true)) else ((iR G0.1 Ci.1)>>=fun abS=>(some (!(abS))))))>>=fun abT=>(bif abT then (some (Out.ret (false))) else (bif (G0.2) == ((1:Int)) then ((oN cw)>>=fun abU=>(some (Out.ret ((!(abU)))))) else ((gM cw)>>=fun Vt=>((oD Vt.1)>>=fun Vu=>(((bif (Vt.2) != ((0:Int)) then (some (true)) else (bif (Vu.2) != (G0.2) then (some (true)) else ((iR Vu.1 Ci.1)>>=fun abV=>(some (!(abV)))))))>>=fun abW=>(bif abW then (some (Out.ret (false))) else (bif (G0.2) != ((0:Int)) then (some (Out.ret (true))) else ((lK cw Ci.1)>>=fun Vv=>((gH cw Ci.1 Ci.1)>>=fun Vw=>(((bif (Vv.2) == ((0:Int)) then (bif Vv.1 then (bif (Vw.2) == ((0:Int)) then ((idx cw.aI.aJ (Ci.1.ef))>>=fun abX=>(some ((Vw.1) == (abX)))) else (some (false))) else (some (false))) else (some (false))))>>=fun abY=>(some (Out.ret (abY)))))))))))))))))))
structure cJ where
 aH:aN
 aI:aN
 e7:(List Int)
end
end Go.Proofs.YtgjbmjjihmfppaaGreat
