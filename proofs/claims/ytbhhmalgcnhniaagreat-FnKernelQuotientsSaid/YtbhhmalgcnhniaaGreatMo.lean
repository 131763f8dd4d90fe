/- Models, printed by a program: what each function computes, on plain data. No condition. -/
import Derived.Test.YtbhhmalgcnhniaaGreatLj
import Derived.Test.YtbhhmalgcnhniaaGreatLn
import Derived.Test.YtbhhmalgcnhniaaGreatLq
namespace Go.Proofs.YtbhhmalgcnhniaaGreat
open Go Go.Li
set_option linter.unusedVariables false
noncomputable section
structure aI where
 Code:(List Int)
 At:Int
 au:Int
structure aC where
 aD:Int
 aA:(List Int)
 To:(List Int)
 aF:(List Int)
 aB:(List (List Int))
structure aY where
 aA:Int
 To:Int
 l8:(List Int)
structure pJ where
 aA:Int
 To:Int
structure aO where
 aH:aC
 aL:aC
 aD:(List Int)
 an:(List Int)
def pC (x0:(List Int)):Option (Bool):=
 aq (S:=Unit) (some (Out.ret ((decide ((x0.length:Int) > (4096:Int))))))
def mV (x0:(List Int)) (bo:Int) (AY:Int):Option (Out (Int×Int) ((Option aI))):=
 (((bif decide (bo < (x0.length:Int)) then (some (decide (bo < (4096:Int)))) else (some (false))))>>=fun g14=>(bif g14 then ((sI .mul .u64 (AY) ((1099511628211:Int)))>>=fun z20=>((idx x0 (bo))>>=fun Ah=>((sI .add .u64 (z20) (IntKind.u64.wrap Ah))>>=fun z23=>((sI .add .u64 (z23) ((7:Int)))>>=fun z24=>(some (Out.norm (ak (bo+(1:Int)),z24))))))) else (some (Out.exit 0 (bo,AY)))))
def kK (x0:(List Int)):Option ((Option aI)):=
 aq (S:=Unit) ((sI .add .u64 ((7019:Int)) (IntKind.u64.wrap ((x0.length:Int))))>>=fun z3=>(ae (ab 0 (aj (fun s=>mV x0 s.1 s.2) ((0:Int),z3))) (fun (bo,AY)=>(some (Out.ret ((some (aI.mk x0 ((0:Int)) AY))))))))
def bE (x0:aI) (x1:Int):Option (Int×aI):=
 aq (S:=Unit) (bif decide (x1 < (1:Int)) then (some (Out.ret ((((0:Int)),x0)))) else ((sI .mul .u64 (x0.au) ((6364136223846793005:Int)))>>=fun z9=>((sI .add .u64 (z9) ((1442695040888963407:Int)))>>=fun Uq=>((sI .shr .u64 (Uq) ((33:Int)))>>=fun Ur=>((sI .and .u64 (Ur) ((16777215:Int)))>>=fun Yq=>(bif decide (x0.At < (x0.Code.length:Int)) then ((idx x0.Code (x0.At))>>=fun zD=>((sI .rem .i64 (ak (IntKind.i64.wrap Yq+IntKind.i64.wrap zD)) (x1))>>=fun z30=>(some (Out.ret ((z30,(aI.mk x0.Code (ak (x0.At+(1:Int))) Uq))))))) else ((sI .rem .i64 (IntKind.i64.wrap Yq) (x1))>>=fun z33=>(some (Out.ret ((z33,(aI.mk x0.Code x0.At Uq))))))))))))
def eK (x0:aI) (x1:Int) (cp:Int) (w6:Int) (w7:Int) (Ai:(List Int)):Option (Out (Int×Int×Int×(List Int)) ((List (List Int))×aI)):=
 (bif decide (cp < x1) then ((bE (aI.mk x0.Code w6 w7) ((2:Int)))>>=fun Us=>((idx Ai (cp))>>=fun e53=>(some (Out.norm (ak (cp+(1:Int)),Us.2.At,Us.2.au,Ai.set (cp).toNat (Us.1)))))) else (some (Out.exit 2 (cp,w6,w7,Ai))))
def eL (x0:aI) (x1:Int) (aX:(List (List Int))) (di:Int) (jy:Int) (jz:Int):Option (Out ((List (List Int))×Int×Int×Int) ((List (List Int))×aI)):=
 (bif decide (di < x1) then ((mk 8 (x1))>>=fun n21=>((idx (List.replicate n21 (0:Int)) (di))>>=fun BH=>(ae (ab 2 (aj (fun s=>eK x0 x1 s.1 s.2.1 s.2.2.1 s.2.2.2) (ak (di+(1:Int)),jy,jz,(List.replicate n21 (0:Int)).set (di).toNat ((1:Int))))) (fun (cp,w6,w7,Ai)=>((fits 24 (aX.length+1))>>=fun n78=>(some (Out.norm (aX++[Ai],ak (di+(1:Int)),w6,w7)))))))) else (some (Out.exit 0 (aX,di,jy,jz))))
def jS (x1:Int) (ch:Int) (ed:Int) (qe:Int) (sO:(List (List Int))):Option (Out (Int×(List (List Int))) ((List (List Int))×aI)):=
 (bif decide (qe < x1) then ((((idx sO (ed))>>=fun ZV=>((idx ZV (ch))>>=fun OB=>(bif (OB) == ((1:Int)) then ((idx sO (ch))>>=fun ZW=>((idx ZW (qe))>>=fun JU=>(some ((JU) == ((1:Int)))))) else (some (false))))))>>=fun ZX=>(bif ZX then ((idx sO (ed))>>=fun Ut=>((idx Ut (qe))>>=fun Uu=>(some (Out.norm (ak (qe+(1:Int)),sO.set (ed).toNat (Ut.set (qe).toNat ((1:Int)))))))) else (some (Out.norm (ak (qe+(1:Int)),sO))))) else (some (Out.exit 8 (qe,sO))))
def jT (x1:Int) (ch:Int) (ed:Int) (AZ:(List (List Int))):Option (Out (Int×(List (List Int))) ((List (List Int))×aI)):=
 (bif decide (ed < x1) then (ae (ab 8 (aj (fun s=>jS x1 ch ed s.1 s.2) ((0:Int),AZ))) (fun (qe,sO)=>(some (Out.norm (ak (ed+(1:Int)),sO))))) else (some (Out.exit 6 (ed,AZ))))
def jU (x1:Int) (ch:Int) (A0:(List (List Int))):Option (Out (Int×(List (List Int))) ((List (List Int))×aI)):=
 (bif decide (ch < x1) then (ae (ab 6 (aj (fun s=>jT x1 ch s.1 s.2) ((0:Int),A0))) (fun (ed,AZ)=>(some (Out.norm (ak (ch+(1:Int)),AZ))))) else (some (Out.exit 4 (ch,A0))))
def jV (x1:Int) (xw:Int) (vo:Int) (w8:Int) (uJ:(List (List Int))):Option (Out (Int×(List (List Int))) ((List (List Int))×aI)):=
 (bif decide (w8 < x1) then ((((idx uJ (vo))>>=fun ZY=>((idx ZY (xw))>>=fun ZZ=>(bif (ZZ) == ((1:Int)) then ((idx uJ (xw))>>=fun Z0=>((idx Z0 (w8))>>=fun Z1=>(some ((Z1) == ((1:Int)))))) else (some (false))))))>>=fun Z4=>(bif Z4 then ((idx uJ (vo))>>=fun JV=>((idx JV (w8))>>=fun alz=>(some (Out.norm (ak (w8+(1:Int)),uJ.set (vo).toNat (JV.set (w8).toNat ((1:Int)))))))) else (some (Out.norm (ak (w8+(1:Int)),uJ))))) else (some (Out.exit 8 (w8,uJ))))
def jW (x1:Int) (xw:Int) (vo:Int) (CV:(List (List Int))):Option (Out (Int×(List (List Int))) ((List (List Int))×aI)):=
 (bif decide (vo < x1) then (ae (ab 8 (aj (fun s=>jV x1 xw vo s.1 s.2) ((0:Int),CV))) (fun (w8,uJ)=>(some (Out.norm (ak (vo+(1:Int)),uJ))))) else (some (Out.exit 6 (vo,CV))))
def jX (x1:Int) (xw:Int) (CW:(List (List Int))):Option (Out (Int×(List (List Int))) ((List (List Int))×aI)):=
 (bif decide (xw < x1) then (ae (ab 6 (aj (fun s=>jW x1 xw s.1 s.2) ((0:Int),CW))) (fun (vo,CV)=>(some (Out.norm (ak (xw+(1:Int)),CV))))) else (some (Out.exit 4 (xw,CW))))
def jE (x1:Int) (xx:Int) (vp:Int) (uK:Int) (sP:(List (List Int))):Option (Out (Int×(List (List Int))) ((List (List Int))×aI)):=
 (bif decide (uK < x1) then ((((idx sP (vp))>>=fun Z5=>((idx Z5 (xx))>>=fun vX=>(bif (vX) == ((1:Int)) then ((idx sP (xx))>>=fun OC=>((idx OC (uK))>>=fun OD=>(some ((OD) == ((1:Int)))))) else (some (false))))))>>=fun Z6=>(bif Z6 then ((idx sP (vp))>>=fun Uv=>((idx Uv (uK))>>=fun alA=>(some (Out.norm (ak (uK+(1:Int)),sP.set (vp).toNat (Uv.set (uK).toNat ((1:Int)))))))) else (some (Out.norm (ak (uK+(1:Int)),sP))))) else (some (Out.exit 8 (uK,sP))))
def jY (x1:Int) (xx:Int) (vp:Int) (CX:(List (List Int))):Option (Out (Int×(List (List Int))) ((List (List Int))×aI)):=
 (bif decide (vp < x1) then (ae (ab 8 (aj (fun s=>jE x1 xx vp s.1 s.2) ((0:Int),CX))) (fun (uK,sP)=>(some (Out.norm (ak (vp+(1:Int)),sP))))) else (some (Out.exit 6 (vp,CX))))
def jZ (x1:Int) (xx:Int) (CY:(List (List Int))):Option (Out (Int×(List (List Int))) ((List (List Int))×aI)):=
 (bif decide (xx < x1) then (ae (ab 6 (aj (fun s=>jY x1 xx s.1 s.2) ((0:Int),CY))) (fun (vp,CX)=>(some (Out.norm (ak (xx+(1:Int)),CX))))) else (some (Out.exit 4 (xx,CY))))
def dM (x0:aI) (x1:Int):Option ((List (List Int))×aI):=
 aq (S:=Unit) (ae (ab 0 (aj (fun s=>eL x0 x1 s.1 s.2.1 s.2.2.1 s.2.2.2) (([]:(List (List Int))),(0:Int),x0.At,x0.au))) (fun (aX,di,jy,jz)=>(bif decide (x1 > (1:Int)) then ((bE (aI.mk x0.Code jy jz) ((4:Int)))>>=fun Ma=>(bif (Ma.1) == ((0:Int)) then ((idx aX (ak (x1 - (1:Int))))>>=fun IE=>((bE (aI.mk x0.Code Ma.2.At Ma.2.au) (x1))>>=fun Aj=>((idx IE (Aj.1))>>=fun va=>(ae (ab 4 (aj (fun s=>jU x1 s.1 s.2) ((0:Int),aX.set (ak (x1 - (1:Int))).toNat (IE.set (Aj.1).toNat ((1:Int)))))) (fun (ch,A0)=>(some (Out.ret ((A0,(aI.mk x0.Code Aj.2.At Aj.2.au)))))))))) else (ae (ab 4 (aj (fun s=>jX x1 s.1 s.2) ((0:Int),aX))) (fun (xw,CW)=>(some (Out.ret ((CW,(aI.mk x0.Code Ma.2.At Ma.2.au))))))))) else (ae (ab 4 (aj (fun s=>jZ x1 s.1 s.2) ((0:Int),aX))) (fun (xx,CY)=>(some (Out.ret ((CY,(aI.mk x0.Code jy jz))))))))))
def gI (x0:(List (List Int))) (di:Int) (ou:(List Int)) (cp:Int) (rD:(List Int)) (uf:(List Int)):Option (Out ((List Int)×Int×(List Int)×(List Int)) (aC)):=
 (bif decide (cp < (x0.length:Int)) then ((fits 8 (ou.length+1))>>=fun n185=>((idx x0 (di))>>=fun Z7=>((idx Z7 (cp))>>=fun Z8=>(bif (Z8) == ((1:Int)) then ((fits 8 (rD.length+1))>>=fun n229=>((fits 8 (uf.length+1))>>=fun n265=>(some (Out.norm (ou++[(rD.length:Int)],ak (cp+(1:Int)),rD++[di],uf++[cp]))))) else (some (Out.norm (ou++[(rD.length:Int)],ak (cp+(1:Int)),rD,uf))))))) else (some (Out.exit 2 (ou,cp,rD,uf))))
def gJ (x0:(List (List Int))) (bo:(List (List Int))) (di:Int) (nj:(List Int)) (pZ:(List Int)):Option (Out ((List (List Int))×Int×(List Int)×(List Int)) (aC)):=
 (bif decide (di < (x0.length:Int)) then (ae (ab 2 (aj (fun s=>gI x0 di s.1 s.2.1 s.2.2.1 s.2.2.2) (([]:(List Int)),(0:Int),nj,pZ))) (fun (ou,cp,rD,uf)=>((fits 24 (bo.length+1))>>=fun n306=>(some (Out.norm (bo++[ou],ak (di+(1:Int)),rD,uf)))))) else (some (Out.exit 0 (bo,di,nj,pZ))))
def gK (x0:(List (List Int))) (bo:(List (List Int))) (ch:Int) (vY:(List Int)):Option (Out (Int×(List Int)) (aC)):=
 (bif decide (ch < (x0.length:Int)) then ((idx bo (ch))>>=fun Z9=>((idx Z9 (ch))>>=fun Uw=>((fits 8 (vY.length+1))>>=fun alB=>(some (Out.norm (ak (ch+(1:Int)),vY++[Uw])))))) else (some (Out.exit 4 (ch,vY))))
def gL (bo:(List (List Int))) (nj:(List Int)) (pZ:(List Int)) (ed:Int) (qe:(List Int)) (o4:Int):Option (Out ((List Int)×Int) (aC)):=
 (bif decide (o4 < (nj.length:Int)) then ((idx pZ (ed))>>=fun aaa=>((idx nj (o4))>>=fun aab=>(bif (aaa) == (aab) then ((idx nj (ed))>>=fun aac=>((idx bo (aac))>>=fun aad=>((idx pZ (o4))>>=fun aae=>((idx aad (aae))>>=fun aaf=>((fits 8 (qe.length+1))>>=fun alC=>(some (Out.norm (qe++[aaf],ak (o4+(1:Int)))))))))) else ((fits 8 (qe.length+1))>>=fun alD=>(some (Out.norm (qe++[(-1:Int)],ak (o4+(1:Int))))))))) else (some (Out.exit 8 (qe,o4))))
def gM (bo:(List (List Int))) (nj:(List Int)) (pZ:(List Int)) (ed:Int) (vZ:(List (List Int))):Option (Out (Int×(List (List Int))) (aC)):=
 (bif decide (ed < (nj.length:Int)) then (ae (ab 8 (aj (fun s=>gL bo nj pZ ed s.1 s.2) (([]:(List Int)),(0:Int)))) (fun (qe,o4)=>((fits 24 (vZ.length+1))>>=fun alE=>(some (Out.norm (ak (ed+(1:Int)),vZ++[qe])))))) else (some (Out.exit 6 (ed,vZ))))
def bX (x0:(List (List Int))):Option (aC):=
 aq (S:=Unit) (ae (ab 0 (aj (fun s=>gJ x0 s.1 s.2.1 s.2.2.1 s.2.2.2) (([]:(List (List Int))),(0:Int),([]:(List Int)),([]:(List Int))))) (fun (bo,di,nj,pZ)=>(ae (ab 4 (aj (fun s=>gK x0 bo s.1 s.2) ((0:Int),([]:(List Int))))) (fun (ch,vY)=>(ae (ab 6 (aj (fun s=>gM bo nj pZ s.1 s.2) ((0:Int),([]:(List (List Int)))))) (fun (ed,vZ)=>(some (Out.ret ((aC.mk ((x0.length:Int)) nj pZ vY vZ))))))))))
def bZ (x0:(List Int)):Option ((List Int)):=
 aq (S:=Unit) ((fits 8 ((([]:(List Int))).length+x0.length))>>=fun n15=>(some (Out.ret ((([]:(List Int))++x0)))))
def cQ (x0:(List Int)) (x1:(List Int)) (aX:Int):Option (Out (Int) (Bool)):=
 (((bif decide (aX < (x0.length:Int)) then (some (decide (aX < (x1.length:Int)))) else (some (false))))>>=fun g6=>(bif g6 then ((idx x0 (aX))>>=fun Gy=>((idx x1 (aX))>>=fun uL=>(bif (Gy) != (uL) then ((idx x0 (aX))>>=fun IF=>((idx x1 (aX))>>=fun Ah=>(some (Out.ret ((decide (IF < Ah))))))) else (some (Out.norm (ak (aX+(1:Int)))))))) else (some (Out.exit 0 (aX)))))
def kL (x0:(List Int)) (x1:(List Int)):Option (Bool):=
 aq (S:=Unit) (ae (ab 0 (aj (cQ x0 x1) ((0:Int)))) (fun aX=>(some (Out.ret ((decide ((x0.length:Int) < (x1.length:Int))))))))
def gG (x0:aY) (x1:aY):Option (Bool):=
 aq (S:=Unit) (bif (x0.aA) != (x1.aA) then (some (Out.ret ((decide (x0.aA < x1.aA))))) else (bif (x0.To) != (x1.To) then (some (Out.ret ((decide (x0.To < x1.To))))) else ((kL x0.l8 x1.l8)>>=fun v7=>(some (Out.ret (v7))))))
def iW (x0:Int) (s0:(List aY)) (s1:Int):Option (Out ((List aY)×Int) ((List aY))):=
 (bif decide (s1 < x0) then ((fits 40 (s0.length+1))>>=fun n26=>(some (Out.norm (s0++[aY.mk s1 s1 []],ak (s1+(1:Int)))))) else (some (Out.exit 0 (s0,s1))))
def gH (x1:(List Int)) (x2:(List Int)) (s1:Int) (s0:(List aY)) (s2:Int):Option (Out ((List aY)×Int) ((List aY))):=
 (bif decide (s2 < (x1.length:Int)) then ((idx x1 (s2))>>=fun Mb=>((idx s0 (s1))>>=fun Gz=>(bif (Mb) == (Gz.To) then ((idx s0 (s1))>>=fun Ux=>((idx x2 (s2))>>=fun BI=>((idx s0 (s1))>>=fun Uy=>((bZ Uy.l8)>>=fun Mc=>((fits 8 (Mc.length+1))>>=fun n72=>((fits 40 (s0.length+1))>>=fun n75=>(some (Out.norm (s0++[aY.mk Ux.aA BI (Mc++[s2])],ak (s2+(1:Int))))))))))) else (some (Out.norm (s0,ak (s2+(1:Int)))))))) else (some (Out.exit 4 (s0,s2))))
def iX (x1:(List Int)) (x2:(List Int)) (s0:(List aY)) (s1:Int):Option (Out ((List aY)×Int) ((List aY))):=
 (((bif decide (s1 < (s0.length:Int)) then (some (decide ((s0.length:Int)≤(40:Int)))) else (some (false))))>>=fun Uz=>(bif Uz then (ae (ab 4 (aj (fun s=>gH x1 x2 s1 s.1 s.2) (s0,(0:Int)))) (fun (s0,s2)=>(some (Out.norm (s0,ak (s1+(1:Int))))))) else (some (Out.exit 2 (s0,s1)))))
def iY (s0:(List aY)) (s1:Int):Option (Out ((List aY)×Int) ((List aY))):=
 (((bif decide ((0:Int) < s1) then ((idx s0 (s1))>>=fun BJ=>((idx s0 (ak (s1 - (1:Int))))>>=fun Ak=>((gG BJ Ak)>>=fun GA=>(some (GA))))) else (some (false))))>>=fun UA=>(bif UA then ((idx s0 (s1))>>=fun OF=>((idx s0 (ak (s1 - (1:Int))))>>=fun va=>((idx s0 (s1))>>=fun GB=>((idx (s0.set (s1).toNat va) (ak (s1 - (1:Int))))>>=fun OG=>(some (Out.norm ((s0.set (s1).toNat va).set (ak (s1 - (1:Int))).toNat OF,ak (s1 - (1:Int))))))))) else (some (Out.exit 8 (s0,s1)))))
def iZ (s0:(List aY)) (s1:Int):Option (Out ((List aY)×Int) ((List aY))):=
 (bif decide (s1 < (s0.length:Int)) then (ae (ab 8 (aj (fun s=>iY s.1 s.2) (s0,s1))) (fun (s0,s2)=>(some (Out.norm (s0,ak (s1+(1:Int))))))) else (some (Out.exit 6 (s0,s1))))
def jQ (x0:Int) (x1:(List Int)) (x2:(List Int)):Option ((List aY)):=
 aq (S:=Unit) (ae (ab 0 (aj (fun s=>iW x0 s.1 s.2) (([]:(List aY)),(0:Int)))) (fun (s0,s1)=>(ae (ab 2 (aj (fun s=>iX x1 x2 s.1 s.2) (s0,(0:Int)))) (fun (s0,s1)=>(ae (ab 6 (aj (fun s=>iZ s.1 s.2) (s0,(1:Int)))) (fun (s0,s1)=>(some (Out.ret (s0)))))))))
def cF (x0:aC):Option (Bool):=
 aq (S:=Unit) (((bif decide (x0.aD≤(8:Int)) then (some (decide ((x0.aA.length:Int)≤(40:Int)))) else (some (false))))>>=fun g8=>(some (Out.ret (g8))))
def kG (x0:(List Int)) (x1:(List Int)) (aX:Int):Option (Out (Int) (Bool)):=
 (bif decide (aX < (x0.length:Int)) then ((idx x0 (aX))>>=fun uL=>((idx x1 (aX))>>=fun GC=>(bif (uL) != (GC) then (some (Out.ret (false))) else (some (Out.norm (ak (aX+(1:Int)))))))) else (some (Out.exit 0 (aX))))
def dQ (x0:(List Int)) (x1:(List Int)):Option (Bool):=
 aq (S:=Unit) (bif ((x0.length:Int)) != ((x1.length:Int)) then (some (Out.ret (false))) else (ae (ab 0 (aj (kG x0 x1) ((0:Int)))) (fun aX=>(some (Out.ret (true))))))
def gN (y8:(List aY)) (fh:Int) (j4:(List Int)) (j5:(List Int)) (mx:(List Int)):Option (Out (Int×(List Int)×(List Int)×(List Int)) (aC)):=
 (bif decide (fh < (y8.length:Int)) then ((idx y8 (fh))>>=fun B4=>((fits 8 (j4.length+1))>>=fun n134=>((idx y8 (fh))>>=fun GD=>((fits 8 (j5.length+1))>>=fun n173=>((idx y8 (fh))>>=fun OH=>(bif ((OH.l8.length:Int)) == ((0:Int)) then ((idx y8 (fh))>>=fun GF=>((idx mx (GF.aA))>>=fun aag=>(some (Out.norm (ak (fh+(1:Int)),j4++[B4.aA],j5++[GD.To],mx.set (GF.aA).toNat (fh)))))) else (some (Out.norm (ak (fh+(1:Int)),j4++[B4.aA],j5++[GD.To],mx))))))))) else (some (Out.exit 0 (fh,j4,j5,mx))))
def gO (y8:(List aY)) (eh:Int) (ug:(List Int)) (vX:aY) (vq:Int) (px:Int):Option (Out (Int×Int) (aC)):=
 (bif decide (px < (y8.length:Int)) then ((((idx y8 (px))>>=fun OI=>((idx y8 (eh))>>=fun OJ=>(bif (OI.aA) == (OJ.aA) then ((idx y8 (px))>>=fun OK=>((dQ OK.l8 (ug++vX.l8))>>=fun OL=>(some (OL)))) else (some (false))))))>>=fun ON=>(bif ON then (some (Out.norm (px,ak (px+(1:Int))))) else (some (Out.norm (vq,ak (px+(1:Int))))))) else (some (Out.exit 6 (vq,px))))
def gP (y8:(List aY)) (eh:Int) (ju:(List Int)) (qC:Int):Option (Out ((List Int)×Int) (aC)):=
 (bif decide (qC < (y8.length:Int)) then ((idx y8 (eh))>>=fun OP=>((idx y8 (qC))>>=fun OQ=>(bif (OP.To) == (OQ.aA) then ((idx y8 (eh))>>=fun OR=>((bZ OR.l8)>>=fun ug=>((idx y8 (qC))>>=fun vX=>((fits 8 (ug.length+vX.l8.length))>>=fun aah=>(ae (ab 6 (aj (fun s=>gO y8 eh ug vX s.1 s.2) ((-1:Int),(0:Int)))) (fun (vq,px)=>((fits 8 (ju.length+1))>>=fun aai=>(some (Out.norm (ju++[vq],ak (qC+(1:Int)))))))))))) else ((fits 8 (ju.length+1))>>=fun aaj=>(some (Out.norm (ju++[(-1:Int)],ak (qC+(1:Int))))))))) else (some (Out.exit 4 (ju,qC))))
def eN (y8:(List aY)) (eh:Int) (ov:(List (List Int))):Option (Out (Int×(List (List Int))) (aC)):=
 (bif decide (eh < (y8.length:Int)) then (ae (ab 4 (aj (fun s=>gP y8 eh s.1 s.2) (([]:(List Int)),(0:Int)))) (fun (ju,qC)=>((fits 24 (ov.length+1))>>=fun aak=>(some (Out.norm (ak (eh+(1:Int)),ov++[ju])))))) else (some (Out.exit 2 (eh,ov))))
def cY (x0:Int) (x1:(List Int)) (x2:(List Int)):Option (aC):=
 aq (S:=Unit) ((jQ (x0) x1 x2)>>=fun y8=>((mk 8 (x0))>>=fun n36=>(ae (ab 0 (aj (fun s=>gN y8 s.1 s.2.1 s.2.2.1 s.2.2.2) ((0:Int),([]:(List Int)),([]:(List Int)),List.replicate n36 (0:Int)))) (fun (fh,j4,j5,mx)=>((cF (aC.mk x0 j4 j5 mx (([]:(List (List Int))))))>>=fun OS=>(bif !(OS) then (some (Out.ret ((aC.mk x0 j4 j5 mx (([]:(List (List Int)))))))) else (ae (ab 2 (aj (fun s=>eN y8 s.1 s.2) ((0:Int),([]:(List (List Int)))))) (fun (eh,ov)=>(some (Out.ret ((aC.mk x0 j4 j5 mx ov))))))))))))
def dN (x0:aI):Option ((List (List Int))×aI):=
 aq (S:=Unit) ((bE x0 ((8:Int)))>>=fun y5=>(bif (y5.1) == ((0:Int)) then (some (Out.ret (((([[(0:Int)]]:(List (List Int)))),(aI.mk x0.Code y5.2.At y5.2.au))))) else (bif (y5.1) == ((1:Int)) then (some (Out.ret (((([[(0:Int),(1:Int)],[(1:Int),(0:Int)]]:(List (List Int)))),(aI.mk x0.Code y5.2.At y5.2.au))))) else (bif (y5.1) == ((2:Int)) then (some (Out.ret (((([[(0:Int),(1:Int)],[(1:Int),(1:Int)]]:(List (List Int)))),(aI.mk x0.Code y5.2.At y5.2.au))))) else (bif (y5.1) == ((3:Int)) then (some (Out.ret (((([[(0:Int),(1:Int),(2:Int)],[(1:Int),(2:Int),(0:Int)],[(2:Int),(0:Int),(1:Int)]]:(List (List Int)))),(aI.mk x0.Code y5.2.At y5.2.au))))) else (bif (y5.1) == ((4:Int)) then (some (Out.ret (((([[(0:Int),(1:Int),(2:Int)],[(1:Int),(1:Int),(2:Int)],[(2:Int),(2:Int),(2:Int)]]:(List (List Int)))),(aI.mk x0.Code y5.2.At y5.2.au))))) else (bif (y5.1) == ((5:Int)) then (some (Out.ret (((([[(0:Int),(1:Int),(2:Int)],[(1:Int),(1:Int),(2:Int)],[(2:Int),(1:Int),(2:Int)]]:(List (List Int)))),(aI.mk x0.Code y5.2.At y5.2.au))))) else (bif (y5.1) == ((6:Int)) then (some (Out.ret (((([[(0:Int),(1:Int),(2:Int),(3:Int)],[(1:Int),(0:Int),(2:Int),(3:Int)],[(2:Int),(3:Int),(2:Int),(3:Int)],[(3:Int),(2:Int),(2:Int),(3:Int)]]:(List (List Int)))),(aI.mk x0.Code y5.2.At y5.2.au))))) else (some (Out.ret (((([[(0:Int),(1:Int),(2:Int)],[(1:Int),(2:Int),(2:Int)],[(2:Int),(2:Int),(2:Int)]]:(List (List Int)))),(aI.mk x0.Code y5.2.At y5.2.au)))))))))))))
def iI (x0:(List (List Int))) (dx:(List (List Int))) (bo:Int):Option (Out ((List (List Int))×Int) ((List (List Int)))):=
 (bif decide (bo < (x0.length:Int)) then ((idx x0 (bo))>>=fun IG=>((bZ IG)>>=fun qu=>((fits 24 (dx.length+1))>>=fun n49=>(some (Out.norm (dx++[qu],ak (bo+(1:Int)))))))) else (some (Out.exit 0 (dx,bo))))
def jA (x0:(List (List Int))):Option ((List (List Int))):=
 aq (S:=Unit) (ae (ab 0 (aj (fun s=>iI x0 s.1 s.2) (([]:(List (List Int))),(0:Int)))) (fun (dx,bo)=>(some (Out.ret (dx)))))
def dP (x0:(List (List Int))):Option (aC):=
 aq (S:=Unit) ((mk 8 ((x0.length:Int)))>>=fun n10=>((mk 8 ((x0.length:Int)))>>=fun n19=>((jA x0)>>=fun y39=>(some (Out.ret ((aC.mk ((1:Int)) (List.replicate n10 (0:Int)) (List.replicate n19 (0:Int)) ([(0:Int)]) y39)))))))
def iF:Option (aC):=
 aq (S:=Unit) (some (Out.ret ((aC.mk ((2:Int)) (([(0:Int),(1:Int),(0:Int),(0:Int),(1:Int)]:(List Int))) (([(0:Int),(1:Int),(0:Int),(1:Int),(0:Int)]:(List Int))) (([(0:Int),(1:Int)]:(List Int))) (([[(0:Int),(-1:Int),(2:Int),(3:Int),(-1:Int)],[(-1:Int),(1:Int),(-1:Int),(-1:Int),(4:Int)],[(2:Int),(-1:Int),(2:Int),(3:Int),(-1:Int)],[(-1:Int),(3:Int),(-1:Int),(-1:Int),(2:Int)],[(4:Int),(-1:Int),(4:Int),(1:Int),(-1:Int)]]:(List (List Int))))))))
def iN (x0:aC):Option (aC):=
 aq (S:=Unit) ((bZ x0.aA)>>=fun v8=>((bZ x0.To)>>=fun v7=>((bZ x0.aF)>>=fun UB=>((jA x0.aB)>>=fun UC=>(some (Out.ret ((aC.mk x0.aD v8 v7 UB UC))))))))
def eP (x0:aC) (x1:aC) (gx:Int) (wa:(List Int)):Option (Out (Int×(List Int)) (aC)):=
 (bif decide (gx < x1.aD) then ((idx x1.aF (gx))>>=fun OT=>((fits 8 (wa.length+1))>>=fun n136=>(some (Out.norm (ak (gx+(1:Int)),wa++[ak (OT+(x0.aA.length:Int))]))))) else (some (Out.exit 0 (gx,wa))))
def eQ (x1:aC) (my:Int) (cu:Int) (xL:(List (List Int))):Option (Out (Int×(List (List Int))) (aC)):=
 (bif decide (cu < (x1.aA.length:Int)) then ((idx xL (my))>>=fun UD=>((fits 8 (UD.length+1))>>=fun n233=>((idx xL (my))>>=fun alF=>(some (Out.norm (ak (cu+(1:Int)),xL.set (my).toNat (UD++[(-1:Int)]))))))) else (some (Out.exit 4 (cu,xL))))
def eR (x1:aC) (my:Int) (Al:(List (List Int))):Option (Out (Int×(List (List Int))) (aC)):=
 (bif decide (my < (Al.length:Int)) then (ae (ab 4 (aj (fun s=>eQ x1 my s.1 s.2) ((0:Int),Al))) (fun (cu,xL)=>(some (Out.norm (ak (my+(1:Int)),xL))))) else (some (Out.exit 2 (my,Al))))
def eS (x0:aC) (o4:(List Int)) (rQ:Int):Option (Out ((List Int)×Int) (aC)):=
 (bif decide (rQ < (x0.aA.length:Int)) then ((fits 8 (o4.length+1))>>=fun alG=>(some (Out.norm (o4++[(-1:Int)],ak (rQ+(1:Int)))))) else (some (Out.exit 8 (o4,rQ))))
def eU (x0:aC) (x1:aC) (fy:Int) (qD:(List Int)) (qZ:Int):Option (Out ((List Int)×Int) (aC)):=
 (bif decide (qZ < (x1.aA.length:Int)) then ((idx x1.aB (fy))>>=fun aal=>((idx aal (qZ))>>=fun OU=>(bif decide (OU ≥ (0:Int)) then ((fits 8 (qD.length+1))>>=fun alH=>(some (Out.norm (qD++[ak (OU+(x0.aA.length:Int))],ak (qZ+(1:Int)))))) else ((fits 8 (qD.length+1))>>=fun alI=>(some (Out.norm (qD++[OU],ak (qZ+(1:Int))))))))) else (some (Out.exit 10 (qD,qZ))))
def eV (x0:aC) (x1:aC) (fy:Int) (wb:(List Int)) (wc:(List Int)) (we:(List (List Int))):Option (Out (Int×(List Int)×(List Int)×(List (List Int))) (aC)):=
 (bif decide (fy < (x1.aA.length:Int)) then ((idx x1.aA (fy))>>=fun aam=>((fits 8 (wb.length+1))>>=fun n314=>((idx x1.To (fy))>>=fun OC=>((fits 8 (wc.length+1))>>=fun alJ=>(ae (ab 8 (aj (fun s=>eS x0 s.1 s.2) (([]:(List Int)),(0:Int)))) (fun (o4,rQ)=>(ae (ab 10 (aj (fun s=>eU x0 x1 fy s.1 s.2) (o4,(0:Int)))) (fun (qD,qZ)=>((fits 24 (we.length+1))>>=fun alK=>(some (Out.norm (ak (fy+(1:Int)),wb++[ak (aam+x0.aD)],wc++[ak (OC+x0.aD)],we++[qD])))))))))))) else (some (Out.exit 6 (fy,wb,wc,we))))
def gE (x0:aC) (x1:aC):Option (aC):=
 aq (S:=Unit) ((iN x0)>>=fun zE=>(ae (ab 0 (aj (fun s=>eP x0 x1 s.1 s.2) ((0:Int),zE.aF))) (fun (gx,wa)=>(ae (ab 2 (aj (fun s=>eR x1 s.1 s.2) ((0:Int),zE.aB))) (fun (my,Al)=>(ae (ab 6 (aj (fun s=>eV x0 x1 s.1 s.2.1 s.2.2.1 s.2.2.2) ((0:Int),zE.aA,zE.To,Al))) (fun (fy,wb,wc,we)=>(some (Out.ret ((aC.mk (ak (x0.aD+x1.aD)) wb wc wa we)))))))))))
def dR (x0:aC) (x1:aC) (bx:Int) (cp:Int) (wg:(List Int)) (wh:(List Int)):Option (Out (Int×(List Int)×(List Int)) (aC)):=
 (bif decide (cp < x1.aD) then ((fits 8 (wg.length+1))>>=fun n181=>((fits 8 (wh.length+1))>>=fun n217=>(some (Out.norm (ak (cp+(1:Int)),wg++[bx],wh++[ak (x0.aD+cp)]))))) else (some (Out.exit 2 (cp,wg,wh))))
def dS (x0:aC) (x1:aC) (bx:Int) (nk:(List Int)) (p3:(List Int)):Option (Out (Int×(List Int)×(List Int)) (aC)):=
 (bif decide (bx < x0.aD) then (ae (ab 2 (aj (fun s=>dR x0 x1 bx s.1 s.2.1 s.2.2) ((0:Int),nk,p3))) (fun (cp,wg,wh)=>(some (Out.norm (ak (bx+(1:Int)),wg,wh))))) else (some (Out.exit 0 (bx,nk,p3))))
def dT (x0:aC) (x1:aC) (qu:aC) (nk:(List Int)) (p3:(List Int)) (cu:Int) (fy:(List Int)) (jj:Int):Option (Out ((List Int)×Int) (aC)):=
 (bif decide (jj < (nk.length:Int)) then ((idx p3 (cu))>>=fun aan=>((idx nk (jj))>>=fun aao=>(bif (aan) != (aao) then ((fits 8 (fy.length+1))>>=fun alL=>(some (Out.norm (fy++[(-1:Int)],ak (jj+(1:Int)))))) else (((bif decide (cu < (qu.aA.length:Int)) then (some (decide (jj < (qu.aA.length:Int)))) else (some (false))))>>=fun aap=>(bif aap then ((idx qu.aB (cu))>>=fun aaq=>((idx aaq (jj))>>=fun aar=>((fits 8 (fy.length+1))>>=fun alM=>(some (Out.norm (fy++[aar],ak (jj+(1:Int)))))))) else ((idx nk (cu))>>=fun OV=>((idx p3 (jj))>>=fun OX=>((fits 8 (fy.length+1))>>=fun alN=>(some (Out.norm (fy++[ak (ak (ak ((qu.aA.length:Int)+ak (OV * x1.aD))+OX) - x0.aD)],ak (jj+(1:Int))))))))))))) else (some (Out.exit 6 (fy,jj))))
def dU (x0:aC) (x1:aC) (qu:aC) (nk:(List Int)) (p3:(List Int)) (ch:(List (List Int))) (cu:Int):Option (Out ((List (List Int))×Int) (aC)):=
 (bif decide (cu < (nk.length:Int)) then (ae (ab 6 (aj (fun s=>dT x0 x1 qu nk p3 cu s.1 s.2) (([]:(List Int)),(0:Int)))) (fun (fy,jj)=>((fits 24 (ch.length+1))>>=fun alO=>(some (Out.norm (ch++[fy],ak (cu+(1:Int)))))))) else (some (Out.exit 4 (ch,cu))))
def fD (x0:aC) (x1:aC):Option (aC):=
 aq (S:=Unit) ((gE x0 x1)>>=fun qu=>(ae (ab 0 (aj (fun s=>dS x0 x1 s.1 s.2.1 s.2.2) ((0:Int),qu.aA,qu.To))) (fun (bx,nk,p3)=>(ae (ab 4 (aj (fun s=>dU x0 x1 qu nk p3 s.1 s.2) (([]:(List (List Int))),(0:Int)))) (fun (ch,cu)=>(some (Out.ret ((aC.mk qu.aD nk p3 qu.aF ch)))))))))
def jN (x0:aC) (bo:Int) (ly:(List Int)) (jm:Int):Option (Out ((List Int)×Int) (aC)):=
 (bif decide (jm < (x0.aA.length:Int)) then ((idx x0.aB (jm))>>=fun aas=>((idx aas (bo))>>=fun aat=>((fits 8 (ly.length+1))>>=fun n187=>(some (Out.norm (ly++[aat],ak (jm+(1:Int)))))))) else (some (Out.exit 2 (ly,jm))))
def jO (x0:aC) (bo:Int) (wi:(List (List Int))):Option (Out (Int×(List (List Int))) (aC)):=
 (bif decide (bo < (x0.aA.length:Int)) then (ae (ab 2 (aj (fun s=>jN x0 bo s.1 s.2) (([]:(List Int)),(0:Int)))) (fun (ly,jm)=>((fits 24 (wi.length+1))>>=fun n222=>(some (Out.norm (ak (bo+(1:Int)),wi++[ly])))))) else (some (Out.exit 0 (bo,wi))))
def kZ (x0:aC):Option (aC):=
 aq (S:=Unit) ((bZ x0.To)>>=fun qu=>((bZ x0.aA)>>=fun UE=>((bZ x0.aF)>>=fun Md=>(ae (ab 0 (aj (fun s=>jO x0 s.1 s.2) ((0:Int),([]:(List (List Int)))))) (fun (bo,wi)=>(some (Out.ret ((aC.mk x0.aD qu UE Md wi)))))))))
def fV (Am:Int×aI) (jm:(List Int)) (ou:Int):Option (Out ((List Int)×Int) (aC×aI)):=
 (bif decide (ou < ak ((1:Int)+Am.1)) then ((fits 8 (jm.length+1))>>=fun aau=>(some (Out.norm (jm++[(1:Int)],ak (ou+(1:Int)))))) else (some (Out.exit 3 (jm,ou))))
def fW (Am:Int×aI) (bo:(List (List Int))) (aX:Int):Option (Out ((List (List Int))×Int) (aC×aI)):=
 (bif decide (aX < ak ((1:Int)+Am.1)) then (ae (ab 3 (aj (fun s=>fV Am s.1 s.2) (([]:(List Int)),(0:Int)))) (fun (jm,ou)=>((fits 24 (bo.length+1))>>=fun alP=>(some (Out.norm (bo++[jm],ak (aX+(1:Int)))))))) else (some (Out.exit 1 (bo,aX))))
def fX (x0:aI) (yM:Int×aI) (ch:(List Int)) (cu:(List Int)) (ju:Int) (w9:Int) (xa:Int):Option (Out ((List Int)×(List Int)×Int×Int×Int) (aC×aI)):=
 (bif decide (ju > (0:Int)) then ((bE (aI.mk x0.Code w9 xa) (ak (ak ((2:Int)+yM.1) - (1:Int))))>>=fun CZ=>((fits 8 (ch.length+1))>>=fun akp=>((bE (aI.mk x0.Code CZ.2.At CZ.2.au) (ak (ak (ak ((2:Int)+yM.1) - (1:Int)) - CZ.1)))>>=fun JW=>((fits 8 (cu.length+1))>>=fun akq=>(some (Out.norm (ch++[CZ.1],cu++[ak (ak (CZ.1+(1:Int))+JW.1)],ak (ju - (1:Int)),JW.2.At,JW.2.au))))))) else (some (Out.exit 5 (ch,cu,ju,w9,xa))))
def cZ (x0:aI):Option (aC×aI):=
 aq (S:=Unit) ((bE x0 ((12:Int)))>>=fun gf=>(bif (gf.1) == ((0:Int)) then ((bE (aI.mk x0.Code gf.2.At gf.2.au) ((5:Int)))>>=fun C0=>((dM (aI.mk x0.Code C0.2.At C0.2.au) (C0.1))>>=fun v7=>((bX v7.1)>>=fun UB=>(some (Out.ret ((UB,(aI.mk x0.Code v7.2.At v7.2.au)))))))) else (bif (gf.1) == ((1:Int)) then ((bX [[(1:Int),(1:Int)],[(0:Int),(1:Int)]])>>=fun UF=>(some (Out.ret ((UF,(aI.mk x0.Code gf.2.At gf.2.au)))))) else (bif (gf.1) == ((2:Int)) then ((bX [[(1:Int),(1:Int),(1:Int)],[(0:Int),(1:Int),(0:Int)],[(0:Int),(0:Int),(1:Int)]])>>=fun GG=>(some (Out.ret ((GG,(aI.mk x0.Code gf.2.At gf.2.au)))))) else (bif (gf.1) == ((3:Int)) then ((cY ((2:Int)) [(0:Int),(0:Int)] [(1:Int),(1:Int)])>>=fun aav=>(some (Out.ret ((aav,(aI.mk x0.Code gf.2.At gf.2.au)))))) else (bif (gf.1) == ((4:Int)) then ((dN (aI.mk x0.Code gf.2.At gf.2.au))>>=fun OY=>((dP OY.1)>>=fun aaw=>(some (Out.ret ((aaw,(aI.mk x0.Code OY.2.At OY.2.au))))))) else (bif (gf.1) == ((5:Int)) then ((bE (aI.mk x0.Code gf.2.At gf.2.au) ((3:Int)))>>=fun Am=>(ae (ab 1 (aj (fun s=>fW Am s.1 s.2) (([]:(List (List Int))),(0:Int)))) (fun (bo,aX)=>((bX bo)>>=fun aax=>(some (Out.ret ((aax,(aI.mk x0.Code Am.2.At Am.2.au))))))))) else (bif (gf.1) == ((6:Int)) then ((cY ((3:Int)) [(0:Int),(1:Int),(0:Int)] [(1:Int),(2:Int),(2:Int)])>>=fun aay=>(some (Out.ret ((aay,(aI.mk x0.Code gf.2.At gf.2.au)))))) else (bif (gf.1) == ((7:Int)) then ((iF)>>=fun aaz=>(some (Out.ret ((aaz,(aI.mk x0.Code gf.2.At gf.2.au)))))) else (bif (gf.1) == ((8:Int)) then ((dN (aI.mk x0.Code gf.2.At gf.2.au))>>=fun OZ=>((dP OZ.1)>>=fun aaA=>((bX [[(1:Int)]])>>=fun aaB=>((fD aaA aaB)>>=fun aaC=>((kZ aaC)>>=fun aaD=>(some (Out.ret ((aaD,(aI.mk x0.Code OZ.2.At OZ.2.au)))))))))) else (bif (gf.1) == ((9:Int)) then ((dN (aI.mk x0.Code gf.2.At gf.2.au))>>=fun O0=>((dP O0.1)>>=fun aaE=>((bX [[(1:Int)]])>>=fun aaF=>((fD aaE aaF)>>=fun aaG=>(some (Out.ret ((aaG,(aI.mk x0.Code O0.2.At O0.2.au))))))))) else (bif (gf.1) == ((10:Int)) then ((bE (aI.mk x0.Code gf.2.At gf.2.au) ((2:Int)))>>=fun JX=>((dM (aI.mk x0.Code JX.2.At JX.2.au) (ak ((2:Int)+JX.1)))>>=fun yN=>((bX yN.1)>>=fun Xo=>(some (Out.ret ((Xo,(aI.mk x0.Code yN.2.At yN.2.au)))))))) else ((bE (aI.mk x0.Code gf.2.At gf.2.au) ((2:Int)))>>=fun yM=>((bE (aI.mk x0.Code yM.2.At yM.2.au) ((4:Int)))>>=fun JY=>(ae (ab 5 (aj (fun s=>fX x0 yM s.1 s.2.1 s.2.2.1 s.2.2.2.1 s.2.2.2.2) (([]:(List Int)),([]:(List Int)),JY.1,JY.2.At,JY.2.au))) (fun (ch,cu,ju,w9,xa)=>((cY (ak ((2:Int)+yM.1)) ch cu)>>=fun Xp=>(some (Out.ret ((Xp,(aI.mk x0.Code w9 xa))))))))))))))))))))))
def cR (x0:aC) (x1:aC) (gx:Int) (my:Int) (wj:(List Int)):Option (Out (Int×(List Int)) (aC)):=
 (bif decide (my < x1.aD) then ((idx x0.aF (gx))>>=fun aaH=>((idx x1.aF (my))>>=fun aaI=>((fits 8 (wj.length+1))>>=fun n186=>(some (Out.norm (ak (my+(1:Int)),wj++[ak (ak (aaH * (x1.aA.length:Int))+aaI)])))))) else (some (Out.exit 2 (my,wj))))
def cS (x0:aC) (x1:aC) (gx:Int) (yO:(List Int)):Option (Out (Int×(List Int)) (aC)):=
 (bif decide (gx < x0.aD) then (ae (ab 2 (aj (fun s=>cR x0 x1 gx s.1 s.2) ((0:Int),yO))) (fun (my,wj)=>(some (Out.norm (ak (gx+(1:Int)),wj))))) else (some (Out.exit 0 (gx,yO))))
def cT (x0:aC) (x1:aC) (cu:Int) (fy:Int) (rQ:Int) (qD:(List Int)) (qZ:Int):Option (Out ((List Int)×Int) (aC)):=
 (bif decide (qZ < (x1.aA.length:Int)) then ((((idx x0.aB (cu))>>=fun aaJ=>((idx aaJ (rQ))>>=fun aaK=>(bif decide (aaK ≥ (0:Int)) then ((idx x1.aB (fy))>>=fun aaL=>((idx aaL (qZ))>>=fun aaM=>(some (decide (aaM ≥ (0:Int)))))) else (some (false))))))>>=fun aaN=>(bif aaN then ((idx x0.aB (cu))>>=fun aaO=>((idx aaO (rQ))>>=fun aaP=>((idx x1.aB (fy))>>=fun aaQ=>((idx aaQ (qZ))>>=fun aaR=>((fits 8 (qD.length+1))>>=fun alQ=>(some (Out.norm (qD++[ak (ak (aaP * (x1.aA.length:Int))+aaR)],ak (qZ+(1:Int)))))))))) else ((fits 8 (qD.length+1))>>=fun alR=>(some (Out.norm (qD++[(-1:Int)],ak (qZ+(1:Int)))))))) else (some (Out.exit 10 (qD,qZ))))
def cU (x0:aC) (x1:aC) (cu:Int) (fy:Int) (o4:(List Int)) (rQ:Int):Option (Out ((List Int)×Int) (aC)):=
 (bif decide (rQ < (x0.aA.length:Int)) then (ae (ab 10 (aj (fun s=>cT x0 x1 cu fy rQ s.1 s.2) (o4,(0:Int)))) (fun (qD,qZ)=>(some (Out.norm (qD,ak (rQ+(1:Int))))))) else (some (Out.exit 8 (o4,rQ))))
def cV (x0:aC) (x1:aC) (cu:Int) (fy:Int) (wk:(List Int)) (wm:(List Int)) (wo:(List (List Int))):Option (Out (Int×(List Int)×(List Int)×(List (List Int))) (aC)):=
 (bif decide (fy < (x1.aA.length:Int)) then ((idx x0.aA (cu))>>=fun O1=>((idx x1.aA (fy))>>=fun O2=>((fits 8 (wk.length+1))>>=fun n318=>((idx x0.To (cu))>>=fun aaS=>((idx x1.To (fy))>>=fun OD=>((fits 8 (wm.length+1))>>=fun alS=>(ae (ab 8 (aj (fun s=>cU x0 x1 cu fy s.1 s.2) (([]:(List Int)),(0:Int)))) (fun (o4,rQ)=>((fits 24 (wo.length+1))>>=fun alT=>(some (Out.norm (ak (fy+(1:Int)),wk++[ak (ak (O1 * x1.aD)+O2)],wm++[ak (ak (aaS * x1.aD)+OD)],wo++[o4])))))))))))) else (some (Out.exit 6 (fy,wk,wm,wo))))
def cW (x0:aC) (x1:aC) (cu:Int) (yP:(List Int)) (yQ:(List Int)) (yR:(List (List Int))):Option (Out (Int×(List Int)×(List Int)×(List (List Int))) (aC)):=
 (bif decide (cu < (x0.aA.length:Int)) then (ae (ab 6 (aj (fun s=>cV x0 x1 cu s.1 s.2.1 s.2.2.1 s.2.2.2) ((0:Int),yP,yQ,yR))) (fun (fy,wk,wm,wo)=>(some (Out.norm (ak (cu+(1:Int)),wk,wm,wo))))) else (some (Out.exit 4 (cu,yP,yQ,yR))))
def dC (x0:aC) (x1:aC):Option (aC):=
 aq (S:=Unit) (ae (ab 0 (aj (fun s=>cS x0 x1 s.1 s.2) ((0:Int),([]:(List Int))))) (fun (gx,yO)=>(ae (ab 4 (aj (fun s=>cW x0 x1 s.1 s.2.1 s.2.2.1 s.2.2.2) ((0:Int),([]:(List Int)),([]:(List Int)),([]:(List (List Int)))))) (fun (cu,yP,yQ,yR)=>(some (Out.ret ((aC.mk (ak (x0.aD * x1.aD)) yP yQ yO yR))))))))
def iJ (x0:aI) (x1:Int) (x2:Int) (bx:Int) (jy:Int) (jz:Int):Option (Out (Int×Int×Int) (aC×aI)):=
 (bif decide (bx < (12:Int)) then ((cZ (aI.mk x0.Code jy jz))>>=fun qL=>((bE (aI.mk x0.Code qL.2.At qL.2.au) ((5:Int)))>>=fun Me=>(bif (Me.1) == ((0:Int)) then ((cZ (aI.mk x0.Code Me.2.At Me.2.au))>>=fun Mf=>((gE qL.1 Mf.1)>>=fun GH=>((bE (aI.mk x0.Code Mf.2.At Mf.2.au) ((8:Int)))>>=fun B5=>(bif (B5.1) == ((0:Int)) then ((cZ (aI.mk x0.Code B5.2.At B5.2.au))>>=fun GI=>((dC GH GI.1)>>=fun JZ=>(((bif decide (JZ.aD≤x1) then (bif decide ((JZ.aA.length:Int)≤x2) then ((cF JZ)>>=fun aaT=>(some (aaT))) else (some (false))) else (some (false))))>>=fun aaU=>(bif aaU then (some (Out.ret ((JZ,(aI.mk x0.Code GI.2.At GI.2.au))))) else (some (Out.norm (ak (bx+(1:Int)),GI.2.At,GI.2.au))))))) else (((bif decide (GH.aD≤x1) then (bif decide ((GH.aA.length:Int)≤x2) then ((cF GH)>>=fun aaV=>(some (aaV))) else (some (false))) else (some (false))))>>=fun aaW=>(bif aaW then (some (Out.ret ((GH,(aI.mk x0.Code B5.2.At B5.2.au))))) else (some (Out.norm (ak (bx+(1:Int)),B5.2.At,B5.2.au))))))))) else ((bE (aI.mk x0.Code Me.2.At Me.2.au) ((8:Int)))>>=fun B6=>(bif (B6.1) == ((0:Int)) then ((cZ (aI.mk x0.Code B6.2.At B6.2.au))>>=fun GJ=>((dC qL.1 GJ.1)>>=fun J3=>(((bif decide (J3.aD≤x1) then (bif decide ((J3.aA.length:Int)≤x2) then ((cF J3)>>=fun aaX=>(some (aaX))) else (some (false))) else (some (false))))>>=fun aaY=>(bif aaY then (some (Out.ret ((J3,(aI.mk x0.Code GJ.2.At GJ.2.au))))) else (some (Out.norm (ak (bx+(1:Int)),GJ.2.At,GJ.2.au))))))) else (((bif decide (qL.1.aD≤x1) then (bif decide ((qL.1.aA.length:Int)≤x2) then ((cF qL.1)>>=fun aaZ=>(some (aaZ))) else (some (false))) else (some (false))))>>=fun aa0=>(bif aa0 then (some (Out.ret ((qL.1,(aI.mk x0.Code B6.2.At B6.2.au))))) else (some (Out.norm (ak (bx+(1:Int)),B6.2.At,B6.2.au)))))))))) else (some (Out.exit 0 (bx,jy,jz))))
def fE (x0:aI) (x1:Int) (x2:Int):Option (aC×aI):=
 aq (S:=Unit) (ae (ab 0 (aj (fun s=>iJ x0 x1 x2 s.1 s.2.1 s.2.2) ((0:Int),x0.At,x0.au))) (fun (bx,jy,jz)=>((bX [[(1:Int)]])>>=fun aa1=>(some (Out.ret ((aa1,(aI.mk x0.Code jy jz))))))))
def kM (x0:aI) (x1:(List Int)):Option (Int×aI):=
 aq (S:=Unit) ((bE x0 ((x1.length:Int)))>>=fun y6=>((idx x1 (y6.1))>>=fun Gy=>(some (Out.ret ((Gy,(aI.mk x0.Code y6.2.At y6.2.au)))))))
def kN (x0:aI) (x1:aC):Option (aC×aI):=
 aq (S:=Unit) ((iN x1)>>=fun dc=>((bE x0 ((dc.aA.length:Int)))>>=fun wq=>((bE (aI.mk x0.Code wq.2.At wq.2.au) ((8:Int)))>>=fun lv=>(bif (lv.1) == ((0:Int)) then ((kM (aI.mk x0.Code lv.2.At lv.2.au) ([ak (dc.aD+(1:Int)),(-1:Int),(9:Int)]))>>=fun Mg=>(some (Out.ret (((aC.mk Mg.1 dc.aA dc.To dc.aF dc.aB),(aI.mk x0.Code Mg.2.At Mg.2.au)))))) else (bif (lv.1) == ((1:Int)) then ((fits 8 (dc.aA.length+1))>>=fun n120=>(some (Out.ret (((aC.mk dc.aD (dc.aA++[(0:Int)]) dc.To dc.aF dc.aB),(aI.mk x0.Code lv.2.At lv.2.au)))))) else (bif (lv.1) == ((2:Int)) then (bif decide ((dc.aF.length:Int) > (0:Int)) then ((bE (aI.mk x0.Code lv.2.At lv.2.au) (ak ((dc.aA.length:Int)+(1:Int))))>>=fun O3=>((idx dc.aF ((0:Int)))>>=fun alU=>(some (Out.ret (((aC.mk dc.aD dc.aA dc.To (dc.aF.set ((0:Int)).toNat (O3.1)) dc.aB),(aI.mk x0.Code O3.2.At O3.2.au))))))) else (some (Out.ret ((dc,(aI.mk x0.Code lv.2.At lv.2.au)))))) else (bif (lv.1) == ((3:Int)) then (bif decide ((dc.aA.length:Int) > (0:Int)) then ((idx dc.aB (wq.1))>>=fun UG=>((bE (aI.mk x0.Code lv.2.At lv.2.au) ((dc.aA.length:Int)))>>=fun J4=>((bE (aI.mk x0.Code J4.2.At J4.2.au) (ak ((dc.aA.length:Int)+(1:Int))))>>=fun O4=>((idx UG (J4.1))>>=fun alV=>(some (Out.ret (((aC.mk dc.aD dc.aA dc.To dc.aF (dc.aB.set (wq.1).toNat (UG.set (J4.1).toNat (ak (O4.1 - (1:Int)))))),(aI.mk x0.Code O4.2.At O4.2.au))))))))) else (some (Out.ret ((dc,(aI.mk x0.Code lv.2.At lv.2.au)))))) else (bif (lv.1) == ((4:Int)) then (bif decide ((dc.aA.length:Int) > (0:Int)) then ((idx dc.aB (wq.1))>>=fun UH=>((bE (aI.mk x0.Code lv.2.At lv.2.au) ((dc.aA.length:Int)))>>=fun J5=>((bE (aI.mk x0.Code J5.2.At J5.2.au) (ak ((dc.aA.length:Int)+(1:Int))))>>=fun O5=>((idx UH (J5.1))>>=fun alW=>(some (Out.ret (((aC.mk dc.aD dc.aA dc.To dc.aF (dc.aB.set (wq.1).toNat (UH.set (J5.1).toNat (ak (O5.1 - (1:Int)))))),(aI.mk x0.Code O5.2.At O5.2.au))))))))) else (some (Out.ret ((dc,(aI.mk x0.Code lv.2.At lv.2.au)))))) else (bif (lv.1) == ((5:Int)) then (bif decide ((dc.aA.length:Int) > (0:Int)) then ((idx dc.aB (wq.1))>>=fun UI=>((bE (aI.mk x0.Code lv.2.At lv.2.au) ((dc.aA.length:Int)))>>=fun J6=>((bE (aI.mk x0.Code J6.2.At J6.2.au) (ak ((dc.aA.length:Int)+(1:Int))))>>=fun O6=>((idx UI (J6.1))>>=fun alX=>(some (Out.ret (((aC.mk dc.aD dc.aA dc.To dc.aF (dc.aB.set (wq.1).toNat (UI.set (J6.1).toNat (ak (O6.1 - (1:Int)))))),(aI.mk x0.Code O6.2.At O6.2.au))))))))) else (some (Out.ret ((dc,(aI.mk x0.Code lv.2.At lv.2.au)))))) else (bif (lv.1) == ((6:Int)) then (bif decide ((dc.aA.length:Int) > (0:Int)) then ((bE (aI.mk x0.Code lv.2.At lv.2.au) (ak (dc.aD+(1:Int))))>>=fun O7=>((idx dc.To (wq.1))>>=fun Uw=>(some (Out.ret (((aC.mk dc.aD dc.aA (dc.To.set (wq.1).toNat (O7.1)) dc.aF dc.aB),(aI.mk x0.Code O7.2.At O7.2.au))))))) else (some (Out.ret ((dc,(aI.mk x0.Code lv.2.At lv.2.au)))))) else (bif decide ((dc.aA.length:Int) > (0:Int)) then ((idx dc.aB (wq.1))>>=fun aa2=>((tl aa2 ((1:Int)))>>=fun aa3=>((idx dc.aB (wq.1))>>=fun alY=>(some (Out.ret (((aC.mk dc.aD dc.aA dc.To dc.aF (dc.aB.set (wq.1).toNat aa3)),(aI.mk x0.Code lv.2.At lv.2.au)))))))) else (some (Out.ret ((dc,(aI.mk x0.Code lv.2.At lv.2.au))))))))))))))))
def kO (x0:aI) (x1:Int) (x2:Int):Option (aC×aI):=
 aq (S:=Unit) ((fE x0 (x1) (x2))>>=fun gf=>((bE (aI.mk x0.Code gf.2.At gf.2.au) ((24:Int)))>>=fun Mh=>(bif (Mh.1) == ((0:Int)) then ((kN (aI.mk x0.Code Mh.2.At Mh.2.au) gf.1)>>=fun zF=>(some (Out.ret ((zF.1,(aI.mk x0.Code zF.2.At zF.2.au)))))) else (some (Out.ret ((gf.1,(aI.mk x0.Code Mh.2.At Mh.2.au))))))))
def lA (x0:aI) (x1:Int):Option (Int×aI):=
 aq (S:=Unit) ((bE x0 ((40:Int)))>>=fun y5=>(bif (y5.1) == ((0:Int)) then ((kM (aI.mk x0.Code y5.2.At y5.2.au) ([(-1:Int),x1,(9223372036854775807:Int),(-9223372036854775808:Int)]))>>=fun GK=>(some (Out.ret ((GK.1,(aI.mk x0.Code GK.2.At GK.2.au)))))) else ((bE (aI.mk x0.Code y5.2.At y5.2.au) (x1))>>=fun C0=>(some (Out.ret ((C0.1,(aI.mk x0.Code C0.2.At C0.2.au))))))))
def nZ (x0:Int) (x1:Int) (x2:Int):Option (Bool):=
 aq (S:=Unit) (((bif decide (x0 ≥ x1) then (some (decide (x0≤x2))) else (some (false))))>>=fun g3=>(some (Out.ret (g3))))
def lB (x0:Int) (x1:(List Int)) (aX:Int):Option (Out (Int) (Bool)):=
 (bif decide (aX < (x1.length:Int)) then ((((idx x1 (aX))>>=fun xc=>(bif decide (xc < (0:Int)) then (some (true)) else ((idx x1 (aX))>>=fun uL=>(some (decide (uL ≥ x0)))))))>>=fun g9=>(bif g9 then (some (Out.ret (false))) else (some (Out.norm (ak (aX+(1:Int))))))) else (some (Out.exit 0 (aX))))
def gF (x0:Int) (x1:(List Int)):Option (Bool):=
 aq (S:=Unit) (ae (ab 0 (aj (lB x0 x1) ((0:Int)))) (fun aX=>(some (Out.ret (true)))))
def kP (x0:(List Int)) (x1:Int) (x2:Int):Option (Bool):=
 aq (S:=Unit) (((bif ((x0.length:Int)) == (x1) then ((gF (x2) x0)>>=fun y6=>(some (y6))) else (some (false))))>>=fun g3=>(some (Out.ret (g3))))
def kH (x0:aC) (bo:Int):Option (Out (Int) (Bool)):=
 (bif decide (bo < x0.aD) then ((((idx x0.aF (bo))>>=fun BK=>((idx x0.aA (BK))>>=fun Mi=>(bif (Mi) != (bo) then (some (true)) else ((idx x0.aF (bo))>>=fun Gz=>((idx x0.To (Gz))>>=fun UJ=>(some ((UJ) != (bo)))))))))>>=fun g43=>(bif g43 then (some (Out.ret (false))) else (some (Out.norm (ak (bo+(1:Int))))))) else (some (Out.exit 0 (bo))))
def kI (x0:aC) (ly:Int) (rE:Int):Option (Out (Int) (Bool)):=
 (bif decide (rE < (x0.aA.length:Int)) then ((idx x0.aB (ly))>>=fun e86=>((idx e86 (rE))>>=fun Ak=>((idx x0.To (ly))>>=fun UK=>((idx x0.aA (rE))>>=fun Mj=>(bif (UK) != (Mj) then (bif (Ak) != ((-1:Int)) then (some (Out.ret (false))) else (some (Out.norm (ak (rE+(1:Int)))))) else (((bif decide (Ak < (0:Int)) then (some (true)) else (bif decide (Ak ≥ (x0.aA.length:Int)) then (some (true)) else ((idx x0.aA (Ak))>>=fun OG=>((idx x0.aA (ly))>>=fun aa4=>(bif (OG) != (aa4) then (some (true)) else ((idx x0.To (Ak))>>=fun aa5=>((idx x0.To (rE))>>=fun aa6=>(some ((aa5) != (aa6)))))))))))>>=fun aa7=>(bif aa7 then (some (Out.ret (false))) else (some (Out.norm (ak (rE+(1:Int)))))))))))) else (some (Out.exit 4 (rE))))
def mW (x0:aC) (ly:Int):Option (Out (Int) (Bool)):=
 (bif decide (ly < (x0.aA.length:Int)) then ((idx x0.aB (ly))>>=fun UL=>(bif ((UL.length:Int)) != ((x0.aA.length:Int)) then (some (Out.ret (false))) else (ae (ab 4 (aj (kI x0 ly) ((0:Int)))) (fun rE=>(some (Out.norm (ak (ly+(1:Int))))))))) else (some (Out.exit 2 (ly))))
def mX (x0:aC):Option (Bool):=
 aq (S:=Unit) ((((nZ (x0.aD) ((0:Int)) ((8:Int)))>>=fun UM=>(bif !(UM) then (some (true)) else (bif decide ((x0.aA.length:Int) > (40:Int)) then (some (true)) else ((kP x0.aA ((x0.aA.length:Int)) (x0.aD))>>=fun v8=>(bif !(v8) then (some (true)) else ((kP x0.To ((x0.aA.length:Int)) (x0.aD))>>=fun Mk=>(bif !(Mk) then (some (true)) else (some (((x0.aB.length:Int)) != ((x0.aA.length:Int))))))))))))>>=fun g10=>(bif g10 then (some (Out.ret (false))) else (((bif ((x0.aF.length:Int)) != (x0.aD) then (some (true)) else ((gF ((x0.aA.length:Int)) x0.aF)>>=fun GL=>(some (!(GL))))))>>=fun g27=>(bif g27 then (some (Out.ret (false))) else (ae (ab 0 (aj (kH x0) ((0:Int)))) (fun bo=>(ae (ab 2 (aj (mW x0) ((0:Int)))) (fun ly=>(some (Out.ret (true)))))))))))
def jF (x0:aC) (bx:Int):Option (Out (Int) (Int×Int×Int×Int)):=
 (bif decide (bx < (x0.aA.length:Int)) then ((((idx x0.aA (bx))>>=fun IG=>((idx x0.aF (IG))>>=fun UN=>((idx x0.aB (UN))>>=fun zD=>((idx zD (bx))>>=fun Ml=>(bif (Ml) != (bx) then (some (true)) else ((idx x0.aB (bx))>>=fun e32=>((idx x0.To (bx))>>=fun QB=>((idx x0.aF (QB))>>=fun GM=>((idx e32 (GM))>>=fun UO=>(some ((UO) != (bx)))))))))))))>>=fun g16=>(bif g16 then (some (Out.ret ((((1:Int)),bx,((0:Int)),((0:Int)))))) else (some (Out.norm (ak (bx+(1:Int))))))) else (some (Out.exit 0 (bx))))
def gR (x0:aC) (cp:Int) (ch:Int) (ed:Int):Option (Out (Int) (Int×Int×Int×Int)):=
 (bif decide (ed < (x0.aA.length:Int)) then ((((idx x0.To (ch))>>=fun e82=>((idx x0.aA (ed))>>=fun QC=>(bif (e82) == (QC) then ((idx x0.aB (cp))>>=fun UP=>((idx UP (ch))>>=fun e94=>((idx x0.aB (e94))>>=fun UQ=>((idx UQ (ed))>>=fun J7=>((idx x0.aB (cp))>>=fun aa8=>((idx x0.aB (ch))>>=fun O8=>((idx O8 (ed))>>=fun aa9=>((idx aa8 (aa9))>>=fun aba=>(some ((J7) != (aba))))))))))) else (some (false))))))>>=fun g80=>(bif g80 then (some (Out.ret ((((2:Int)),cp,ch,ed)))) else (some (Out.norm (ak (ed+(1:Int))))))) else (some (Out.exit 6 (ed))))
def gS (x0:aC) (cp:Int) (ch:Int):Option (Out (Int) (Int×Int×Int×Int)):=
 (bif decide (ch < (x0.aA.length:Int)) then ((idx x0.To (cp))>>=fun Ev=>((idx x0.aA (ch))>>=fun e67=>(bif (Ev) != (e67) then (some (Out.norm (ak (ch+(1:Int))))) else (ae (ab 6 (aj (gR x0 cp ch) ((0:Int)))) (fun ed=>(some (Out.norm (ak (ch+(1:Int)))))))))) else (some (Out.exit 4 (ch))))
def mH (x0:aC) (cp:Int):Option (Out (Int) (Int×Int×Int×Int)):=
 (bif decide (cp < (x0.aA.length:Int)) then (ae (ab 4 (aj (gS x0 cp) ((0:Int)))) (fun ch=>(some (Out.norm (ak (cp+(1:Int))))))) else (some (Out.exit 2 (cp))))
def lY (x0:aC):Option (Int×Int×Int×Int):=
 aq (S:=Unit) (ae (ab 0 (aj (jF x0) ((0:Int)))) (fun bx=>(ae (ab 2 (aj (mH x0) ((0:Int)))) (fun cp=>(some (Out.ret ((((0:Int)),((0:Int)),((0:Int)),((0:Int))))))))))
def fZ (x0:aC):Option (Bool):=
 aq (S:=Unit) ((mX x0)>>=fun y8=>(bif !(y8) then (some (Out.ret (false))) else ((lY x0)>>=fun GN=>(some (Out.ret (((GN.1) == ((0:Int)))))))))
def lZ (x0:aC) (x1:Int):Option (Bool):=
 aq (S:=Unit) (((bif decide (x1 ≥ (0:Int)) then (some (decide (x1 < (x0.aA.length:Int)))) else (some (false))))>>=fun g8=>(some (Out.ret (g8))))
def cE (x0:aC) (x1:Int) (x2:Int):Option (Bool):=
 aq (S:=Unit) ((((idx x0.aA (x1))>>=fun GO=>((idx x0.aA (x2))>>=fun Gy=>(bif (GO) == (Gy) then ((idx x0.To (x1))>>=fun GP=>((idx x0.To (x2))>>=fun Mm=>(some ((GP) == (Mm))))) else (some (false))))))>>=fun g8=>(some (Out.ret (g8))))
def mI (x1:aC) (BL:Int×aI) (my:Int) (eh:Int):Option (Out (Int×Int) ((List (List Int))×aI)):=
 (((bif decide (eh < (x1.aA.length:Int)) then ((fZ x1)>>=fun wq=>(bif wq then ((lZ x1 (my))>>=fun UR=>(bif UR then ((cE x1 (BL.1) (my))>>=fun lv=>(some (!(lv)))) else (some (false)))) else (some (false)))) else (some (false))))>>=fun g62=>(bif g62 then ((sI .rem .i64 (ak (my+(1:Int))) ((x1.aA.length:Int)))>>=fun z76=>(some (Out.norm (z76,ak (eh+(1:Int)))))) else (some (Out.exit 2 (my,eh)))))
def mJ (x0:aI) (x1:aC) (di:(List (List Int))) (bx:Int) (jy:Int) (jz:Int):Option (Out ((List (List Int))×Int×Int×Int) ((List (List Int))×aI)):=
 (((bif decide (bx > (0:Int)) then (some (decide ((x1.aA.length:Int) > (0:Int)))) else (some (false))))>>=fun g37=>(bif g37 then ((bE (aI.mk x0.Code jy jz) ((x1.aA.length:Int)))>>=fun BL=>((lA (aI.mk x0.Code BL.2.At BL.2.au) ((x1.aA.length:Int)))>>=fun US=>(ae (ab 2 (aj (fun s=>mI x1 BL s.1 s.2) (US.1,(0:Int)))) (fun (my,eh)=>((fits 24 (di.length+1))>>=fun n93=>(some (Out.norm (di++[([BL.1,my]:(List Int))],ak (bx - (1:Int)),US.2.At,US.2.au)))))))) else (some (Out.exit 0 (di,bx,jy,jz)))))
def mA (x0:aI) (x1:aC):Option ((List (List Int))×aI):=
 aq (S:=Unit) ((bE x0 ((3:Int)))>>=fun zG=>(ae (ab 0 (aj (fun s=>mJ x0 x1 s.1 s.2.1 s.2.2.1 s.2.2.2) (([]:(List (List Int))),zG.1,zG.2.At,zG.2.au))) (fun (di,bx,jy,jz)=>((bE (aI.mk x0.Code jy jz) ((24:Int)))>>=fun B7=>(bif (B7.1) == ((0:Int)) then (bif decide ((x1.aA.length:Int) > (0:Int)) then ((bE (aI.mk x0.Code B7.2.At B7.2.au) ((x1.aA.length:Int)))>>=fun B8=>((bE (aI.mk x0.Code B8.2.At B8.2.au) ((x1.aA.length:Int)))>>=fun B9=>((fits 24 (di.length+1))>>=fun n134=>((bE (aI.mk x0.Code B9.2.At B9.2.au) ((40:Int)))>>=fun GQ=>(bif (GQ.1) == ((0:Int)) then ((fits 24 ((di++[([B8.1,B9.1]:(List Int))]).length+1))>>=fun n168=>(some (Out.ret (((di++[([B8.1,B9.1]:(List Int))]++[[(0:Int)]]),(aI.mk x0.Code GQ.2.At GQ.2.au)))))) else (some (Out.ret (((di++[([B8.1,B9.1]:(List Int))]),(aI.mk x0.Code GQ.2.At GQ.2.au)))))))))) else ((bE (aI.mk x0.Code B7.2.At B7.2.au) ((40:Int)))>>=fun GR=>(bif (GR.1) == ((0:Int)) then ((fits 24 (di.length+1))>>=fun n206=>(some (Out.ret (((di++[[(0:Int)]]),(aI.mk x0.Code GR.2.At GR.2.au)))))) else (some (Out.ret ((di,(aI.mk x0.Code GR.2.At GR.2.au)))))))) else ((bE (aI.mk x0.Code B7.2.At B7.2.au) ((40:Int)))>>=fun GS=>(bif (GS.1) == ((0:Int)) then ((fits 24 (di.length+1))>>=fun n245=>(some (Out.ret (((di++[[(0:Int)]]),(aI.mk x0.Code GS.2.At GS.2.au)))))) else (some (Out.ret ((di,(aI.mk x0.Code GS.2.At GS.2.au))))))))))))
def fK (x0:(List Int)):Option (aC×(List (List Int))):=
 aq (S:=Unit) ((kK x0)>>=fun y8=>(match y8 with | none=>none | some m15=>((kO (aI.mk x0 m15.At m15.au) ((6:Int)) ((24:Int)))>>=fun zG=>((mA (aI.mk x0 zG.2.At zG.2.au) zG.1)>>=fun y73=>(some (Out.ret ((zG.1,y73.1))))))))
def bS (x0:aC):Option (Int):=
 aq (S:=Unit) (some (Out.ret (((x0.aA.length:Int)))))
def dV (x0:Int) (x1:Int) (x2:Int):Option (Bool):=
 aq (S:=Unit) (((bif decide (x0 ≥ x1) then (some (decide (x0≤x2))) else (some (false))))>>=fun g3=>(some (Out.ret (g3))))
def lC (x0:(List Int)) (x1:Int) (fh:Int):Option (Out (Int) (Bool)):=
 (bif decide (fh < (x0.length:Int)) then ((idx x0 (fh))>>=fun e9=>((dV (e9) ((0:Int)) (ak (x1 - (1:Int))))>>=fun UT=>(bif !(UT) then (some (Out.ret (false))) else (some (Out.norm (ak (fh+(1:Int)))))))) else (some (Out.exit 0 (fh))))
def eZ (x0:(List Int)) (x1:Int):Option (Bool):=
 aq (S:=Unit) (ae (ab 0 (aj (lC x0 x1) ((0:Int)))) (fun fh=>(some (Out.ret (true)))))
def bU (x0:aC) (x1:Int):Option (pJ):=
 aq (S:=Unit) ((idx x0.aA (x1))>>=fun e8=>((idx x0.To (x1))>>=fun GO=>(some (Out.ret ((pJ.mk e8 GO))))))
def dW (x0:aC) (yS:Int):Option (Out (Int) (Bool)):=
 (bif decide (yS < (x0.aF.length:Int)) then ((idx x0.aF (yS))>>=fun GM=>((bU x0 (GM))>>=fun Yr=>(bif !((Yr.aA) == (yS) && (Yr.To) == (yS)) then (some (Out.ret (false))) else (some (Out.norm (ak (yS+(1:Int)))))))) else (some (Out.exit 0 (yS))))
def dX (x0:aC) (y3:Int) (tA:Int) (Mn:(List Int)) (uM:Int):Option (Out (Int) (Bool)):=
 (bif decide (uM < (Mn.length:Int)) then ((idx Mn (uM))>>=fun C1=>((idx x0.To (tA))>>=fun UU=>((idx x0.aA (uM))>>=fun UP=>(bif (UU) != (UP) then (bif (C1) != ((-1:Int)) then (some (Out.ret (false))) else (some (Out.norm (ak (uM+(1:Int)))))) else ((((dV (C1) ((0:Int)) (ak (y3 - (1:Int))))>>=fun abb=>(bif !(abb) then (some (true)) else ((bU x0 (C1))>>=fun UW=>((idx x0.aA (tA))>>=fun J8=>((idx x0.To (uM))>>=fun va=>(some (!((UW.aA) == (J8) && (UW.To) == (va))))))))))>>=fun g99=>(bif g99 then (some (Out.ret (false))) else (some (Out.norm (ak (uM+(1:Int))))))))))) else (some (Out.exit 4 (uM))))
def gT (x0:aC) (y3:Int) (tA:Int):Option (Out (Int) (Bool)):=
 (bif decide (tA < (x0.aB.length:Int)) then ((idx x0.aB (tA))>>=fun Mn=>(bif ((Mn.length:Int)) != (y3) then (some (Out.ret (false))) else (ae (ab 4 (aj (dX x0 y3 tA Mn) ((0:Int)))) (fun uM=>(some (Out.norm (ak (tA+(1:Int))))))))) else (some (Out.exit 2 (tA))))
def fL (x0:aC):Option (Bool):=
 aq (S:=Unit) ((bS x0)>>=fun y3=>((((dV (x0.aD) ((0:Int)) ((8:Int)))>>=fun y9=>(bif !(y9) then (some (true)) else (bif decide (y3 > (40:Int)) then (some (true)) else (bif ((x0.To.length:Int)) != (y3) then (some (true)) else ((eZ x0.aA (x0.aD))>>=fun GK=>(bif !(GK) then (some (true)) else ((eZ x0.To (x0.aD))>>=fun Mo=>(some (!(Mo)))))))))))>>=fun g7=>(bif g7 then (some (Out.ret (false))) else (((bif ((x0.aF.length:Int)) != (x0.aD) then (some (true)) else ((eZ x0.aF (y3))>>=fun zE=>(bif !(zE) then (some (true)) else (some (((x0.aB.length:Int)) != (y3)))))))>>=fun g24=>(bif g24 then (some (Out.ret (false))) else (ae (ab 0 (aj (dW x0) ((0:Int)))) (fun yS=>(ae (ab 2 (aj (gT x0 y3) ((0:Int)))) (fun tA=>(some (Out.ret (true))))))))))))
def bN (x0:aC) (x1:Int) (x2:Int):Option (Int):=
 aq (S:=Unit) ((idx x0.aB (x1))>>=fun e3=>((idx e3 (x2))>>=fun GO=>(some (Out.ret (GO)))))
def fA (x0:aC) (y3:Int) (bx:Int):Option (Out (Int) (Int×Int×Int×Int)):=
 (bif decide (bx < y3) then ((((idx x0.aA (bx))>>=fun GP=>((idx x0.aF (GP))>>=fun Mm=>((bN x0 (Mm) (bx))>>=fun Mk=>(bif (Mk) != (bx) then (some (true)) else ((idx x0.To (bx))>>=fun zD=>((idx x0.aF (zD))>>=fun UX=>((bN x0 (bx) (UX))>>=fun v7=>(some ((v7) != (bx)))))))))))>>=fun g13=>(bif g13 then (some (Out.ret ((((1:Int)),bx,((0:Int)),((0:Int)))))) else (some (Out.norm (ak (bx+(1:Int))))))) else (some (Out.exit 0 (bx))))
def dE (x0:aC) (y3:Int) (cp:Int) (ch:Int) (ed:Int):Option (Out (Int) (Int×Int×Int×Int)):=
 (bif decide (ed < y3) then ((((bN x0 (ch) (ed))>>=fun BM=>(bif decide (BM ≥ (0:Int)) then ((bN x0 (cp) (ch))>>=fun zF=>((bN x0 (zF) (ed))>>=fun UR=>((bN x0 (ch) (ed))>>=fun y70=>((bN x0 (cp) (y70))>>=fun UY=>(some ((UR) != (UY))))))) else (some (false)))))>>=fun g61=>(bif g61 then (some (Out.ret ((((2:Int)),cp,ch,ed)))) else (some (Out.norm (ak (ed+(1:Int))))))) else (some (Out.exit 6 (ed))))
def dF (x0:aC) (y3:Int) (cp:Int) (ch:Int):Option (Out (Int) (Int×Int×Int×Int)):=
 (bif decide (ch < y3) then ((bN x0 (cp) (ch))>>=fun Md=>(bif decide (Md < (0:Int)) then (some (Out.norm (ak (ch+(1:Int))))) else (ae (ab 6 (aj (dE x0 y3 cp ch) ((0:Int)))) (fun ed=>(some (Out.norm (ak (ch+(1:Int))))))))) else (some (Out.exit 4 (ch))))
def iO (x0:aC) (y3:Int) (cp:Int):Option (Out (Int) (Int×Int×Int×Int)):=
 (bif decide (cp < y3) then (ae (ab 4 (aj (dF x0 y3 cp) ((0:Int)))) (fun ch=>(some (Out.norm (ak (cp+(1:Int))))))) else (some (Out.exit 2 (cp))))
def iC (x0:aC):Option (Int×Int×Int×Int):=
 aq (S:=Unit) ((bS x0)>>=fun y3=>(ae (ab 0 (aj (fA x0 y3) ((0:Int)))) (fun bx=>(ae (ab 2 (aj (iO x0 y3) ((0:Int)))) (fun cp=>(some (Out.ret ((((0:Int)),((0:Int)),((0:Int)),((0:Int)))))))))))
def cH (x0:aC):Option (Bool):=
 aq (S:=Unit) ((fL x0)>>=fun y3=>(bif !(y3) then (some (Out.ret (false))) else ((iC x0)>>=fun gf=>(some (Out.ret (((gf.1) == ((0:Int)))))))))
def iK (n3:Nat) (fh:Int) (py:(List Int)):Option (Out (Int×(List Int)) ((List Int))):=
 (bif decide (fh < ((List.replicate n3 (0:Int)).length:Int)) then ((idx py (fh))>>=fun IF=>(some (Out.norm (ak (fh+(1:Int)),py.set (fh).toNat (fh))))) else (some (Out.exit 0 (fh,py))))
def kQ (x0:Int):Option ((List Int)):=
 aq (S:=Unit) ((mk 8 (x0))>>=fun n3=>(ae (ab 0 (aj (fun s=>iK n3 s.1 s.2) ((0:Int),List.replicate n3 (0:Int)))) (fun (fh,py)=>(some (Out.ret (py))))))
def mB (x0:Int):Option ((List Int)):=
 aq (S:=Unit) ((kQ (x0))>>=fun y3=>(some (Out.ret (y3))))
def kA (xy:Int) (nh:(List Int)):Option (Out (Int×(List Int)) (Int×(List Int))):=
 ((idx nh (xy))>>=fun e4=>(bif (e4) != (xy) then ((idx nh (xy))>>=fun e9=>((idx nh (e9))>>=fun xc=>((idx nh (xy))>>=fun e13=>((idx (nh.set (xy).toNat (xc)) (xy))>>=fun IF=>(some (Out.norm (IF,nh.set (xy).toNat (xc)))))))) else (some (Out.exit 0 (xy,nh)))))
def cX (x0:(List Int)) (x1:Int):Option (Int×(List Int)):=
 aq (S:=Unit) (ae (ab 0 (aj (fun s=>kA s.1 s.2) (x1,x0))) (fun (xy,nh)=>(some (Out.ret ((xy,nh))))))
def cK (x0:(List Int)) (x1:Int) (x2:Int):Option (Bool×(List Int)):=
 aq (S:=Unit) ((cX x0 (x1))>>=fun y4=>((cX y4.2 (x2))>>=fun xM=>((idx xM.2 ((if (xM.1) > (y4.1) then (xM.1) else (y4.1))))>>=fun IG=>(some (Out.ret ((((y4.1) != (xM.1)),xM.2.set ((if (xM.1) > (y4.1) then (xM.1) else (y4.1))).toNat ((if (xM.1) < (y4.1) then (xM.1) else (y4.1))))))))))
def nJ (x0:(List Int)) (nw:Int) (xd:(List (Int×Int))) (wu:(List Int)):Option (Out (Int×(List (Int×Int))×(List Int)) ((List Int))):=
 (bif decide (nw < (x0.length:Int)) then ((idx x0 (nw))>>=fun Ew=>(bif !((ie xd Ew).isSome) then ((idx wu (nw))>>=fun Ys=>(some (Out.norm (ak (nw+(1:Int)),rq xd Ew ((xd.length:Int)),wu.set (nw).toNat ((xd.length:Int)))))) else ((idx wu (nw))>>=fun Ey=>(some (Out.norm (ak (nw+(1:Int)),xd,wu.set (nw).toNat ((ie xd Ew).getD 0))))))) else (some (Out.exit 0 (nw,xd,wu))))
def lU (x0:(List Int)):Option ((List Int)):=
 aq (S:=Unit) ((mk 8 ((x0.length:Int)))>>=fun n9=>(ae (ab 0 (aj (fun s=>nJ x0 s.1 s.2.1 s.2.2) ((0:Int),([]:(List (Int×Int))),List.replicate n9 (0:Int)))) (fun (nw,xd,wu)=>(some (Out.ret (wu))))))
def gU (x0:(List Int)) (mb:Int) (nh:(List Int)) (py:(List Int)):Option (Out (Int×(List Int)×(List Int)) ((List Int)×(List Int))):=
 (bif decide (mb < (x0.length:Int)) then ((cX nh (mb))>>=fun dc=>((idx py (mb))>>=fun BH=>(some (Out.norm (ak (mb+(1:Int)),dc.2,py.set (mb).toNat (dc.1)))))) else (some (Out.exit 0 (mb,nh,py))))
def fM (x0:(List Int)):Option ((List Int)×(List Int)):=
 aq (S:=Unit) ((mk 8 ((x0.length:Int)))>>=fun n3=>(ae (ab 0 (aj (fun s=>gU x0 s.1 s.2.1 s.2.2) ((0:Int),x0,List.replicate n3 (0:Int)))) (fun (mb,nh,py)=>((lU py)>>=fun C2=>(some (Out.ret ((C2,nh))))))))
def fF (x1:(List (List Int))) (C3:Int) (C4:(List Int)):Option (Out (Int×(List Int)) ((List Int))):=
 (bif decide (C3 < (x1.length:Int)) then ((idx x1 (C3))>>=fun zD=>((idx zD ((0:Int)))>>=fun BH=>((idx zD ((1:Int)))>>=fun UZ=>((cK C4 (BH) (UZ))>>=fun UE=>(some (Out.norm (ak (C3+(1:Int)),UE.2))))))) else (some (Out.exit 0 (C3,C4))))
def dD (x0:aC) (y3:Int) (cu:Int) (BM:Int×(List Int)) (Ca:Bool) (jj:Int) (xN:(List Int)):Option (Out (Bool×Int×(List Int)) ((List Int))):=
 (((bif decide (jj < y3) then (some ((BM.1) != (cu))) else (some (false))))>>=fun g74=>(bif g74 then ((bN x0 (cu) (jj))>>=fun xO=>(bif decide (xO ≥ (0:Int)) then ((bN x0 (BM.1) (jj))>>=fun UF=>((cK xN (xO) (UF))>>=fun Mp=>(bif Mp.1 then ((bN x0 (jj) (cu))>>=fun GU=>(bif decide (GU ≥ (0:Int)) then ((bN x0 (jj) (BM.1))>>=fun O9=>((cK Mp.2 (GU) (O9))>>=fun Cb=>(bif Cb.1 then (some (Out.norm (true,ak (jj+(1:Int)),Cb.2))) else (some (Out.norm (true,ak (jj+(1:Int)),Cb.2)))))) else (some (Out.norm (true,ak (jj+(1:Int)),Mp.2))))) else ((bN x0 (jj) (cu))>>=fun J9=>(bif decide (J9 ≥ (0:Int)) then ((bN x0 (jj) (BM.1))>>=fun abc=>((cK Mp.2 (J9) (abc))>>=fun Pa=>(bif Pa.1 then (some (Out.norm (true,ak (jj+(1:Int)),Pa.2))) else (some (Out.norm (Ca,ak (jj+(1:Int)),Pa.2)))))) else (some (Out.norm (Ca,ak (jj+(1:Int)),Mp.2)))))))) else ((bN x0 (jj) (cu))>>=fun U0=>(bif decide (U0 ≥ (0:Int)) then ((bN x0 (jj) (BM.1))>>=fun abd=>((cK xN (U0) (abd))>>=fun Pb=>(bif Pb.1 then (some (Out.norm (true,ak (jj+(1:Int)),Pb.2))) else (some (Out.norm (Ca,ak (jj+(1:Int)),Pb.2)))))) else (some (Out.norm (Ca,ak (jj+(1:Int)),xN))))))) else (some (Out.exit 6 (Ca,jj,xN)))))
def fG (x0:aC) (y3:Int) (ch:Bool) (cu:Int) (qj:(List Int)):Option (Out (Bool×Int×(List Int)) ((List Int))):=
 (bif decide (cu < y3) then ((cX qj (cu))>>=fun BM=>(ae (ab 6 (aj (fun s=>dD x0 y3 cu BM s.1 s.2.1 s.2.2) (ch,(0:Int),BM.2))) (fun (Ca,jj,xN)=>(some (Out.norm (Ca,ak (cu+(1:Int)),xN)))))) else (some (Out.exit 4 (ch,cu,qj))))
def fH (x0:aC) (y3:Int) (my:Bool) (rF:(List Int)):Option (Out (Bool×(List Int)) ((List Int))):=
 (bif my then (ae (ab 4 (aj (fun s=>fG x0 y3 s.1 s.2.1 s.2.2) (false,(0:Int),rF))) (fun (ch,cu,qj)=>(some (Out.norm (ch,qj))))) else (some (Out.exit 2 (my,rF))))
def dY (x0:aC) (x1:(List (List Int))):Option ((List Int)):=
 aq (S:=Unit) ((bS x0)>>=fun y3=>((mB (y3))>>=fun y7=>(ae (ab 0 (aj (fun s=>fF x1 s.1 s.2) ((0:Int),y7))) (fun (C3,C4)=>(ae (ab 2 (aj (fun s=>fH x0 y3 s.1 s.2) (true,C4))) (fun (my,rF)=>((fM rF)>>=fun abe=>(some (Out.ret (abe.1))))))))))
def mY (x0:aC) (x1:(List (List Int))) (C5:Int):Option (Out (Int) ((List Int)×Int)):=
 (bif decide (C5 < (x1.length:Int)) then ((idx x1 (C5))>>=fun Ah=>((bS x0)>>=fun GL=>((eZ Ah (GL))>>=fun y32=>(bif !(y32) then (some (Out.ret ((([]),((2:Int)))))) else (some (Out.norm (ak (C5+(1:Int))))))))) else (some (Out.exit 0 (C5))))
def mZ (x0:aC) (x1:(List (List Int))) (C6:Int):Option (Out (Int) ((List Int)×Int)):=
 (bif decide (C6 < (x1.length:Int)) then ((idx x1 (C6))>>=fun Ey=>(((bif ((Ey.length:Int)) != ((2:Int)) then (some (true)) else ((idx Ey ((0:Int)))>>=fun e60=>((bU x0 (e60))>>=fun QD=>((idx Ey ((1:Int)))>>=fun U1=>((bU x0 (U1))>>=fun zF=>(some (!((QD.aA) == (zF.aA) && (QD.To) == (zF.To))))))))))>>=fun g57=>(bif g57 then (some (Out.ret ((([]),((5:Int)))))) else (some (Out.norm (ak (C6+(1:Int)))))))) else (some (Out.exit 2 (C6))))
def iS (x0:aC) (x1:(List (List Int))):Option ((List Int)×Int):=
 aq (S:=Unit) ((cH x0)>>=fun y8=>(bif !(y8) then (some (Out.ret ((([]),((1:Int)))))) else (ae (ab 0 (aj (mY x0 x1) ((0:Int)))) (fun C5=>(ae (ab 2 (aj (mZ x0 x1) ((0:Int)))) (fun C6=>((dY x0 x1)>>=fun y76=>(some (Out.ret ((y76,((0:Int)))))))))))))
def lD (x0:aC) (x1:(List Int)):Option (Int):=
 aq (S:=Unit) ((fZ x0)>>=fun y8=>(bif !(y8) then (some (Out.ret (((1:Int))))) else ((gF ((x0.aA.length:Int)) x1)>>=fun GN=>(bif !(GN) then (some (Out.ret (((2:Int))))) else (some (Out.ret (((0:Int)))))))))
def gV (x0:aC) (x1:Int) (x2:Int):Option (Int):=
 aq (S:=Unit) ((idx x0.aB (x1))>>=fun e8=>((idx e8 (x2))>>=fun GP=>(some (Out.ret (GP)))))
def oB (x0:(List Int)) (x1:Int) (aX:Int):Option (Out (Int) (Int)):=
 (bif decide (aX < (x0.length:Int)) then ((idx x0 (aX))>>=fun e9=>(bif (e9) == (x1) then (some (Out.ret (aX))) else (some (Out.norm (ak (aX+(1:Int))))))) else (some (Out.exit 0 (aX))))
def iG (x0:(List Int)) (x1:Int):Option (Int):=
 aq (S:=Unit) (ae (ab 0 (aj (oB x0 x1) ((0:Int)))) (fun aX=>(some (Out.ret (((-1:Int)))))))
def kR (x0:(List Int)) (dx:(List Int)) (bo:(List Int)) (aX:Int):Option (Out ((List Int)×(List Int)×Int) ((List Int))):=
 (bif decide (aX < (x0.length:Int)) then ((idx x0 (aX))>>=fun Ml=>((iG bo (Ml))>>=fun Mq=>(bif decide (Mq < (0:Int)) then ((idx x0 (aX))>>=fun Ys=>((fits 8 (bo.length+1))>>=fun n57=>((fits 8 (dx.length+1))>>=fun n77=>(some (Out.norm (dx++[(bo.length:Int)],bo++[Ys],ak (aX+(1:Int)))))))) else ((fits 8 (dx.length+1))>>=fun n99=>(some (Out.norm (dx++[Mq],bo,ak (aX+(1:Int))))))))) else (some (Out.exit 0 (dx,bo,aX))))
def fN (x0:(List Int)):Option ((List Int)):=
 aq (S:=Unit) (ae (ab 0 (aj (fun s=>kR x0 s.1 s.2.1 s.2.2) (([]:(List Int)),([]:(List Int)),(0:Int)))) (fun (dx,bo,aX)=>(some (Out.ret (dx)))))
def nA (x0:Int) (aX:(List Int)) (di:Int):Option (Out ((List Int)×Int) ((List Int))):=
 (bif decide (di < x0) then ((fits 8 (aX.length+1))>>=fun n32=>(some (Out.norm (aX++[di],ak (di+(1:Int)))))) else (some (Out.exit 0 (aX,di))))
def pF (IH:Int) (Ev:Int) (cu:Int) (qj:(List Int)):Option (Out (Int×(List Int)) ((List Int))):=
 (((bif decide (cu < (qj.length:Int)) then (some ((IH) != (Ev))) else (some (false))))>>=fun U2=>(bif U2 then ((idx qj (cu))>>=fun GV=>(bif (GV) == (Ev) then ((idx qj (cu))>>=fun Yt=>(some (Out.norm (ak (cu+(1:Int)),qj.set (cu).toNat (IH))))) else (some (Out.norm (ak (cu+(1:Int)),qj))))) else (some (Out.exit 4 (cu,qj)))))
def nB (x1:(List (List Int))) (ou:Int) (rF:(List Int)):Option (Out (Int×(List Int)) ((List Int))):=
 (bif decide (ou < (x1.length:Int)) then ((idx x1 (ou))>>=fun BK=>((idx BK ((0:Int)))>>=fun UJ=>((idx rF (UJ))>>=fun IH=>((idx x1 (ou))>>=fun U3=>((idx U3 ((1:Int)))>>=fun U4=>((idx rF (U4))>>=fun Ev=>(ae (ab 4 (aj (fun s=>pF IH Ev s.1 s.2) ((0:Int),rF))) (fun (cu,qj)=>(some (Out.norm (ak (ou+(1:Int)),qj))))))))))) else (some (Out.exit 2 (ou,rF))))
def kS (x0:Int) (x1:(List (List Int))):Option ((List Int)):=
 aq (S:=Unit) (ae (ab 0 (aj (fun s=>nA x0 s.1 s.2) (([]:(List Int)),(0:Int)))) (fun (aX,di)=>(ae (ab 2 (aj (fun s=>nB x1 s.1 s.2) ((0:Int),aX))) (fun (ou,rF)=>((fN rF)>>=fun U5=>(some (Out.ret (U5))))))))
def lH (x0:aC) (An:Int) (BK:Int) (eh:Int) (rE:(List (List Int))) (ju:Int):Option (Out ((List (List Int))×Int) ((List Int))):=
 (bif decide (ju < (x0.aA.length:Int)) then ((((idx x0.To (eh))>>=fun U6=>((idx x0.aA (An))>>=fun U7=>(bif (U6) == (U7) then ((idx x0.To (An))>>=fun Mr=>((idx x0.aA (ju))>>=fun GV=>(some ((Mr) == (GV))))) else (some (false))))))>>=fun g69=>(bif g69 then ((gV x0 (eh) (An))>>=fun Mg=>((gV x0 (Mg) (ju))>>=fun y87=>((gV x0 (eh) (BK))>>=fun y91=>((gV x0 (y91) (ju))>>=fun GA=>((fits 24 (rE.length+1))>>=fun n110=>(some (Out.norm (rE++[([y87,GA]:(List Int))],ak (ju+(1:Int)))))))))) else (some (Out.norm (rE,ak (ju+(1:Int))))))) else (some (Out.exit 4 (rE,ju))))
def lJ (x0:aC) (An:Int) (BK:Int) (jm:(List (List Int))) (eh:Int):Option (Out ((List (List Int))×Int) ((List Int))):=
 (bif decide (eh < (x0.aA.length:Int)) then (ae (ab 4 (aj (fun s=>lH x0 An BK eh s.1 s.2) (jm,(0:Int)))) (fun (rE,ju)=>(some (Out.norm (rE,ak (eh+(1:Int))))))) else (some (Out.exit 2 (jm,eh))))
def lK (x0:aC) (x1:(List (List Int))) (di:(List (List Int))) (bx:Int):Option (Out ((List (List Int))×Int) ((List Int))):=
 (bif decide (bx < (x1.length:Int)) then ((idx x1 (bx))>>=fun Ml=>((idx Ml ((0:Int)))>>=fun An=>((idx x1 (bx))>>=fun U8=>((idx U8 ((1:Int)))>>=fun BK=>(ae (ab 2 (aj (fun s=>lJ x0 An BK s.1 s.2) (di,(0:Int)))) (fun (jm,eh)=>(some (Out.norm (jm,ak (bx+(1:Int))))))))))) else (some (Out.exit 0 (di,bx))))
def jB (x0:aC) (x1:(List (List Int))):Option ((List Int)):=
 aq (S:=Unit) ((jA x1)>>=fun gf=>(ae (ab 0 (aj (fun s=>lK x0 x1 s.1 s.2) (gf,(0:Int)))) (fun (di,bx)=>((kS ((x0.aA.length:Int)) di)>>=fun J9=>(some (Out.ret (J9)))))))
def nC (x0:aC) (x1:(List (List Int))) (di:Int):Option (Out (Int) ((List Int)×Int)):=
 (bif decide (di < (x1.length:Int)) then ((idx x1 (di))>>=fun uL=>((lD x0 uL)>>=fun Ez=>(bif (Ez) != ((0:Int)) then (some (Out.ret ((([]),Ez)))) else (some (Out.norm (ak (di+(1:Int)))))))) else (some (Out.exit 0 (di))))
def nD (x0:aC) (x1:(List (List Int))) (cp:Int):Option (Out (Int) ((List Int)×Int)):=
 (bif decide (cp < (x1.length:Int)) then ((((idx x1 (cp))>>=fun Ey=>(bif ((Ey.length:Int)) != ((2:Int)) then (some (true)) else ((idx x1 (cp))>>=fun U3=>((idx U3 ((0:Int)))>>=fun U4=>((idx x1 (cp))>>=fun Ev=>((idx Ev ((1:Int)))>>=fun zH=>((cE x0 (U4) (zH))>>=fun Mf=>(some (!(Mf)))))))))))>>=fun g46=>(bif g46 then (some (Out.ret ((([]),((5:Int)))))) else (some (Out.norm (ak (cp+(1:Int))))))) else (some (Out.exit 2 (cp))))
def iU (x0:aC) (x1:(List (List Int))):Option ((List Int)×Int):=
 aq (S:=Unit) (ae (ab 0 (aj (nC x0 x1) ((0:Int)))) (fun di=>((fZ x0)>>=fun U9=>(bif !(U9) then (some (Out.ret ((([]),((1:Int)))))) else (ae (ab 2 (aj (nD x0 x1) ((0:Int)))) (fun cp=>((jB x0 x1)>>=fun y84=>(some (Out.ret ((y84,((0:Int)))))))))))))
def pD (x0:(List Int)) (x1:(List Int)) (aX:Int):Option (Out (Int) (Bool)):=
 (bif decide (aX < (x0.length:Int)) then ((idx x0 (aX))>>=fun uL=>((idx x1 (aX))>>=fun GC=>(bif (uL) != (GC) then (some (Out.ret (false))) else (some (Out.norm (ak (aX+(1:Int)))))))) else (some (Out.exit 0 (aX))))
def bY (x0:(List Int)) (x1:(List Int)):Option (Bool):=
 aq (S:=Unit) (bif ((x0.length:Int)) != ((x1.length:Int)) then (some (Out.ret (false))) else (ae (ab 0 (aj (pD x0 x1) ((0:Int)))) (fun aX=>(some (Out.ret (true))))))
def fS (x0:(List Int)) (dx:Int) (gx:Int):Option (Out (Int×Int) (Bool)):=
 (bif decide (gx < (x0.length:Int)) then ((idx x0 (gx))>>=fun xc=>((dV (xc) ((0:Int)) (dx))>>=fun GN=>(bif !(GN) then (some (Out.ret (false))) else (bif (xc) == (dx) then (some (Out.norm (ak (dx+(1:Int)),ak (gx+(1:Int))))) else (some (Out.norm (dx,ak (gx+(1:Int))))))))) else (some (Out.exit 0 (dx,gx))))
def cO (x0:(List Int)):Option (Bool):=
 aq (S:=Unit) (ae (ab 0 (aj (fun s=>fS x0 s.1 s.2) ((0:Int),(0:Int)))) (fun (dx,gx)=>(some (Out.ret (true)))))
def eG (x0:aC) (x1:(List Int)) (uq:Int) (qk:(List (Int×Int))):Option (Out (Int×(List (Int×Int))) (Bool)):=
 (bif decide (uq < (x1.length:Int)) then ((idx x1 (uq))>>=fun GW=>(bif !((ie qk GW).isSome) then ((bU x0 (uq))>>=fun C2=>((bU x0 ((ie (rq qk GW uq) GW).getD 0))>>=fun q9=>(bif !((C2.aA) == (q9.aA) && (C2.To) == (q9.To)) then (some (Out.ret (false))) else (some (Out.norm (ak (uq+(1:Int)),rq qk GW uq)))))) else ((bU x0 (uq))>>=fun Yu=>((bU x0 ((ie qk GW).getD 0))>>=fun Yv=>(bif !((Yu.aA) == (Yv.aA) && (Yu.To) == (Yv.To)) then (some (Out.ret (false))) else (some (Out.norm (ak (uq+(1:Int)),qk)))))))) else (some (Out.exit 0 (uq,qk))))
def eH (x0:aC) (x1:(List Int)) (qk:(List (Int×Int))) (xe:Int) (II:(List Int)) (A3:Int):Option (Out (Int) (Bool)):=
 (bif decide (A3 < (II.length:Int)) then ((idx II (A3))>>=fun QC=>(((bif decide (QC ≥ (0:Int)) then ((idx x1 (QC))>>=fun e91=>((idx x1 (xe))>>=fun Ak=>((idx x1 (A3))>>=fun IE=>((bN x0 ((ie qk Ak).getD 0) ((ie qk IE).getD 0))>>=fun U5=>((idx x1 (U5))>>=fun Mj=>(some ((e91) != (Mj)))))))) else (some (false))))>>=fun g88=>(bif g88 then (some (Out.ret (false))) else (some (Out.norm (ak (A3+(1:Int)))))))) else (some (Out.exit 4 (A3))))
def eJ (x0:aC) (x1:(List Int)) (qk:(List (Int×Int))) (xe:Int):Option (Out (Int) (Bool)):=
 (bif decide (xe < (x0.aB.length:Int)) then ((idx x0.aB (xe))>>=fun II=>(ae (ab 4 (aj (eH x0 x1 qk xe II) ((0:Int)))) (fun A3=>(some (Out.norm (ak (xe+(1:Int)))))))) else (some (Out.exit 2 (xe))))
def cJ (x0:aC) (x1:(List Int)):Option (Bool):=
 aq (S:=Unit) ((((bS x0)>>=fun y5=>(bif ((x1.length:Int)) != (y5) then (some (true)) else ((cO x1)>>=fun y8=>(some (!(y8)))))))>>=fun g3=>(bif g3 then (some (Out.ret (false))) else (ae (ab 0 (aj (fun s=>eG x0 x1 s.1 s.2) ((0:Int),([]:(List (Int×Int)))))) (fun (uq,qk)=>(ae (ab 2 (aj (eJ x0 x1 qk) ((0:Int)))) (fun xe=>(some (Out.ret (true)))))))))
def dB (x0:aC) (x1:(List Int)):Option (Bool×Int):=
 aq (S:=Unit) ((cH x0)>>=fun y8=>(bif !(y8) then (some (Out.ret ((false,((1:Int)))))) else ((cJ x0 x1)>>=fun GN=>(some (Out.ret ((GN,((0:Int)))))))))
def gA (x0:(List Int)) (dx:Int) (gx:Int):Option (Out (Int×Int) (Int)):=
 (bif decide (gx < (x0.length:Int)) then ((idx x0 (gx))>>=fun xc=>(some (Out.norm ((if (ak (xc+(1:Int))) > (dx) then (ak (xc+(1:Int))) else (dx)),ak (gx+(1:Int)))))) else (some (Out.exit 0 (dx,gx))))
def dG (x0:(List Int)):Option (Int):=
 aq (S:=Unit) (ae (ab 0 (aj (fun s=>gA x0 s.1 s.2) ((0:Int),(0:Int)))) (fun (dx,gx)=>(some (Out.ret (dx)))))
def kT (x0:(List Int)) (x1:(List Int)) (yT:Int) (py:(List Int)):Option (Out (Int×(List Int)) ((List Int))):=
 (bif decide (yT < (x0.length:Int)) then ((idx x0 (yT))>>=fun Mm=>((idx x1 (Mm))>>=fun Ah=>((idx py (yT))>>=fun Va=>(some (Out.norm (ak (yT+(1:Int)),py.set (yT).toNat (Ah))))))) else (some (Out.exit 0 (yT,py))))
def mU (x0:(List Int)) (x1:(List Int)):Option ((List Int)):=
 aq (S:=Unit) ((mk 8 ((x0.length:Int)))>>=fun n3=>(ae (ab 0 (aj (fun s=>kT x0 x1 s.1 s.2) ((0:Int),List.replicate n3 (0:Int)))) (fun (yT,py)=>(some (Out.ret (py))))))
def cN (x0:Int) (x1:Int) (x2:(List Int)) (x3:aC) (x4:(List Int)):Option (Int):=
 aq (S:=Unit) ((idx x4 (x0))>>=fun e3=>((idx x4 (x1))>>=fun e5=>((bN x3 (e3) (e5))>>=fun y7=>((idx x2 (y7))>>=fun e9=>(some (Out.ret (e9)))))))
def dH (x0:aC) (x1:(Int→Int→Option (Int))) (lp:Int) (Ms:(List Int)) (rR:Int) (wx:(List (List Int))):Option (Out (Int×(List (List Int))) (aC)):=
 (bif decide (rR < (Ms.length:Int)) then ((idx wx (lp))>>=fun zH=>((idx zH (rR))>>=fun IJ=>((idx x0.To (lp))>>=fun IE=>((idx x0.aA (rR))>>=fun UK=>(bif (IE) == (UK) then ((idx (wx.set (lp).toNat (zH.set (rR).toNat ((-1:Int)))) (lp))>>=fun Ka=>((x1 (lp) (rR))>>=fun abf=>((idx Ka (rR))>>=fun abg=>(some (Out.norm (ak (rR+(1:Int)),(wx.set (lp).toNat (zH.set (rR).toNat ((-1:Int)))).set (lp).toNat (Ka.set (rR).toNat (abf)))))))) else (some (Out.norm (ak (rR+(1:Int)),wx.set (lp).toNat (zH.set (rR).toNat ((-1:Int))))))))))) else (some (Out.exit 2 (rR,wx))))
def dI (x0:aC) (x1:(Int→Int→Option (Int))) (y7:Int) (n11:Nat) (lp:Int) (xP:(List (List Int))):Option (Out (Int×(List (List Int))) (aC)):=
 (bif decide (lp < ((List.replicate n11 ([]:(List Int))).length:Int)) then ((mk 8 (y7))>>=fun n35=>((idx xP (lp))>>=fun BK=>((idx (xP.set (lp).toNat (List.replicate n35 (0:Int))) (lp))>>=fun Ms=>(ae (ab 2 (aj (fun s=>dH x0 x1 lp Ms s.1 s.2) ((0:Int),xP.set (lp).toNat (List.replicate n35 (0:Int))))) (fun (rR,wx)=>(some (Out.norm (ak (lp+(1:Int)),wx)))))))) else (some (Out.exit 0 (lp,xP))))
def iD (x0:aC) (x1:(Int→Int→Option (Int))):Option (aC):=
 Fz (R:=(aC)) ((bS x0)>>=fun y7=>((mk 24 (y7))>>=fun n11=>(ae (ab 0 (aj (fun s=>dI x0 x1 y7 n11 s.1 s.2) ((0:Int),List.replicate n11 ([]:(List Int))))) (fun (lp,xP)=>(some (Out.norm ((aC.mk x0.aD x0.aA x0.To x0.aF xP))))))))
def gB (x0:aC) (x1:(List Int)) (gx:Int) (xQ:(List Int)) (xR:(List Int)) (Ao:(List Int)):Option (Out (Int×(List Int)×(List Int)×(List Int)) (aC)):=
 (bif decide (gx ≥ (0:Int)) then ((idx x1 (gx))>>=fun Kc=>((idx Ao (Kc))>>=fun alZ=>((idx x1 (gx))>>=fun JU=>((idx x0.aA (gx))>>=fun abh=>((idx xQ (JU))>>=fun al0=>((idx x1 (gx))>>=fun Vb=>((idx x0.To (gx))>>=fun Uu=>((idx xR (Vb))>>=fun al1=>(some (Out.norm (ak (gx - (1:Int)),xQ.set (JU).toNat (abh),xR.set (Vb).toNat (Uu),Ao.set (Kc).toNat (gx)))))))))))) else (some (Out.exit 0 (gx,xQ,xR,Ao))))
def dJ (x0:aC) (x1:(List Int)):Option (aC):=
 aq (S:=Unit) ((dG x1)>>=fun qu=>((mk 8 (qu))>>=fun n39=>((mk 8 (qu))>>=fun n51=>((mU x0.aF x1)>>=fun Yw=>((mk 8 (qu))>>=fun n82=>(ae (ab 0 (aj (fun s=>gB x0 x1 s.1 s.2.1 s.2.2.1 s.2.2.2) (ak ((x1.length:Int) - (1:Int)),List.replicate n39 (0:Int),List.replicate n51 (0:Int),List.replicate n82 (0:Int)))) (fun (gx,xQ,xR,Ao)=>((iD (aC.mk x0.aD xQ xR Yw (([]:(List (List Int))))) (fun a0 a1=>cN (a0) (a1) x1 x0 Ao))>>=fun Vc=>(some (Out.ret ((aC.mk Vc.aD xQ xR Yw Vc.aB))))))))))))
def fO (x0:aC) (x1:(List Int)):Option (aC×Int):=
 aq (S:=Unit) ((((cH x0)>>=fun qL=>(bif !(qL) then (some (true)) else ((cJ x0 x1)>>=fun Ez=>(some (!(Ez)))))))>>=fun g16=>(bif g16 then (some (Out.ret (((aC.mk ((0:Int)) ([]) ([]) ([]) ([])),((1:Int)))))) else ((dJ x0 x1)>>=fun GL=>(some (Out.ret ((GL,((0:Int)))))))))
def fB (x0:(List Int)):Option ((List Int)):=
 aq (S:=Unit) ((fits 8 ((([]:(List Int))).length+x0.length))>>=fun n15=>(some (Out.ret ((([]:(List Int))++x0)))))
def jC (x0:(List (List Int))) (dx:(List (List Int))) (C7:Int):Option (Out ((List (List Int))×Int) ((List (List Int)))):=
 (bif decide (C7 < (x0.length:Int)) then ((idx x0 (C7))>>=fun UN=>((fB UN)>>=fun y29=>((fits 24 (dx.length+1))>>=fun n53=>(some (Out.norm (dx++[y29],ak (C7+(1:Int)))))))) else (some (Out.exit 0 (dx,C7))))
def nQ (x0:(List (List Int))):Option ((List (List Int))):=
 aq (S:=Unit) ((mk 24 ((x0.length:Int)))>>=fun n3=>(ae (ab 0 (aj (fun s=>jC x0 s.1 s.2) (([]:(List (List Int))),(0:Int)))) (fun (dx,C7)=>(some (Out.ret (dx))))))
def fI (x0:aC):Option (aC):=
 aq (S:=Unit) ((fB x0.aA)>>=fun y8=>((fB x0.To)>>=fun Mo=>((fB x0.aF)>>=fun zE=>((nQ x0.aB)>>=fun Mt=>(some (Out.ret ((aC.mk x0.aD y8 Mo zE Mt))))))))
def nE (x0:aC) (x1:aC) (x2:(List Int)) (x3:(List Int)):Option (aO):=
 aq (S:=Unit) ((fI x0)>>=fun y8=>((fI x1)>>=fun Mu=>((fB x2)>>=fun y78=>((fB x3)>>=fun GA=>(some (Out.ret ((aO.mk y8 Mu y78 GA))))))))
def dZ (x0:aC) (x1:(List Int)):Option (aO×Int):=
 aq (S:=Unit) ((fO x0 x1)>>=fun v8=>(bif (v8.2) != ((0:Int)) then (some (Out.ret (((aO.mk (aC.mk ((0:Int)) ([]) ([]) ([]) ([])) (aC.mk ((0:Int)) ([]) ([]) ([]) ([])) ([]) ([])),v8.2)))) else ((kQ (x0.aD))>>=fun lv=>((nE x0 v8.1 lv x1)>>=fun IK=>(some (Out.ret ((IK,((0:Int))))))))))
def gW (x0:(List Int)):Option (Bool):=
 aq (S:=Unit) (bif decide ((x0.length:Int)≤(256:Int)) then ((fN x0)>>=fun y4=>((dQ x0 y4)>>=fun UM=>(some (Out.ret (UM))))) else (some (Out.ret (false))))
def mK (x0:(List Int)) (dx:(List (List Int))) (bo:Int):Option (Out ((List (List Int))×Int) ((List (List Int)))):=
 (bif decide (bo < (x0.length:Int)) then ((idx x0 (bo))>>=fun IG=>((iG x0 (IG))>>=fun C0=>((fits 24 (dx.length+1))>>=fun n35=>(some (Out.norm (dx++[([C0,bo]:(List Int))],ak (bo+(1:Int)))))))) else (some (Out.exit 0 (dx,bo))))
def mC (x0:(List Int)):Option ((List (List Int))):=
 aq (S:=Unit) (ae (ab 0 (aj (fun s=>mK x0 s.1 s.2) (([]:(List (List Int))),(0:Int)))) (fun (dx,bo)=>(some (Out.ret (dx)))))
def jD (x0:aC) (qL:(List (List Int))) (di:Int):Option (Out (Int) (Bool)):=
 (bif decide (di < (qL.length:Int)) then ((idx qL (di))>>=fun e34=>((idx e34 ((0:Int)))>>=fun GM=>((idx qL (di))>>=fun UO=>((idx UO ((1:Int)))>>=fun Gz=>((cE x0 (GM) (Gz))>>=fun Vd=>(bif !(Vd) then (some (Out.ret (false))) else (some (Out.norm (ak (di+(1:Int))))))))))) else (some (Out.exit 0 (di))))
def fJ (x0:aC) (x1:(List Int)):Option (Bool):=
 aq (S:=Unit) (((bif ((x1.length:Int)) != ((x0.aA.length:Int)) then (some (true)) else ((gW x1)>>=fun xM=>(some (!(xM))))))>>=fun g8=>(bif g8 then (some (Out.ret (false))) else ((mC x1)>>=fun qL=>(ae (ab 0 (aj (jD x0 qL) ((0:Int)))) (fun di=>((jB x0 qL)>>=fun QD=>((dQ x1 QD)>>=fun UY=>(some (Out.ret (UY))))))))))
def iE (x1:(List Int)) (aX:(List Int)) (di:Int):Option (Out ((List Int)×Int) (aC)):=
 (bif decide (di < (x1.length:Int)) then ((idx x1 (di))>>=fun An=>((iG x1 (An))>>=fun Mt=>(bif (Mt) == (di) then ((fits 8 (aX.length+1))>>=fun n59=>(some (Out.norm (aX++[di],ak (di+(1:Int)))))) else (some (Out.norm (aX,ak (di+(1:Int)))))))) else (some (Out.exit 0 (aX,di))))
def kB (x0:aC) (x1:(List Int)) (cp:Int) (uN:(List Int)):Option (Out (Int×(List Int)) (aC)):=
 (bif decide (cp < x0.aD) then ((idx x0.aF (cp))>>=fun Pc=>((idx x1 (Pc))>>=fun abi=>((fits 8 (uN.length+1))>>=fun n192=>(some (Out.norm (ak (cp+(1:Int)),uN++[abi])))))) else (some (Out.exit 2 (cp,uN))))
def kC (x0:aC) (x1:(List Int)) (aX:(List Int)) (ch:Int) (ed:(List Int)) (fy:Int):Option (Out ((List Int)×Int) (aC)):=
 (bif decide (fy < (aX.length:Int)) then ((idx aX (ch))>>=fun abj=>((idx x0.aB (abj))>>=fun abk=>((idx aX (fy))>>=fun abl=>((idx abk (abl))>>=fun Pd=>(bif decide (Pd ≥ (0:Int)) then ((idx x1 (Pd))>>=fun abm=>((fits 8 (ed.length+1))>>=fun al2=>(some (Out.norm (ed++[abm],ak (fy+(1:Int))))))) else ((fits 8 (ed.length+1))>>=fun al3=>(some (Out.norm (ed++[Pd],ak (fy+(1:Int))))))))))) else (some (Out.exit 6 (ed,fy))))
def kD (x0:aC) (x1:(List Int)) (aX:(List Int)) (ch:Int) (uO:(List Int)) (uP:(List Int)) (uQ:(List (List Int))):Option (Out (Int×(List Int)×(List Int)×(List (List Int))) (aC)):=
 (bif decide (ch < (aX.length:Int)) then ((idx aX (ch))>>=fun abn=>((idx x0.aA (abn))>>=fun JV=>((fits 8 (uO.length+1))>>=fun n278=>((idx aX (ch))>>=fun O1=>((idx x0.To (O1))>>=fun O2=>((fits 8 (uP.length+1))>>=fun n318=>(ae (ab 6 (aj (fun s=>kC x0 x1 aX ch s.1 s.2) (([]:(List Int)),(0:Int)))) (fun (ed,fy)=>((fits 24 (uQ.length+1))>>=fun al4=>(some (Out.norm (ak (ch+(1:Int)),uO++[JV],uP++[O2],uQ++[ed])))))))))))) else (some (Out.exit 4 (ch,uO,uP,uQ))))
def jG (x0:aC) (x1:(List Int)):Option (aC):=
 aq (S:=Unit) (ae (ab 0 (aj (fun s=>iE x1 s.1 s.2) (([]:(List Int)),(0:Int)))) (fun (aX,di)=>(ae (ab 2 (aj (fun s=>kB x0 x1 s.1 s.2) ((0:Int),([]:(List Int))))) (fun (cp,uN)=>(ae (ab 4 (aj (fun s=>kD x0 x1 aX s.1 s.2.1 s.2.2.1 s.2.2.2) ((0:Int),([]:(List Int)),([]:(List Int)),([]:(List (List Int)))))) (fun (ch,uO,uP,uQ)=>(some (Out.ret ((aC.mk x0.aD uO uP uN uQ))))))))))
def fP (x0:aC) (x1:(List Int)):Option (aC×Int):=
 aq (S:=Unit) ((((fZ x0)>>=fun qL=>(bif !(qL) then (some (true)) else ((fJ x0 x1)>>=fun Ez=>(some (!(Ez)))))))>>=fun g16=>(bif g16 then (some (Out.ret (((aC.mk ((0:Int)) ([]) ([]) ([]) ([])),((1:Int)))))) else ((jG x0 x1)>>=fun GL=>(some (Out.ret ((GL,((0:Int)))))))))
def gX (x0:aC) (x1:aC) (x2:(List Int)) (x3:(List Int)):Option (aO):=
 aq (S:=Unit) ((iN x0)>>=fun qu=>((iN x1)>>=fun y60=>((bZ x2)>>=fun B8=>((bZ x3)>>=fun abo=>(some (Out.ret ((aO.mk qu y60 B8 abo))))))))
def eA (x0:aC) (dx:(List Int)) (aX:Int):Option (Out ((List Int)×Int) (aO)):=
 (bif decide (aX < x0.aD) then ((fits 8 (dx.length+1))>>=fun n65=>(some (Out.norm (dx++[aX],ak (aX+(1:Int)))))) else (some (Out.exit 0 (dx,aX))))
def eB (x0:aC) (vb:(List Int)) (jm:Int):Option (Out ((List Int)×Int) (aO)):=
 (bif decide (jm < (x0.aA.length:Int)) then ((fits 8 (vb.length+1))>>=fun n107=>(some (Out.norm (vb++[jm],ak (jm+(1:Int)))))) else (some (Out.exit 2 (vb,jm))))
def dK (x0:aC):Option (aO):=
 aq (S:=Unit) (ae (ab 0 (aj (fun s=>eA x0 s.1 s.2) (([]:(List Int)),(0:Int)))) (fun (dx,aX)=>(ae (ab 2 (aj (fun s=>eB x0 s.1 s.2) (([]:(List Int)),(0:Int)))) (fun (vb,jm)=>((gX x0 x0 dx vb)>>=fun B9=>(some (Out.ret (B9))))))))
def gC (x0:aC) (x1:(List Int)):Option (aO×Int):=
 aq (S:=Unit) ((fP x0 x1)>>=fun v8=>(bif (v8.2) != ((0:Int)) then (some (Out.ret (((aO.mk (aC.mk ((0:Int)) ([]) ([]) ([]) ([])) (aC.mk ((0:Int)) ([]) ([]) ([]) ([])) ([]) ([])),v8.2)))) else ((dK x0)>>=fun lv=>((gX x0 v8.1 lv.aD x1)>>=fun abp=>(some (Out.ret ((abp,((0:Int))))))))))
def lL (x0:(List (List Int))) (x1:(List (List Int))) (aX:Int):Option (Out (Int) (Bool)):=
 (bif decide (aX < (x0.length:Int)) then ((idx x0 (aX))>>=fun uL=>((idx x1 (aX))>>=fun Ah=>((bY uL Ah)>>=fun IL=>(bif !(IL) then (some (Out.ret (false))) else (some (Out.norm (ak (aX+(1:Int))))))))) else (some (Out.exit 0 (aX))))
def lE (x0:(List (List Int))) (x1:(List (List Int))):Option (Bool):=
 aq (S:=Unit) (bif ((x0.length:Int)) != ((x1.length:Int)) then (some (Out.ret (false))) else (ae (ab 0 (aj (lL x0 x1) ((0:Int)))) (fun aX=>(some (Out.ret (true))))))
def eC (x0:aC) (x1:aC):Option (Bool):=
 aq (S:=Unit) (((bif (x0.aD) == (x1.aD) then ((bY x0.aA x1.aA)>>=fun Mk=>(bif Mk then ((bY x0.To x1.To)>>=fun y22=>(bif y22 then ((bY x0.aF x1.aF)>>=fun qu=>(bif qu then ((lE x0.aB x1.aB)>>=fun IL=>(some (IL))) else (some (false)))) else (some (false)))) else (some (false)))) else (some (false))))>>=fun g16=>(some (Out.ret (g16))))
def iL (x0:aO) (x1:aO):Option (Bool):=
 aq (S:=Unit) ((((eC x0.aH x1.aH)>>=fun qL=>(bif qL then ((eC x0.aL x1.aL)>>=fun Ez=>(bif Ez then ((bY x0.aD x1.aD)>>=fun zG=>(bif zG then ((bY x0.an x1.an)>>=fun zE=>(some (zE))) else (some (false)))) else (some (false)))) else (some (false)))))>>=fun g16=>(some (Out.ret (g16))))
def fQ (x0:(List aC)) (bx:Int):Option (Out (Int) (Bool)):=
 (bif decide (bx < (x0.length:Int)) then ((idx x0 (bx))>>=fun e9=>((cH e9)>>=fun dc=>(bif !(dc) then (some (Out.ret (false))) else (some (Out.norm (ak (bx+(1:Int)))))))) else (some (Out.exit 0 (bx))))
def iM (x0:(List aC)):Option (Bool):=
 aq (S:=Unit) (ae (ab 0 (aj (fQ x0) ((0:Int)))) (fun bx=>(some (Out.ret (true)))))
def jH (x0:aO) (yU:Int):Option (Out (Int) (Bool)):=
 (bif decide (yU < (x0.an.length:Int)) then ((idx x0.an (yU))>>=fun BH=>((((idx x0.aL.aA (BH))>>=fun Ve=>((idx x0.aH.aA (yU))>>=fun QB=>((idx x0.aD (QB))>>=fun GM=>(bif (Ve) != (GM) then (some (true)) else ((idx x0.aL.To (BH))>>=fun e44=>((idx x0.aH.To (yU))>>=fun Mb=>((idx x0.aD (Mb))>>=fun Ey=>(some ((e44) != (Ey)))))))))))>>=fun g35=>(bif g35 then (some (Out.ret (false))) else (some (Out.norm (ak (yU+(1:Int)))))))) else (some (Out.exit 0 (yU))))
def jI (x0:aO) (xS:Int):Option (Out (Int) (Bool)):=
 (bif decide (xS < (x0.aH.aF.length:Int)) then ((idx x0.aH.aF (xS))>>=fun U1=>((idx x0.an (U1))>>=fun UL=>((idx x0.aD (xS))>>=fun Vf=>((idx x0.aL.aF (Vf))>>=fun zH=>(bif (UL) != (zH) then (some (Out.ret (false))) else (some (Out.norm (ak (xS+(1:Int)))))))))) else (some (Out.exit 2 (xS))))
def jJ (x0:aO) (uR:Int) (BJ:(List Int)) (xT:Int):Option (Out (Int) (Bool)):=
 (bif decide (xT < (BJ.length:Int)) then ((idx BJ (xT))>>=fun J7=>(((bif decide (J7 ≥ (0:Int)) then ((idx x0.an (J7))>>=fun GB=>((idx x0.an (uR))>>=fun O8=>((idx x0.an (xT))>>=fun OT=>((bN x0.aL (O8) (OT))>>=fun abq=>(some ((GB) != (abq))))))) else (some (false))))>>=fun abr=>(bif abr then (some (Out.ret (false))) else (some (Out.norm (ak (xT+(1:Int)))))))) else (some (Out.exit 6 (xT))))
def jK (x0:aO) (uR:Int):Option (Out (Int) (Bool)):=
 (bif decide (uR < (x0.aH.aB.length:Int)) then ((idx x0.aH.aB (uR))>>=fun BJ=>(ae (ab 6 (aj (jJ x0 uR BJ) ((0:Int)))) (fun xT=>(some (Out.norm (ak (uR+(1:Int)))))))) else (some (Out.exit 4 (uR))))
def iV (x0:aO):Option (Bool):=
 aq (S:=Unit) (((bif ((x0.aD.length:Int)) != (x0.aH.aD) then (some (true)) else ((bS x0.aH)>>=fun gf=>(bif ((x0.an.length:Int)) != (gf) then (some (true)) else ((eZ x0.aD (x0.aL.aD))>>=fun UT=>(bif !(UT) then (some (true)) else ((bS x0.aL)>>=fun v8=>((eZ x0.an (v8))>>=fun qL=>(some (!(qL)))))))))))>>=fun g7=>(bif g7 then (some (Out.ret (false))) else (ae (ab 0 (aj (jH x0) ((0:Int)))) (fun yU=>(ae (ab 2 (aj (jI x0) ((0:Int)))) (fun xS=>(ae (ab 4 (aj (jK x0) ((0:Int)))) (fun uR=>(some (Out.ret (true)))))))))))
def cP (x0:aO):Option (Bool):=
 aq (S:=Unit) ((((iM [x0.aH,x0.aL])>>=fun GK=>(bif GK then ((iV x0)>>=fun Mo=>(some (Mo))) else (some (false)))))>>=fun g12=>(some (Out.ret (g12))))
def eW (x0:aO):Option (Bool):=
 aq (S:=Unit) ((cP x0)>>=fun y8=>(some (Out.ret (y8))))
def gY (x0:aO) (vr:Int) (Ap:(List Int)):Option (Out (Int×(List Int)) ((List Int)×Int)):=
 (bif decide (vr < (x0.an.length:Int)) then ((idx x0.an (vr))>>=fun BH=>((idx x0.aH.aA (vr))>>=fun Vg=>((idx x0.aH.To (vr))>>=fun Ve=>((idx Ap (vr))>>=fun QB=>(some (Out.norm (ak (vr+(1:Int)),Ap.set (vr).toNat (ak (ak (ak (ak (Vg * (8:Int))+Ve) * (40:Int))+BH))))))))) else (some (Out.exit 0 (vr,Ap))))
def cB (x0:aO):Option ((List Int)×Int):=
 aq (S:=Unit) ((cP x0)>>=fun y8=>(bif !(y8) then (some (Out.ret ((([]),((1:Int)))))) else ((mk 8 ((x0.an.length:Int)))>>=fun n15=>(ae (ab 0 (aj (fun s=>gY x0 s.1 s.2) ((0:Int),List.replicate n15 (0:Int)))) (fun (vr,Ap)=>((lU Ap)>>=fun Md=>(some (Out.ret ((Md,((0:Int))))))))))))
def lF (x0:aO) (x1:(aO→Option (Bool))):Option (Bool×Int):=
 aq (S:=Unit) ((cP x0)>>=fun y3=>(bif !(y3) then (some (Out.ret ((false,((1:Int)))))) else ((x1 x0)>>=fun gf=>(some (Out.ret ((gf,((0:Int)))))))))
def eD (x0:aC) (x1:Int) (x2:Int) (bx:(List Int)) (nw:Int):Option (Out ((List Int)×Int) ((List Int))):=
 (bif decide (nw < (x0.aA.length:Int)) then ((((idx x0.aA (nw))>>=fun zD=>(bif (zD) == (x1) then ((idx x0.To (nw))>>=fun Ew=>(some ((Ew) == (x2)))) else (some (false)))))>>=fun g20=>(bif g20 then ((fits 8 (bx.length+1))>>=fun n44=>(some (Out.norm (bx++[nw],ak (nw+(1:Int)))))) else (some (Out.norm (bx,ak (nw+(1:Int))))))) else (some (Out.exit 0 (bx,nw))))
def fY (x0:aC) (x1:Int) (x2:Int):Option ((List Int)):=
 aq (S:=Unit) (ae (ab 0 (aj (fun s=>eD x0 x1 x2 s.1 s.2) (([]:(List Int)),(0:Int)))) (fun (bx,nw)=>(some (Out.ret (bx)))))
def nR (x0:(List Int)) (x1:Int) (fh:Int):Option (Out (Int) (Bool)):=
 (bif decide (fh < (x0.length:Int)) then ((idx x0 (fh))>>=fun e9=>(bif (e9) == (x1) then (some (Out.ret (true))) else (some (Out.norm (ak (fh+(1:Int))))))) else (some (Out.exit 0 (fh))))
def oL (x0:(List Int)) (x1:Int):Option (Bool):=
 aq (S:=Unit) (ae (ab 0 (aj (nR x0 x1) ((0:Int)))) (fun fh=>(some (Out.ret (false)))))
def fC (v7:(List Int)) (C2:(List Int)) (C8:Int):Option (Out (Int) (Bool)):=
 (bif decide (C8 < (C2.length:Int)) then ((idx C2 (C8))>>=fun IH=>((oL v7 (IH))>>=fun y58=>(bif !(y58) then (some (Out.ret (false))) else (some (Out.norm (ak (C8+(1:Int)))))))) else (some (Out.exit 4 (C8))))
def iP (x0:aO) (bo:Int) (ly:Int):Option (Out (Int) (Bool)):=
 (bif decide (ly < x0.aH.aD) then ((fY x0.aH (bo) (ly))>>=fun qL=>((mU qL x0.an)>>=fun v7=>((idx x0.aD (bo))>>=fun An=>((idx x0.aD (ly))>>=fun U8=>((fY x0.aL (An) (U8))>>=fun C2=>(ae (ab 4 (aj (fC v7 C2) ((0:Int)))) (fun C8=>(some (Out.norm (ak (ly+(1:Int)))))))))))) else (some (Out.exit 2 (ly))))
def iQ (x0:aO) (bo:Int):Option (Out (Int) (Bool)):=
 (bif decide (bo < x0.aH.aD) then (ae (ab 2 (aj (iP x0 bo) ((0:Int)))) (fun ly=>(some (Out.norm (ak (bo+(1:Int))))))) else (some (Out.exit 0 (bo))))
def eM (x0:aO):Option (Bool):=
 aq (S:=Unit) (ae (ab 0 (aj (iQ x0) ((0:Int)))) (fun bo=>(some (Out.ret (true)))))
def nS (x0:aO):Option (Bool×Int):=
 aq (S:=Unit) ((lF x0 (fun a0=>eM a0))>>=fun y8=>(some (Out.ret ((y8.1,y8.2)))))
def nF (x0:aC) (x1:Int):Option (Bool):=
 aq (S:=Unit) ((idx x0.aA (x1))>>=fun e8=>((idx x0.aF (e8))>>=fun GO=>(some (Out.ret (((GO) == (x1)))))))
def lM (x0:aC) (dx:(List Int)) (bo:Int):Option (Out ((List Int)×Int) ((List Int))):=
 (bif decide (bo < (x0.aA.length:Int)) then ((nF x0 (bo))>>=fun qu=>(bif !(qu) then ((fits 8 (dx.length+1))>>=fun n45=>(some (Out.norm (dx++[bo],ak (bo+(1:Int)))))) else (some (Out.norm (dx,ak (bo+(1:Int))))))) else (some (Out.exit 0 (dx,bo))))
def lG (x0:aC):Option ((List Int)):=
 aq (S:=Unit) (ae (ab 0 (aj (fun s=>lM x0 s.1 s.2) (([]:(List Int)),(0:Int)))) (fun (dx,bo)=>(some (Out.ret (dx)))))
def jP (x0:aC) (x1:aC):Option (Bool):=
 aq (S:=Unit) ((lG x0)>>=fun v8=>(bif decide ((v8.length:Int)≤(8:Int)) then (some (Out.ret ((decide ((x1.aA.length:Int)≤(16:Int)))))) else (some (Out.ret (false)))))
def nK (x0:aC) (x1:Int) (x2:Int) (bx:(List Int)) (gx:Int):Option (Out ((List Int)×Int) ((List Int))):=
 (bif decide (gx < (x0.aA.length:Int)) then ((((idx x0.aA (gx))>>=fun GW=>(bif (GW) == (x1) then ((idx x0.To (gx))>>=fun e30=>(some ((e30) == (x2)))) else (some (false)))))>>=fun g25=>(bif g25 then ((fits 8 (bx.length+1))>>=fun n50=>(some (Out.norm (bx++[gx],ak (gx+(1:Int)))))) else (some (Out.norm (bx,ak (gx+(1:Int))))))) else (some (Out.exit 0 (bx,gx))))
def lV (x0:aC) (x1:Int) (x2:Int):Option ((List Int)):=
 aq (S:=Unit) (ae (ab 0 (aj (fun s=>nK x0 x1 x2 s.1 s.2) (([]:(List Int)),(0:Int)))) (fun (bx,gx)=>(some (Out.ret (bx)))))
def oC (x0:aC) (x1:aC) (x2:(List Int)) (bx:Int):Option (Out (Int) (Bool)):=
 (bif decide (bx < (x0.aA.length:Int)) then ((idx x0.aA (bx))>>=fun Va=>((idx x0.To (bx))>>=fun Ew=>(bif decide (Va < (x2.length:Int)) then (bif decide (Ew < (x2.length:Int)) then ((idx x2 (Va))>>=fun BH=>((idx x2 (Ew))>>=fun UZ=>((lV x1 (BH) (UZ))>>=fun Mu=>(bif ((Mu.length:Int)) == ((0:Int)) then (some (Out.ret (false))) else (some (Out.norm (ak (bx+(1:Int))))))))) else (some (Out.norm (ak (bx+(1:Int)))))) else (some (Out.norm (ak (bx+(1:Int)))))))) else (some (Out.exit 0 (bx))))
def mD (x0:aC) (x1:aC) (x2:(List Int)):Option (Bool):=
 aq (S:=Unit) (ae (ab 0 (aj (oC x0 x1 x2) ((0:Int)))) (fun bx=>(some (Out.ret (true)))))
def mL (x0:aC) (x1:aC) (cp:Int) (sw:Bool) (ch:Int) (me:(List Int)):Option (Out (Bool×Int×(List Int)) (Bool×(List Int))):=
 (bif decide (ch < (me.length:Int)) then ((idx x0.aB (cp))>>=fun Ms=>((idx Ms (ch))>>=fun BI=>(((bif decide (BI < (0:Int)) then (some (true)) else ((idx me (cp))>>=fun II=>(bif decide (II < (0:Int)) then (some (true)) else ((idx me (ch))>>=fun zH=>(some (decide (zH < (0:Int)))))))))>>=fun g66=>(bif g66 then (some (Out.norm (sw,ak (ch+(1:Int)),me))) else ((idx me (cp))>>=fun IJ=>((idx x1.aB (IJ))>>=fun C1=>((idx me (ch))>>=fun BJ=>((idx C1 (BJ))>>=fun Yx=>((((idx me (BI))>>=fun UQ=>(bif decide (UQ ≥ (0:Int)) then ((idx me (BI))>>=fun Mj=>(some ((Mj) != (Yx)))) else (some (false)))))>>=fun g94=>(bif g94 then (some (Out.ret ((false,me)))) else (((bif sw then (some (true)) else ((idx me (BI))>>=fun B4=>(some (decide (B4 < (0:Int)))))))>>=fun abt=>((idx me (BI))>>=fun abg=>(some (Out.norm (abt,ak (ch+(1:Int)),me.set (BI).toNat (Yx)))))))))))))))) else (some (Out.exit 4 (sw,ch,me))))
def mM (x0:aC) (x1:aC) (ou:Bool) (cp:Int) (xU:(List Int)):Option (Out (Bool×Int×(List Int)) (Bool×(List Int))):=
 (bif decide (cp < (xU.length:Int)) then (ae (ab 4 (aj (fun s=>mL x0 x1 cp s.1 s.2.1 s.2.2) (ou,(0:Int),xU))) (fun (sw,ch,me)=>(some (Out.norm (sw,ak (cp+(1:Int)),me))))) else (some (Out.exit 2 (ou,cp,xU))))
def mN (x0:aC) (x1:aC) (bx:Bool) (A4:(List Int)):Option (Out (Bool×(List Int)) (Bool×(List Int))):=
 (bif bx then (ae (ab 2 (aj (fun s=>mM x0 x1 s.1 s.2.1 s.2.2) (false,(0:Int),A4))) (fun (ou,cp,xU)=>(some (Out.norm (ou,xU))))) else (some (Out.exit 0 (bx,A4))))
def mE (x0:aC) (x1:aC) (x2:(List Int)):Option (Bool×(List Int)):=
 aq (S:=Unit) (ae (ab 0 (aj (fun s=>mN x0 x1 s.1 s.2) (true,x2))) (fun (bx,A4)=>(some (Out.ret ((true,A4))))))
def nY (x3:(List Int)) (bo:Int):Option (Out (Int) ((List (List Int)))):=
 (((bif decide (bo < (x3.length:Int)) then ((idx x3 (bo))>>=fun Vg=>(some (decide (Vg ≥ (0:Int))))) else (some (false))))>>=fun g32=>(bif g32 then (some (Out.norm (ak (bo+(1:Int))))) else (some (Out.exit 0 (bo)))))
def lN (rc:aC→aC→(List Int)→(List Int)→Int→(List (List Int))→Option ((List (List Int)))) (x0:aC) (x1:aC) (x2:(List Int)) (x3:(List Int)) (bo:Int) (IK:(List Int)) (ly:(List (List Int))) (A5:Int):Option (Out ((List (List Int))×Int) ((List (List Int)))):=
 (((bif decide (A5 < (IK.length:Int)) then (some (decide ((ly.length:Int)≤(200:Int)))) else (some (false))))>>=fun abu=>(bif abu then ((bZ x3)>>=fun Vh=>((idx IK (A5))>>=fun abv=>((idx Vh (bo))>>=fun al5=>((mE x0 x1 (Vh.set (bo).toNat (abv)))>>=fun Vi=>(bif Vi.1 then ((rc x0 x1 x2 Vi.2 (ak (bo+(1:Int))) ly)>>=fun abw=>(some (Out.norm (abw,ak (A5+(1:Int)))))) else (some (Out.norm (ly,ak (A5+(1:Int)))))))))) else (some (Out.exit 2 (ly,A5)))))
def jL (rc:aC→aC→(List Int)→(List Int)→Int→(List (List Int))→Option ((List (List Int)))) (x0:aC) (x1:aC) (x2:(List Int)) (x3:(List Int)) (x4:Int) (x5:(List (List Int))):Option ((List (List Int))):=
 aq (S:=Unit) (ae (ab 0 (aj (nY x3) (x4))) (fun bo=>(bif (bo) == ((x3.length:Int)) then ((bZ x3)>>=fun y46=>((fits 24 (x5.length+1))>>=fun n70=>(some (Out.ret ((x5++[y46])))))) else ((idx x0.aA (bo))>>=fun e75=>((idx x2 (e75))>>=fun e77=>((idx x0.To (bo))>>=fun IJ=>((idx x2 (IJ))>>=fun C1=>((lV x1 (e77) (C1))>>=fun IK=>(ae (ab 2 (aj (fun s=>lN rc x0 x1 x2 x3 bo IK s.1 s.2) (x5,(0:Int)))) (fun (ly,A5)=>(some (Out.ret (ly)))))))))))))
def eX:Nat→aC→aC→(List Int)→(List Int)→Int→(List (List Int))→Option ((List (List Int)))
 | 0=>fun _ _ _ _ _ _=>none
 | n+1=>jL (eX n)
def lO (x0:aC) (fh:(List Int)) (mb:Int):Option (Out ((List Int)×Int) ((List aO))):=
 (bif decide (mb < (x0.aA.length:Int)) then ((fits 8 (fh.length+1))>>=fun n78=>(some (Out.norm (fh++[(-1:Int)],ak (mb+(1:Int)))))) else (some (Out.exit 0 (fh,mb))))
def lP (x0:aC) (x1:aC) (x2:(List Int)) (A6:Int) (Aq:(List Int)):Option (Out (Int×(List Int)) ((List aO))):=
 (bif decide (A6 < (x2.length:Int)) then ((idx x0.aF (A6))>>=fun Vj=>((idx x2 (A6))>>=fun Ka=>((idx x1.aF (Ka))>>=fun Pe=>((idx Aq (Vj))>>=fun J8=>(some (Out.norm (ak (A6+(1:Int)),Aq.set (Vj).toNat (Pe)))))))) else (some (Out.exit 2 (A6,Aq))))
def lQ (x0:aC) (x1:aC) (x2:(List Int)) (Kd:(List (List Int))) (DR:(List aO)) (C9:Int):Option (Out ((List aO)×Int) ((List aO))):=
 (((bif decide (C9 < (Kd.length:Int)) then (some (decide ((DR.length:Int)≤(200:Int)))) else (some (false))))>>=fun abx=>(bif abx then ((idx Kd (C9))>>=fun aby=>((gX x0 x1 x2 aby)>>=fun abz=>((fits 256 (DR.length+1))>>=fun n290=>(some (Out.norm (DR++[abz],ak (C9+(1:Int)))))))) else (some (Out.exit 4 (DR,C9)))))
def lR (rc:aC→aC→(List Int)→(List aO)→Option ((List aO))) (x0:aC) (x1:aC) (x2:(List Int)) (GX:(List aO)) (Da:Int):Option (Out ((List aO)×Int) ((List aO))):=
 (((bif decide (Da < x1.aD) then (some (decide ((GX.length:Int)≤(200:Int)))) else (some (false))))>>=fun abA=>(bif abA then ((bZ x2)>>=fun Cc=>((fits 8 (Cc.length+1))>>=fun n342=>((rc x0 x1 (Cc++[Da]) GX)>>=fun abB=>(some (Out.norm (abB,ak (Da+(1:Int)))))))) else (some (Out.exit 6 (GX,Da)))))
def jM (rc:aC→aC→(List Int)→(List aO)→Option ((List aO))) (x0:aC) (x1:aC) (x2:(List Int)) (x3:(List aO)):Option ((List aO)):=
 aq (S:=Unit) ((mD x0 x1 x2)>>=fun zE=>(bif !(zE) then (some (Out.ret (x3))) else (bif ((x2.length:Int)) == (x0.aD) then (ae (ab 0 (aj (fun s=>lO x0 s.1 s.2) (([]:(List Int)),(0:Int)))) (fun (fh,mb)=>(ae (ab 2 (aj (fun s=>lP x0 x1 x2 s.1 s.2) ((0:Int),fh))) (fun (A6,Aq)=>((eX 64 x0 x1 x2 Aq ((0:Int)) (([]:(List (List Int)))))>>=fun Kd=>(ae (ab 4 (aj (fun s=>lQ x0 x1 x2 Kd s.1 s.2) (x3,(0:Int)))) (fun (DR,C9)=>(some (Out.ret (DR)))))))))) else (ae (ab 6 (aj (fun s=>lR rc x0 x1 x2 s.1 s.2) (x3,(0:Int)))) (fun (GX,Da)=>(some (Out.ret (GX))))))))
def eY:Nat→aC→aC→(List Int)→(List aO)→Option ((List aO))
 | 0=>fun _ _ _ _=>none
 | n+1=>jM (eY n)
def jR (x0:aC) (x1:aC):Option ((List aO)):=
 aq (S:=Unit) ((eY 64 x0 x1 (([]:(List Int))) (([]:(List aO))))>>=fun U9=>(some (Out.ret (U9))))
def kE (x0:aC) (x2:Int) (bx:(List Int)) (fh:Int):Option (Out ((List Int)×Int) (aO)):=
 (bif decide (fh < x0.aD) then ((fits 8 (bx.length+1))>>=fun n81=>(some (Out.norm (bx++[x2],ak (fh+(1:Int)))))) else (some (Out.exit 0 (bx,fh))))
def kF (x0:aC) (x1:aC) (x2:Int) (cp:(List Int)) (eh:Int):Option (Out ((List Int)×Int) (aO)):=
 (bif decide (eh < (x0.aA.length:Int)) then ((idx x1.aF (x2))>>=fun abC=>((fits 8 (cp.length+1))>>=fun n131=>(some (Out.norm (cp++[abC],ak (eh+(1:Int))))))) else (some (Out.exit 2 (cp,eh))))
def gZ (x0:aC) (x1:aC) (x2:Int):Option (aO):=
 aq (S:=Unit) (ae (ab 0 (aj (fun s=>kE x0 x2 s.1 s.2) (([]:(List Int)),(0:Int)))) (fun (bx,fh)=>(ae (ab 2 (aj (fun s=>kF x0 x1 x2 s.1 s.2) (([]:(List Int)),(0:Int)))) (fun (cp,eh)=>((gX x0 x1 bx cp)>>=fun abD=>(some (Out.ret (abD))))))))
def nG (x0:aI) (x1:aC) (x2:Int) (x3:Int):Option (aO×aI):=
 aq (S:=Unit) ((fE x0 (x2) (x3))>>=fun dc=>((jP x1 dc.1)>>=fun y77=>(bif y77 then ((jR x1 dc.1)>>=fun Vk=>(bif decide ((Vk.length:Int) > (0:Int)) then ((bE (aI.mk x0.Code dc.2.At dc.2.au) ((Vk.length:Int)))>>=fun Aj=>((idx Vk (Aj.1))>>=fun va=>(some (Out.ret ((va,(aI.mk x0.Code Aj.2.At Aj.2.au))))))) else (bif decide (dc.1.aD > (0:Int)) then ((bE (aI.mk x0.Code dc.2.At dc.2.au) ((2:Int)))>>=fun GY=>(bif (GY.1) == ((0:Int)) then ((bE (aI.mk x0.Code GY.2.At GY.2.au) (dc.1.aD))>>=fun GG=>((gZ x1 dc.1 (GG.1))>>=fun abE=>(some (Out.ret ((abE,(aI.mk x0.Code GG.2.At GG.2.au))))))) else ((dK x1)>>=fun abF=>(some (Out.ret ((abF,(aI.mk x0.Code GY.2.At GY.2.au)))))))) else ((dK x1)>>=fun abG=>(some (Out.ret ((abG,(aI.mk x0.Code dc.2.At dc.2.au))))))))) else (bif decide (dc.1.aD > (0:Int)) then ((bE (aI.mk x0.Code dc.2.At dc.2.au) ((2:Int)))>>=fun GZ=>(bif (GZ.1) == ((0:Int)) then ((bE (aI.mk x0.Code GZ.2.At GZ.2.au) (dc.1.aD))>>=fun Pf=>((gZ x1 dc.1 (Pf.1))>>=fun abH=>(some (Out.ret ((abH,(aI.mk x0.Code Pf.2.At Pf.2.au))))))) else ((dK x1)>>=fun abI=>(some (Out.ret ((abI,(aI.mk x0.Code GZ.2.At GZ.2.au)))))))) else ((dK x1)>>=fun abJ=>(some (Out.ret ((abJ,(aI.mk x0.Code dc.2.At dc.2.au))))))))))
def kU (x0:aI):Option (aO×aI):=
 aq (S:=Unit) ((fE x0 ((4:Int)) ((10:Int)))>>=fun gf=>((nG (aI.mk x0.Code gf.2.At gf.2.au) gf.1 ((4:Int)) ((12:Int)))>>=fun q9=>((bE (aI.mk x0.Code q9.2.At q9.2.au) ((30:Int)))>>=fun uh=>(bif (uh.1) == ((0:Int)) then ((kN (aI.mk x0.Code uh.2.At uh.2.au) q9.1.aH)>>=fun Pg=>(some (Out.ret (((aO.mk Pg.1 q9.1.aL q9.1.aD q9.1.an),(aI.mk x0.Code Pg.2.At Pg.2.au)))))) else (bif (uh.1) == ((1:Int)) then (bif decide ((q9.1.an.length:Int) > (0:Int)) then ((bE (aI.mk x0.Code uh.2.At uh.2.au) ((q9.1.an.length:Int)))>>=fun Cc=>((bE (aI.mk x0.Code Cc.2.At Cc.2.au) (ak ((q9.1.aL.aA.length:Int)+(1:Int))))>>=fun ug=>((idx q9.1.an (Cc.1))>>=fun al6=>(some (Out.ret (((aO.mk q9.1.aH q9.1.aL q9.1.aD (q9.1.an.set (Cc.1).toNat (ug.1))),(aI.mk x0.Code ug.2.At ug.2.au)))))))) else (some (Out.ret ((q9.1,(aI.mk x0.Code uh.2.At uh.2.au)))))) else (bif (uh.1) == ((2:Int)) then ((fits 8 (q9.1.aD.length+1))>>=fun aau=>(some (Out.ret (((aO.mk q9.1.aH q9.1.aL (q9.1.aD++[(0:Int)]) q9.1.an),(aI.mk x0.Code uh.2.At uh.2.au)))))) else (some (Out.ret ((q9.1,(aI.mk x0.Code uh.2.At uh.2.au)))))))))))
def cM (x0:(List Int)):Option (aO):=
 aq (S:=Unit) ((kK x0)>>=fun y8=>(match y8 with | none=>none | some m15=>((kU (aI.mk x0 m15.At m15.au))>>=fun zG=>(some (Out.ret (zG.1))))))
def nT (x0:aO) (aX:Int):Option (Out (Int) (Bool)):=
 (bif decide (aX < (x0.aH.aA.length:Int)) then ((((idx x0.an (aX))>>=fun Vf=>((idx x0.aL.aA (Vf))>>=fun zH=>((idx x0.aH.aA (aX))>>=fun e74=>((idx x0.aD (e74))>>=fun Mr=>(bif (zH) != (Mr) then (some (true)) else ((idx x0.an (aX))>>=fun IJ=>((idx x0.aL.To (IJ))>>=fun C1=>((idx x0.aH.To (aX))>>=fun Yt=>((idx x0.aD (Yt))>>=fun UU=>(some ((C1) != (UU)))))))))))))>>=fun g68=>(bif g68 then (some (Out.ret (false))) else (some (Out.norm (ak (aX+(1:Int))))))) else (some (Out.exit 0 (aX))))
def nU (x0:aO) (jm:Int):Option (Out (Int) (Bool)):=
 (bif decide (jm < x0.aH.aD) then ((idx x0.aH.aF (jm))>>=fun Pe=>((idx x0.an (Pe))>>=fun J8=>((idx x0.aD (jm))>>=fun va=>((idx x0.aL.aF (va))>>=fun GB=>(bif (J8) != (GB) then (some (Out.ret (false))) else (some (Out.norm (ak (jm+(1:Int)))))))))) else (some (Out.exit 2 (jm))))
def nV (x0:aO) (sw:Int) (Cd:Int):Option (Out (Int) (Bool)):=
 (bif decide (Cd < (x0.aH.aA.length:Int)) then ((((idx x0.aH.To (sw))>>=fun abK=>((idx x0.aH.aA (Cd))>>=fun abL=>(bif (abK) == (abL) then ((idx x0.aH.aB (sw))>>=fun abM=>((idx abM (Cd))>>=fun abN=>((idx x0.an (abN))>>=fun abO=>((idx x0.an (sw))>>=fun OB=>((idx x0.aL.aB (OB))>>=fun Kc=>((idx x0.an (Cd))>>=fun abP=>((idx Kc (abP))>>=fun Pc=>(some ((abO) != (Pc)))))))))) else (some (false))))))>>=fun abQ=>(bif abQ then (some (Out.ret (false))) else (some (Out.norm (ak (Cd+(1:Int))))))) else (some (Out.exit 6 (Cd))))
def nW (x0:aO) (sw:Int):Option (Out (Int) (Bool)):=
 (bif decide (sw < (x0.aH.aA.length:Int)) then (ae (ab 6 (aj (nV x0 sw) ((0:Int)))) (fun Cd=>(some (Out.norm (ak (sw+(1:Int))))))) else (some (Out.exit 4 (sw))))
def oA (x0:aO):Option (Bool):=
 aq (S:=Unit) ((((fZ x0.aH)>>=fun Mu=>(bif !(Mu) then (some (true)) else ((fZ x0.aL)>>=fun Mt=>(bif !(Mt) then (some (true)) else (bif ((x0.aD.length:Int)) != (x0.aH.aD) then (some (true)) else (some (((x0.an.length:Int)) != ((x0.aH.aA.length:Int))))))))))>>=fun g33=>(bif g33 then (some (Out.ret (false))) else ((((gF (x0.aL.aD) x0.aD)>>=fun UC=>(bif !(UC) then (some (true)) else ((gF ((x0.aL.aA.length:Int)) x0.an)>>=fun Vd=>(some (!(Vd)))))))>>=fun g47=>(bif g47 then (some (Out.ret (false))) else (ae (ab 0 (aj (nT x0) ((0:Int)))) (fun aX=>(ae (ab 2 (aj (nU x0) ((0:Int)))) (fun jm=>(ae (ab 4 (aj (nW x0) ((0:Int)))) (fun sw=>(some (Out.ret (true)))))))))))))
def iA (x0:aO) (aX:Int) (vb:(List (List Int))) (jm:Int):Option (Out ((List (List Int))×Int) ((List Int)×Int)):=
 (bif decide (jm < aX) then ((((cE x0.aH (aX) (jm))>>=fun BL=>(bif BL then ((idx x0.an (aX))>>=fun Mi=>((idx x0.an (jm))>>=fun Vl=>(some ((Mi) == (Vl))))) else (some (false)))))>>=fun g42=>(bif g42 then ((fits 24 (vb.length+1))>>=fun n65=>(some (Out.norm (vb++[([jm,aX]:(List Int))],ak (jm+(1:Int)))))) else (some (Out.norm (vb,ak (jm+(1:Int))))))) else (some (Out.exit 2 (vb,jm))))
def iB (x0:aO) (bo:(List (List Int))) (aX:Int):Option (Out ((List (List Int))×Int) ((List Int)×Int)):=
 (bif decide (aX < (x0.an.length:Int)) then (ae (ab 2 (aj (fun s=>iA x0 aX s.1 s.2) (bo,(0:Int)))) (fun (vb,jm)=>(some (Out.norm (vb,ak (aX+(1:Int))))))) else (some (Out.exit 0 (bo,aX))))
def cI (x0:aO):Option ((List Int)×Int):=
 aq (S:=Unit) ((oA x0)>>=fun y8=>(bif !(y8) then (some (Out.ret ((([]),((1:Int)))))) else (ae (ab 0 (aj (fun s=>iB x0 s.1 s.2) (([]:(List (List Int))),(0:Int)))) (fun (bo,aX)=>((kS ((x0.an.length:Int)) bo)>>=fun y79=>(some (Out.ret ((y79,((0:Int)))))))))))
def fT (x0:aO) (mb:Int) (xc:(List Int)) (A7:Int):Option (Out (Int) (Bool)):=
 (bif decide (A7 < (xc.length:Int)) then ((((idx x0.an (mb))>>=fun zD=>((idx x0.an (A7))>>=fun UX=>(bif (zD) == (UX) then ((bU x0.aH (mb))>>=fun IL=>((bU x0.aH (A7))>>=fun Mq=>(some (((IL.aA) == (Mq.aA) && (IL.To) == (Mq.To)))))) else (some (false))))))>>=fun g20=>(bif g20 then (some (Out.ret (false))) else (some (Out.norm (ak (A7+(1:Int))))))) else (some (Out.exit 2 (A7))))
def fU (x0:aO) (mb:Int):Option (Out (Int) (Bool)):=
 (bif decide (mb < (x0.an.length:Int)) then ((DN x0.an (0:Int) (mb))>>=fun xc=>(ae (ab 2 (aj (fT x0 mb xc) ((0:Int)))) (fun A7=>(some (Out.norm (ak (mb+(1:Int)))))))) else (some (Out.exit 0 (mb))))
def dA (x0:aO):Option (Bool):=
 aq (S:=Unit) (ae (ab 0 (aj (fU x0) ((0:Int)))) (fun mb=>(some (Out.ret (true)))))
def fR (x0:aO):Option (Bool×Int):=
 aq (S:=Unit) ((lF x0 (fun a0=>dA a0))>>=fun y8=>(some (Out.ret ((y8.1,y8.2)))))
def nL (x0:Int) (dx:(List Int)) (bo:Int):Option (Out ((List Int)×Int) ((List Int))):=
 (bif decide (bo < x0) then ((fits 8 (dx.length+1))>>=fun n32=>(some (Out.norm (dx++[bo],ak (bo+(1:Int)))))) else (some (Out.exit 0 (dx,bo))))
def iR (x0:Int):Option ((List Int)):=
 aq (S:=Unit) (ae (ab 0 (aj (fun s=>nL x0 s.1 s.2) (([]:(List Int)),(0:Int)))) (fun (dx,bo)=>(some (Out.ret (dx)))))
def gD (gf:aC×(List (List Int))) (xO:(List Int)×Int) (lp:Int):Option (Out (Int) (Bool)):=
 (bif decide (lp < (gf.2.length:Int)) then ((idx gf.2 (lp))>>=fun abR=>((idx abR ((0:Int)))>>=fun abS=>((idx xO.1 (abS))>>=fun abT=>((idx gf.2 (lp))>>=fun abU=>((idx abU ((1:Int)))>>=fun abV=>((idx xO.1 (abV))>>=fun abW=>(bif (abT) != (abW) then (some (Out.ret (false))) else (some (Out.norm (ak (lp+(1:Int)))))))))))) else (some (Out.exit 0 (lp))))
def dL (x0:(List Int)):Option (Bool):=
 aq (S:=Unit) ((pC x0)>>=fun y3=>(bif y3 then (some (Out.ret (true))) else ((fK x0)>>=fun gf=>((iS gf.1 gf.2)>>=fun zF=>((iU gf.1 gf.2)>>=fun xO=>(((bif (zF.2) != (xO.2) then (some (true)) else ((bY zF.1 xO.1)>>=fun y98=>(some (!(y98))))))>>=fun g95=>(bif g95 then (some (Out.ret (false))) else (bif (zF.2) == ((0:Int)) then ((dB gf.1 xO.1)>>=fun Vm=>((dZ gf.1 xO.1)>>=fun Vn=>((gC gf.1 xO.1)>>=fun Ke=>(((bif (Vm.2) != ((0:Int)) then (some (true)) else (bif !(Vm.1) then (some (true)) else (bif (Vn.2) != ((0:Int)) then (some (true)) else ((iL Vn.1 Ke.1)>>=fun abX=>(bif !(abX) then (some (true)) else ((eW Ke.1)>>=fun abY=>(some (!(abY))))))))))>>=fun abZ=>(bif abZ then (some (Out.ret (false))) else ((cB Ke.1)>>=fun Vp=>((nS Ke.1)>>=fun Vq=>(((bif (Vp.2) != ((0:Int)) then (some (true)) else ((bY Vp.1 xO.1)>>=fun ab0=>(bif !(ab0) then (some (true)) else (bif (Vq.2) != ((0:Int)) then (some (true)) else (some (!(Vq.1))))))))>>=fun ab1=>(bif ab1 then (some (Out.ret (false))) else (ae (ab 0 (aj (gD gf xO) ((0:Int)))) (fun lp=>((cM x0)>>=fun G0=>((cB G0)>>=fun Ph=>((cI G0)>>=fun G3=>(((bif (Ph.2) != (G3.2) then (some (true)) else ((bY Ph.1 G3.1)>>=fun ab2=>(some (!(ab2))))))>>=fun ab3=>(bif ab3 then (some (Out.ret (false))) else (bif (Ph.2) != ((0:Int)) then ((eW G0)>>=fun ab4=>(some (Out.ret ((!(ab4)))))) else ((dB G0.aH G3.1)>>=fun Vs=>((fR G0)>>=fun Vt=>(bif (Vs.2) == ((0:Int)) then (bif Vs.1 then (bif (Vt.2) == ((0:Int)) then ((iR ((G3.1.length:Int)))>>=fun ab5=>((bY G3.1 ab5)>>=fun ab6=>(some (Out.ret (((Vt.1) == (ab6))))))) else (some (Out.ret (false)))) else (some (Out.ret (false)))) else (some (Out.ret (false))))))))))))))))))))))) else ((cM x0)>>=fun wy=>((cB wy)>>=fun yV=>((cI wy)>>=fun tB=>(((bif (yV.2) != (tB.2) then (some (true)) else ((bY yV.1 tB.1)>>=fun yN=>(some (!(yN))))))>>=fun Kf=>(bif Kf then (some (Out.ret (false))) else (bif (yV.2) != ((0:Int)) then ((eW wy)>>=fun Kg=>(some (Out.ret ((!(Kg)))))) else ((dB wy.aH tB.1)>>=fun Db=>((fR wy)>>=fun Dc=>(bif (Db.2) == ((0:Int)) then (bif Db.1 then (bif (Dc.2) == ((0:Int)) then ((iR ((tB.1.length:Int)))>>=fun Kh=>((bY tB.1 Kh)>>=fun Ki=>(some (Out.ret (((Dc.1) == (Ki))))))) else (some (Out.ret (false)))) else (some (Out.ret (false)))) else (some (Out.ret (false))))))))))))))))))))
structure cC where
 aH:aO
 aL:aO
 ny:(List Int)
end
end Go.Proofs.YtbhhmalgcnhniaaGreat
