/- Models, printed by a program: what each function computes, on plain data. No condition. -/
import Derived.Test.YtgjbmjjihmfppaaGreatLj
import Derived.Test.YtgjbmjjihmfppaaGreatLn
import Derived.Test.YtgjbmjjihmfppaaGreatLq
namespace Go.Proofs.YtgjbmjjihmfppaaGreat
open Go Go.Li
set_option linter.unusedVariables false
noncomputable section
structure aK where
 Code:(List Int)
 At:Int
 aq:Int
structure aG where
 aA:Int
 aD:(List Int)
 To:(List Int)
 aH:(List Int)
 aB:(List (List Int))
structure bQ where
 aD:Int
 To:Int
 mh:(List Int)
structure aI where
 aC:aG
 aE:aG
 aA:(List Int)
 ab:(List Int)
structure sK where
 aD:Int
 To:Int
structure bG where
 dy:Int
 br:(List Int)
structure dZ where
 D:aI
 bh:aI
 F:aI
 wR:(List bG)
 xi:(List bG)
structure cN where
 F:aI
 G:aI
 zV:Bool
 xj:Int
 Found:(List (List Int))
def rY (x0:(List Int)):Option (Bool):=
 ak (S:=Unit) (some (Out.ret ((decide ((x0.length:Int) > (4096:Int))))))
def oW (x0:(List Int)) (cb:Int) (CI:Int):Option (Out (Int×Int) ((Option aK))):=
 (((bif decide (cb < (x0.length:Int)) then (some (decide (cb < (4096:Int)))) else (some (false))))>>=fun g14=>(bif g14 then ((vI .mul .u64 (CI) ((1099511628211:Int)))>>=fun z20=>((idx x0 (cb))>>=fun Cb=>((vI .add .u64 (z20) (IntKind.u64.wrap Cb))>>=fun z23=>((vI .add .u64 (z23) ((7:Int)))>>=fun z24=>(some (Out.norm (aj (cb+(1:Int)),z24))))))) else (some (Out.exit 0 (cb,CI)))))
def oX (x0:(List Int)):Option ((Option aK)):=
 ak (S:=Unit) ((vI .add .u64 ((7019:Int)) (IntKind.u64.wrap ((x0.length:Int))))>>=fun z3=>(ah (ae 0 (ai (fun s=>oW x0 s.1 s.2) ((0:Int),z3))) (fun (cb,CI)=>(some (Out.ret ((some (aK.mk x0 ((0:Int)) CI))))))))
def bX (x0:aK) (x1:Int):Option (Int×aK):=
 ak (S:=Unit) (bif decide (x1 < (1:Int)) then (some (Out.ret ((((0:Int)),x0)))) else ((vI .mul .u64 (x0.aq) ((6364136223846793005:Int)))>>=fun z9=>((vI .add .u64 (z9) ((1442695040888963407:Int)))>>=fun WD=>((vI .shr .u64 (WD) ((33:Int)))>>=fun WE=>((vI .and .u64 (WE) ((16777215:Int)))>>=fun z16=>(bif decide (x0.At < (x0.Code.length:Int)) then ((idx x0.Code (x0.At))>>=fun Iw=>((vI .rem .i64 (aj (IntKind.i64.wrap z16+IntKind.i64.wrap Iw)) (x1))>>=fun z30=>(some (Out.ret ((z30,(aK.mk x0.Code (aj (x0.At+(1:Int))) WD))))))) else ((vI .rem .i64 (IntKind.i64.wrap z16) (x1))>>=fun z33=>(some (Out.ret ((z33,(aK.mk x0.Code x0.At WD))))))))))))
def lX (x0:aK) (x1:Int) (dv:Int) (zb:Int) (zd:Int) (Cc:(List Int)):Option (Out (Int×Int×Int×(List Int)) ((List (List Int))×aK)):=
 (bif decide (dv < x1) then ((bX (aK.mk x0.Code zb zd) ((2:Int)))>>=fun N8=>((idx Cc (dv))>>=fun SE=>(some (Out.norm (aj (dv+(1:Int)),N8.2.At,N8.2.aq,Cc.set (dv).toNat (N8.1)))))) else (some (Out.exit 2 (dv,zb,zd,Cc))))
def lY (x0:aK) (x1:Int) (ba:(List (List Int))) (gn:Int) (j9:Int) (ke:Int):Option (Out ((List (List Int))×Int×Int×Int) ((List (List Int))×aK)):=
 (bif decide (gn < x1) then ((mk 8 (x1))>>=fun n21=>((idx (List.replicate n21 (0:Int)) (gn))>>=fun Iy=>(ah (ae 2 (ai (fun s=>lX x0 x1 s.1 s.2.1 s.2.2.1 s.2.2.2) (aj (gn+(1:Int)),j9,ke,(List.replicate n21 (0:Int)).set (gn).toNat ((1:Int))))) (fun (dv,zb,zd,Cc)=>((fits 24 (ba.length+1))>>=fun n78=>(some (Out.norm (ba++[Cc],aj (gn+(1:Int)),zb,zd)))))))) else (some (Out.exit 0 (ba,gn,j9,ke))))
def pW (x1:Int) (dq:Int) (ic:Int) (r7:Int) (uR:(List (List Int))):Option (Out (Int×(List (List Int))) ((List (List Int))×aK)):=
 (bif decide (r7 < x1) then ((((idx uR (ic))>>=fun aca=>((idx aca (dq))>>=fun Qd=>(bif (Qd) == ((1:Int)) then ((idx uR (dq))>>=fun acb=>((idx acb (r7))>>=fun acd=>(some ((acd) == ((1:Int)))))) else (some (false))))))>>=fun ace=>(bif ace then ((idx uR (ic))>>=fun WG=>((idx WG (r7))>>=fun aol=>(some (Out.norm (aj (r7+(1:Int)),uR.set (ic).toNat (WG.set (r7).toNat ((1:Int)))))))) else (some (Out.norm (aj (r7+(1:Int)),uR))))) else (some (Out.exit 8 (r7,uR))))
def pX (x1:Int) (dq:Int) (ic:Int) (CJ:(List (List Int))):Option (Out (Int×(List (List Int))) ((List (List Int))×aK)):=
 (bif decide (ic < x1) then (ah (ae 8 (ai (fun s=>pW x1 dq ic s.1 s.2) ((0:Int),CJ))) (fun (r7,uR)=>(some (Out.norm (aj (ic+(1:Int)),uR))))) else (some (Out.exit 6 (ic,CJ))))
def pY (x1:Int) (dq:Int) (CK:(List (List Int))):Option (Out (Int×(List (List Int))) ((List (List Int))×aK)):=
 (bif decide (dq < x1) then (ah (ae 6 (ai (fun s=>pX x1 dq s.1 s.2) ((0:Int),CK))) (fun (ic,CJ)=>(some (Out.norm (aj (dq+(1:Int)),CJ))))) else (some (Out.exit 4 (dq,CK))))
def pZ (x1:Int) (zD:Int) (xH:Int) (ze:Int) (wS:(List (List Int))):Option (Out (Int×(List (List Int))) ((List (List Int))×aK)):=
 (bif decide (ze < x1) then ((((idx wS (xH))>>=fun acf=>((idx acf (zD))>>=fun acg=>(bif (acg) == ((1:Int)) then ((idx wS (zD))>>=fun ach=>((idx ach (ze))>>=fun aci=>(some ((aci) == ((1:Int)))))) else (some (false))))))>>=fun acj=>(bif acj then ((idx wS (xH))>>=fun WH=>((idx WH (ze))>>=fun aom=>(some (Out.norm (aj (ze+(1:Int)),wS.set (xH).toNat (WH.set (ze).toNat ((1:Int)))))))) else (some (Out.norm (aj (ze+(1:Int)),wS))))) else (some (Out.exit 8 (ze,wS))))
def qA (x1:Int) (zD:Int) (xH:Int) (Er:(List (List Int))):Option (Out (Int×(List (List Int))) ((List (List Int))×aK)):=
 (bif decide (xH < x1) then (ah (ae 8 (ai (fun s=>pZ x1 zD xH s.1 s.2) ((0:Int),Er))) (fun (ze,wS)=>(some (Out.norm (aj (xH+(1:Int)),wS))))) else (some (Out.exit 6 (xH,Er))))
def qB (x1:Int) (zD:Int) (Es:(List (List Int))):Option (Out (Int×(List (List Int))) ((List (List Int))×aK)):=
 (bif decide (zD < x1) then (ah (ae 6 (ai (fun s=>qA x1 zD s.1 s.2) ((0:Int),Es))) (fun (xH,Er)=>(some (Out.norm (aj (zD+(1:Int)),Er))))) else (some (Out.exit 4 (zD,Es))))
def oY (x1:Int) (zE:Int) (xI:Int) (wT:Int) (uS:(List (List Int))):Option (Out (Int×(List (List Int))) ((List (List Int))×aK)):=
 (bif decide (wT < x1) then ((((idx uS (xI))>>=fun ack=>((idx ack (zE))>>=fun yi=>(bif (yi) == ((1:Int)) then ((idx uS (zE))>>=fun Qe=>((idx Qe (wT))>>=fun Qf=>(some ((Qf) == ((1:Int)))))) else (some (false))))))>>=fun acm=>(bif acm then ((idx uS (xI))>>=fun WI=>((idx WI (wT))>>=fun aon=>(some (Out.norm (aj (wT+(1:Int)),uS.set (xI).toNat (WI.set (wT).toNat ((1:Int)))))))) else (some (Out.norm (aj (wT+(1:Int)),uS))))) else (some (Out.exit 8 (wT,uS))))
def qC (x1:Int) (zE:Int) (xI:Int) (Et:(List (List Int))):Option (Out (Int×(List (List Int))) ((List (List Int))×aK)):=
 (bif decide (xI < x1) then (ah (ae 8 (ai (fun s=>oY x1 zE xI s.1 s.2) ((0:Int),Et))) (fun (wT,uS)=>(some (Out.norm (aj (xI+(1:Int)),uS))))) else (some (Out.exit 6 (xI,Et))))
def qD (x1:Int) (zE:Int) (Eu:(List (List Int))):Option (Out (Int×(List (List Int))) ((List (List Int))×aK)):=
 (bif decide (zE < x1) then (ah (ae 6 (ai (fun s=>qC x1 zE s.1 s.2) ((0:Int),Eu))) (fun (xI,Et)=>(some (Out.norm (aj (zE+(1:Int)),Et))))) else (some (Out.exit 4 (zE,Eu))))
def jC (x0:aK) (x1:Int):Option ((List (List Int))×aK):=
 ak (S:=Unit) (ah (ae 0 (ai (fun s=>lY x0 x1 s.1 s.2.1 s.2.2.1 s.2.2.2) (([]:(List (List Int))),(0:Int),x0.At,x0.aq))) (fun (ba,gn,j9,ke)=>(bif decide (x1 > (1:Int)) then ((bX (aK.mk x0.Code j9 ke) ((4:Int)))>>=fun N9=>(bif (N9.1) == ((0:Int)) then ((idx ba (aj (x1 - (1:Int))))>>=fun SF=>((bX (aK.mk x0.Code N9.2.At N9.2.aq) (x1))>>=fun vZ=>((idx SF (vZ.1))>>=fun xk=>(ah (ae 4 (ai (fun s=>pY x1 s.1 s.2) ((0:Int),ba.set (aj (x1 - (1:Int))).toNat (SF.set (vZ.1).toNat ((1:Int)))))) (fun (dq,CK)=>(some (Out.ret ((CK,(aK.mk x0.Code vZ.2.At vZ.2.aq)))))))))) else (ah (ae 4 (ai (fun s=>qB x1 s.1 s.2) ((0:Int),ba))) (fun (zD,Es)=>(some (Out.ret ((Es,(aK.mk x0.Code N9.2.At N9.2.aq))))))))) else (ah (ae 4 (ai (fun s=>qD x1 s.1 s.2) ((0:Int),ba))) (fun (zE,Eu)=>(some (Out.ret ((Eu,(aK.mk x0.Code j9 ke))))))))))
def oA (x0:(List (List Int))) (gn:Int) (mi:(List Int)) (dv:Int) (tI:(List Int)) (v7:(List Int)):Option (Out ((List Int)×Int×(List Int)×(List Int)) (aG)):=
 (bif decide (dv < (x0.length:Int)) then ((fits 8 (mi.length+1))>>=fun n185=>((idx x0 (gn))>>=fun acn=>((idx acn (dv))>>=fun aco=>(bif (aco) == ((1:Int)) then ((fits 8 (tI.length+1))>>=fun n229=>((fits 8 (v7.length+1))>>=fun n265=>(some (Out.norm (mi++[(tI.length:Int)],aj (dv+(1:Int)),tI++[gn],v7++[dv]))))) else (some (Out.norm (mi++[(tI.length:Int)],aj (dv+(1:Int)),tI,v7))))))) else (some (Out.exit 2 (mi,dv,tI,v7))))
def oB (x0:(List (List Int))) (cb:(List (List Int))) (gn:Int) (oq:(List Int)) (ru:(List Int)):Option (Out ((List (List Int))×Int×(List Int)×(List Int)) (aG)):=
 (bif decide (gn < (x0.length:Int)) then (ah (ae 2 (ai (fun s=>oA x0 gn s.1 s.2.1 s.2.2.1 s.2.2.2) (([]:(List Int)),(0:Int),oq,ru))) (fun (mi,dv,tI,v7)=>((fits 24 (cb.length+1))>>=fun n306=>(some (Out.norm (cb++[mi],aj (gn+(1:Int)),tI,v7)))))) else (some (Out.exit 0 (cb,gn,oq,ru))))
def oC (x0:(List (List Int))) (cb:(List (List Int))) (dq:Int) (yj:(List Int)):Option (Out (Int×(List Int)) (aG)):=
 (bif decide (dq < (x0.length:Int)) then ((idx cb (dq))>>=fun acp=>((idx acp (dq))>>=fun WJ=>((fits 8 (yj.length+1))>>=fun aoo=>(some (Out.norm (aj (dq+(1:Int)),yj++[WJ])))))) else (some (Out.exit 4 (dq,yj))))
def oD (cb:(List (List Int))) (oq:(List Int)) (ru:(List Int)) (ic:Int) (r7:(List Int)) (qd:Int):Option (Out ((List Int)×Int) (aG)):=
 (bif decide (qd < (oq.length:Int)) then ((idx ru (ic))>>=fun acq=>((idx oq (qd))>>=fun acr=>(bif (acq) == (acr) then ((idx oq (ic))>>=fun acs=>((idx cb (acs))>>=fun acu=>((idx ru (qd))>>=fun acv=>((idx acu (acv))>>=fun acw=>((fits 8 (r7.length+1))>>=fun aoq=>(some (Out.norm (r7++[acw],aj (qd+(1:Int)))))))))) else ((fits 8 (r7.length+1))>>=fun aor=>(some (Out.norm (r7++[(-1:Int)],aj (qd+(1:Int))))))))) else (some (Out.exit 8 (r7,qd))))
def oE (cb:(List (List Int))) (oq:(List Int)) (ru:(List Int)) (ic:Int) (yk:(List (List Int))):Option (Out (Int×(List (List Int))) (aG)):=
 (bif decide (ic < (oq.length:Int)) then (ah (ae 8 (ai (fun s=>oD cb oq ru ic s.1 s.2) (([]:(List Int)),(0:Int)))) (fun (r7,qd)=>((fits 24 (yk.length+1))>>=fun aos=>(some (Out.norm (aj (ic+(1:Int)),yk++[r7])))))) else (some (Out.exit 6 (ic,yk))))
def dI (x0:(List (List Int))):Option (aG):=
 ak (S:=Unit) (ah (ae 0 (ai (fun s=>oB x0 s.1 s.2.1 s.2.2.1 s.2.2.2) (([]:(List (List Int))),(0:Int),([]:(List Int)),([]:(List Int))))) (fun (cb,gn,oq,ru)=>(ah (ae 4 (ai (fun s=>oC x0 cb s.1 s.2) ((0:Int),([]:(List Int))))) (fun (dq,yj)=>(ah (ae 6 (ai (fun s=>oE cb oq ru s.1 s.2) ((0:Int),([]:(List (List Int)))))) (fun (ic,yk)=>(some (Out.ret ((aG.mk ((x0.length:Int)) oq ru yj yk))))))))))
def dU (x0:(List Int)):Option ((List Int)):=
 ak (S:=Unit) ((fits 8 ((([]:(List Int))).length+x0.length))>>=fun n15=>(some (Out.ret ((([]:(List Int))++x0)))))
def eN (x0:(List Int)) (x1:(List Int)) (ba:Int):Option (Out (Int) (Bool)):=
 (((bif decide (ba < (x0.length:Int)) then (some (decide (ba < (x1.length:Int)))) else (some (false))))>>=fun g6=>(bif g6 then ((idx x0 (ba))>>=fun Oa=>((idx x1 (ba))>>=fun uT=>(bif (Oa) != (uT) then ((idx x0 (ba))>>=fun WK=>((idx x1 (ba))>>=fun Cb=>(some (Out.ret ((decide (WK < Cb))))))) else (some (Out.norm (aj (ba+(1:Int)))))))) else (some (Out.exit 0 (ba)))))
def mH (x0:(List Int)) (x1:(List Int)):Option (Bool):=
 ak (S:=Unit) (ah (ae 0 (ai (eN x0 x1) ((0:Int)))) (fun ba=>(some (Out.ret ((decide ((x0.length:Int) < (x1.length:Int))))))))
def iY (x0:bQ) (x1:bQ):Option (Bool):=
 ak (S:=Unit) (bif (x0.aD) != (x1.aD) then (some (Out.ret ((decide (x0.aD < x1.aD))))) else (bif (x0.To) != (x1.To) then (some (Out.ret ((decide (x0.To < x1.To))))) else ((mH x0.mh x1.mh)>>=fun zW=>(some (Out.ret (zW))))))
def kP (x0:Int) (s0:(List bQ)) (s1:Int):Option (Out ((List bQ)×Int) ((List bQ))):=
 (bif decide (s1 < x0) then ((fits 40 (s0.length+1))>>=fun n26=>(some (Out.norm (s0++[bQ.mk s1 s1 []],aj (s1+(1:Int)))))) else (some (Out.exit 0 (s0,s1))))
def iZ (x1:(List Int)) (x2:(List Int)) (s1:Int) (s0:(List bQ)) (s2:Int):Option (Out ((List bQ)×Int) ((List bQ))):=
 (bif decide (s2 < (x1.length:Int)) then ((idx x1 (s2))>>=fun Ev=>((idx s0 (s1))>>=fun Ob=>(bif (Ev) == (Ob.To) then ((idx s0 (s1))>>=fun WM=>((idx x2 (s2))>>=fun BE=>((idx s0 (s1))>>=fun WN=>((dU WN.mh)>>=fun Iz=>((fits 8 (Iz.length+1))>>=fun n72=>((fits 40 (s0.length+1))>>=fun n75=>(some (Out.norm (s0++[bQ.mk WM.aD BE (Iz++[s2])],aj (s2+(1:Int))))))))))) else (some (Out.norm (s0,aj (s2+(1:Int)))))))) else (some (Out.exit 4 (s0,s2))))
def kQ (x1:(List Int)) (x2:(List Int)) (s0:(List bQ)) (s1:Int):Option (Out ((List bQ)×Int) ((List bQ))):=
 (((bif decide (s1 < (s0.length:Int)) then (some (decide ((s0.length:Int)≤(40:Int)))) else (some (false))))>>=fun WO=>(bif WO then (ah (ae 4 (ai (fun s=>iZ x1 x2 s1 s.1 s.2) (s0,(0:Int)))) (fun (s0,s2)=>(some (Out.norm (s0,aj (s1+(1:Int))))))) else (some (Out.exit 2 (s0,s1)))))
def kR (s0:(List bQ)) (s1:Int):Option (Out ((List bQ)×Int) ((List bQ))):=
 (((bif decide ((0:Int) < s1) then ((idx s0 (s1))>>=fun BF=>((idx s0 (aj (s1 - (1:Int))))>>=fun Ew=>((iY BF Ew)>>=fun IB=>(some (IB))))) else (some (false))))>>=fun WQ=>(bif WQ then ((idx s0 (s1))>>=fun Qh=>((idx s0 (aj (s1 - (1:Int))))>>=fun xk=>((idx s0 (s1))>>=fun IC=>((idx (s0.set (s1).toNat xk) (aj (s1 - (1:Int))))>>=fun Qi=>(some (Out.norm ((s0.set (s1).toNat xk).set (aj (s1 - (1:Int))).toNat Qh,aj (s1 - (1:Int))))))))) else (some (Out.exit 8 (s0,s1)))))
def kS (s0:(List bQ)) (s1:Int):Option (Out ((List bQ)×Int) ((List bQ))):=
 (bif decide (s1 < (s0.length:Int)) then (ah (ae 8 (ai (fun s=>kR s.1 s.2) (s0,s1))) (fun (s0,s2)=>(some (Out.norm (s0,aj (s1+(1:Int))))))) else (some (Out.exit 6 (s0,s1))))
def lV (x0:Int) (x1:(List Int)) (x2:(List Int)):Option ((List bQ)):=
 ak (S:=Unit) (ah (ae 0 (ai (fun s=>kP x0 s.1 s.2) (([]:(List bQ)),(0:Int)))) (fun (s0,s1)=>(ah (ae 2 (ai (fun s=>kQ x1 x2 s.1 s.2) (s0,(0:Int)))) (fun (s0,s1)=>(ah (ae 6 (ai (fun s=>kS s.1 s.2) (s0,(1:Int)))) (fun (s0,s1)=>(some (Out.ret (s0)))))))))
def eI (x0:aG):Option (Bool):=
 ak (S:=Unit) (((bif decide (x0.aA≤(8:Int)) then (some (decide ((x0.aD.length:Int)≤(40:Int)))) else (some (false))))>>=fun g8=>(some (Out.ret (g8))))
def lZ (x0:(List Int)) (x1:(List Int)) (ba:Int):Option (Out (Int) (Bool)):=
 (bif decide (ba < (x0.length:Int)) then ((idx x0 (ba))>>=fun uT=>((idx x1 (ba))>>=fun Ey=>(bif (uT) != (Ey) then (some (Out.ret (false))) else (some (Out.norm (aj (ba+(1:Int)))))))) else (some (Out.exit 0 (ba))))
def eS (x0:(List Int)) (x1:(List Int)):Option (Bool):=
 ak (S:=Unit) (bif ((x0.length:Int)) != ((x1.length:Int)) then (some (Out.ret (false))) else (ah (ae 0 (ai (lZ x0 x1) ((0:Int)))) (fun ba=>(some (Out.ret (true))))))
def jD (y8:(List bQ)) (gp:Int) (kh:(List Int)) (kj:(List Int)) (nv:(List Int)):Option (Out (Int×(List Int)×(List Int)×(List Int)) (aG)):=
 (bif decide (gp < (y8.length:Int)) then ((idx y8 (gp))>>=fun DF=>((fits 8 (kh.length+1))>>=fun n134=>((idx y8 (gp))>>=fun ID=>((fits 8 (kj.length+1))>>=fun n173=>((idx y8 (gp))>>=fun Qj=>(bif ((Qj.mh.length:Int)) == ((0:Int)) then ((idx y8 (gp))>>=fun IE=>((idx nv (IE.aD))>>=fun acx=>(some (Out.norm (aj (gp+(1:Int)),kh++[DF.aD],kj++[ID.To],nv.set (IE.aD).toNat (gp)))))) else (some (Out.norm (aj (gp+(1:Int)),kh++[DF.aD],kj++[ID.To],nv))))))))) else (some (Out.exit 0 (gp,kh,kj,nv))))
def jE (y8:(List bQ)) (jb:Int) (v8:(List Int)) (yi:bQ) (xJ:Int) (q9:Int):Option (Out (Int×Int) (aG)):=
 (bif decide (q9 < (y8.length:Int)) then ((((idx y8 (q9))>>=fun Qk=>((idx y8 (jb))>>=fun Ql=>(bif (Qk.aD) == (Ql.aD) then ((idx y8 (q9))>>=fun Qm=>((eS Qm.mh (v8++yi.mh))>>=fun Qn=>(some (Qn)))) else (some (false))))))>>=fun Qo=>(bif Qo then (some (Out.norm (q9,aj (q9+(1:Int))))) else (some (Out.norm (xJ,aj (q9+(1:Int))))))) else (some (Out.exit 6 (xJ,q9))))
def jF (y8:(List bQ)) (jb:Int) (n8:(List Int)) (sw:Int):Option (Out ((List Int)×Int) (aG)):=
 (bif decide (sw < (y8.length:Int)) then ((idx y8 (jb))>>=fun Qp=>((idx y8 (sw))>>=fun Qq=>(bif (Qp.To) == (Qq.aD) then ((idx y8 (jb))>>=fun Qr=>((dU Qr.mh)>>=fun v8=>((idx y8 (sw))>>=fun yi=>((fits 8 (v8.length+yi.mh.length))>>=fun acy=>(ah (ae 6 (ai (fun s=>jE y8 jb v8 yi s.1 s.2) ((-1:Int),(0:Int)))) (fun (xJ,q9)=>((fits 8 (n8.length+1))>>=fun acz=>(some (Out.norm (n8++[xJ],aj (sw+(1:Int)))))))))))) else ((fits 8 (n8.length+1))>>=fun acA=>(some (Out.norm (n8++[(-1:Int)],aj (sw+(1:Int))))))))) else (some (Out.exit 4 (n8,sw))))
def gJ (y8:(List bQ)) (jb:Int) (p7:(List (List Int))):Option (Out (Int×(List (List Int))) (aG)):=
 (bif decide (jb < (y8.length:Int)) then (ah (ae 4 (ai (fun s=>jF y8 jb s.1 s.2) (([]:(List Int)),(0:Int)))) (fun (n8,sw)=>((fits 24 (p7.length+1))>>=fun acB=>(some (Out.norm (aj (jb+(1:Int)),p7++[n8])))))) else (some (Out.exit 2 (jb,p7))))
def eL (x0:Int) (x1:(List Int)) (x2:(List Int)):Option (aG):=
 ak (S:=Unit) ((lV (x0) x1 x2)>>=fun y8=>((mk 8 (x0))>>=fun n36=>(ah (ae 0 (ai (fun s=>jD y8 s.1 s.2.1 s.2.2.1 s.2.2.2) ((0:Int),([]:(List Int)),([]:(List Int)),List.replicate n36 (0:Int)))) (fun (gp,kh,kj,nv)=>((eI (aG.mk x0 kh kj nv (([]:(List (List Int))))))>>=fun Qs=>(bif !(Qs) then (some (Out.ret ((aG.mk x0 kh kj nv (([]:(List (List Int)))))))) else (ah (ae 2 (ai (fun s=>gJ y8 s.1 s.2) ((0:Int),([]:(List (List Int)))))) (fun (jb,p7)=>(some (Out.ret ((aG.mk x0 kh kj nv p7))))))))))))
def gK (x0:aK):Option ((List (List Int))×aK):=
 ak (S:=Unit) ((bX x0 ((8:Int)))>>=fun y5=>(bif (y5.1) == ((0:Int)) then (some (Out.ret (((([[(0:Int)]]:(List (List Int)))),(aK.mk x0.Code y5.2.At y5.2.aq))))) else (bif (y5.1) == ((1:Int)) then (some (Out.ret (((([[(0:Int),(1:Int)],[(1:Int),(0:Int)]]:(List (List Int)))),(aK.mk x0.Code y5.2.At y5.2.aq))))) else (bif (y5.1) == ((2:Int)) then (some (Out.ret (((([[(0:Int),(1:Int)],[(1:Int),(1:Int)]]:(List (List Int)))),(aK.mk x0.Code y5.2.At y5.2.aq))))) else (bif (y5.1) == ((3:Int)) then (some (Out.ret (((([[(0:Int),(1:Int),(2:Int)],[(1:Int),(2:Int),(0:Int)],[(2:Int),(0:Int),(1:Int)]]:(List (List Int)))),(aK.mk x0.Code y5.2.At y5.2.aq))))) else (bif (y5.1) == ((4:Int)) then (some (Out.ret (((([[(0:Int),(1:Int),(2:Int)],[(1:Int),(1:Int),(2:Int)],[(2:Int),(2:Int),(2:Int)]]:(List (List Int)))),(aK.mk x0.Code y5.2.At y5.2.aq))))) else (bif (y5.1) == ((5:Int)) then (some (Out.ret (((([[(0:Int),(1:Int),(2:Int)],[(1:Int),(1:Int),(2:Int)],[(2:Int),(1:Int),(2:Int)]]:(List (List Int)))),(aK.mk x0.Code y5.2.At y5.2.aq))))) else (bif (y5.1) == ((6:Int)) then (some (Out.ret (((([[(0:Int),(1:Int),(2:Int),(3:Int)],[(1:Int),(0:Int),(2:Int),(3:Int)],[(2:Int),(3:Int),(2:Int),(3:Int)],[(3:Int),(2:Int),(2:Int),(3:Int)]]:(List (List Int)))),(aK.mk x0.Code y5.2.At y5.2.aq))))) else (some (Out.ret (((([[(0:Int),(1:Int),(2:Int)],[(1:Int),(2:Int),(2:Int)],[(2:Int),(2:Int),(2:Int)]]:(List (List Int)))),(aK.mk x0.Code y5.2.At y5.2.aq)))))))))))))
def jT (x0:(List (List Int))) (ie:(List (List Int))) (cb:Int):Option (Out ((List (List Int))×Int) ((List (List Int)))):=
 (bif decide (cb < (x0.length:Int)) then ((idx x0 (cb))>>=fun zf=>((dU zf)>>=fun jg=>((fits 24 (ie.length+1))>>=fun n49=>(some (Out.norm (ie++[jg],aj (cb+(1:Int)))))))) else (some (Out.exit 0 (ie,cb))))
def mI (x0:(List (List Int))):Option ((List (List Int))):=
 ak (S:=Unit) (ah (ae 0 (ai (fun s=>jT x0 s.1 s.2) (([]:(List (List Int))),(0:Int)))) (fun (ie,cb)=>(some (Out.ret (ie)))))
def gL (x0:(List (List Int))):Option (aG):=
 ak (S:=Unit) ((mk 8 ((x0.length:Int)))>>=fun n10=>((mk 8 ((x0.length:Int)))>>=fun n19=>((mI x0)>>=fun BG=>(some (Out.ret ((aG.mk ((1:Int)) (List.replicate n10 (0:Int)) (List.replicate n19 (0:Int)) ([(0:Int)]) BG)))))))
def lP:Option (aG):=
 ak (S:=Unit) (some (Out.ret ((aG.mk ((2:Int)) (([(0:Int),(1:Int),(0:Int),(0:Int),(1:Int)]:(List Int))) (([(0:Int),(1:Int),(0:Int),(1:Int),(0:Int)]:(List Int))) (([(0:Int),(1:Int)]:(List Int))) (([[(0:Int),(-1:Int),(2:Int),(3:Int),(-1:Int)],[(-1:Int),(1:Int),(-1:Int),(-1:Int),(4:Int)],[(2:Int),(-1:Int),(2:Int),(3:Int),(-1:Int)],[(-1:Int),(3:Int),(-1:Int),(-1:Int),(2:Int)],[(4:Int),(-1:Int),(4:Int),(1:Int),(-1:Int)]]:(List (List Int))))))))
def kD (x0:aG):Option (aG):=
 ak (S:=Unit) ((dU x0.aD)>>=fun lh=>((dU x0.To)>>=fun zW=>((dU x0.aH)>>=fun Oc=>((mI x0.aB)>>=fun WR=>(some (Out.ret ((aG.mk x0.aA lh zW Oc WR))))))))
def gM (x0:aG) (x1:aG) (je:Int) (ym:(List Int)):Option (Out (Int×(List Int)) (aG)):=
 (bif decide (je < x1.aA) then ((idx x1.aH (je))>>=fun Qt=>((fits 8 (ym.length+1))>>=fun n136=>(some (Out.norm (aj (je+(1:Int)),ym++[aj (Qt+(x0.aD.length:Int))]))))) else (some (Out.exit 0 (je,ym))))
def gN (x1:aG) (uz:Int) (eh:Int) (zX:(List (List Int))):Option (Out (Int×(List (List Int))) (aG)):=
 (bif decide (eh < (x1.aD.length:Int)) then ((idx zX (uz))>>=fun WS=>((fits 8 (WS.length+1))>>=fun n233=>((idx zX (uz))>>=fun aot=>(some (Out.norm (aj (eh+(1:Int)),zX.set (uz).toNat (WS++[(-1:Int)]))))))) else (some (Out.exit 4 (eh,zX))))
def gO (x1:aG) (uz:Int) (Cd:(List (List Int))):Option (Out (Int×(List (List Int))) (aG)):=
 (bif decide (uz < (Cd.length:Int)) then (ah (ae 4 (ai (fun s=>gN x1 uz s.1 s.2) ((0:Int),Cd))) (fun (eh,zX)=>(some (Out.norm (aj (uz+(1:Int)),zX))))) else (some (Out.exit 2 (uz,Cd))))
def gP (x0:aG) (qd:(List Int)) (tR:Int):Option (Out ((List Int)×Int) (aG)):=
 (bif decide (tR < (x0.aD.length:Int)) then ((fits 8 (qd.length+1))>>=fun aou=>(some (Out.norm (qd++[(-1:Int)],aj (tR+(1:Int)))))) else (some (Out.exit 8 (qd,tR))))
def gQ (x0:aG) (x1:aG) (jc:Int) (sx:(List Int)) (tn:Int):Option (Out ((List Int)×Int) (aG)):=
 (bif decide (tn < (x1.aD.length:Int)) then ((idx x1.aB (jc))>>=fun acC=>((idx acC (tn))>>=fun Qu=>(bif decide (Qu ≥ (0:Int)) then ((fits 8 (sx.length+1))>>=fun aov=>(some (Out.norm (sx++[aj (Qu+(x0.aD.length:Int))],aj (tn+(1:Int)))))) else ((fits 8 (sx.length+1))>>=fun aow=>(some (Out.norm (sx++[Qu],aj (tn+(1:Int))))))))) else (some (Out.exit 10 (sx,tn))))
def gR (x0:aG) (x1:aG) (jc:Int) (yn:(List Int)) (yo:(List Int)) (yp:(List (List Int))):Option (Out (Int×(List Int)×(List Int)×(List (List Int))) (aG)):=
 (bif decide (jc < (x1.aD.length:Int)) then ((idx x1.aD (jc))>>=fun acD=>((fits 8 (yn.length+1))>>=fun n314=>((idx x1.To (jc))>>=fun Qe=>((fits 8 (yo.length+1))>>=fun aox=>(ah (ae 8 (ai (fun s=>gP x0 s.1 s.2) (([]:(List Int)),(0:Int)))) (fun (qd,tR)=>(ah (ae 10 (ai (fun s=>gQ x0 x1 jc s.1 s.2) (qd,(0:Int)))) (fun (sx,tn)=>((fits 24 (yp.length+1))>>=fun aoy=>(some (Out.norm (aj (jc+(1:Int)),yn++[aj (acD+x0.aA)],yo++[aj (Qe+x0.aA)],yp++[sx])))))))))))) else (some (Out.exit 6 (jc,yn,yo,yp))))
def iV (x0:aG) (x1:aG):Option (aG):=
 ak (S:=Unit) ((kD x0)>>=fun tu=>(ah (ae 0 (ai (fun s=>gM x0 x1 s.1 s.2) ((0:Int),tu.aH))) (fun (je,ym)=>(ah (ae 2 (ai (fun s=>gO x1 s.1 s.2) ((0:Int),tu.aB))) (fun (uz,Cd)=>(ah (ae 6 (ai (fun s=>gR x0 x1 s.1 s.2.1 s.2.2.1 s.2.2.2) ((0:Int),tu.aD,tu.To,Cd))) (fun (jc,yn,yo,yp)=>(some (Out.ret ((aG.mk (aj (x0.aA+x1.aA)) yn yo ym yp)))))))))))
def fQ (x0:aG) (x1:aG) (bw:Int) (dv:Int) (yq:(List Int)) (yr:(List Int)):Option (Out (Int×(List Int)×(List Int)) (aG)):=
 (bif decide (dv < x1.aA) then ((fits 8 (yq.length+1))>>=fun n181=>((fits 8 (yr.length+1))>>=fun n217=>(some (Out.norm (aj (dv+(1:Int)),yq++[bw],yr++[aj (x0.aA+dv)]))))) else (some (Out.exit 2 (dv,yq,yr))))
def fR (x0:aG) (x1:aG) (bw:Int) (ot:(List Int)) (rv:(List Int)):Option (Out (Int×(List Int)×(List Int)) (aG)):=
 (bif decide (bw < x0.aA) then (ah (ae 2 (ai (fun s=>fQ x0 x1 bw s.1 s.2.1 s.2.2) ((0:Int),ot,rv))) (fun (dv,yq,yr)=>(some (Out.norm (aj (bw+(1:Int)),yq,yr))))) else (some (Out.exit 0 (bw,ot,rv))))
def fS (x0:aG) (x1:aG) (jg:aG) (ot:(List Int)) (rv:(List Int)) (eh:Int) (jc:(List Int)) (wy:Int):Option (Out ((List Int)×Int) (aG)):=
 (bif decide (wy < (ot.length:Int)) then ((idx rv (eh))>>=fun acE=>((idx ot (wy))>>=fun acF=>(bif (acE) != (acF) then ((fits 8 (jc.length+1))>>=fun aoz=>(some (Out.norm (jc++[(-1:Int)],aj (wy+(1:Int)))))) else (((bif decide (eh < (jg.aD.length:Int)) then (some (decide (wy < (jg.aD.length:Int)))) else (some (false))))>>=fun acG=>(bif acG then ((idx jg.aB (eh))>>=fun acH=>((idx acH (wy))>>=fun acI=>((fits 8 (jc.length+1))>>=fun aoA=>(some (Out.norm (jc++[acI],aj (wy+(1:Int)))))))) else ((idx ot (eh))>>=fun Qv=>((idx rv (wy))>>=fun Qw=>((fits 8 (jc.length+1))>>=fun aoB=>(some (Out.norm (jc++[aj (aj (aj ((jg.aD.length:Int)+aj (Qv * x1.aA))+Qw) - x0.aA)],aj (wy+(1:Int))))))))))))) else (some (Out.exit 6 (jc,wy))))
def fT (x0:aG) (x1:aG) (jg:aG) (ot:(List Int)) (rv:(List Int)) (dq:(List (List Int))) (eh:Int):Option (Out ((List (List Int))×Int) (aG)):=
 (bif decide (eh < (ot.length:Int)) then (ah (ae 6 (ai (fun s=>fS x0 x1 jg ot rv eh s.1 s.2) (([]:(List Int)),(0:Int)))) (fun (jc,wy)=>((fits 24 (dq.length+1))>>=fun aoC=>(some (Out.norm (dq++[jc],aj (eh+(1:Int)))))))) else (some (Out.exit 4 (dq,eh))))
def hJ (x0:aG) (x1:aG):Option (aG):=
 ak (S:=Unit) ((iV x0 x1)>>=fun jg=>(ah (ae 0 (ai (fun s=>fR x0 x1 s.1 s.2.1 s.2.2) ((0:Int),jg.aD,jg.To))) (fun (bw,ot,rv)=>(ah (ae 4 (ai (fun s=>fT x0 x1 jg ot rv s.1 s.2) (([]:(List (List Int))),(0:Int)))) (fun (dq,eh)=>(some (Out.ret ((aG.mk jg.aA ot rv jg.aH dq)))))))))
def lQ (x0:aG) (cb:Int) (p8:(List Int)) (o6:Int):Option (Out ((List Int)×Int) (aG)):=
 (bif decide (o6 < (x0.aD.length:Int)) then ((idx x0.aB (o6))>>=fun acJ=>((idx acJ (cb))>>=fun acK=>((fits 8 (p8.length+1))>>=fun n187=>(some (Out.norm (p8++[acK],aj (o6+(1:Int)))))))) else (some (Out.exit 2 (p8,o6))))
def lR (x0:aG) (cb:Int) (yt:(List (List Int))):Option (Out (Int×(List (List Int))) (aG)):=
 (bif decide (cb < (x0.aD.length:Int)) then (ah (ae 2 (ai (fun s=>lQ x0 cb s.1 s.2) (([]:(List Int)),(0:Int)))) (fun (p8,o6)=>((fits 24 (yt.length+1))>>=fun n222=>(some (Out.norm (aj (cb+(1:Int)),yt++[p8])))))) else (some (Out.exit 0 (cb,yt))))
def gW (x0:aG):Option (aG):=
 ak (S:=Unit) ((dU x0.To)>>=fun jg=>((dU x0.aD)>>=fun Gw=>((dU x0.aH)>>=fun Dh=>(ah (ae 0 (ai (fun s=>lR x0 s.1 s.2) ((0:Int),([]:(List (List Int)))))) (fun (cb,yt)=>(some (Out.ret ((aG.mk x0.aA jg Gw Dh yt)))))))))
def nC (Ce:Int×aK) (o6:(List Int)) (mi:Int):Option (Out ((List Int)×Int) (aG×aK)):=
 (bif decide (mi < aj ((1:Int)+Ce.1)) then ((fits 8 (o6.length+1))>>=fun acL=>(some (Out.norm (o6++[(1:Int)],aj (mi+(1:Int)))))) else (some (Out.exit 3 (o6,mi))))
def nD (Ce:Int×aK) (cb:(List (List Int))) (ba:Int):Option (Out ((List (List Int))×Int) (aG×aK)):=
 (bif decide (ba < aj ((1:Int)+Ce.1)) then (ah (ae 3 (ai (fun s=>nC Ce s.1 s.2) (([]:(List Int)),(0:Int)))) (fun (o6,mi)=>((fits 24 (cb.length+1))>>=fun aoD=>(some (Out.norm (cb++[o6],aj (ba+(1:Int)))))))) else (some (Out.exit 1 (cb,ba))))
def nE (x0:aK) (AU:Int×aK) (dq:(List Int)) (eh:(List Int)) (n8:Int) (zg:Int) (zh:Int):Option (Out ((List Int)×(List Int)×Int×Int×Int) (aG×aK)):=
 (bif decide (n8 > (0:Int)) then ((bX (aK.mk x0.Code zg zh) (aj (aj ((2:Int)+AU.1) - (1:Int))))>>=fun Ez=>((fits 8 (dq.length+1))>>=fun aml=>((bX (aK.mk x0.Code Ez.2.At Ez.2.aq) (aj (aj (aj ((2:Int)+AU.1) - (1:Int)) - Ez.1)))>>=fun Me=>((fits 8 (eh.length+1))>>=fun amm=>(some (Out.norm (dq++[Ez.1],eh++[aj (aj (Ez.1+(1:Int))+Me.1)],aj (n8 - (1:Int)),Me.2.At,Me.2.aq))))))) else (some (Out.exit 5 (dq,eh,n8,zg,zh))))
def gS (x0:aK):Option (aG×aK):=
 ak (S:=Unit) ((bX x0 ((12:Int)))>>=fun cy=>(bif (cy.1) == ((0:Int)) then ((bX (aK.mk x0.Code cy.2.At cy.2.aq) ((5:Int)))>>=fun KP=>((jC (aK.mk x0.Code KP.2.At KP.2.aq) (KP.1))>>=fun zW=>((dI zW.1)>>=fun Oc=>(some (Out.ret ((Oc,(aK.mk x0.Code zW.2.At zW.2.aq)))))))) else (bif (cy.1) == ((1:Int)) then ((dI [[(1:Int),(1:Int)],[(0:Int),(1:Int)]])>>=fun Cf=>(some (Out.ret ((Cf,(aK.mk x0.Code cy.2.At cy.2.aq)))))) else (bif (cy.1) == ((2:Int)) then ((dI [[(1:Int),(1:Int),(1:Int)],[(0:Int),(1:Int),(0:Int)],[(0:Int),(0:Int),(1:Int)]])>>=fun IF=>(some (Out.ret ((IF,(aK.mk x0.Code cy.2.At cy.2.aq)))))) else (bif (cy.1) == ((3:Int)) then ((eL ((2:Int)) [(0:Int),(0:Int)] [(1:Int),(1:Int)])>>=fun acM=>(some (Out.ret ((acM,(aK.mk x0.Code cy.2.At cy.2.aq)))))) else (bif (cy.1) == ((4:Int)) then ((gK (aK.mk x0.Code cy.2.At cy.2.aq))>>=fun Qx=>((gL Qx.1)>>=fun acN=>(some (Out.ret ((acN,(aK.mk x0.Code Qx.2.At Qx.2.aq))))))) else (bif (cy.1) == ((5:Int)) then ((bX (aK.mk x0.Code cy.2.At cy.2.aq) ((3:Int)))>>=fun Ce=>(ah (ae 1 (ai (fun s=>nD Ce s.1 s.2) (([]:(List (List Int))),(0:Int)))) (fun (cb,ba)=>((dI cb)>>=fun acO=>(some (Out.ret ((acO,(aK.mk x0.Code Ce.2.At Ce.2.aq))))))))) else (bif (cy.1) == ((6:Int)) then ((eL ((3:Int)) [(0:Int),(1:Int),(0:Int)] [(1:Int),(2:Int),(2:Int)])>>=fun acP=>(some (Out.ret ((acP,(aK.mk x0.Code cy.2.At cy.2.aq)))))) else (bif (cy.1) == ((7:Int)) then ((lP)>>=fun acQ=>(some (Out.ret ((acQ,(aK.mk x0.Code cy.2.At cy.2.aq)))))) else (bif (cy.1) == ((8:Int)) then ((gK (aK.mk x0.Code cy.2.At cy.2.aq))>>=fun Qy=>((gL Qy.1)>>=fun acR=>((dI [[(1:Int)]])>>=fun acS=>((hJ acR acS)>>=fun acT=>((gW acT)>>=fun acU=>(some (Out.ret ((acU,(aK.mk x0.Code Qy.2.At Qy.2.aq)))))))))) else (bif (cy.1) == ((9:Int)) then ((gK (aK.mk x0.Code cy.2.At cy.2.aq))>>=fun Qz=>((gL Qz.1)>>=fun acV=>((dI [[(1:Int)]])>>=fun acW=>((hJ acV acW)>>=fun acX=>(some (Out.ret ((acX,(aK.mk x0.Code Qz.2.At Qz.2.aq))))))))) else (bif (cy.1) == ((10:Int)) then ((bX (aK.mk x0.Code cy.2.At cy.2.aq) ((2:Int)))>>=fun Mf=>((jC (aK.mk x0.Code Mf.2.At Mf.2.aq) (aj ((2:Int)+Mf.1)))>>=fun Mg=>((dI Mg.1)>>=fun Zm=>(some (Out.ret ((Zm,(aK.mk x0.Code Mg.2.At Mg.2.aq)))))))) else ((bX (aK.mk x0.Code cy.2.At cy.2.aq) ((2:Int)))>>=fun AU=>((bX (aK.mk x0.Code AU.2.At AU.2.aq) ((4:Int)))>>=fun Mh=>(ah (ae 5 (ai (fun s=>nE x0 AU s.1 s.2.1 s.2.2.1 s.2.2.2.1 s.2.2.2.2) (([]:(List Int)),([]:(List Int)),Mh.1,Mh.2.At,Mh.2.aq))) (fun (dq,eh,n8,zg,zh)=>((eL (aj ((2:Int)+AU.1)) dq eh)>>=fun Zo=>(some (Out.ret ((Zo,(aK.mk x0.Code zg zh))))))))))))))))))))))
def eU (x0:aG) (x1:aG) (je:Int) (uz:Int) (yu:(List Int)):Option (Out (Int×(List Int)) (aG)):=
 (bif decide (uz < x1.aA) then ((idx x0.aH (je))>>=fun acY=>((idx x1.aH (uz))>>=fun acZ=>((fits 8 (yu.length+1))>>=fun n186=>(some (Out.norm (aj (uz+(1:Int)),yu++[aj (aj (acY * (x1.aD.length:Int))+acZ)])))))) else (some (Out.exit 2 (uz,yu))))
def eV (x0:aG) (x1:aG) (je:Int) (AV:(List Int)):Option (Out (Int×(List Int)) (aG)):=
 (bif decide (je < x0.aA) then (ah (ae 2 (ai (fun s=>eU x0 x1 je s.1 s.2) ((0:Int),AV))) (fun (uz,yu)=>(some (Out.norm (aj (je+(1:Int)),yu))))) else (some (Out.exit 0 (je,AV))))
def eW (x0:aG) (x1:aG) (eh:Int) (jc:Int) (tR:Int) (sx:(List Int)) (tn:Int):Option (Out ((List Int)×Int) (aG)):=
 (bif decide (tn < (x1.aD.length:Int)) then ((((idx x0.aB (eh))>>=fun ac0=>((idx ac0 (tR))>>=fun ac1=>(bif decide (ac1 ≥ (0:Int)) then ((idx x1.aB (jc))>>=fun ac2=>((idx ac2 (tn))>>=fun ac3=>(some (decide (ac3 ≥ (0:Int)))))) else (some (false))))))>>=fun ac4=>(bif ac4 then ((idx x0.aB (eh))>>=fun ac5=>((idx ac5 (tR))>>=fun ac6=>((idx x1.aB (jc))>>=fun ac7=>((idx ac7 (tn))>>=fun ac8=>((fits 8 (sx.length+1))>>=fun aoE=>(some (Out.norm (sx++[aj (aj (ac6 * (x1.aD.length:Int))+ac8)],aj (tn+(1:Int)))))))))) else ((fits 8 (sx.length+1))>>=fun aoF=>(some (Out.norm (sx++[(-1:Int)],aj (tn+(1:Int)))))))) else (some (Out.exit 10 (sx,tn))))
def eX (x0:aG) (x1:aG) (eh:Int) (jc:Int) (qd:(List Int)) (tR:Int):Option (Out ((List Int)×Int) (aG)):=
 (bif decide (tR < (x0.aD.length:Int)) then (ah (ae 10 (ai (fun s=>eW x0 x1 eh jc tR s.1 s.2) (qd,(0:Int)))) (fun (sx,tn)=>(some (Out.norm (sx,aj (tR+(1:Int))))))) else (some (Out.exit 8 (qd,tR))))
def eY (x0:aG) (x1:aG) (eh:Int) (jc:Int) (yw:(List Int)) (yx:(List Int)) (yy:(List (List Int))):Option (Out (Int×(List Int)×(List Int)×(List (List Int))) (aG)):=
 (bif decide (jc < (x1.aD.length:Int)) then ((idx x0.aD (eh))>>=fun ac9=>((idx x1.aD (jc))>>=fun ada=>((fits 8 (yw.length+1))>>=fun n318=>((idx x0.To (eh))>>=fun adb=>((idx x1.To (jc))>>=fun Qf=>((fits 8 (yx.length+1))>>=fun aoG=>(ah (ae 8 (ai (fun s=>eX x0 x1 eh jc s.1 s.2) (([]:(List Int)),(0:Int)))) (fun (qd,tR)=>((fits 24 (yy.length+1))>>=fun aoH=>(some (Out.norm (aj (jc+(1:Int)),yw++[aj (aj (ac9 * x1.aA)+ada)],yx++[aj (aj (adb * x1.aA)+Qf)],yy++[qd])))))))))))) else (some (Out.exit 6 (jc,yw,yx,yy))))
def eZ (x0:aG) (x1:aG) (eh:Int) (AW:(List Int)) (AX:(List Int)) (AY:(List (List Int))):Option (Out (Int×(List Int)×(List Int)×(List (List Int))) (aG)):=
 (bif decide (eh < (x0.aD.length:Int)) then (ah (ae 6 (ai (fun s=>eY x0 x1 eh s.1 s.2.1 s.2.2.1 s.2.2.2) ((0:Int),AW,AX,AY))) (fun (jc,yw,yx,yy)=>(some (Out.norm (aj (eh+(1:Int)),yw,yx,yy))))) else (some (Out.exit 4 (eh,AW,AX,AY))))
def fC (x0:aG) (x1:aG):Option (aG):=
 ak (S:=Unit) (ah (ae 0 (ai (fun s=>eV x0 x1 s.1 s.2) ((0:Int),([]:(List Int))))) (fun (je,AV)=>(ah (ae 4 (ai (fun s=>eZ x0 x1 s.1 s.2.1 s.2.2.1 s.2.2.2) ((0:Int),([]:(List Int)),([]:(List Int)),([]:(List (List Int)))))) (fun (eh,AW,AX,AY)=>(some (Out.ret ((aG.mk (aj (x0.aA * x1.aA)) AW AX AV AY))))))))
def oZ (x0:aK) (x1:Int) (x2:Int) (bw:Int) (j9:Int) (ke:Int):Option (Out (Int×Int×Int) (aG×aK)):=
 (bif decide (bw < (12:Int)) then ((gS (aK.mk x0.Code j9 ke))>>=fun um=>((bX (aK.mk x0.Code um.2.At um.2.aq) ((5:Int)))>>=fun Od=>(bif (Od.1) == ((0:Int)) then ((gS (aK.mk x0.Code Od.2.At Od.2.aq))>>=fun WT=>((iV um.1 WT.1)>>=fun IG=>((bX (aK.mk x0.Code WT.2.At WT.2.aq) ((8:Int)))>>=fun DG=>(bif (DG.1) == ((0:Int)) then ((gS (aK.mk x0.Code DG.2.At DG.2.aq))>>=fun IH=>((fC IG IH.1)>>=fun Mi=>(((bif decide (Mi.aA≤x1) then (bif decide ((Mi.aD.length:Int)≤x2) then ((eI Mi)>>=fun ade=>(some (ade))) else (some (false))) else (some (false))))>>=fun adg=>(bif adg then (some (Out.ret ((Mi,(aK.mk x0.Code IH.2.At IH.2.aq))))) else (some (Out.norm (aj (bw+(1:Int)),IH.2.At,IH.2.aq))))))) else (((bif decide (IG.aA≤x1) then (bif decide ((IG.aD.length:Int)≤x2) then ((eI IG)>>=fun QB=>(some (QB))) else (some (false))) else (some (false))))>>=fun adh=>(bif adh then (some (Out.ret ((IG,(aK.mk x0.Code DG.2.At DG.2.aq))))) else (some (Out.norm (aj (bw+(1:Int)),DG.2.At,DG.2.aq))))))))) else ((bX (aK.mk x0.Code Od.2.At Od.2.aq) ((8:Int)))>>=fun DH=>(bif (DH.1) == ((0:Int)) then ((gS (aK.mk x0.Code DH.2.At DH.2.aq))>>=fun II=>((fC um.1 II.1)>>=fun Mj=>(((bif decide (Mj.aA≤x1) then (bif decide ((Mj.aD.length:Int)≤x2) then ((eI Mj)>>=fun adi=>(some (adi))) else (some (false))) else (some (false))))>>=fun adj=>(bif adj then (some (Out.ret ((Mj,(aK.mk x0.Code II.2.At II.2.aq))))) else (some (Out.norm (aj (bw+(1:Int)),II.2.At,II.2.aq))))))) else (((bif decide (um.1.aA≤x1) then (bif decide ((um.1.aD.length:Int)≤x2) then ((eI um.1)>>=fun adk=>(some (adk))) else (some (false))) else (some (false))))>>=fun adl=>(bif adl then (some (Out.ret ((um.1,(aK.mk x0.Code DH.2.At DH.2.aq))))) else (some (Out.norm (aj (bw+(1:Int)),DH.2.At,DH.2.aq)))))))))) else (some (Out.exit 0 (bw,j9,ke))))
def jG (x0:aK) (x1:Int) (x2:Int):Option (aG×aK):=
 ak (S:=Unit) (ah (ae 0 (ai (fun s=>oZ x0 x1 x2 s.1 s.2.1 s.2.2) ((0:Int),x0.At,x0.aq))) (fun (bw,j9,ke)=>((dI [[(1:Int)]])>>=fun adm=>(some (Out.ret ((adm,(aK.mk x0.Code j9 ke))))))))
def pA (x0:aG) (x1:Int):Option (Bool):=
 ak (S:=Unit) ((idx x0.aD (x1))>>=fun e8=>((idx x0.aH (e8))>>=fun Oe=>(some (Out.ret (((Oe) == (x1)))))))
def nF (x0:aG) (ie:(List Int)) (cb:Int):Option (Out ((List Int)×Int) ((List Int))):=
 (bif decide (cb < (x0.aD.length:Int)) then ((pA x0 (cb))>>=fun jg=>(bif !(jg) then ((fits 8 (ie.length+1))>>=fun n45=>(some (Out.norm (ie++[cb],aj (cb+(1:Int)))))) else (some (Out.norm (ie,aj (cb+(1:Int))))))) else (some (Out.exit 0 (ie,cb))))
def mW (x0:aG):Option ((List Int)):=
 ak (S:=Unit) (ah (ae 0 (ai (fun s=>nF x0 s.1 s.2) (([]:(List Int)),(0:Int)))) (fun (ie,cb)=>(some (Out.ret (ie)))))
def iL (x0:aG) (x1:aG):Option (Bool):=
 ak (S:=Unit) ((mW x0)>>=fun lh=>(bif decide ((lh.length:Int)≤(8:Int)) then (some (Out.ret ((decide ((x1.aD.length:Int)≤(16:Int)))))) else (some (Out.ret (false)))))
def gT (x0:aG) (x1:Int) (x2:Int) (bw:(List Int)) (je:Int):Option (Out ((List Int)×Int) ((List Int))):=
 (bif decide (je < (x0.aD.length:Int)) then ((((idx x0.aD (je))>>=fun Gx=>(bif (Gx) == (x1) then ((idx x0.To (je))>>=fun e30=>(some ((e30) == (x2)))) else (some (false)))))>>=fun EA=>(bif EA then ((fits 8 (bw.length+1))>>=fun n50=>(some (Out.norm (bw++[je],aj (je+(1:Int)))))) else (some (Out.norm (bw,aj (je+(1:Int))))))) else (some (Out.exit 0 (bw,je))))
def gX (x0:aG) (x1:Int) (x2:Int):Option ((List Int)):=
 ak (S:=Unit) (ah (ae 0 (ai (fun s=>gT x0 x1 x2 s.1 s.2) (([]:(List Int)),(0:Int)))) (fun (bw,je)=>(some (Out.ret (bw)))))
def qS (x0:aG) (x1:aG) (x2:(List Int)) (bw:Int):Option (Out (Int) (Bool)):=
 (bif decide (bw < (x0.aD.length:Int)) then ((idx x0.aD (bw))>>=fun IJ=>((idx x0.To (bw))>>=fun Gy=>(bif decide (IJ < (x2.length:Int)) then (bif decide (Gy < (x2.length:Int)) then ((idx x2 (IJ))>>=fun Iy=>((idx x2 (Gy))>>=fun WU=>((gX x1 (Iy) (WU))>>=fun IK=>(bif ((IK.length:Int)) == ((0:Int)) then (some (Out.ret (false))) else (some (Out.norm (aj (bw+(1:Int))))))))) else (some (Out.norm (aj (bw+(1:Int)))))) else (some (Out.norm (aj (bw+(1:Int)))))))) else (some (Out.exit 0 (bw))))
def nR (x0:aG) (x1:aG) (x2:(List Int)):Option (Bool):=
 ak (S:=Unit) (ah (ae 0 (ai (qS x0 x1 x2) ((0:Int)))) (fun bw=>(some (Out.ret (true)))))
def oF (x0:aG) (x1:aG) (dv:Int) (uA:Bool) (dq:Int) (ni:(List Int)):Option (Out (Bool×Int×(List Int)) (Bool×(List Int))):=
 (bif decide (dq < (ni.length:Int)) then ((idx x0.aB (dv))>>=fun IL=>((idx IL (dq))>>=fun BE=>(((bif decide (BE < (0:Int)) then (some (true)) else ((idx ni (dv))>>=fun WV=>(bif decide (WV < (0:Int)) then (some (true)) else ((idx ni (dq))>>=fun Di=>(some (decide (Di < (0:Int)))))))))>>=fun g66=>(bif g66 then (some (Out.norm (uA,aj (dq+(1:Int)),ni))) else ((idx ni (dv))>>=fun KQ=>((idx x1.aB (KQ))>>=fun EB=>((idx ni (dq))>>=fun BF=>((idx EB (BF))>>=fun e90=>((((idx ni (BE))>>=fun WW=>(bif decide (WW ≥ (0:Int)) then ((idx ni (BE))>>=fun SG=>(some ((SG) != (e90)))) else (some (false)))))>>=fun g94=>(bif g94 then (some (Out.ret ((false,ni)))) else (((bif uA then (some (true)) else ((idx ni (BE))>>=fun DF=>(some (decide (DF < (0:Int)))))))>>=fun adn=>((idx ni (BE))>>=fun ado=>(some (Out.norm (adn,aj (dq+(1:Int)),ni.set (BE).toNat (e90)))))))))))))))) else (some (Out.exit 4 (uA,dq,ni))))
def oG (x0:aG) (x1:aG) (mi:Bool) (dv:Int) (zY:(List Int)):Option (Out (Bool×Int×(List Int)) (Bool×(List Int))):=
 (bif decide (dv < (zY.length:Int)) then (ah (ae 4 (ai (fun s=>oF x0 x1 dv s.1 s.2.1 s.2.2) (mi,(0:Int),zY))) (fun (uA,dq,ni)=>(some (Out.norm (uA,aj (dv+(1:Int)),ni))))) else (some (Out.exit 2 (mi,dv,zY))))
def oH (x0:aG) (x1:aG) (bw:Bool) (CL:(List Int)):Option (Out (Bool×(List Int)) (Bool×(List Int))):=
 (bif bw then (ah (ae 2 (ai (fun s=>oG x0 x1 s.1 s.2.1 s.2.2) (false,(0:Int),CL))) (fun (mi,dv,zY)=>(some (Out.norm (mi,zY))))) else (some (Out.exit 0 (bw,CL))))
def nS (x0:aG) (x1:aG) (x2:(List Int)):Option (Bool×(List Int)):=
 ak (S:=Unit) (ah (ae 0 (ai (fun s=>oH x0 x1 s.1 s.2) (true,x2))) (fun (bw,CL)=>(some (Out.ret ((true,CL))))))
def qQ (x3:(List Int)) (cb:Int):Option (Out (Int) ((List (List Int)))):=
 (((bif decide (cb < (x3.length:Int)) then ((idx x3 (cb))>>=fun Of=>(some (decide (Of ≥ (0:Int))))) else (some (false))))>>=fun g32=>(bif g32 then (some (Out.norm (aj (cb+(1:Int))))) else (some (Out.exit 0 (cb)))))
def nG (rc:aG→aG→(List Int)→(List Int)→Int→(List (List Int))→Option ((List (List Int)))) (x0:aG) (x1:aG) (x2:(List Int)) (x3:(List Int)) (cb:Int) (SH:(List Int)) (p8:(List (List Int))) (mj:Int):Option (Out ((List (List Int))×Int) ((List (List Int)))):=
 (((bif decide (mj < (SH.length:Int)) then (some (decide ((p8.length:Int)≤(200:Int)))) else (some (false))))>>=fun adp=>(bif adp then ((dU x3)>>=fun WX=>((idx SH (mj))>>=fun IN=>((idx WX (cb))>>=fun Mk=>((nS x0 x1 (WX.set (cb).toNat (IN)))>>=fun WY=>(bif WY.1 then ((rc x0 x1 x2 WY.2 (aj (cb+(1:Int))) p8)>>=fun adq=>(some (Out.norm (adq,aj (mj+(1:Int)))))) else (some (Out.norm (p8,aj (mj+(1:Int)))))))))) else (some (Out.exit 2 (p8,mj)))))
def lF (rc:aG→aG→(List Int)→(List Int)→Int→(List (List Int))→Option ((List (List Int)))) (x0:aG) (x1:aG) (x2:(List Int)) (x3:(List Int)) (x4:Int) (x5:(List (List Int))):Option ((List (List Int))):=
 ak (S:=Unit) (ah (ae 0 (ai (qQ x3) (x4))) (fun cb=>(bif (cb) == ((x3.length:Int)) then ((dU x3)>>=fun y46=>((fits 24 (x5.length+1))>>=fun n70=>(some (Out.ret ((x5++[y46])))))) else ((idx x0.aD (cb))>>=fun IP=>((idx x2 (IP))>>=fun WZ=>((idx x0.To (cb))>>=fun KQ=>((idx x2 (KQ))>>=fun EB=>((gX x1 (WZ) (EB))>>=fun SH=>(ah (ae 2 (ai (fun s=>nG rc x0 x1 x2 x3 cb SH s.1 s.2) (x5,(0:Int)))) (fun (p8,mj)=>(some (Out.ret (p8)))))))))))))
def gU:Nat→aG→aG→(List Int)→(List Int)→Int→(List (List Int))→Option ((List (List Int)))
 | 0=>fun _ _ _ _ _ _=>none
 | n+1=>lF (gU n)
def hY (x0:aG) (x1:aG) (x2:(List Int)) (x3:(List Int)):Option (aI):=
 ak (S:=Unit) ((kD x0)>>=fun jg=>((kD x1)>>=fun y60=>((dU x2)>>=fun adr=>((dU x3)>>=fun ads=>(some (Out.ret ((aI.mk jg y60 adr ads))))))))
def nH (x0:aG) (gp:(List Int)) (ma:Int):Option (Out ((List Int)×Int) ((List aI))):=
 (bif decide (ma < (x0.aD.length:Int)) then ((fits 8 (gp.length+1))>>=fun n78=>(some (Out.norm (gp++[(-1:Int)],aj (ma+(1:Int)))))) else (some (Out.exit 0 (gp,ma))))
def nI (x0:aG) (x1:aG) (x2:(List Int)) (tS:Int) (Cg:(List Int)):Option (Out (Int×(List Int)) ((List aI))):=
 (bif decide (tS < (x2.length:Int)) then ((idx x0.aH (tS))>>=fun W0=>((idx x2 (tS))>>=fun Ft=>((idx x1.aH (Ft))>>=fun QC=>((idx Cg (W0))>>=fun Ml=>(some (Out.norm (aj (tS+(1:Int)),Cg.set (W0).toNat (QC)))))))) else (some (Out.exit 2 (tS,Cg))))
def nJ (x0:aG) (x1:aG) (x2:(List Int)) (Mm:(List (List Int))) (Fu:(List aI)) (EC:Int):Option (Out ((List aI)×Int) ((List aI))):=
 (((bif decide (EC < (Mm.length:Int)) then (some (decide ((Fu.length:Int)≤(200:Int)))) else (some (false))))>>=fun adu=>(bif adu then ((idx Mm (EC))>>=fun adv=>((hY x0 x1 x2 adv)>>=fun IQ=>((fits 256 (Fu.length+1))>>=fun n290=>(some (Out.norm (Fu++[IQ],aj (EC+(1:Int)))))))) else (some (Out.exit 4 (Fu,EC)))))
def nK (rc:aG→aG→(List Int)→(List aI)→Option ((List aI))) (x0:aG) (x1:aG) (x2:(List Int)) (IS:(List aI)) (ED:Int):Option (Out ((List aI)×Int) ((List aI))):=
 (((bif decide (ED < x1.aA) then (some (decide ((IS.length:Int)≤(200:Int)))) else (some (false))))>>=fun adw=>(bif adw then ((dU x2)>>=fun DI=>((fits 8 (DI.length+1))>>=fun n342=>((rc x0 x1 (DI++[ED]) IS)>>=fun adx=>(some (Out.norm (adx,aj (ED+(1:Int)))))))) else (some (Out.exit 6 (IS,ED)))))
def lG (rc:aG→aG→(List Int)→(List aI)→Option ((List aI))) (x0:aG) (x1:aG) (x2:(List Int)) (x3:(List aI)):Option ((List aI)):=
 ak (S:=Unit) ((nR x0 x1 x2)>>=fun tu=>(bif !(tu) then (some (Out.ret (x3))) else (bif ((x2.length:Int)) == (x0.aA) then (ah (ae 0 (ai (fun s=>nH x0 s.1 s.2) (([]:(List Int)),(0:Int)))) (fun (gp,ma)=>(ah (ae 2 (ai (fun s=>nI x0 x1 x2 s.1 s.2) ((0:Int),gp))) (fun (tS,Cg)=>((gU 64 x0 x1 x2 Cg ((0:Int)) (([]:(List (List Int)))))>>=fun Mm=>(ah (ae 4 (ai (fun s=>nJ x0 x1 x2 Mm s.1 s.2) (x3,(0:Int)))) (fun (Fu,EC)=>(some (Out.ret (Fu)))))))))) else (ah (ae 6 (ai (fun s=>nK rc x0 x1 x2 s.1 s.2) (x3,(0:Int)))) (fun (IS,ED)=>(some (Out.ret (IS))))))))
def gV:Nat→aG→aG→(List Int)→(List aI)→Option ((List aI))
 | 0=>fun _ _ _ _=>none
 | n+1=>lG (gV n)
def kE (x0:aG) (x1:aG):Option ((List aI)):=
 ak (S:=Unit) ((gV 64 x0 x1 (([]:(List Int))) (([]:(List aI))))>>=fun zi=>(some (Out.ret (zi))))
def gF (x0:aG) (x2:Int) (bw:(List Int)) (gp:Int):Option (Out ((List Int)×Int) (aI)):=
 (bif decide (gp < x0.aA) then ((fits 8 (bw.length+1))>>=fun n81=>(some (Out.norm (bw++[x2],aj (gp+(1:Int)))))) else (some (Out.exit 0 (bw,gp))))
def gG (x0:aG) (x1:aG) (x2:Int) (dv:(List Int)) (jb:Int):Option (Out ((List Int)×Int) (aI)):=
 (bif decide (jb < (x0.aD.length:Int)) then ((idx x1.aH (x2))>>=fun ady=>((fits 8 (dv.length+1))>>=fun n131=>(some (Out.norm (dv++[ady],aj (jb+(1:Int))))))) else (some (Out.exit 2 (dv,jb))))
def eJ (x0:aG) (x1:aG) (x2:Int):Option (aI):=
 ak (S:=Unit) (ah (ae 0 (ai (fun s=>gF x0 x2 s.1 s.2) (([]:(List Int)),(0:Int)))) (fun (bw,gp)=>(ah (ae 2 (ai (fun s=>gG x0 x1 x2 s.1 s.2) (([]:(List Int)),(0:Int)))) (fun (dv,jb)=>((hY x0 x1 bw dv)>>=fun adz=>(some (Out.ret (adz))))))))
def pB (x0:aG) (ie:(List Int)) (ba:Int):Option (Out ((List Int)×Int) (aI)):=
 (bif decide (ba < x0.aA) then ((fits 8 (ie.length+1))>>=fun n65=>(some (Out.norm (ie++[ba],aj (ba+(1:Int)))))) else (some (Out.exit 0 (ie,ba))))
def pC (x0:aG) (IT:(List Int)) (o6:Int):Option (Out ((List Int)×Int) (aI)):=
 (bif decide (o6 < (x0.aD.length:Int)) then ((fits 8 (IT.length+1))>>=fun n107=>(some (Out.norm (IT++[o6],aj (o6+(1:Int)))))) else (some (Out.exit 2 (IT,o6))))
def fU (x0:aG):Option (aI):=
 ak (S:=Unit) (ah (ae 0 (ai (fun s=>pB x0 s.1 s.2) (([]:(List Int)),(0:Int)))) (fun (ie,ba)=>(ah (ae 2 (ai (fun s=>pC x0 s.1 s.2) (([]:(List Int)),(0:Int)))) (fun (IT,o6)=>((hY x0 x0 ie IT)>>=fun adA=>(some (Out.ret (adA))))))))
def jH (x0:aK) (x1:aG) (x2:Int) (x3:Int):Option (aI×aK):=
 ak (S:=Unit) ((jG x0 (x2) (x3))>>=fun db=>((iL x1 db.1)>>=fun IU=>(bif IU then ((kE x1 db.1)>>=fun Og=>(bif decide ((Og.length:Int) > (0:Int)) then ((bX (aK.mk x0.Code db.2.At db.2.aq) ((Og.length:Int)))>>=fun vZ=>((idx Og (vZ.1))>>=fun xk=>(some (Out.ret ((xk,(aK.mk x0.Code vZ.2.At vZ.2.aq))))))) else (bif decide (db.1.aA > (0:Int)) then ((bX (aK.mk x0.Code db.2.At db.2.aq) ((2:Int)))>>=fun IV=>(bif (IV.1) == ((0:Int)) then ((bX (aK.mk x0.Code IV.2.At IV.2.aq) (db.1.aA))>>=fun IF=>((eJ x1 db.1 (IF.1))>>=fun QD=>(some (Out.ret ((QD,(aK.mk x0.Code IF.2.At IF.2.aq))))))) else ((fU x1)>>=fun adB=>(some (Out.ret ((adB,(aK.mk x0.Code IV.2.At IV.2.aq)))))))) else ((fU x1)>>=fun adC=>(some (Out.ret ((adC,(aK.mk x0.Code db.2.At db.2.aq))))))))) else (bif decide (db.1.aA > (0:Int)) then ((bX (aK.mk x0.Code db.2.At db.2.aq) ((2:Int)))>>=fun IW=>(bif (IW.1) == ((0:Int)) then ((bX (aK.mk x0.Code IW.2.At IW.2.aq) (db.1.aA))>>=fun QF=>((eJ x1 db.1 (QF.1))>>=fun adD=>(some (Out.ret ((adD,(aK.mk x0.Code QF.2.At QF.2.aq))))))) else ((fU x1)>>=fun adE=>(some (Out.ret ((adE,(aK.mk x0.Code IW.2.At IW.2.aq)))))))) else ((fU x1)>>=fun adF=>(some (Out.ret ((adF,(aK.mk x0.Code db.2.At db.2.aq))))))))))
def pD (x0:aK) (x1:(List Int)):Option (Int×aK):=
 ak (S:=Unit) ((bX x0 ((x1.length:Int)))>>=fun y6=>((idx x1 (y6.1))>>=fun Oa=>(some (Out.ret ((Oa,(aK.mk x0.Code y6.2.At y6.2.aq)))))))
def pE (x0:aK) (x1:aG):Option (aG×aK):=
 ak (S:=Unit) ((kD x1)>>=fun db=>((bX x0 ((db.aD.length:Int)))>>=fun xy=>((bX (aK.mk x0.Code xy.2.At xy.2.aq) ((8:Int)))>>=fun nw=>(bif (nw.1) == ((0:Int)) then ((pD (aK.mk x0.Code nw.2.At nw.2.aq) ([aj (db.aA+(1:Int)),(-1:Int),(9:Int)]))>>=fun W1=>(some (Out.ret (((aG.mk W1.1 db.aD db.To db.aH db.aB),(aK.mk x0.Code W1.2.At W1.2.aq)))))) else (bif (nw.1) == ((1:Int)) then ((fits 8 (db.aD.length+1))>>=fun n120=>(some (Out.ret (((aG.mk db.aA (db.aD++[(0:Int)]) db.To db.aH db.aB),(aK.mk x0.Code nw.2.At nw.2.aq)))))) else (bif (nw.1) == ((2:Int)) then (bif decide ((db.aH.length:Int) > (0:Int)) then ((bX (aK.mk x0.Code nw.2.At nw.2.aq) (aj ((db.aD.length:Int)+(1:Int))))>>=fun IX=>((idx db.aH ((0:Int)))>>=fun aoI=>(some (Out.ret (((aG.mk db.aA db.aD db.To (db.aH.set ((0:Int)).toNat (IX.1)) db.aB),(aK.mk x0.Code IX.2.At IX.2.aq))))))) else (some (Out.ret ((db,(aK.mk x0.Code nw.2.At nw.2.aq)))))) else (bif (nw.1) == ((3:Int)) then (bif decide ((db.aD.length:Int) > (0:Int)) then ((idx db.aB (xy.1))>>=fun W2=>((bX (aK.mk x0.Code nw.2.At nw.2.aq) ((db.aD.length:Int)))>>=fun Mn=>((bX (aK.mk x0.Code Mn.2.At Mn.2.aq) (aj ((db.aD.length:Int)+(1:Int))))>>=fun QG=>((idx W2 (Mn.1))>>=fun aoJ=>(some (Out.ret (((aG.mk db.aA db.aD db.To db.aH (db.aB.set (xy.1).toNat (W2.set (Mn.1).toNat (aj (QG.1 - (1:Int)))))),(aK.mk x0.Code QG.2.At QG.2.aq))))))))) else (some (Out.ret ((db,(aK.mk x0.Code nw.2.At nw.2.aq)))))) else (bif (nw.1) == ((4:Int)) then (bif decide ((db.aD.length:Int) > (0:Int)) then ((idx db.aB (xy.1))>>=fun W3=>((bX (aK.mk x0.Code nw.2.At nw.2.aq) ((db.aD.length:Int)))>>=fun zF=>((bX (aK.mk x0.Code zF.2.At zF.2.aq) (aj ((db.aD.length:Int)+(1:Int))))>>=fun QH=>((idx W3 (zF.1))>>=fun aoK=>(some (Out.ret (((aG.mk db.aA db.aD db.To db.aH (db.aB.set (xy.1).toNat (W3.set (zF.1).toNat (aj (QH.1 - (1:Int)))))),(aK.mk x0.Code QH.2.At QH.2.aq))))))))) else (some (Out.ret ((db,(aK.mk x0.Code nw.2.At nw.2.aq)))))) else (bif (nw.1) == ((5:Int)) then (bif decide ((db.aD.length:Int) > (0:Int)) then ((idx db.aB (xy.1))>>=fun W4=>((bX (aK.mk x0.Code nw.2.At nw.2.aq) ((db.aD.length:Int)))>>=fun Mo=>((bX (aK.mk x0.Code Mo.2.At Mo.2.aq) (aj ((db.aD.length:Int)+(1:Int))))>>=fun QI=>((idx W4 (Mo.1))>>=fun aoL=>(some (Out.ret (((aG.mk db.aA db.aD db.To db.aH (db.aB.set (xy.1).toNat (W4.set (Mo.1).toNat (aj (QI.1 - (1:Int)))))),(aK.mk x0.Code QI.2.At QI.2.aq))))))))) else (some (Out.ret ((db,(aK.mk x0.Code nw.2.At nw.2.aq)))))) else (bif (nw.1) == ((6:Int)) then (bif decide ((db.aD.length:Int) > (0:Int)) then ((bX (aK.mk x0.Code nw.2.At nw.2.aq) (aj (db.aA+(1:Int))))>>=fun QJ=>((idx db.To (xy.1))>>=fun WJ=>(some (Out.ret (((aG.mk db.aA db.aD (db.To.set (xy.1).toNat (QJ.1)) db.aH db.aB),(aK.mk x0.Code QJ.2.At QJ.2.aq))))))) else (some (Out.ret ((db,(aK.mk x0.Code nw.2.At nw.2.aq)))))) else (bif decide ((db.aD.length:Int) > (0:Int)) then ((idx db.aB (xy.1))>>=fun adG=>((tl adG ((1:Int)))>>=fun adH=>((idx db.aB (xy.1))>>=fun aoM=>(some (Out.ret (((aG.mk db.aA db.aD db.To db.aH (db.aB.set (xy.1).toNat adH)),(aK.mk x0.Code nw.2.At nw.2.aq)))))))) else (some (Out.ret ((db,(aK.mk x0.Code nw.2.At nw.2.aq))))))))))))))))
def kU (x0:aK):Option (aI×aK):=
 ak (S:=Unit) ((jG x0 ((4:Int)) ((10:Int)))>>=fun cy=>((jH (aK.mk x0.Code cy.2.At cy.2.aq) cy.1 ((4:Int)) ((12:Int)))>>=fun tJ=>((bX (aK.mk x0.Code tJ.2.At tJ.2.aq) ((30:Int)))>>=fun wb=>(bif (wb.1) == ((0:Int)) then ((pE (aK.mk x0.Code wb.2.At wb.2.aq) tJ.1.aC)>>=fun QK=>(some (Out.ret (((aI.mk QK.1 tJ.1.aE tJ.1.aA tJ.1.ab),(aK.mk x0.Code QK.2.At QK.2.aq)))))) else (bif (wb.1) == ((1:Int)) then (bif decide ((tJ.1.ab.length:Int) > (0:Int)) then ((bX (aK.mk x0.Code wb.2.At wb.2.aq) ((tJ.1.ab.length:Int)))>>=fun DI=>((bX (aK.mk x0.Code DI.2.At DI.2.aq) (aj ((tJ.1.aE.aD.length:Int)+(1:Int))))>>=fun v8=>((idx tJ.1.ab (DI.1))>>=fun aoN=>(some (Out.ret (((aI.mk tJ.1.aC tJ.1.aE tJ.1.aA (tJ.1.ab.set (DI.1).toNat (v8.1))),(aK.mk x0.Code v8.2.At v8.2.aq)))))))) else (some (Out.ret ((tJ.1,(aK.mk x0.Code wb.2.At wb.2.aq)))))) else (bif (wb.1) == ((2:Int)) then ((fits 8 (tJ.1.aA.length+1))>>=fun acL=>(some (Out.ret (((aI.mk tJ.1.aC tJ.1.aE (tJ.1.aA++[(0:Int)]) tJ.1.ab),(aK.mk x0.Code wb.2.At wb.2.aq)))))) else (some (Out.ret ((tJ.1,(aK.mk x0.Code wb.2.At wb.2.aq)))))))))))
def nN:Option (aG):=
 ak (S:=Unit) ((dI [[(1:Int)]])>>=fun um=>(some (Out.ret (um))))
def nT (x0:aK):Option (aG×aK):=
 ak (S:=Unit) ((bX x0 ((9:Int)))>>=fun cy=>(bif (cy.1) == ((0:Int)) then ((dI (([]:(List (List Int)))))>>=fun tu=>(some (Out.ret ((tu,(aK.mk x0.Code cy.2.At cy.2.aq)))))) else (bif (cy.1) == ((1:Int)) then ((nN)>>=fun Iz=>(some (Out.ret ((Iz,(aK.mk x0.Code cy.2.At cy.2.aq)))))) else (bif (cy.1) == ((2:Int)) then ((dI [[(1:Int),(0:Int)],[(0:Int),(1:Int)]])>>=fun adI=>(some (Out.ret ((adI,(aK.mk x0.Code cy.2.At cy.2.aq)))))) else (bif (cy.1) == ((3:Int)) then ((eL ((2:Int)) [(0:Int),(0:Int)] [(1:Int),(1:Int)])>>=fun adJ=>(some (Out.ret ((adJ,(aK.mk x0.Code cy.2.At cy.2.aq)))))) else (bif (cy.1) == ((4:Int)) then ((dI [[(1:Int),(1:Int),(1:Int)],[(0:Int),(1:Int),(0:Int)],[(0:Int),(0:Int),(1:Int)]])>>=fun adK=>((gW adK)>>=fun adL=>(some (Out.ret ((adL,(aK.mk x0.Code cy.2.At cy.2.aq))))))) else (bif (cy.1) == ((5:Int)) then ((dI [[(1:Int),(1:Int),(1:Int)],[(0:Int),(1:Int),(0:Int)],[(0:Int),(0:Int),(1:Int)]])>>=fun QB=>(some (Out.ret ((QB,(aK.mk x0.Code cy.2.At cy.2.aq)))))) else (bif (cy.1) == ((6:Int)) then ((gK (aK.mk x0.Code cy.2.At cy.2.aq))>>=fun QM=>((gL QM.1)>>=fun adM=>(some (Out.ret ((adM,(aK.mk x0.Code QM.2.At QM.2.aq))))))) else (bif (cy.1) == ((7:Int)) then ((dI [[(1:Int),(1:Int)],[(0:Int),(1:Int)]])>>=fun adN=>(some (Out.ret ((adN,(aK.mk x0.Code cy.2.At cy.2.aq)))))) else ((jG (aK.mk x0.Code cy.2.At cy.2.aq) ((3:Int)) ((5:Int)))>>=fun QN=>(some (Out.ret ((QN.1,(aK.mk x0.Code QN.2.At QN.2.aq)))))))))))))))
def kV (x0:aK):Option (aG×aK):=
 ak (S:=Unit) ((bX x0 ((6:Int)))>>=fun cy=>(bif (cy.1) == ((0:Int)) then ((dI [[(1:Int),(1:Int),(1:Int),(1:Int)],[(0:Int),(1:Int),(0:Int),(1:Int)],[(0:Int),(0:Int),(1:Int),(1:Int)],[(0:Int),(0:Int),(0:Int),(1:Int)]])>>=fun IY=>(some (Out.ret ((IY,(aK.mk x0.Code cy.2.At cy.2.aq)))))) else (bif (cy.1) == ((1:Int)) then ((dI [[(1:Int),(1:Int),(1:Int)],[(0:Int),(1:Int),(1:Int)],[(0:Int),(0:Int),(1:Int)]])>>=fun IB=>(some (Out.ret ((IB,(aK.mk x0.Code cy.2.At cy.2.aq)))))) else (bif (cy.1) == ((2:Int)) then ((lP)>>=fun QD=>(some (Out.ret ((QD,(aK.mk x0.Code cy.2.At cy.2.aq)))))) else ((jG (aK.mk x0.Code cy.2.At cy.2.aq) ((4:Int)) ((12:Int)))>>=fun QO=>(some (Out.ret ((QO.1,(aK.mk x0.Code QO.2.At QO.2.aq))))))))))
def mJ (x0:aK) (ie:Int) (j9:Int) (ke:Int):Option (Out (Int×Int×Int) (aI×aK)):=
 (bif decide (ie < (8:Int)) then ((nT (aK.mk x0.Code j9 ke))>>=fun um=>((kV (aK.mk x0.Code um.2.At um.2.aq))>>=fun Gz=>((iL um.1 Gz.1)>>=fun adO=>(bif adO then ((kE um.1 Gz.1)>>=fun QP=>(bif decide ((QP.length:Int) > (0:Int)) then ((bX (aK.mk x0.Code Gz.2.At Gz.2.aq) ((QP.length:Int)))>>=fun QQ=>((idx QP (QQ.1))>>=fun adP=>(some (Out.ret ((adP,(aK.mk x0.Code QQ.2.At QQ.2.aq))))))) else (some (Out.norm (aj (ie+(1:Int)),Gz.2.At,Gz.2.aq))))) else (some (Out.norm (aj (ie+(1:Int)),Gz.2.At,Gz.2.aq))))))) else (some (Out.exit 0 (ie,j9,ke))))
def mA (x0:aK):Option (aI×aK):=
 ak (S:=Unit) (ah (ae 0 (ai (fun s=>mJ x0 s.1 s.2.1 s.2.2) ((0:Int),x0.At,x0.aq))) (fun (ie,j9,ke)=>((nN)>>=fun adQ=>((fU adQ)>>=fun adR=>(some (Out.ret ((adR,(aK.mk x0.Code j9 ke)))))))))
def pF (x0:aK):Option (aI×aK):=
 ak (S:=Unit) ((bX x0 ((16:Int)))>>=fun cy=>(bif (cy.1) == ((0:Int)) then ((kU (aK.mk x0.Code cy.2.At cy.2.aq))>>=fun zZ=>(some (Out.ret ((zZ.1,(aK.mk x0.Code zZ.2.At zZ.2.aq)))))) else ((mA (aK.mk x0.Code cy.2.At cy.2.aq))>>=fun QR=>(some (Out.ret ((QR.1,(aK.mk x0.Code QR.2.At QR.2.aq))))))))
def qR (x0:Int) (x1:Int) (x2:Int):Option (Bool):=
 ak (S:=Unit) (((bif decide (x0 ≥ x1) then (some (decide (x0≤x2))) else (some (false))))>>=fun g3=>(some (Out.ret (g3))))
def mX (x0:Int) (x1:(List Int)) (ba:Int):Option (Out (Int) (Bool)):=
 (bif decide (ba < (x1.length:Int)) then ((((idx x1 (ba))>>=fun e11=>(bif decide (e11 < (0:Int)) then (some (true)) else ((idx x1 (ba))>>=fun uT=>(some (decide (uT ≥ x0)))))))>>=fun g9=>(bif g9 then (some (Out.ret (false))) else (some (Out.norm (aj (ba+(1:Int))))))) else (some (Out.exit 0 (ba))))
def kG (x0:Int) (x1:(List Int)):Option (Bool):=
 ak (S:=Unit) (ah (ae 0 (ai (mX x0 x1) ((0:Int)))) (fun ba=>(some (Out.ret (true)))))
def mK (x0:(List Int)) (x1:Int) (x2:Int):Option (Bool):=
 ak (S:=Unit) (((bif ((x0.length:Int)) == (x1) then ((kG (x2) x0)>>=fun y6=>(some (y6))) else (some (false))))>>=fun g3=>(some (Out.ret (g3))))
def mB (x0:aG) (cb:Int):Option (Out (Int) (Bool)):=
 (bif decide (cb < x0.aA) then ((((idx x0.aH (cb))>>=fun EE=>((idx x0.aD (EE))>>=fun e47=>(bif (e47) != (cb) then (some (true)) else ((idx x0.aH (cb))>>=fun Ob=>((idx x0.To (Ob))>>=fun Oh=>(some ((Oh) != (cb)))))))))>>=fun g43=>(bif g43 then (some (Out.ret (false))) else (some (Out.norm (aj (cb+(1:Int))))))) else (some (Out.exit 0 (cb))))
def mC (x0:aG) (p8:Int) (zG:Int):Option (Out (Int) (Bool)):=
 (bif decide (zG < (x0.aD.length:Int)) then ((idx x0.aB (p8))>>=fun W5=>((idx W5 (zG))>>=fun Ew=>((idx x0.To (p8))>>=fun BH=>((idx x0.aD (zG))>>=fun SG=>(bif (BH) != (SG) then (bif (Ew) != ((-1:Int)) then (some (Out.ret (false))) else (some (Out.norm (aj (zG+(1:Int)))))) else (((bif decide (Ew < (0:Int)) then (some (true)) else (bif decide (Ew ≥ (x0.aD.length:Int)) then (some (true)) else ((idx x0.aD (Ew))>>=fun Qi=>((idx x0.aD (p8))>>=fun adS=>(bif (Qi) != (adS) then (some (true)) else ((idx x0.To (Ew))>>=fun adT=>((idx x0.To (zG))>>=fun adU=>(some ((adT) != (adU)))))))))))>>=fun adV=>(bif adV then (some (Out.ret (false))) else (some (Out.norm (aj (zG+(1:Int)))))))))))) else (some (Out.exit 4 (zG))))
def pG (x0:aG) (p8:Int):Option (Out (Int) (Bool)):=
 (bif decide (p8 < (x0.aD.length:Int)) then ((idx x0.aB (p8))>>=fun W6=>(bif ((W6.length:Int)) != ((x0.aD.length:Int)) then (some (Out.ret (false))) else (ah (ae 4 (ai (mC x0 p8) ((0:Int)))) (fun zG=>(some (Out.norm (aj (p8+(1:Int))))))))) else (some (Out.exit 2 (p8))))
def pH (x0:aG):Option (Bool):=
 ak (S:=Unit) ((((qR (x0.aA) ((0:Int)) ((8:Int)))>>=fun W7=>(bif !(W7) then (some (true)) else (bif decide ((x0.aD.length:Int) > (40:Int)) then (some (true)) else ((mK x0.aD ((x0.aD.length:Int)) (x0.aA))>>=fun lh=>(bif !(lh) then (some (true)) else ((mK x0.To ((x0.aD.length:Int)) (x0.aA))>>=fun tv=>(bif !(tv) then (some (true)) else (some (((x0.aB.length:Int)) != ((x0.aD.length:Int))))))))))))>>=fun g10=>(bif g10 then (some (Out.ret (false))) else (((bif ((x0.aH.length:Int)) != (x0.aA) then (some (true)) else ((kG ((x0.aD.length:Int)) x0.aH)>>=fun GA=>(some (!(GA))))))>>=fun g27=>(bif g27 then (some (Out.ret (false))) else (ah (ae 0 (ai (mB x0) ((0:Int)))) (fun cb=>(ah (ae 2 (ai (pG x0) ((0:Int)))) (fun p8=>(some (Out.ret (true)))))))))))
def lH (x0:aG) (bw:Int):Option (Out (Int) (Int×Int×Int×Int)):=
 (bif decide (bw < (x0.aD.length:Int)) then ((((idx x0.aD (bw))>>=fun zf=>((idx x0.aH (zf))>>=fun GB=>((idx x0.aB (GB))>>=fun Iw=>((idx Iw (bw))>>=fun IZ=>(bif (IZ) != (bw) then (some (true)) else ((idx x0.aB (bw))>>=fun Oi=>((idx x0.To (bw))>>=fun I0=>((idx x0.aH (I0))>>=fun I1=>((idx Oi (I1))>>=fun W8=>(some ((W8) != (bw)))))))))))))>>=fun g16=>(bif g16 then (some (Out.ret ((((1:Int)),bw,((0:Int)),((0:Int)))))) else (some (Out.norm (aj (bw+(1:Int))))))) else (some (Out.exit 0 (bw))))
def jI (x0:aG) (dv:Int) (dq:Int) (ic:Int):Option (Out (Int) (Int×Int×Int×Int)):=
 (bif decide (ic < (x0.aD.length:Int)) then ((((idx x0.To (dq))>>=fun e82=>((idx x0.aD (ic))>>=fun W9=>(bif (e82) == (W9) then ((idx x0.aB (dv))>>=fun Xa=>((idx Xa (dq))>>=fun e94=>((idx x0.aB (e94))>>=fun WW=>((idx WW (ic))>>=fun Mp=>((idx x0.aB (dv))>>=fun adW=>((idx x0.aB (dq))>>=fun QS=>((idx QS (ic))>>=fun adX=>((idx adW (adX))>>=fun adY=>(some ((Mp) != (adY))))))))))) else (some (false))))))>>=fun Xb=>(bif Xb then (some (Out.ret ((((2:Int)),dv,dq,ic)))) else (some (Out.norm (aj (ic+(1:Int))))))) else (some (Out.exit 6 (ic))))
def jJ (x0:aG) (dv:Int) (dq:Int):Option (Out (Int) (Int×Int×Int×Int)):=
 (bif decide (dq < (x0.aD.length:Int)) then ((idx x0.To (dv))>>=fun KR=>((idx x0.aD (dq))>>=fun I2=>(bif (KR) != (I2) then (some (Out.norm (aj (dq+(1:Int))))) else (ah (ae 6 (ai (jI x0 dv dq) ((0:Int)))) (fun ic=>(some (Out.norm (aj (dq+(1:Int)))))))))) else (some (Out.exit 4 (dq))))
def oI (x0:aG) (dv:Int):Option (Out (Int) (Int×Int×Int×Int)):=
 (bif decide (dv < (x0.aD.length:Int)) then (ah (ae 4 (ai (jJ x0 dv) ((0:Int)))) (fun dq=>(some (Out.norm (aj (dv+(1:Int))))))) else (some (Out.exit 2 (dv))))
def nU (x0:aG):Option (Int×Int×Int×Int):=
 ak (S:=Unit) (ah (ae 0 (ai (lH x0) ((0:Int)))) (fun bw=>(ah (ae 2 (ai (oI x0) ((0:Int)))) (fun dv=>(some (Out.ret ((((0:Int)),((0:Int)),((0:Int)),((0:Int))))))))))
def pI (x0:aG):Option (Bool):=
 ak (S:=Unit) ((pH x0)>>=fun y8=>(bif !(y8) then (some (Out.ret (false))) else ((nU x0)>>=fun Xc=>(some (Out.ret (((Xc.1) == ((0:Int)))))))))
def qK (x0:aI) (ba:Int):Option (Out (Int) (Bool)):=
 (bif decide (ba < (x0.aC.aD.length:Int)) then ((((idx x0.ab (ba))>>=fun Xd=>((idx x0.aE.aD (Xd))>>=fun Di=>((idx x0.aC.aD (ba))>>=fun e74=>((idx x0.aA (e74))>>=fun Xe=>(bif (Di) != (Xe) then (some (true)) else ((idx x0.ab (ba))>>=fun KQ=>((idx x0.aE.To (KQ))>>=fun EB=>((idx x0.aC.To (ba))>>=fun e83=>((idx x0.aA (e83))>>=fun Xf=>(some ((EB) != (Xf)))))))))))))>>=fun g68=>(bif g68 then (some (Out.ret (false))) else (some (Out.norm (aj (ba+(1:Int))))))) else (some (Out.exit 0 (ba))))
def qL (x0:aI) (o6:Int):Option (Out (Int) (Bool)):=
 (bif decide (o6 < x0.aC.aA) then ((idx x0.aC.aH (o6))>>=fun QC=>((idx x0.ab (QC))>>=fun Ml=>((idx x0.aA (o6))>>=fun xk=>((idx x0.aE.aH (xk))>>=fun IC=>(bif (Ml) != (IC) then (some (Out.ret (false))) else (some (Out.norm (aj (o6+(1:Int)))))))))) else (some (Out.exit 2 (o6))))
def qM (x0:aI) (uA:Int) (DJ:Int):Option (Out (Int) (Bool)):=
 (bif decide (DJ < (x0.aC.aD.length:Int)) then ((((idx x0.aC.To (uA))>>=fun QT=>((idx x0.aC.aD (DJ))>>=fun adZ=>(bif (QT) == (adZ) then ((idx x0.aC.aB (uA))>>=fun QU=>((idx QU (DJ))>>=fun ad0=>((idx x0.ab (ad0))>>=fun ad1=>((idx x0.ab (uA))>>=fun Qd=>((idx x0.aE.aB (Qd))>>=fun ad2=>((idx x0.ab (DJ))>>=fun QV=>((idx ad2 (QV))>>=fun ad3=>(some ((ad1) != (ad3)))))))))) else (some (false))))))>>=fun ad4=>(bif ad4 then (some (Out.ret (false))) else (some (Out.norm (aj (DJ+(1:Int))))))) else (some (Out.exit 6 (DJ))))
def qN (x0:aI) (uA:Int):Option (Out (Int) (Bool)):=
 (bif decide (uA < (x0.aC.aD.length:Int)) then (ah (ae 6 (ai (qM x0 uA) ((0:Int)))) (fun DJ=>(some (Out.norm (aj (uA+(1:Int))))))) else (some (Out.exit 4 (uA))))
def mY (x0:aI):Option (Bool):=
 ak (S:=Unit) ((((pI x0.aC)>>=fun IK=>(bif !(IK) then (some (true)) else ((pI x0.aE)>>=fun Xg=>(bif !(Xg) then (some (true)) else (bif ((x0.aA.length:Int)) != (x0.aC.aA) then (some (true)) else (some (((x0.ab.length:Int)) != ((x0.aC.aD.length:Int))))))))))>>=fun g33=>(bif g33 then (some (Out.ret (false))) else ((((kG (x0.aE.aA) x0.aA)>>=fun WR=>(bif !(WR) then (some (true)) else ((kG ((x0.aE.aD.length:Int)) x0.ab)>>=fun y52=>(some (!(y52)))))))>>=fun g47=>(bif g47 then (some (Out.ret (false))) else (ah (ae 0 (ai (qK x0) ((0:Int)))) (fun ba=>(ah (ae 2 (ai (qL x0) ((0:Int)))) (fun o6=>(ah (ae 4 (ai (qN x0) ((0:Int)))) (fun uA=>(some (Out.ret (true)))))))))))))
def mL (x0:aK):Option (aI×aI×aK):=
 ak (S:=Unit) ((pF x0)>>=fun tv=>((bX (aK.mk x0.Code tv.2.At tv.2.aq) ((12:Int)))>>=fun DK=>(bif (DK.1) == ((0:Int)) then ((kU (aK.mk x0.Code DK.2.At DK.2.aq))>>=fun IQ=>(some (Out.ret ((tv.1,IQ.1,(aK.mk x0.Code IQ.2.At IQ.2.aq)))))) else ((mY tv.1)>>=fun ad5=>(bif !(ad5) then ((kU (aK.mk x0.Code DK.2.At DK.2.aq))>>=fun QW=>(some (Out.ret ((tv.1,QW.1,(aK.mk x0.Code QW.2.At QW.2.aq)))))) else ((bX (aK.mk x0.Code DK.2.At DK.2.aq) ((4:Int)))>>=fun I3=>(bif (I3.1) == ((0:Int)) then ((fU tv.1.aE)>>=fun ad6=>(some (Out.ret ((tv.1,ad6,(aK.mk x0.Code I3.2.At I3.2.aq)))))) else ((kV (aK.mk x0.Code I3.2.At I3.2.aq))>>=fun Ch=>((iL tv.1.aE Ch.1)>>=fun ad7=>(bif ad7 then ((kE tv.1.aE Ch.1)>>=fun QY=>(bif decide ((QY.length:Int) > (0:Int)) then ((bX (aK.mk x0.Code Ch.2.At Ch.2.aq) ((QY.length:Int)))>>=fun Mq=>((idx QY (Mq.1))>>=fun Zp=>(some (Out.ret ((tv.1,Zp,(aK.mk x0.Code Mq.2.At Mq.2.aq))))))) else ((jH (aK.mk x0.Code Ch.2.At Ch.2.aq) tv.1.aE ((4:Int)) ((10:Int)))>>=fun Mr=>(some (Out.ret ((tv.1,Mr.1,(aK.mk x0.Code Mr.2.At Mr.2.aq)))))))) else ((jH (aK.mk x0.Code Ch.2.At Ch.2.aq) tv.1.aE ((4:Int)) ((10:Int)))>>=fun Ms=>(some (Out.ret ((tv.1,Ms.1,(aK.mk x0.Code Ms.2.At Ms.2.aq))))))))))))))))
def iE (x0:(List Int)):Option (aI×aI):=
 ak (S:=Unit) ((oX x0)>>=fun lh=>(match lh with | none=>none | some m23=>((mL (aK.mk x0 m23.At m23.aq))>>=fun zi=>(some (Out.ret ((zi.1,zi.2.1)))))))
def dW (x0:aG):Option (Int):=
 ak (S:=Unit) (some (Out.ret (((x0.aD.length:Int)))))
def kW (x0:Int) (x1:Int) (x2:Int):Option (Bool):=
 ak (S:=Unit) (((bif decide (x0 ≥ x1) then (some (decide (x0≤x2))) else (some (false))))>>=fun g3=>(some (Out.ret (g3))))
def mZ (x0:(List Int)) (x1:Int) (gp:Int):Option (Out (Int) (Bool)):=
 (bif decide (gp < (x0.length:Int)) then ((idx x0 (gp))>>=fun e9=>((kW (e9) ((0:Int)) (aj (x1 - (1:Int))))>>=fun Xh=>(bif !(Xh) then (some (Out.ret (false))) else (some (Out.norm (aj (gp+(1:Int)))))))) else (some (Out.exit 0 (gp))))
def iW (x0:(List Int)) (x1:Int):Option (Bool):=
 ak (S:=Unit) (ah (ae 0 (ai (mZ x0 x1) ((0:Int)))) (fun gp=>(some (Out.ret (true)))))
def iA (x0:aG) (x1:Int):Option (sK):=
 ak (S:=Unit) ((idx x0.aD (x1))>>=fun e8=>((idx x0.To (x1))>>=fun Oe=>(some (Out.ret ((sK.mk e8 Oe))))))
def fV (x0:aG) (AZ:Int):Option (Out (Int) (Bool)):=
 (bif decide (AZ < (x0.aH.length:Int)) then ((idx x0.aH (AZ))>>=fun I1=>((iA x0 (I1))>>=fun y45=>(bif !((y45.aD) == (AZ) && (y45.To) == (AZ)) then (some (Out.ret (false))) else (some (Out.norm (aj (AZ+(1:Int)))))))) else (some (Out.exit 0 (AZ))))
def fW (x0:aG) (y3:Int) (vp:Int) (Oj:(List Int)) (wU:Int):Option (Out (Int) (Bool)):=
 (bif decide (wU < (Oj.length:Int)) then ((idx Oj (wU))>>=fun EB=>((idx x0.To (vp))>>=fun Xf=>((idx x0.aD (wU))>>=fun Xa=>(bif (Xf) != (Xa) then (bif (EB) != ((-1:Int)) then (some (Out.ret (false))) else (some (Out.norm (aj (wU+(1:Int)))))) else ((((kW (EB) ((0:Int)) (aj (y3 - (1:Int))))>>=fun ad8=>(bif !(ad8) then (some (true)) else ((iA x0 (EB))>>=fun Xi=>((idx x0.aD (vp))>>=fun Ml=>((idx x0.To (wU))>>=fun xk=>(some (!((Xi.aD) == (Ml) && (Xi.To) == (xk))))))))))>>=fun g99=>(bif g99 then (some (Out.ret (false))) else (some (Out.norm (aj (wU+(1:Int))))))))))) else (some (Out.exit 4 (wU))))
def jK (x0:aG) (y3:Int) (vp:Int):Option (Out (Int) (Bool)):=
 (bif decide (vp < (x0.aB.length:Int)) then ((idx x0.aB (vp))>>=fun Oj=>(bif ((Oj.length:Int)) != (y3) then (some (Out.ret (false))) else (ah (ae 4 (ai (fW x0 y3 vp Oj) ((0:Int)))) (fun wU=>(some (Out.norm (aj (vp+(1:Int))))))))) else (some (Out.exit 2 (vp))))
def iG (x0:aG):Option (Bool):=
 ak (S:=Unit) ((dW x0)>>=fun y3=>((((kW (x0.aA) ((0:Int)) ((8:Int)))>>=fun y9=>(bif !(y9) then (some (true)) else (bif decide (y3 > (40:Int)) then (some (true)) else (bif ((x0.To.length:Int)) != (y3) then (some (true)) else ((iW x0.aD (x0.aA))>>=fun I4=>(bif !(I4) then (some (true)) else ((iW x0.To (x0.aA))>>=fun zZ=>(some (!(zZ)))))))))))>>=fun g7=>(bif g7 then (some (Out.ret (false))) else (((bif ((x0.aH.length:Int)) != (x0.aA) then (some (true)) else ((iW x0.aH (y3))>>=fun tu=>(bif !(tu) then (some (true)) else (some (((x0.aB.length:Int)) != (y3)))))))>>=fun g24=>(bif g24 then (some (Out.ret (false))) else (ah (ae 0 (ai (fV x0) ((0:Int)))) (fun AZ=>(ah (ae 2 (ai (jK x0 y3) ((0:Int)))) (fun vp=>(some (Out.ret (true))))))))))))
def dJ (x0:aG) (x1:Int) (x2:Int):Option (Int):=
 ak (S:=Unit) ((idx x0.aB (x1))>>=fun e3=>((idx e3 (x2))>>=fun Oe=>(some (Out.ret (Oe)))))
def gY (x0:aG) (y3:Int) (bw:Int):Option (Out (Int) (Int×Int×Int×Int)):=
 (bif decide (bw < y3) then ((((idx x0.aD (bw))>>=fun Ol=>((idx x0.aH (Ol))>>=fun Xj=>((dJ x0 (Xj) (bw))>>=fun tv=>(bif (tv) != (bw) then (some (true)) else ((idx x0.To (bw))>>=fun Iw=>((idx x0.aH (Iw))>>=fun e24=>((dJ x0 (bw) (e24))>>=fun zW=>(some ((zW) != (bw)))))))))))>>=fun g13=>(bif g13 then (some (Out.ret ((((1:Int)),bw,((0:Int)),((0:Int)))))) else (some (Out.norm (aj (bw+(1:Int))))))) else (some (Out.exit 0 (bw))))
def fF (x0:aG) (y3:Int) (dv:Int) (dq:Int) (ic:Int):Option (Out (Int) (Int×Int×Int×Int)):=
 (bif decide (ic < y3) then ((((dJ x0 (dq) (ic))>>=fun y63=>(bif decide (y63 ≥ (0:Int)) then ((dJ x0 (dv) (dq))>>=fun y66=>((dJ x0 (y66) (ic))>>=fun y68=>((dJ x0 (dq) (ic))>>=fun y70=>((dJ x0 (dv) (y70))>>=fun Xk=>(some ((y68) != (Xk))))))) else (some (false)))))>>=fun g61=>(bif g61 then (some (Out.ret ((((2:Int)),dv,dq,ic)))) else (some (Out.norm (aj (ic+(1:Int))))))) else (some (Out.exit 6 (ic))))
def fG (x0:aG) (y3:Int) (dv:Int) (dq:Int):Option (Out (Int) (Int×Int×Int×Int)):=
 (bif decide (dq < y3) then ((dJ x0 (dv) (dq))>>=fun Dh=>(bif decide (Dh < (0:Int)) then (some (Out.norm (aj (dq+(1:Int))))) else (ah (ae 6 (ai (fF x0 y3 dv dq) ((0:Int)))) (fun ic=>(some (Out.norm (aj (dq+(1:Int))))))))) else (some (Out.exit 4 (dq))))
def kH (x0:aG) (y3:Int) (dv:Int):Option (Out (Int) (Int×Int×Int×Int)):=
 (bif decide (dv < y3) then (ah (ae 4 (ai (fG x0 y3 dv) ((0:Int)))) (fun dq=>(some (Out.norm (aj (dv+(1:Int))))))) else (some (Out.exit 2 (dv))))
def jN (x0:aG):Option (Int×Int×Int×Int):=
 ak (S:=Unit) ((dW x0)>>=fun y3=>(ah (ae 0 (ai (gY x0 y3) ((0:Int)))) (fun bw=>(ah (ae 2 (ai (kH x0 y3) ((0:Int)))) (fun dv=>(some (Out.ret ((((0:Int)),((0:Int)),((0:Int)),((0:Int)))))))))))
def fX (x0:aG):Option (Bool):=
 ak (S:=Unit) ((iG x0)>>=fun y3=>(bif !(y3) then (some (Out.ret (false))) else ((jN x0)>>=fun cy=>(some (Out.ret (((cy.1) == ((0:Int)))))))))
def iI (x0:(List aG)) (bw:Int):Option (Out (Int) (Bool)):=
 (bif decide (bw < (x0.length:Int)) then ((idx x0 (bw))>>=fun e9=>((fX e9)>>=fun db=>(bif !(db) then (some (Out.ret (false))) else (some (Out.norm (aj (bw+(1:Int)))))))) else (some (Out.exit 0 (bw))))
def jU (x0:(List aG)):Option (Bool):=
 ak (S:=Unit) (ah (ae 0 (ai (iI x0) ((0:Int)))) (fun bw=>(some (Out.ret (true)))))
def lJ (x0:aI) (A0:Int):Option (Out (Int) (Bool)):=
 (bif decide (A0 < (x0.ab.length:Int)) then ((idx x0.ab (A0))>>=fun Iy=>((((idx x0.aE.aD (Iy))>>=fun Om=>((idx x0.aC.aD (A0))>>=fun I0=>((idx x0.aA (I0))>>=fun I1=>(bif (Om) != (I1) then (some (true)) else ((idx x0.aE.To (Iy))>>=fun I5=>((idx x0.aC.To (A0))>>=fun Ev=>((idx x0.aA (Ev))>>=fun On=>(some ((I5) != (On)))))))))))>>=fun g35=>(bif g35 then (some (Out.ret (false))) else (some (Out.norm (aj (A0+(1:Int)))))))) else (some (Out.exit 0 (A0))))
def lK (x0:aI) (z6:Int):Option (Out (Int) (Bool)):=
 (bif decide (z6 < (x0.aC.aH.length:Int)) then ((idx x0.aC.aH (z6))>>=fun e64=>((idx x0.ab (e64))>>=fun W6=>((idx x0.aA (z6))>>=fun Xd=>((idx x0.aE.aH (Xd))>>=fun Di=>(bif (W6) != (Di) then (some (Out.ret (false))) else (some (Out.norm (aj (z6+(1:Int)))))))))) else (some (Out.exit 2 (z6))))
def lL (x0:aI) (wV:Int) (BF:(List Int)) (z7:Int):Option (Out (Int) (Bool)):=
 (bif decide (z7 < (BF.length:Int)) then ((idx BF (z7))>>=fun Mp=>(((bif decide (Mp ≥ (0:Int)) then ((idx x0.ab (Mp))>>=fun IC=>((idx x0.ab (wV))>>=fun QS=>((idx x0.ab (z7))>>=fun Qt=>((dJ x0.aE (QS) (Qt))>>=fun ad9=>(some ((IC) != (ad9))))))) else (some (false))))>>=fun aea=>(bif aea then (some (Out.ret (false))) else (some (Out.norm (aj (z7+(1:Int)))))))) else (some (Out.exit 6 (z7))))
def lM (x0:aI) (wV:Int):Option (Out (Int) (Bool)):=
 (bif decide (wV < (x0.aC.aB.length:Int)) then ((idx x0.aC.aB (wV))>>=fun BF=>(ah (ae 6 (ai (lL x0 wV BF) ((0:Int)))) (fun z7=>(some (Out.norm (aj (wV+(1:Int)))))))) else (some (Out.exit 4 (wV))))
def kJ (x0:aI):Option (Bool):=
 ak (S:=Unit) (((bif ((x0.aA.length:Int)) != (x0.aC.aA) then (some (true)) else ((dW x0.aC)>>=fun cy=>(bif ((x0.ab.length:Int)) != (cy) then (some (true)) else ((iW x0.aA (x0.aE.aA))>>=fun Xh=>(bif !(Xh) then (some (true)) else ((dW x0.aE)>>=fun lh=>((iW x0.ab (lh))>>=fun um=>(some (!(um)))))))))))>>=fun g7=>(bif g7 then (some (Out.ret (false))) else (ah (ae 0 (ai (lJ x0) ((0:Int)))) (fun A0=>(ah (ae 2 (ai (lK x0) ((0:Int)))) (fun z6=>(ah (ae 4 (ai (lM x0) ((0:Int)))) (fun wV=>(some (Out.ret (true)))))))))))
def fH (x0:aI):Option (Bool):=
 ak (S:=Unit) ((((jU [x0.aC,x0.aE])>>=fun I4=>(bif I4 then ((kJ x0)>>=fun zZ=>(some (zZ))) else (some (false)))))>>=fun g12=>(some (Out.ret (g12))))
def jO (x0:(List aI)) (bw:Int):Option (Out (Int) (Bool)):=
 (bif decide (bw < (x0.length:Int)) then ((idx x0 (bw))>>=fun e9=>((fH e9)>>=fun IK=>(bif !(IK) then (some (Out.ret (false))) else (some (Out.norm (aj (bw+(1:Int)))))))) else (some (Out.exit 0 (bw))))
def lN (x0:(List aI)):Option (Bool):=
 ak (S:=Unit) (ah (ae 0 (ai (jO x0) ((0:Int)))) (fun bw=>(some (Out.ret (true)))))
def fY (x0:(List Int)) (x1:(List Int)) (je:Int):Option (Out (Int) (Int)):=
 (bif decide (je < (x0.length:Int)) then (bif (je) == ((x1.length:Int)) then (some (Out.ret (((1:Int))))) else ((idx x0 (je))>>=fun Ey=>((idx x1 (je))>>=fun zf=>(bif (Ey) != (zf) then ((idx x0 (je))>>=fun IJ=>((idx x1 (je))>>=fun Gy=>(bif decide (IJ < Gy) then (some (Out.ret (((-1:Int))))) else (some (Out.ret (((1:Int)))))))) else (some (Out.norm (aj (je+(1:Int))))))))) else (some (Out.exit 0 (je))))
def qT (x0:(List Int)) (x1:(List Int)):Option (Int):=
 ak (S:=Unit) (ah (ae 0 (ai (fY x0 x1) ((0:Int)))) (fun je=>(bif decide ((x0.length:Int) < (x1.length:Int)) then (some (Out.ret (((-1:Int))))) else (some (Out.ret (((0:Int))))))))
def mM (x0:(List Int)) (x1:(List Int)):Option (Bool):=
 ak (S:=Unit) ((qT x0 x1)>>=fun y3=>(some (Out.ret (((y3) == ((0:Int)))))))
def iQ (x0:aG) (x1:aG) (CM:Int):Option (Out (Int) (Bool)):=
 (bif decide (CM < (x0.aB.length:Int)) then ((idx x0.aB (CM))>>=fun e28=>((idx x1.aB (CM))>>=fun Of=>((mM e28 Of)>>=fun tJ=>(bif !(tJ) then (some (Out.ret (false))) else (some (Out.norm (aj (CM+(1:Int))))))))) else (some (Out.exit 0 (CM))))
def kK (x0:aG) (x1:aG):Option (Bool):=
 ak (S:=Unit) (((bif (x0.aA) != (x1.aA) then (some (true)) else ((mM x0.aD x1.aD)>>=fun y6=>(bif !(y6) then (some (true)) else ((mM x0.To x1.To)>>=fun y9=>(bif !(y9) then (some (true)) else ((mM x0.aH x1.aH)>>=fun W7=>(bif !(W7) then (some (true)) else (some (((x0.aB.length:Int)) != ((x1.aB.length:Int))))))))))))>>=fun g3=>(bif g3 then (some (Out.ret (false))) else (ah (ae 0 (ai (iQ x0 x1) ((0:Int)))) (fun CM=>(some (Out.ret (true)))))))
def eP (x0:(List Int)):Option ((List Int)):=
 ak (S:=Unit) ((fits 8 ((([]:(List Int))).length+x0.length))>>=fun n15=>(some (Out.ret ((([]:(List Int))++x0)))))
def eQ (x0:Int) (x1:Int) (x2:aG):Option (Int):=
 ak (S:=Unit) ((dJ x2 (x1) (x0))>>=fun y3=>(some (Out.ret (y3))))
def kI (x0:aG) (x1:(Int→Int→Option (Int))) (qe:Int) (IL:(List Int)) (tT:Int) (yz:(List (List Int))):Option (Out (Int×(List (List Int))) (aG)):=
 (bif decide (tT < (IL.length:Int)) then ((idx yz (qe))>>=fun Di=>((idx Di (tT))>>=fun KQ=>((idx x0.To (qe))>>=fun SF=>((idx x0.aD (tT))>>=fun BH=>(bif (SF) == (BH) then ((idx (yz.set (qe).toNat (Di.set (tT).toNat ((-1:Int)))) (qe))>>=fun Ft=>((x1 (qe) (tT))>>=fun aeb=>((idx Ft (tT))>>=fun ado=>(some (Out.norm (aj (tT+(1:Int)),(yz.set (qe).toNat (Di.set (tT).toNat ((-1:Int)))).set (qe).toNat (Ft.set (tT).toNat (aeb)))))))) else (some (Out.norm (aj (tT+(1:Int)),yz.set (qe).toNat (Di.set (tT).toNat ((-1:Int))))))))))) else (some (Out.exit 2 (tT,yz))))
def fI (x0:aG) (x1:(Int→Int→Option (Int))) (y7:Int) (n11:Nat) (qe:Int) (z8:(List (List Int))):Option (Out (Int×(List (List Int))) (aG)):=
 (bif decide (qe < ((List.replicate n11 ([]:(List Int))).length:Int)) then ((mk 8 (y7))>>=fun n35=>((idx z8 (qe))>>=fun EE=>((idx (z8.set (qe).toNat (List.replicate n35 (0:Int))) (qe))>>=fun IL=>(ah (ae 2 (ai (fun s=>kI x0 x1 qe IL s.1 s.2) ((0:Int),z8.set (qe).toNat (List.replicate n35 (0:Int))))) (fun (tT,yz)=>(some (Out.norm (aj (qe+(1:Int)),yz)))))))) else (some (Out.exit 0 (qe,z8))))
def gH (x0:aG) (x1:(Int→Int→Option (Int))):Option (aG):=
 E8 (R:=(aG)) ((dW x0)>>=fun y7=>((mk 24 (y7))>>=fun n11=>(ah (ae 0 (ai (fun s=>fI x0 x1 y7 n11 s.1 s.2) ((0:Int),List.replicate n11 ([]:(List Int))))) (fun (qe,z8)=>(some (Out.norm ((aG.mk x0.aA x0.aD x0.To x0.aH z8))))))))
def lS (x0:aG):Option (aG):=
 ak (S:=Unit) ((eP x0.To)>>=fun jg=>((eP x0.aD)>>=fun Gw=>((eP x0.aH)>>=fun Dh=>((gH (aG.mk x0.aA jg Gw Dh (([]:(List (List Int))))) (fun a0 a1=>eQ (a0) (a1) x0))>>=fun xy=>(some (Out.ret ((aG.mk xy.aA jg Gw Dh xy.aB))))))))
def kX (x0:(List (List Int))) (ie:(List (List Int))) (fi:Int):Option (Out ((List (List Int))×Int) ((List (List Int)))):=
 (bif decide (fi < (x0.length:Int)) then ((idx x0 (fi))>>=fun GB=>((eP GB)>>=fun IY=>((fits 24 (ie.length+1))>>=fun n53=>(some (Out.norm (ie++[IY],aj (fi+(1:Int)))))))) else (some (Out.exit 0 (ie,fi))))
def qH (x0:(List (List Int))):Option ((List (List Int))):=
 ak (S:=Unit) ((mk 24 ((x0.length:Int)))>>=fun n3=>(ah (ae 0 (ai (fun s=>kX x0 s.1 s.2) (([]:(List (List Int))),(0:Int)))) (fun (ie,fi)=>(some (Out.ret (ie))))))
def iB (x0:aG):Option (aG):=
 ak (S:=Unit) ((eP x0.aD)>>=fun y8=>((eP x0.To)>>=fun zZ=>((eP x0.aH)>>=fun tu=>((qH x0.aB)>>=fun Xg=>(some (Out.ret ((aG.mk x0.aA y8 zZ tu Xg))))))))
def mN (x0:aG) (x1:aG) (x2:(List Int)) (x3:(List Int)):Option (aI):=
 ak (S:=Unit) ((iB x0)>>=fun y8=>((iB x1)>>=fun IK=>((eP x2)>>=fun Xl=>((eP x3)>>=fun IB=>(some (Out.ret ((aI.mk y8 IK Xl IB))))))))
def eR (x0:aI):Option (aI):=
 ak (S:=Unit) ((lS x0.aC)>>=fun y9=>((lS x0.aE)>>=fun Oc=>((mN y9 Oc x0.aA x0.ab)>>=fun aec=>(some (Out.ret (aec))))))
def mO (x0:(List Int)) (x1:(List Int)) (A3:Int) (EG:(List Int)):Option (Out (Int×(List Int)) ((List Int))):=
 (bif decide (A3 < (x0.length:Int)) then ((idx x0 (A3))>>=fun Xj=>((idx x1 (Xj))>>=fun Cb=>((idx EG (A3))>>=fun IJ=>(some (Out.norm (aj (A3+(1:Int)),EG.set (A3).toNat (Cb))))))) else (some (Out.exit 0 (A3,EG))))
def oV (x0:(List Int)) (x1:(List Int)):Option ((List Int)):=
 ak (S:=Unit) ((mk 8 ((x0.length:Int)))>>=fun n3=>(ah (ae 0 (ai (fun s=>mO x0 x1 s.1 s.2) ((0:Int),List.replicate n3 (0:Int)))) (fun (A3,EG)=>(some (Out.ret (EG))))))
def kL (x0:aI) (x1:aI):Option (aI):=
 ak (S:=Unit) ((oV x0.aA x1.aA)>>=fun cy=>((oV x0.ab x1.ab)>>=fun tv=>((mN x0.aC x1.aE cy tv)>>=fun IY=>(some (Out.ret (IY))))))
def eG (x0:List Int) (x1:List bG) (x2:Int):Option (Bool×List bG):=
 ak (S:=Unit) ((eP x0)>>=fun y8=>((fits 32 (x1.length+1))>>=fun n11=>(some (Out.ret (decide (((x1++[bG.mk x2 y8]).length:Int)≤(400:Int)),x1++[bG.mk x2 y8])))))
def fZ (x0:aG) (x1:Int) (x2:Int) (bw:(List Int)) (zj:Int):Option (Out ((List Int)×Int) ((List Int))):=
 (bif decide (zj < (x0.aD.length:Int)) then ((((idx x0.aD (zj))>>=fun Iw=>(bif (Iw) == (x1) then ((idx x0.To (zj))>>=fun Gy=>(some ((Gy) == (x2)))) else (some (false)))))>>=fun g20=>(bif g20 then ((fits 8 (bw.length+1))>>=fun n44=>(some (Out.norm (bw++[zj],aj (zj+(1:Int)))))) else (some (Out.norm (bw,aj (zj+(1:Int))))))) else (some (Out.exit 0 (bw,zj))))
def iO (x0:aG) (x1:Int) (x2:Int):Option ((List Int)):=
 ak (S:=Unit) (ah (ae 0 (ai (fun s=>fZ x0 x1 x2 s.1 s.2) (([]:(List Int)),(0:Int)))) (fun (bw,zj)=>(some (Out.ret (bw)))))
def nA {ρ:Type} (x0:aI) (x:Int) (cs:List Int) (s:Int):Option (Out Int ρ):=
 (bif decide (s < (x0.ab.length:Int)) then ((idx x0.ab (s))>>=fun SE=>((idx x0.aC.aD (s))>>=fun Oo=>((idx x0.aC.To (s))>>=fun I2=>((bif (if I2 > Oo then I2 else Oo) == (x) then ((idx cs (Oo))>>=fun Xm=>((dJ x0.aE (Xm) (SE))>>=fun y80=>((idx cs (I2))>>=fun W9=>(some ((y80) != (W9)))))) else (some (false)))>>=fun Xn=>(bif Xn then (some (Out.exit 1 s)) else (some (Out.norm (aj (s+(1:Int)))))))))) else (some (Out.exit 2 s)))
def kY {σ:Type} (rc:Int→List Int→σ→Option (Bool×List Int×σ)) (x0:aI) (x:Int) (l:List Int) (s:Int×List Int×σ):Option (Out (Int×List Int×σ) (Bool×List Int×σ)):=
 (bif decide (s.1 < (l.length:Int)) then ((idx l (s.1))>>=fun I0=>((idx s.2.1 (x))>>=fun _=>(Gr 2 1 (ai (fun s2=>nA x0 x (s.2.1.set (x).toNat (I0)) s2) (0:Int)) (fun _=>((rc (aj (x+(1:Int))) (s.2.1.set (x).toNat (I0)) s.2.2)>>=fun Oq=>(bif !(Oq.1) then (some (Out.ret (false,Oq.2.1,Oq.2.2))) else (some (Out.norm (aj (s.1+(1:Int)),Oq.2.1,Oq.2.2)))))) (fun _=>(some (Out.norm (aj (s.1+(1:Int)),s.2.1.set (x).toNat (I0),s.2.2))))))) else (some (Out.exit 0 s)))
def nV {σ:Type} (fo:List Int→σ→Option (Bool×σ)) (x0:aI) (xa:Int) (rc:Int→List Int→σ→Option (Bool×List Int×σ)) (x:Int) (cs:List Int) (st:σ):Option (Bool×List Int×σ):=
 ak (S:=Unit) (bif (x) == (x0.aC.aA) then ((fo cs st)>>=fun vq=>(some (Out.ret (vq.1,cs,vq.2)))) else ((idx x0.aA (x))>>=fun WU=>((iO x0.aE (xa) (WU))>>=fun y34=>(ah (ae 0 (ai (fun s=>kY rc x0 x y34 s) ((0:Int),cs,st))) (fun s=>(some (Out.ret (true,s.2.1,s.2.2))))))))
def fJ {σ:Type} (fo:List Int→σ→Option (Bool×σ)) (x0:aI) (xa:Int):Nat→Int→List Int→σ→Option (Bool×List Int×σ)
 | 0=>fun _ _ _=>none
 | n+1=>nV fo x0 xa (fJ fo x0 xa n)
def rB {σ:Type} (fo:List Int→σ→Option (Bool×σ)) (x0:aI) (xa:Int) (st:σ):Option (Bool×σ):=
 ak (S:=Unit) ((mk 8 (x0.aA.length:Int))>>=fun n22=>((fJ fo x0 xa 64 (0:Int) (List.replicate n22 (0:Int)) st)>>=fun jg=>(some (Out.ret (jg.1,jg.2.2)))))
def oJ (x0:aI) (s:Int×List bG):Option (Out (Int×List bG) (List bG×Bool)):=
 (bif decide (s.1 < (x0.aE.aA)) then ((rB (fun a0 a1=>eG a0 a1 s.1) x0 (s.1) s.2)>>=fun KP=>(bif !(KP.1) then (some (Out.ret (([]:List bG),false))) else (some (Out.norm (aj (s.1+(1:Int)),KP.2))))) else (some (Out.exit 0 s)))
def iM (x0:aI):Option (List bG×Bool):=
 ak (S:=Unit) (ah (ae 0 (ai (fun s=>oJ x0 s) ((0:Int),([]:List bG)))) (fun s=>(some (Out.ret (s.2,true)))))
def jL (x0 x1:aI):Option (dZ×Bool):=
 ak (S:=Unit) ((kL x0 x1)>>=fun I4=>((iM x0)>>=fun db=>((iM I4)>>=fun zi=>(bif db.2 then (some (Out.ret (dZ.mk x0 I4 x1 db.1 zi.1,zi.2))) else (some (Out.ret (dZ.mk x0 I4 x1 db.1 zi.1,false)))))))
def fM (x0 x1:aI) (x2:Bool):Option (Option dZ×Int):=
 ak (S:=Unit) ((lN [x0,x1])>>=fun Xc=>(bif !(Xc) then (some (Out.ret (none,(1:Int)))) else ((kK x0.aE x1.aC)>>=fun db=>(bif !(db) then (some (Out.ret (none,(5:Int)))) else (bif x2 then ((eR x0)>>=fun tu=>((eR x1)>>=fun IY=>((jL tu IY)>>=fun zi=>(bif !(zi.2) then (some (Out.ret (none,(3:Int)))) else (some (Out.ret (some zi.1,(0:Int)))))))) else ((jL x0 x1)>>=fun zi=>(bif !(zi.2) then (some (Out.ret (none,(3:Int)))) else (some (Out.ret (some zi.1,(0:Int)))))))))))
def oL (x0:aI) (x1 x2:bG) (u:Int) (s:Int):Option (Out Int (List Int)):=
 (bif decide (s < (x2.br.length:Int)) then ((idx x2.br (s))>>=fun Of=>((dJ x0.aE (u) (Of))>>=fun BG=>((idx x1.br (s))>>=fun I5=>(bif (BG) != (I5) then (some (Out.exit 1 s)) else (some (Out.norm (aj (s+(1:Int))))))))) else (some (Out.exit 2 s)))
def jM (x0:aI) (x1 x2:bG) (l:List Int) (s:List Int×Int):Option (Out (List Int×Int) (List Int)):=
 (bif decide (s.2 < (l.length:Int)) then ((idx l (s.2))>>=fun Gx=>(Gr 2 1 (ai (fun s2=>oL x0 x1 x2 Gx s2) (0:Int)) (fun _=>((fits 8 (s.1.length+1))>>=fun n50=>(some (Out.norm (s.1++[Gx],aj (s.2+(1:Int))))))) (fun _=>(some (Out.norm (s.1,aj (s.2+(1:Int)))))))) else (some (Out.exit 0 s)))
def nW (x0:aI) (x1 x2:bG):Option (List Int):=
 ak (S:=Unit) ((iO x0.aE (x1.dy) (x2.dy))>>=fun Xo=>(ah (ae 0 (ai (fun s=>jM x0 x1 x2 Xo s) (([]:List Int),(0:Int)))) (fun s=>(some (Out.ret (s.1))))))
def jP (x0:aI) (x1:(List bG)) (x2:bG) (fi:Int):Option (Out (Int) (Bool)):=
 (bif decide (fi < (x1.length:Int)) then ((idx x1 (fi))>>=fun uT=>((nW x0 uT x2)>>=fun GC=>(bif ((GC.length:Int)) != ((1:Int)) then (some (Out.ret (false))) else (some (Out.norm (aj (fi+(1:Int)))))))) else (some (Out.exit 0 (fi))))
def eH (x0:aI) (x1:(List bG)) (x2:bG):Option (Bool):=
 ak (S:=Unit) (ah (ae 0 (ai (jP x0 x1 x2) ((0:Int)))) (fun fi=>(some (Out.ret (true)))))
def gA (x0:dZ) (s:List bG×Int):Option (Out (List bG×Int) (List bG)):=
 (bif decide (s.2 < (x0.wR.length:Int)) then ((idx x0.wR (s.2))>>=fun uT=>((eH x0.D x0.wR uT)>>=fun vq=>(bif vq then ((fits 32 (s.1.length+1))>>=fun n28=>(some (Out.norm (s.1++[uT],aj (s.2+(1:Int)))))) else (some (Out.norm (s.1,aj (s.2+(1:Int)))))))) else (some (Out.exit 0 s)))
def kM (x0:dZ):Option ((List bG)):=
 ak (S:=Unit) (ah (ae 0 (ai (fun s=>gA x0 s) (([]:List bG),(0:Int)))) (fun s=>(some (Out.ret (s.1)))))
def kZ (x0:bG) (x1:aI):Option (bG):=
 ak (S:=Unit) ((idx x1.aA (x0.dy))>>=fun Ey=>((oV x0.br x1.ab)>>=fun um=>(some (Out.ret ((bG.mk Ey um))))))
def fN (x0:dZ) (x1:bG):Option (Bool):=
 ak (S:=Unit) ((kZ x1 x0.F)>>=fun y9=>((eH x0.bh x0.xi y9)>>=fun tv=>(some (Out.ret (tv)))))
def fL (x0:dZ):Option (Bool×Bool):=
 ak (S:=Unit) ((kM x0)>>=fun y3=>(bif ((y3.length:Int)) == ((0:Int)) then (some (Out.ret ((false,false)))) else ((idx y3 ((0:Int)))>>=fun zf=>((fN x0 zf)>>=fun db=>(some (Out.ret ((db,true))))))))
def jA (x0 x1:aI) (x2:Bool):Option (Bool×Int):=
 ak (S:=Unit) ((fM x0 x1 x2)>>=fun lh=>(match lh.1 with | none=>(bif (lh.2) != ((0:Int)) then (some (Out.ret (false,lh.2))) else none) | some m=>(bif (lh.2) != ((0:Int)) then (some (Out.ret (false,lh.2))) else ((fL m)>>=fun vq=>(bif !(vq.2) then (some (Out.ret (false,(4:Int)))) else (some (Out.ret (vq.1,(0:Int)))))))))
def kN (x0:aI) (x1:aI):Option (Bool×Int):=
 ak (S:=Unit) ((jA x0 x1 (true))>>=fun lh=>(some (Out.ret ((lh.1,lh.2)))))
def rZ (x0:(List (List Int))) (x1:(List (List Int))) (ba:Int):Option (Out (Int) (Bool)):=
 (bif decide (ba < (x0.length:Int)) then ((idx x0 (ba))>>=fun uT=>((idx x1 (ba))>>=fun Cb=>((eS uT Cb)>>=fun GD=>(bif !(GD) then (some (Out.ret (false))) else (some (Out.norm (aj (ba+(1:Int))))))))) else (some (Out.exit 0 (ba))))
def qO (x0:(List (List Int))) (x1:(List (List Int))):Option (Bool):=
 ak (S:=Unit) (bif ((x0.length:Int)) != ((x1.length:Int)) then (some (Out.ret (false))) else (ah (ae 0 (ai (rZ x0 x1) ((0:Int)))) (fun ba=>(some (Out.ret (true))))))
def pJ (x0:aG) (x1:aG):Option (Bool):=
 ak (S:=Unit) (((bif (x0.aA) == (x1.aA) then ((eS x0.aD x1.aD)>>=fun tv=>(bif tv then ((eS x0.To x1.To)>>=fun Xo=>(bif Xo then ((eS x0.aH x1.aH)>>=fun jg=>(bif jg then ((qO x0.aB x1.aB)>>=fun GD=>(some (GD))) else (some (false)))) else (some (false)))) else (some (false)))) else (some (false))))>>=fun g16=>(some (Out.ret (g16))))
def jV (x0:(List Int)) (x1:(List Int)) (ba:(List Int)) (gn:Int):Option (Out ((List Int)×Int) ((List Int))):=
 (bif decide (gn < (x0.length:Int)) then ((idx x0 (gn))>>=fun zf=>((idx x1 (zf))>>=fun GB=>((fits 8 (ba.length+1))>>=fun n36=>(some (Out.norm (ba++[GB],aj (gn+(1:Int)))))))) else (some (Out.exit 0 (ba,gn))))
def lA (x0:(List Int)) (x1:(List Int)):Option ((List Int)):=
 ak (S:=Unit) (ah (ae 0 (ai (fun s=>jV x0 x1 s.1 s.2) (([]:(List Int)),(0:Int)))) (fun (ba,gn)=>(some (Out.ret (ba)))))
def pK (x0:aI) (x1:aI):Option (aI):=
 ak (S:=Unit) ((lA x0.aA x1.aA)>>=fun jg=>((lA x0.ab x1.ab)>>=fun Gw=>((hY x0.aC x1.aE jg Gw)>>=fun Dh=>(some (Out.ret (Dh))))))
def qU (x0:aI) (x1:aI):Option (aI×Int):=
 ak (S:=Unit) ((((mY x0)>>=fun tu=>(bif !(tu) then (some (true)) else ((mY x1)>>=fun GA=>(some (!(GA)))))))>>=fun EA=>(bif EA then (some (Out.ret (((aI.mk (aG.mk ((0:Int)) ([]) ([]) ([]) ([])) (aG.mk ((0:Int)) ([]) ([]) ([]) ([])) ([]) ([])),((1:Int)))))) else ((pJ x0.aE x1.aC)>>=fun BG=>(bif !(BG) then (some (Out.ret (((aI.mk (aG.mk ((0:Int)) ([]) ([]) ([]) ([])) (aG.mk ((0:Int)) ([]) ([]) ([]) ([])) ([]) ([])),((5:Int)))))) else ((pK x0 x1)>>=fun Dh=>(some (Out.ret ((Dh,((0:Int)))))))))))
def iR (x0:aI):Option (aI):=
 ak (S:=Unit) ((gW x0.aC)>>=fun lh=>((gW x0.aE)>>=fun N8=>((hY lh N8 x0.aA x0.ab)>>=fun y94=>(some (Out.ret (y94))))))
def qV (x0:(List Int)) (x1:Int) (ba:Int):Option (Out (Int) (Int)):=
 (bif decide (ba < (x0.length:Int)) then ((idx x0 (ba))>>=fun e9=>(bif (e9) == (x1) then (some (Out.ret (ba))) else (some (Out.norm (aj (ba+(1:Int))))))) else (some (Out.exit 0 (ba))))
def nX (x0:(List Int)) (x1:Int):Option (Int):=
 ak (S:=Unit) (ah (ae 0 (ai (qV x0 x1) ((0:Int)))) (fun ba=>(some (Out.ret (((-1:Int)))))))
def mP (x0:(List Int)) (ie:(List Int)) (cb:(List Int)) (ba:Int):Option (Out ((List Int)×(List Int)×Int) ((List Int))):=
 (bif decide (ba < (x0.length:Int)) then ((idx x0 (ba))>>=fun IZ=>((nX cb (IZ))>>=fun GC=>(bif decide (GC < (0:Int)) then ((idx x0 (ba))>>=fun e40=>((fits 8 (cb.length+1))>>=fun n57=>((fits 8 (ie.length+1))>>=fun n77=>(some (Out.norm (ie++[(cb.length:Int)],cb++[e40],aj (ba+(1:Int)))))))) else ((fits 8 (ie.length+1))>>=fun n99=>(some (Out.norm (ie++[GC],cb,aj (ba+(1:Int))))))))) else (some (Out.exit 0 (ie,cb,ba))))
def mD (x0:(List Int)):Option ((List Int)):=
 ak (S:=Unit) (ah (ae 0 (ai (fun s=>mP x0 s.1 s.2.1 s.2.2) (([]:(List Int)),([]:(List Int)),(0:Int)))) (fun (ie,cb,ba)=>(some (Out.ret (ie)))))
def pL (x0:Int) (ba:(List Int)) (gn:Int):Option (Out ((List Int)×Int) ((List Int))):=
 (bif decide (gn < x0) then ((fits 8 (ba.length+1))>>=fun n32=>(some (Out.norm (ba++[gn],aj (gn+(1:Int)))))) else (some (Out.exit 0 (ba,gn))))
def pM (KS:Int) (KR:Int) (eh:Int) (wW:(List Int)):Option (Out (Int×(List Int)) ((List Int))):=
 (((bif decide (eh < (wW.length:Int)) then (some ((KS) != (KR))) else (some (false))))>>=fun g72=>(bif g72 then ((idx wW (eh))>>=fun Xm=>(bif (Xm) == (KR) then ((idx wW (eh))>>=fun e83=>(some (Out.norm (aj (eh+(1:Int)),wW.set (eh).toNat (KS))))) else (some (Out.norm (aj (eh+(1:Int)),wW))))) else (some (Out.exit 4 (eh,wW)))))
def pN (x1:(List (List Int))) (mi:Int) (Aa:(List Int)):Option (Out (Int×(List Int)) ((List Int))):=
 (bif decide (mi < (x1.length:Int)) then ((idx x1 (mi))>>=fun EE=>((idx EE ((0:Int)))>>=fun Oh=>((idx Aa (Oh))>>=fun KS=>((idx x1 (mi))>>=fun Xp=>((idx Xp ((1:Int)))>>=fun e63=>((idx Aa (e63))>>=fun KR=>(ah (ae 4 (ai (fun s=>pM KS KR s.1 s.2) ((0:Int),Aa))) (fun (eh,wW)=>(some (Out.norm (aj (mi+(1:Int)),wW))))))))))) else (some (Out.exit 2 (mi,Aa))))
def pO (x0:Int) (x1:(List (List Int))):Option ((List Int)):=
 ak (S:=Unit) (ah (ae 0 (ai (fun s=>pL x0 s.1 s.2) (([]:(List Int)),(0:Int)))) (fun (ba,gn)=>(ah (ae 2 (ai (fun s=>pN x1 s.1 s.2) ((0:Int),ba))) (fun (mi,Aa)=>((mD Aa)>>=fun y97=>(some (Out.ret (y97))))))))
def fK (x0:aG) (x1:Int) (ba:(List Int)) (gn:Int):Option (Out ((List Int)×Int) ((List Int))):=
 (bif decide (gn < (x0.aD.length:Int)) then ((((idx x0.aD (gn))>>=fun Gx=>((idx x0.To (x1))>>=fun IZ=>(bif (Gx) == (IZ) then ((idx x0.To (gn))>>=fun Oi=>((idx x0.aD (x1))>>=fun EH=>(bif (Oi) == (EH) then ((idx x0.aB (x1))>>=fun Om=>((idx Om (gn))>>=fun I5=>((idx x0.aD (x1))>>=fun Ev=>((idx x0.aH (Ev))>>=fun On=>(some ((I5) == (On))))))) else (some (false))))) else (some (false))))))>>=fun EA=>(bif EA then ((fits 8 (ba.length+1))>>=fun n68=>(some (Out.norm (ba++[gn],aj (gn+(1:Int)))))) else (some (Out.norm (ba,aj (gn+(1:Int))))))) else (some (Out.exit 0 (ba,gn))))
def jQ (x0:aG) (x1:Int):Option ((List Int)):=
 ak (S:=Unit) (ah (ae 0 (ai (fun s=>fK x0 x1 s.1 s.2) (([]:(List Int)),(0:Int)))) (fun (ba,gn)=>(some (Out.ret (ba)))))
def gI (x0:aG) (x1:Int) (ba:(List Int)) (gn:Int):Option (Out ((List Int)×Int) ((List Int))):=
 (bif decide (gn < (x0.aD.length:Int)) then ((((idx x0.aD (gn))>>=fun Gx=>((idx x0.To (x1))>>=fun IZ=>(bif (Gx) == (IZ) then ((idx x0.To (gn))>>=fun Oi=>((idx x0.aD (x1))>>=fun EH=>(bif (Oi) == (EH) then ((idx x0.aB (gn))>>=fun Om=>((idx Om (x1))>>=fun I5=>((idx x0.To (x1))>>=fun Ev=>((idx x0.aH (Ev))>>=fun On=>(some ((I5) == (On))))))) else (some (false))))) else (some (false))))))>>=fun EA=>(bif EA then ((fits 8 (ba.length+1))>>=fun n68=>(some (Out.norm (ba++[gn],aj (gn+(1:Int)))))) else (some (Out.norm (ba,aj (gn+(1:Int))))))) else (some (Out.exit 0 (ba,gn))))
def lO (x0:aG) (x1:Int):Option ((List Int)):=
 ak (S:=Unit) (ah (ae 0 (ai (fun s=>gI x0 x1 s.1 s.2) (([]:(List Int)),(0:Int)))) (fun (ba,gn)=>(some (Out.ret (ba)))))
def nB (x0:(List Int)) (x1:Int) (ba:Int):Option (Out (Int) (Bool)):=
 (bif decide (ba < (x0.length:Int)) then ((idx x0 (ba))>>=fun e9=>(bif (e9) == (x1) then (some (Out.ret (true))) else (some (Out.norm (aj (ba+(1:Int))))))) else (some (Out.exit 0 (ba))))
def qI (x0:(List Int)) (x1:Int):Option (Bool):=
 ak (S:=Unit) (ah (ae 0 (ai (nB x0 x1) ((0:Int)))) (fun ba=>(some (Out.ret (false)))))
def iC (y8:(List Int)) (zZ:(List Int)) (bw:Int):Option (Out (Int) (Int)):=
 (bif decide (bw < (y8.length:Int)) then ((idx y8 (bw))>>=fun EH=>((qI zZ (EH))>>=fun Gw=>(bif Gw then ((idx y8 (bw))>>=fun I1=>(some (Out.ret (I1)))) else (some (Out.norm (aj (bw+(1:Int)))))))) else (some (Out.exit 0 (bw))))
def jW (x0:aG) (x1:Int):Option (Int):=
 ak (S:=Unit) ((jQ x0 (x1))>>=fun y8=>((lO x0 (x1))>>=fun zZ=>(ah (ae 0 (ai (iC y8 zZ) ((0:Int)))) (fun bw=>(some (Out.ret (((-1:Int)))))))))
def jB (x0:aI) (x1:aI) (x2:(List Int)) (x3:Int):Option (Bool):=
 ak (S:=Unit) ((idx x0.ab (x3))>>=fun W8=>((idx x0.aE.aB (W8))>>=fun EE=>((idx x0.aC.To (x3))>>=fun Oh=>((idx x2 (Oh))>>=fun KS=>((idx EE (KS))>>=fun Xp=>((idx x0.aC.aD (x3))>>=fun e58=>((idx x2 (e58))>>=fun Oo=>((idx x0.aE.aB (Oo))>>=fun BE=>((idx x1.ab (x3))>>=fun WV=>((idx BE (WV))>>=fun e71=>(some (Out.ret (((Xp) == (e71)))))))))))))))
def jX (x0:cN) (x2:Int) (Cf:(List Int)) (BH:Int) (wz:Bool) (mj:Int):Option (Out (Bool×Int) ((List Int))):=
 (((bif wz then (some (decide (mj < (x0.F.ab.length:Int)))) else (some (false))))>>=fun aed=>(bif aed then ((idx x0.F.aC.aD (mj))>>=fun IN=>((idx x0.F.aC.To (mj))>>=fun Mk=>(((bif (IN) != (x2) then (bif (Mk) != (x2) then (some (true)) else ((idx (Cf.set (x2).toNat (BH)) (IN))>>=fun aee=>(bif decide (aee < (0:Int)) then (some (true)) else ((idx (Cf.set (x2).toNat (BH)) (Mk))>>=fun QT=>(bif decide (QT < (0:Int)) then (some (true)) else ((jB x0.F x0.G (Cf.set (x2).toNat (BH)) (mj))>>=fun IX=>(some (IX)))))))) else ((idx (Cf.set (x2).toNat (BH)) (IN))>>=fun Xq=>(bif decide (Xq < (0:Int)) then (some (true)) else ((idx (Cf.set (x2).toNat (BH)) (Mk))>>=fun aef=>(bif decide (aef < (0:Int)) then (some (true)) else ((jB x0.F x0.G (Cf.set (x2).toNat (BH)) (mj))>>=fun aeg=>(some (aeg)))))))))>>=fun aeh=>(some (Out.norm (aeh,aj (mj+(1:Int)))))))) else (some (Out.exit 2 (wz,mj)))))
def iD (x0:cN) (x1:(List Int)) (x2:Int) (BG:(List Int)) (ma:(List Int)) (fi:Int):Option (Out ((List Int)×Int) ((List Int))):=
 (bif decide (fi < (BG.length:Int)) then (((bif x0.zV then ((idx BG (fi))>>=fun Xe=>((jW x0.F.aE (Xe))>>=fun Xl=>(some (decide (Xl < (0:Int)))))) else (some (false))))>>=fun Xn=>(bif Xn then (some (Out.norm (ma,aj (fi+(1:Int))))) else ((dU x1)>>=fun Cf=>((idx BG (fi))>>=fun BH=>((idx Cf (x2))>>=fun SG=>(ah (ae 2 (ai (fun s=>jX x0 x2 Cf BH s.1 s.2) (true,(0:Int)))) (fun (wz,mj)=>(bif wz then ((idx BG (fi))>>=fun QV=>((fits 8 (ma.length+1))>>=fun n184=>(some (Out.norm (ma++[QV],aj (fi+(1:Int))))))) else (some (Out.norm (ma,aj (fi+(1:Int))))))))))))) else (some (Out.exit 0 (ma,fi))))
def iJ (x0:cN) (x1:(List Int)) (x2:Int):Option ((List Int)):=
 ak (S:=Unit) ((idx x0.F.aA (x2))>>=fun Iy=>((idx x0.G.aA (x2))>>=fun EH=>((gX x0.F.aE (Iy) (EH))>>=fun BG=>(ah (ae 0 (ai (fun s=>iD x0 x1 x2 BG s.1 s.2) (([]:(List Int)),(0:Int)))) (fun (ma,fi)=>(some (Out.ret (ma))))))))
def lT (x0:cN) (x1:(List Int)) (cb:Int) (ba:Int):Option (Out (Int×Int) (cN)):=
 (bif decide (ba ≥ (0:Int)) then ((idx x1 (ba))>>=fun EH=>(bif (EH) == ((-1:Int)) then ((iJ x0 x1 (ba))>>=fun y41=>(bif ((y41.length:Int)) == ((0:Int)) then (some (Out.ret (x0))) else (some (Out.norm (ba,aj (ba - (1:Int))))))) else (some (Out.norm (cb,aj (ba - (1:Int))))))) else (some (Out.exit 0 (cb,ba))))
def iN (rc:cN→(List Int)→Option (cN)) (x0:cN) (x1:(List Int)) (cb:Int) (vZ:(List Int)) (mi:Int) (zk:Int) (zl:Int) (xK:Int) (xL:Int) (xM:Bool) (vr:Int) (vu:(List (List Int))):Option (Out (Int×Int×Int×Int×Int×Bool×Int×(List (List Int))) (cN)):=
 (((bif decide (mi < (vZ.length:Int)) then (some (decide ((vu.length:Int) < vr))) else (some (false))))>>=fun aei=>(bif aei then ((dU x1)>>=fun Xr=>((idx vZ (mi))>>=fun QU=>((idx Xr (cb))>>=fun Xq=>((rc (cN.mk (aI.mk (aG.mk zk x0.F.aC.aD x0.F.aC.To x0.F.aC.aH x0.F.aC.aB) (aG.mk zl x0.F.aE.aD x0.F.aE.To x0.F.aE.aH x0.F.aE.aB) x0.F.aA x0.F.ab) (aI.mk (aG.mk xK x0.G.aC.aD x0.G.aC.To x0.G.aC.aH x0.G.aC.aB) (aG.mk xL x0.G.aE.aD x0.G.aE.To x0.G.aE.aH x0.G.aE.aB) x0.G.aA x0.G.ab) xM vr vu) (Xr.set (cb).toNat (QU)))>>=fun DL=>(some (Out.norm (aj (mi+(1:Int)),DL.F.aC.aA,DL.F.aE.aA,DL.G.aC.aA,DL.G.aE.aA,DL.zV,DL.xj,DL.Found))))))) else (some (Out.exit 2 (mi,zk,zl,xK,xL,xM,vr,vu)))))
def pP (rc:cN→(List Int)→Option (cN)) (x0:cN) (x1:(List Int)):Option (cN):=
 E8 (R:=(cN)) (ah (ae 0 (ai (fun s=>lT x0 x1 s.1 s.2) ((-1:Int),aj ((x1.length:Int) - (1:Int))))) (fun (cb,ba)=>(bif decide (cb < (0:Int)) then ((dU x1)>>=fun y61=>((fits 24 (x0.Found.length+1))>>=fun n89=>(some (Out.ret ((cN.mk x0.F x0.G x0.zV x0.xj (x0.Found++[y61]))))))) else ((iJ x0 x1 (cb))>>=fun vZ=>(ah (ae 2 (ai (fun s=>iN rc x0 x1 cb vZ s.1 s.2.1 s.2.2.1 s.2.2.2.1 s.2.2.2.2.1 s.2.2.2.2.2.1 s.2.2.2.2.2.2.1 s.2.2.2.2.2.2.2) ((0:Int),x0.F.aC.aA,x0.F.aE.aA,x0.G.aC.aA,x0.G.aE.aA,x0.zV,x0.xj,x0.Found))) (fun (mi,zk,zl,xK,xL,xM,vr,vu)=>(some (Out.norm ((cN.mk (aI.mk (aG.mk zk x0.F.aC.aD x0.F.aC.To x0.F.aC.aH x0.F.aC.aB) (aG.mk zl x0.F.aE.aD x0.F.aE.To x0.F.aE.aH x0.F.aE.aB) x0.F.aA x0.F.ab) (aI.mk (aG.mk xK x0.G.aC.aD x0.G.aC.To x0.G.aC.aH x0.G.aC.aB) (aG.mk xL x0.G.aE.aD x0.G.aE.To x0.G.aE.aH x0.G.aE.aB) x0.G.aA x0.G.ab) xM vr vu))))))))))
def gB:Nat→cN→(List Int)→Option (cN)
 | 0=>fun _ _=>none
 | n+1=>pP (gB n)
def pQ (x0:aI) (ma:(List (List Int))) (fi:Int):Option (Out ((List (List Int))×Int) ((List (List Int)))):=
 (bif decide (fi < (x0.aC.aD.length:Int)) then ((idx x0.aC.aD (fi))>>=fun SE=>((idx x0.aC.To (fi))>>=fun IL=>((fits 24 (ma.length+1))>>=fun n68=>(some (Out.norm (ma++[([SE,IL]:(List Int))],aj (fi+(1:Int)))))))) else (some (Out.exit 0 (ma,fi))))
def pR (I6:(List Int)) (mj:Int) (A4:(List Int)) (CN:Int):Option (Out ((List Int)×Int) ((List (List Int)))):=
 (bif decide (CN < (I6.length:Int)) then ((idx I6 (CN))>>=fun aej=>(bif (aej) == (mj) then ((fits 8 (A4.length+1))>>=fun n191=>(some (Out.norm (A4++[(-1:Int)],aj (CN+(1:Int)))))) else ((fits 8 (A4.length+1))>>=fun n219=>(some (Out.norm (A4++[(-2:Int)],aj (CN+(1:Int)))))))) else (some (Out.exit 4 (A4,CN))))
def pS (x0:aI) (x1:aI) (x2:Bool) (I6:(List Int)) (wz:(List Int)) (mj:Int):Option (Out ((List Int)×Int) ((List (List Int)))):=
 (bif decide (mj < (I6.length:Int)) then ((fits 8 (wz.length+1))>>=fun n132=>(ah (ae 4 (ai (fun s=>pR I6 mj s.1 s.2) (([]:(List Int)),(0:Int)))) (fun (A4,CN)=>((gB 64 (cN.mk x0 x1 x2 ((1:Int)) (([]:(List (List Int))))) A4)>>=fun aek=>(bif ((aek.Found.length:Int)) == ((0:Int)) then (some (Out.ret ((([]:(List (List Int))))))) else (some (Out.norm (wz++[(-1:Int)],aj (mj+(1:Int)))))))))) else (some (Out.exit 2 (wz,mj))))
def mQ (x0:aI) (x1:aI) (x2:Bool) (x3:Int):Option ((List (List Int))):=
 ak (S:=Unit) (ah (ae 0 (ai (fun s=>pQ x0 s.1 s.2) (([]:(List (List Int))),(0:Int)))) (fun (ma,fi)=>((pO (x0.aC.aA) ma)>>=fun I6=>(ah (ae 2 (ai (fun s=>pS x0 x1 x2 I6 s.1 s.2) (([]:(List Int)),(0:Int)))) (fun (wz,mj)=>((gB 64 (cN.mk x0 x1 x2 x3 (([]:(List (List Int))))) wz)>>=fun ael=>(some (Out.ret (ael.Found)))))))))
def oM (x:Int) (GA:List (List Int)) (s:List bG×Int):Option (Out (List bG×Int) (List bG)):=
 (bif decide (s.2 < (GA.length:Int)) then ((idx GA (s.2))>>=fun e42=>((fits 32 (s.1.length+1))>>=fun n45=>(some (Out.norm (s.1++[bG.mk x e42],aj (s.2+(1:Int))))))) else (some (Out.exit 2 s)))
def oN (x0:aI) (s:List bG×Int):Option (Out (List bG×Int) (List bG)):=
 ((bif decide (s.2 < (x0.aE.aA)) then (some (decide ((s.1.length:Int)≤(400:Int)))) else (some (false)))>>=fun g13=>(bif g13 then ((eJ x0.aC x0.aE (s.2))>>=fun jg=>((mQ jg x0 (false) (aj ((401:Int) - (s.1.length:Int))))>>=fun GA=>(ah (ae 2 (ai (fun s2=>oM s.2 GA s2) (s.1,(0:Int)))) (fun s2=>(some (Out.norm (s2.1,aj (s.2+(1:Int))))))))) else (some (Out.exit 0 s))))
def lU (x0:aI):Option ((List bG)):=
 ak (S:=Unit) (ah (ae 0 (ai (fun s=>oN x0 s) (([]:List bG),(0:Int)))) (fun s=>(some (Out.ret (s.1)))))
def mR (x0:aI):Option ((List bG)×Int):=
 ak (S:=Unit) ((lU x0)>>=fun y8=>(bif decide ((y8.length:Int) > (400:Int)) then (some (Out.ret ((([]),((3:Int)))))) else (some (Out.ret ((y8,((0:Int))))))))
def qW (x0:aI) (x1:aI):Option ((List bG)×(List bG)×Int):=
 ak (S:=Unit) ((mR x0)>>=fun lh=>((mR x1)>>=fun GD=>(((bif (lh.2) != ((0:Int)) then (some (true)) else (some ((GD.2) != ((0:Int))))))>>=fun g39=>(bif g39 then (some (Out.ret ((([]),([]),((3:Int)))))) else (some (Out.ret ((lh.1,GD.1,((0:Int))))))))))
def lB (x0:aG) (x1:Int) (x2:Int):Option (Int):=
 ak (S:=Unit) ((idx x0.aB (x1))>>=fun e8=>((idx e8 (x2))>>=fun Ol=>(some (Out.ret (Ol)))))
def jY (x0:aI) (x1:bG) (x2:bG) (jg:(List Int)) (gp:Int) (jb:Bool) (tS:Int):Option (Out (Bool×Int) ((List Int))):=
 (((bif decide (tS < (x1.br.length:Int)) then (some (jb)) else (some (false))))>>=fun Xb=>(bif Xb then ((idx jg (gp))>>=fun W5=>((idx x2.br (tS))>>=fun BF=>((lB x0.aE (W5) (BF))>>=fun y90=>((idx x1.br (tS))>>=fun e92=>(some (Out.norm ((y90) == (e92),aj (tS+(1:Int))))))))) else (some (Out.exit 2 (jb,tS)))))
def jZ (x0:aI) (x1:bG) (x2:bG) (jg:(List Int)) (je:(List Int)) (gp:Int):Option (Out ((List Int)×Int) ((List Int))):=
 (bif decide (gp < (jg.length:Int)) then (ah (ae 2 (ai (fun s=>jY x0 x1 x2 jg gp s.1 s.2) (true,(0:Int)))) (fun (jb,tS)=>(bif jb then ((idx jg (gp))>>=fun Ft=>((fits 8 (je.length+1))>>=fun n122=>(some (Out.norm (je++[Ft],aj (gp+(1:Int))))))) else (some (Out.norm (je,aj (gp+(1:Int)))))))) else (some (Out.exit 0 (je,gp))))
def pT (x0:aI) (x1:bG) (x2:bG):Option ((List Int)):=
 ak (S:=Unit) ((gX x0.aE (x1.dy) (x2.dy))>>=fun jg=>(ah (ae 0 (ai (fun s=>jZ x0 x1 x2 jg s.1 s.2) (([]:(List Int)),(0:Int)))) (fun (je,gp)=>(some (Out.ret (je))))))
def iS (x0:aI) (x1:(List bG)) (x2:bG) (bw:Int):Option (Out (Int) (Bool)):=
 (bif decide (bw < (x1.length:Int)) then ((idx x1 (bw))>>=fun IJ=>((pT x0 IJ x2)>>=fun GC=>(bif ((GC.length:Int)) != ((1:Int)) then (some (Out.ret (false))) else (some (Out.norm (aj (bw+(1:Int)))))))) else (some (Out.exit 0 (bw))))
def iP (x0:aI) (x1:(List bG)) (x2:bG):Option (Bool):=
 ak (S:=Unit) (ah (ae 0 (ai (iS x0 x1 x2) ((0:Int)))) (fun bw=>(some (Out.ret (true)))))
def nY (x0:bG) (x1:aI):Option (bG):=
 ak (S:=Unit) ((idx x1.aA (x0.dy))>>=fun Gy=>((lA x0.br x1.ab)>>=fun tu=>(some (Out.ret ((bG.mk Gy tu))))))
def oO (x0:aI) (x1:aI) (x2:aI) (jg:(List bG)×(List bG)×Int) (fi:Int):Option (Out (Int) (Bool×Int)):=
 (bif decide (fi < (jg.1.length:Int)) then ((idx jg.1 (fi))>>=fun I2=>((iP x0 jg.1 I2)>>=fun Xk=>(bif Xk then ((idx jg.1 (fi))>>=fun WZ=>((nY WZ x2)>>=fun Og=>((iP x1 jg.2.1 Og)>>=fun y96=>(some (Out.ret ((y96,((0:Int))))))))) else (some (Out.norm (aj (fi+(1:Int)))))))) else (some (Out.exit 0 (fi))))
def jS (x0:aI) (x1:aI) (x2:aI):Option (Bool×Int):=
 ak (S:=Unit) ((qW x0 x1)>>=fun jg=>(bif (jg.2.2) != ((0:Int)) then (some (Out.ret ((false,jg.2.2)))) else (ah (ae 0 (ai (oO x0 x1 x2 jg) ((0:Int)))) (fun fi=>(some (Out.ret ((false,((4:Int))))))))))
def kO (x0:aI) (x1:aI):Option (Bool×Int):=
 ak (S:=Unit) ((qU x0 x1)>>=fun lh=>(bif (lh.2) != ((0:Int)) then (some (Out.ret ((false,lh.2)))) else ((iR x0)>>=fun QZ=>((iR lh.1)>>=fun Q0=>((iR x1)>>=fun Q1=>((jS QZ Q0 Q1)>>=fun zF=>(some (Out.ret ((zF.1,zF.2))))))))))
def gC (x0:aI):Option (aI×Int):=
 ak (S:=Unit) ((fH x0)>>=fun lh=>(bif !(lh) then (some (Out.ret (((aI.mk (aG.mk ((0:Int)) ([]) ([]) ([]) ([])) (aG.mk ((0:Int)) ([]) ([]) ([]) ([])) ([]) ([])),((1:Int)))))) else ((eR x0)>>=fun jg=>(some (Out.ret ((jg,((0:Int)))))))))
def mE (x0:aI) (x1:aI):Option (Bool×Int):=
 ak (S:=Unit) ((jA x0 x1 (false))>>=fun lh=>(some (Out.ret ((lh.1,lh.2)))))
def gZ (x0:dZ) (ma:Int):Option (Out (Int) (Bool)):=
 (bif decide (ma < (x0.wR.length:Int)) then ((idx x0.wR (ma))>>=fun e9=>((((fN x0 e9)>>=fun tu=>(bif tu then ((eH x0.D x0.wR e9)>>=fun GC=>(some (!(GC)))) else (some (false)))))>>=fun EA=>(bif EA then (some (Out.ret (false))) else (some (Out.norm (aj (ma+(1:Int)))))))) else (some (Out.exit 0 (ma))))
def eM (x0:dZ):Option (Bool):=
 ak (S:=Unit) (ah (ae 0 (ai (gZ x0) ((0:Int)))) (fun ma=>(some (Out.ret (true)))))
def lW (zf:(List Int)) (s1_3:(List Int)) (EI:Int):Option (Out ((List Int)×Int) (ByteArray)):=
 (bif decide (EI < (zf.length:Int)) then ((idx zf (EI))>>=fun e36=>((fits 1 (s1_3.length+1))>>=fun n54=>(some (Out.norm (s1_3++[IntKind.u8.wrap e36],aj (EI+(1:Int))))))) else (some (Out.exit 2 (s1_3,EI))))
def iX (x0:(List (List Int))) (ie:(List Int)) (fi:Int):Option (Out ((List Int)×Int) (ByteArray)):=
 (bif decide (fi < (x0.length:Int)) then ((idx x0 (fi))>>=fun zf=>(ah (ae 2 (ai (fun s=>lW zf s.1 s.2) (ie,(0:Int)))) (fun (s1_3,EI)=>((fits 1 (s1_3.length+1))>>=fun n75=>(some (Out.norm (s1_3++[(255:Int)],aj (fi+(1:Int))))))))) else (some (Out.exit 0 (ie,fi))))
def sA (x0:(List (List Int))):Option (ByteArray):=
 ak (S:=Unit) (ah (ae 0 (ai (fun s=>iX x0 s.1 s.2) (([]:(List Int)),(0:Int)))) (fun (ie,fi)=>(some (Out.ret ((strOfNums ie))))))
def lC (x0:bG):Option (ByteArray):=
 ak (S:=Unit) ((sA [[x0.dy],x0.br])>>=fun um=>(some (Out.ret (um))))
def fO (x0:dZ) (s:List (ByteArray×List bG)×Int):Option (Out (List (ByteArray×List bG)×Int) Bool):=
 (bif decide (s.2 < (x0.wR.length:Int)) then ((idx x0.wR (s.2))>>=fun GB=>((kZ GB x0.F)>>=fun zW=>((lC zW)>>=fun tu=>((fits 32 (((jz s.1 tu).getD []).length+1))>>=fun n35=>(some (Out.norm (qm s.1 tu ((jz s.1 tu).getD []++[GB]),aj (s.2+(1:Int))))))))) else (some (Out.exit 0 s)))
def fP (x0:dZ) (im:List (ByteArray×List bG)) (s:Bool×Int):Option (Out (Bool×Int) Bool):=
 (bif decide (s.2 < (x0.xi.length:Int)) then ((idx x0.xi (s.2))>>=fun EE=>((eH x0.bh x0.xi EE)>>=fun y54=>(bif !(y54) then (some (Out.norm (s.1,aj (s.2+(1:Int))))) else ((lC EE)>>=fun y58=>((bif s.1 then (bif ((((jz im y58).getD []).length:Int)) == ((1:Int)) then ((idx ((jz im y58).getD []) ((0:Int)))>>=fun IP=>((eH x0.D x0.wR IP)>>=fun IU=>(some (IU)))) else (some (false))) else (some (false)))>>=fun Ot=>(some (Out.norm (Ot,aj (s.2+(1:Int)))))))))) else (some (Out.exit 2 s)))
def fA (x0:dZ):Option (Bool):=
 ak (S:=Unit) (ah (ae 0 (ai (fun s=>fO x0 s) (([]:List (ByteArray×List bG)),(0:Int)))) (fun s=>(ah (ae 2 (ai (fun t=>fP x0 s.1 t) (true,(0:Int)))) (fun t=>(some (Out.ret (t.1)))))))
def fB (te:dZ→Option Bool) (x0 x1:aI) (x2:Bool):Option (Bool×Int):=
 ak (S:=Unit) ((fM x0 x1 x2)>>=fun lh=>(match lh.1 with | none=>(bif (lh.2) != ((0:Int)) then (some (Out.ret (false,lh.2))) else none) | some m=>(bif (lh.2) != ((0:Int)) then (some (Out.ret (false,lh.2))) else ((te m)>>=fun vq=>(some (Out.ret (vq,(0:Int))))))))
def iK (x0:aI) (x1:aI):Option (Bool×Int):=
 ak (S:=Unit) ((fB (fun a0=>eM a0) x0 x1 true)>>=fun y6=>(some (Out.ret ((y6.1,y6.2)))))
def jR (x0:aI) (x1:aI):Option (Bool×Int):=
 ak (S:=Unit) ((fB (fun a0=>eM a0) x0 x1 false)>>=fun y6=>(some (Out.ret ((y6.1,y6.2)))))
def iU (x0:aI) (x1:aI):Option (Bool×Int):=
 ak (S:=Unit) ((fB (fun a0=>fA a0) x0 x1 true)>>=fun y6=>(some (Out.ret ((y6.1,y6.2)))))
def kB (x0:aI) (x1:aI):Option (Bool×Int):=
 ak (S:=Unit) ((fB (fun a0=>fA a0) x0 x1 false)>>=fun y6=>(some (Out.ret ((y6.1,y6.2)))))
def fD (x0:(List Int)):Option (Bool):=
 ak (S:=Unit) ((rY x0)>>=fun y3=>(bif y3 then (some (Out.ret (true))) else ((iE x0)>>=fun cy=>((kN cy.1 cy.2)>>=fun Fv=>((kO cy.1 cy.2)>>=fun Xs=>(((bif (Fv.2) != (Xs.2) then (some (true)) else (some (!((Fv.1) == (Xs.1))))))>>=fun aem=>(bif aem then (some (Out.ret (false))) else (((bif (Fv.2) == ((1:Int)) then (some (true)) else (some ((Fv.2) == ((5:Int))))))>>=fun aen=>(bif aen then (some (Out.ret (true))) else ((gC cy.1)>>=fun Mt=>((gC cy.2)>>=fun Mu=>((mE Mt.1 Mu.1)>>=fun SI=>((iK cy.1 cy.2)>>=fun SJ=>((jR Mt.1 Mu.1)>>=fun SK=>((iU cy.1 cy.2)>>=fun SM=>((kB Mt.1 Mu.1)>>=fun SN=>(((bif (aj (Mt.2+Mu.2)) == ((0:Int)) then (bif (SI.2) == (Fv.2) then (bif (SI.1) == (Fv.1) then (bif (SJ.2) == (SK.2) then (bif (SJ.1) == (SK.1) then (bif (SM.2) == (SN.2) then (some ((SM.1) == (SN.1))) else (some (false))) else (some (false))) else (some (false))) else (some (false))) else (some (false))) else (some (false))))>>=fun Zq=>(some (Out.ret (Zq))))))))))))))))))))
structure dF where
 aC:aI
 aE:aI
 fg:(List Int)
end
end Go.Proofs.YtgjbmjjihmfppaaGreat
