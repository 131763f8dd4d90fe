/- Models, printed by a program: what each function computes, on plain data. No condition. -/
import Derived.Test.YtjdkifckhidlbaaGreatLj
import Derived.Test.YtjdkifckhidlbaaGreatLn
import Derived.Test.YtjdkifckhidlbaaGreatLq
namespace Go.Proofs.YtjdkifckhidlbaaGreat
open Go Go.Li
set_option linter.unusedVariables false
noncomputable section
structure aL where
 Code:(List Int)
 At:Int
 av:Int
structure aI where
 aA:Int
 aH:(List Int)
 To:(List Int)
 aJ:(List Int)
 aE:(List (List Int))
structure cE where
 aH:Int
 To:Int
 nk:(List Int)
structure aO where
 aB:aI
 aF:aI
 aA:(List Int)
 ae:(List Int)
structure aS where
 Left:aO
 ab:aO
 Unit:(List Int)
 ba:(List Int)
structure qW where
 aH:Int
 To:Int
structure bZ where
 aB:aO
 aF:aO
 an:(List Int)
structure um where
 B:(List Int)
 I:Int
 H:Int
def rZ (x0:(List Int)):Option (Bool):=
 aq (S:=Unit) (some (Out.ret ((decide ((x0.length:Int) > (4096:Int))))))
def oZ (x0:(List Int)) (de:Int) (CL:Int):Option (Out (Int×Int) ((Option aL))):=
 (((bif decide (de < (x0.length:Int)) then (some (decide (de < (4096:Int)))) else (some (false))))>>=fun g14=>(bif g14 then ((rf .mul .u64 (CL) ((1099511628211:Int)))>>=fun z20=>((idx x0 (de))>>=fun zX=>((rf .add .u64 (z20) (IntKind.u64.wrap zX))>>=fun z23=>((rf .add .u64 (z23) ((7:Int)))>>=fun z24=>(some (Out.norm (ao (de+(1:Int)),z24))))))) else (some (Out.exit 0 (de,CL)))))
def pA (x0:(List Int)):Option ((Option aL)):=
 aq (S:=Unit) ((rf .add .u64 ((7019:Int)) (IntKind.u64.wrap ((x0.length:Int))))>>=fun z3=>(ai (af 0 (aj (fun s=>oZ x0 s.1 s.2) ((0:Int),z3))) (fun (de,CL)=>(some (Out.ret ((some (aL.mk x0 ((0:Int)) CL))))))))
def cM (x0:aL) (x1:Int):Option (Int×aL):=
 aq (S:=Unit) (bif decide (x1 < (1:Int)) then (some (Out.ret ((((0:Int)),x0)))) else ((rf .mul .u64 (x0.av) ((6364136223846793005:Int)))>>=fun z9=>((rf .add .u64 (z9) ((1442695040888963407:Int)))>>=fun IB=>((rf .shr .u64 (IB) ((33:Int)))>>=fun IC=>((rf .and .u64 (IC) ((16777215:Int)))>>=fun N8=>(bif decide (x0.At < (x0.Code.length:Int)) then ((idx x0.Code (x0.At))>>=fun ID=>((rf .rem .i64 (ao (IntKind.i64.wrap N8+IntKind.i64.wrap ID)) (x1))>>=fun WE=>(some (Out.ret ((WE,(aL.mk x0.Code (ao (x0.At+(1:Int))) IB))))))) else ((rf .rem .i64 (IntKind.i64.wrap N8) (x1))>>=fun z33=>(some (Out.ret ((z33,(aL.mk x0.Code x0.At IB))))))))))))
def mD (x0:aL) (x1:Int) (ch:Int) (qh:Int) (qi:Int) (B7:(List Int)):Option (Out (Int×Int×Int×(List Int)) ((List (List Int))×aL)):=
 (bif decide (ch < x1) then ((cM (aL.mk x0.Code qh qi) ((2:Int)))>>=fun N9=>((idx B7 (ch))>>=fun e53=>(some (Out.norm (ao (ch+(1:Int)),N9.2.At,N9.2.av,B7.set (ch).toNat (N9.1)))))) else (some (Out.exit 2 (ch,qh,qi,B7))))
def mE (x0:aL) (x1:Int) (bo:(List (List Int))) (du:Int) (kp:Int) (kq:Int):Option (Out ((List (List Int))×Int×Int×Int) ((List (List Int))×aL)):=
 (bif decide (du < x1) then ((mk 8 (x1))>>=fun n21=>((idx (List.replicate n21 (0:Int)) (du))>>=fun Oa=>(ai (af 2 (aj (fun s=>mD x0 x1 s.1 s.2.1 s.2.2.1 s.2.2.2) (ao (du+(1:Int)),kp,kq,(List.replicate n21 (0:Int)).set (du).toNat ((1:Int))))) (fun (ch,qh,qi,B7)=>((fits 24 (bo.length+1))>>=fun n78=>(some (Out.norm (bo++[B7],ao (du+(1:Int)),qh,qi)))))))) else (some (Out.exit 0 (bo,du,kp,kq))))
def pO (x1:Int) (bz:Int) (ij:Int) (sP:Int) (vc:(List (List Int))):Option (Out (Int×(List (List Int))) ((List (List Int))×aL)):=
 (bif decide (sP < x1) then ((((idx vc (ij))>>=fun acb=>((idx acb (bz))>>=fun Qq=>(bif (Qq) == ((1:Int)) then ((idx vc (bz))>>=fun acd=>((idx acd (sP))>>=fun ace=>(some ((ace) == ((1:Int)))))) else (some (false))))))>>=fun acf=>(bif acf then ((idx vc (ij))>>=fun WG=>((idx WG (sP))>>=fun apw=>(some (Out.norm (ao (sP+(1:Int)),vc.set (ij).toNat (WG.set (sP).toNat ((1:Int)))))))) else (some (Out.norm (ao (sP+(1:Int)),vc))))) else (some (Out.exit 8 (sP,vc))))
def pP (x1:Int) (bz:Int) (ij:Int) (CM:(List (List Int))):Option (Out (Int×(List (List Int))) ((List (List Int))×aL)):=
 (bif decide (ij < x1) then (ai (af 8 (aj (fun s=>pO x1 bz ij s.1 s.2) ((0:Int),CM))) (fun (sP,vc)=>(some (Out.norm (ao (ij+(1:Int)),vc))))) else (some (Out.exit 6 (ij,CM))))
def pQ (x1:Int) (bz:Int) (CN:(List (List Int))):Option (Out (Int×(List (List Int))) ((List (List Int))×aL)):=
 (bif decide (bz < x1) then (ai (af 6 (aj (fun s=>pP x1 bz s.1 s.2) ((0:Int),CN))) (fun (ij,CM)=>(some (Out.norm (ao (bz+(1:Int)),CM))))) else (some (Out.exit 4 (bz,CN))))
def pR (x1:Int) (zE:Int) (xz:Int) (yZ:Int) (wU:(List (List Int))):Option (Out (Int×(List (List Int))) ((List (List Int))×aL)):=
 (bif decide (yZ < x1) then ((((idx wU (xz))>>=fun acg=>((idx acg (zE))>>=fun ach=>(bif (ach) == ((1:Int)) then ((idx wU (zE))>>=fun aci=>((idx aci (yZ))>>=fun Qr=>(some ((Qr) == ((1:Int)))))) else (some (false))))))>>=fun acj=>(bif acj then ((idx wU (xz))>>=fun WH=>((idx WH (yZ))>>=fun apx=>(some (Out.norm (ao (yZ+(1:Int)),wU.set (xz).toNat (WH.set (yZ).toNat ((1:Int)))))))) else (some (Out.norm (ao (yZ+(1:Int)),wU))))) else (some (Out.exit 8 (yZ,wU))))
def pS (x1:Int) (zE:Int) (xz:Int) (EC:(List (List Int))):Option (Out (Int×(List (List Int))) ((List (List Int))×aL)):=
 (bif decide (xz < x1) then (ai (af 8 (aj (fun s=>pR x1 zE xz s.1 s.2) ((0:Int),EC))) (fun (yZ,wU)=>(some (Out.norm (ao (xz+(1:Int)),wU))))) else (some (Out.exit 6 (xz,EC))))
def pT (x1:Int) (zE:Int) (ED:(List (List Int))):Option (Out (Int×(List (List Int))) ((List (List Int))×aL)):=
 (bif decide (zE < x1) then (ai (af 6 (aj (fun s=>pS x1 zE s.1 s.2) ((0:Int),ED))) (fun (xz,EC)=>(some (Out.norm (ao (zE+(1:Int)),EC))))) else (some (Out.exit 4 (zE,ED))))
def pB (x1:Int) (zF:Int) (xA:Int) (wV:Int) (ve:(List (List Int))):Option (Out (Int×(List (List Int))) ((List (List Int))×aL)):=
 (bif decide (wV < x1) then ((((idx ve (xA))>>=fun ack=>((idx ack (zF))>>=fun yh=>(bif (yh) == ((1:Int)) then ((idx ve (zF))>>=fun Qs=>((idx Qs (wV))>>=fun Qt=>(some ((Qt) == ((1:Int)))))) else (some (false))))))>>=fun acm=>(bif acm then ((idx ve (xA))>>=fun WI=>((idx WI (wV))>>=fun apy=>(some (Out.norm (ao (wV+(1:Int)),ve.set (xA).toNat (WI.set (wV).toNat ((1:Int)))))))) else (some (Out.norm (ao (wV+(1:Int)),ve))))) else (some (Out.exit 8 (wV,ve))))
def pU (x1:Int) (zF:Int) (xA:Int) (EE:(List (List Int))):Option (Out (Int×(List (List Int))) ((List (List Int))×aL)):=
 (bif decide (xA < x1) then (ai (af 8 (aj (fun s=>pB x1 zF xA s.1 s.2) ((0:Int),EE))) (fun (wV,ve)=>(some (Out.norm (ao (xA+(1:Int)),ve))))) else (some (Out.exit 6 (xA,EE))))
def pV (x1:Int) (zF:Int) (EG:(List (List Int))):Option (Out (Int×(List (List Int))) ((List (List Int))×aL)):=
 (bif decide (zF < x1) then (ai (af 6 (aj (fun s=>pU x1 zF s.1 s.2) ((0:Int),EG))) (fun (xA,EE)=>(some (Out.norm (ao (zF+(1:Int)),EE))))) else (some (Out.exit 4 (zF,EG))))
def kB (x0:aL) (x1:Int):Option ((List (List Int))×aL):=
 aq (S:=Unit) (ai (af 0 (aj (fun s=>mE x0 x1 s.1 s.2.1 s.2.2.1 s.2.2.2) (([]:(List (List Int))),(0:Int),x0.At,x0.av))) (fun (bo,du,kp,kq)=>(bif decide (x1 > (1:Int)) then ((cM (aL.mk x0.Code kp kq) ((4:Int)))>>=fun Ob=>(bif (Ob.1) == ((0:Int)) then ((idx bo (ao (x1 - (1:Int))))>>=fun e95=>((cM (aL.mk x0.Code Ob.2.At Ob.2.av) (x1))>>=fun B8=>((idx e95 (B8.1))>>=fun vJ=>(ai (af 4 (aj (fun s=>pQ x1 s.1 s.2) ((0:Int),bo.set (ao (x1 - (1:Int))).toNat (e95.set (B8.1).toNat ((1:Int)))))) (fun (bz,CN)=>(some (Out.ret ((CN,(aL.mk x0.Code B8.2.At B8.2.av)))))))))) else (ai (af 4 (aj (fun s=>pT x1 s.1 s.2) ((0:Int),bo))) (fun (zE,ED)=>(some (Out.ret ((ED,(aL.mk x0.Code Ob.2.At Ob.2.av))))))))) else (ai (af 4 (aj (fun s=>pV x1 s.1 s.2) ((0:Int),bo))) (fun (zF,EG)=>(some (Out.ret ((EG,(aL.mk x0.Code kp kq))))))))))
def oE (x0:(List (List Int))) (du:Int) (rq:(List Int)) (ch:Int) (tY:(List Int)) (wq:(List Int)):Option (Out ((List Int)×Int×(List Int)×(List Int)) (aI)):=
 (bif decide (ch < (x0.length:Int)) then ((fits 8 (rq.length+1))>>=fun n185=>((idx x0 (du))>>=fun acn=>((idx acn (ch))>>=fun aco=>(bif (aco) == ((1:Int)) then ((fits 8 (tY.length+1))>>=fun n229=>((fits 8 (wq.length+1))>>=fun n265=>(some (Out.norm (rq++[(tY.length:Int)],ao (ch+(1:Int)),tY++[du],wq++[ch]))))) else (some (Out.norm (rq++[(tY.length:Int)],ao (ch+(1:Int)),tY,wq))))))) else (some (Out.exit 2 (rq,ch,tY,wq))))
def oF (x0:(List (List Int))) (de:(List (List Int))) (du:Int) (pq:(List Int)) (si:(List Int)):Option (Out ((List (List Int))×Int×(List Int)×(List Int)) (aI)):=
 (bif decide (du < (x0.length:Int)) then (ai (af 2 (aj (fun s=>oE x0 du s.1 s.2.1 s.2.2.1 s.2.2.2) (([]:(List Int)),(0:Int),pq,si))) (fun (rq,ch,tY,wq)=>((fits 24 (de.length+1))>>=fun n306=>(some (Out.norm (de++[rq],ao (du+(1:Int)),tY,wq)))))) else (some (Out.exit 0 (de,du,pq,si))))
def oG (x0:(List (List Int))) (de:(List (List Int))) (bz:Int) (yi:(List Int)):Option (Out (Int×(List Int)) (aI)):=
 (bif decide (bz < (x0.length:Int)) then ((idx de (bz))>>=fun acp=>((idx acp (bz))>>=fun WJ=>((fits 8 (yi.length+1))>>=fun apz=>(some (Out.norm (ao (bz+(1:Int)),yi++[WJ])))))) else (some (Out.exit 4 (bz,yi))))
def oH (de:(List (List Int))) (pq:(List Int)) (si:(List Int)) (ij:Int) (sP:(List Int)) (rb:Int):Option (Out ((List Int)×Int) (aI)):=
 (bif decide (rb < (pq.length:Int)) then ((idx si (ij))>>=fun acq=>((idx pq (rb))>>=fun acr=>(bif (acq) == (acr) then ((idx pq (ij))>>=fun acs=>((idx de (acs))>>=fun acu=>((idx si (rb))>>=fun acv=>((idx acu (acv))>>=fun acw=>((fits 8 (sP.length+1))>>=fun apA=>(some (Out.norm (sP++[acw],ao (rb+(1:Int)))))))))) else ((fits 8 (sP.length+1))>>=fun apB=>(some (Out.norm (sP++[(-1:Int)],ao (rb+(1:Int))))))))) else (some (Out.exit 8 (sP,rb))))
def oI (de:(List (List Int))) (pq:(List Int)) (si:(List Int)) (ij:Int) (yj:(List (List Int))):Option (Out (Int×(List (List Int))) (aI)):=
 (bif decide (ij < (pq.length:Int)) then (ai (af 8 (aj (fun s=>oH de pq si ij s.1 s.2) (([]:(List Int)),(0:Int)))) (fun (sP,rb)=>((fits 24 (yj.length+1))>>=fun apC=>(some (Out.norm (ao (ij+(1:Int)),yj++[sP])))))) else (some (Out.exit 6 (ij,yj))))
def fG (x0:(List (List Int))):Option (aI):=
 aq (S:=Unit) (ai (af 0 (aj (fun s=>oF x0 s.1 s.2.1 s.2.2.1 s.2.2.2) (([]:(List (List Int))),(0:Int),([]:(List Int)),([]:(List Int))))) (fun (de,du,pq,si)=>(ai (af 4 (aj (fun s=>oG x0 de s.1 s.2) ((0:Int),([]:(List Int))))) (fun (bz,yi)=>(ai (af 6 (aj (fun s=>oI de pq si s.1 s.2) ((0:Int),([]:(List (List Int)))))) (fun (ij,yj)=>(some (Out.ret ((aI.mk ((x0.length:Int)) pq si yi yj))))))))))
def dE (x0:(List Int)):Option ((List Int)):=
 aq (S:=Unit) ((fits 8 ((([]:(List Int))).length+x0.length))>>=fun n15=>(some (Out.ret ((([]:(List Int))++x0)))))
def fQ (x0:(List Int)) (x1:(List Int)) (bo:Int):Option (Out (Int) (Bool)):=
 (((bif decide (bo < (x0.length:Int)) then (some (decide (bo < (x1.length:Int)))) else (some (false))))>>=fun g6=>(bif g6 then ((idx x0 (bo))>>=fun Oc=>((idx x1 (bo))>>=fun tZ=>(bif (Oc) != (tZ) then ((idx x0 (bo))>>=fun GF=>((idx x1 (bo))>>=fun zX=>(some (Out.ret ((decide (GF < zX))))))) else (some (Out.norm (ao (bo+(1:Int)))))))) else (some (Out.exit 0 (bo)))))
def mN (x0:(List Int)) (x1:(List Int)):Option (Bool):=
 aq (S:=Unit) (ai (af 0 (aj (fQ x0 x1) ((0:Int)))) (fun bo=>(some (Out.ret ((decide ((x0.length:Int) < (x1.length:Int))))))))
def jW (x0:cE) (x1:cE):Option (Bool):=
 aq (S:=Unit) (bif (x0.aH) != (x1.aH) then (some (Out.ret ((decide (x0.aH < x1.aH))))) else (bif (x0.To) != (x1.To) then (some (Out.ret ((decide (x0.To < x1.To))))) else ((mN x0.nk x1.nk)>>=fun B9=>(some (Out.ret (B9))))))
def lF (x0:Int) (s0:(List cE)) (s1:Int):Option (Out ((List cE)×Int) ((List cE))):=
 (bif decide (s1 < x0) then ((fits 40 (s0.length+1))>>=fun n26=>(some (Out.norm (s0++[cE.mk s1 s1 []],ao (s1+(1:Int)))))) else (some (Out.exit 0 (s0,s1))))
def jX (x1:(List Int)) (x2:(List Int)) (s1:Int) (s0:(List cE)) (s2:Int):Option (Out ((List cE)×Int) ((List cE))):=
 (bif decide (s2 < (x1.length:Int)) then ((idx x1 (s2))>>=fun IE=>((idx s0 (s1))>>=fun Od=>(bif (IE) == (Od.To) then ((idx s0 (s1))>>=fun WK=>((idx x2 (s2))>>=fun Dl=>((idx s0 (s1))>>=fun WM=>((dE WM.nk)>>=fun Oe=>((fits 8 (Oe.length+1))>>=fun n72=>((fits 40 (s0.length+1))>>=fun n75=>(some (Out.norm (s0++[cE.mk WK.aH Dl (Oe++[s2])],ao (s2+(1:Int))))))))))) else (some (Out.norm (s0,ao (s2+(1:Int)))))))) else (some (Out.exit 4 (s0,s2))))
def lG (x1:(List Int)) (x2:(List Int)) (s0:(List cE)) (s1:Int):Option (Out ((List cE)×Int) ((List cE))):=
 (((bif decide (s1 < (s0.length:Int)) then (some (decide ((s0.length:Int)≤(40:Int)))) else (some (false))))>>=fun WN=>(bif WN then (ai (af 4 (aj (fun s=>jX x1 x2 s1 s.1 s.2) (s0,(0:Int)))) (fun (s0,s2)=>(some (Out.norm (s0,ao (s1+(1:Int))))))) else (some (Out.exit 2 (s0,s1)))))
def lH (s0:(List cE)) (s1:Int):Option (Out ((List cE)×Int) ((List cE))):=
 (((bif decide ((0:Int) < s1) then ((idx s0 (s1))>>=fun BG=>((idx s0 (ao (s1 - (1:Int))))>>=fun EH=>((jW BG EH)>>=fun Of=>(some (Of))))) else (some (false))))>>=fun WO=>(bif WO then ((idx s0 (s1))>>=fun Qu=>((idx s0 (ao (s1 - (1:Int))))>>=fun vJ=>((idx s0 (s1))>>=fun DF=>((idx (s0.set (s1).toNat vJ) (ao (s1 - (1:Int))))>>=fun Qv=>(some (Out.norm ((s0.set (s1).toNat vJ).set (ao (s1 - (1:Int))).toNat Qu,ao (s1 - (1:Int))))))))) else (some (Out.exit 8 (s0,s1)))))
def lJ (s0:(List cE)) (s1:Int):Option (Out ((List cE)×Int) ((List cE))):=
 (bif decide (s1 < (s0.length:Int)) then (ai (af 8 (aj (fun s=>lH s.1 s.2) (s0,s1))) (fun (s0,s2)=>(some (Out.norm (s0,ao (s1+(1:Int))))))) else (some (Out.exit 6 (s0,s1))))
def mC (x0:Int) (x1:(List Int)) (x2:(List Int)):Option ((List cE)):=
 aq (S:=Unit) (ai (af 0 (aj (fun s=>lF x0 s.1 s.2) (([]:(List cE)),(0:Int)))) (fun (s0,s1)=>(ai (af 2 (aj (fun s=>lG x1 x2 s.1 s.2) (s0,(0:Int)))) (fun (s0,s1)=>(ai (af 6 (aj (fun s=>lJ s.1 s.2) (s0,(1:Int)))) (fun (s0,s1)=>(some (Out.ret (s0)))))))))
def eC (x0:aI):Option (Bool):=
 aq (S:=Unit) (((bif decide (x0.aA≤(8:Int)) then (some (decide ((x0.aH.length:Int)≤(40:Int)))) else (some (false))))>>=fun g8=>(some (Out.ret (g8))))
def mI (x0:(List Int)) (x1:(List Int)) (bo:Int):Option (Out (Int) (Bool)):=
 (bif decide (bo < (x0.length:Int)) then ((idx x0 (bo))>>=fun tZ=>((idx x1 (bo))>>=fun EI=>(bif (tZ) != (EI) then (some (Out.ret (false))) else (some (Out.norm (ao (bo+(1:Int)))))))) else (some (Out.exit 0 (bo))))
def fL (x0:(List Int)) (x1:(List Int)):Option (Bool):=
 aq (S:=Unit) (bif ((x0.length:Int)) != ((x1.length:Int)) then (some (Out.ret (false))) else (ai (af 0 (aj (mI x0 x1) ((0:Int)))) (fun bo=>(some (Out.ret (true))))))
def kC (y8:(List cE)) (dw:Int) (ks:(List Int)) (kv:(List Int)) (ox:(List Int)):Option (Out (Int×(List Int)×(List Int)×(List Int)) (aI)):=
 (bif decide (dw < (y8.length:Int)) then ((idx y8 (dw))>>=fun DG=>((fits 8 (ks.length+1))>>=fun n134=>((idx y8 (dw))>>=fun DH=>((fits 8 (kv.length+1))>>=fun n173=>((idx y8 (dw))>>=fun Qw=>(bif ((Qw.nk.length:Int)) == ((0:Int)) then ((idx y8 (dw))>>=fun IF=>((idx ox (IF.aH))>>=fun acx=>(some (Out.norm (ao (dw+(1:Int)),ks++[DG.aH],kv++[DH.To],ox.set (IF.aH).toNat (dw)))))) else (some (Out.norm (ao (dw+(1:Int)),ks++[DG.aH],kv++[DH.To],ox))))))))) else (some (Out.exit 0 (dw,ks,kv,ox))))
def kD (y8:(List cE)) (ic:Int) (wu:(List Int)) (yh:cE) (xB:Int) (r5:Int):Option (Out (Int×Int) (aI)):=
 (bif decide (r5 < (y8.length:Int)) then ((((idx y8 (r5))>>=fun Qx=>((idx y8 (ic))>>=fun Qy=>(bif (Qx.aH) == (Qy.aH) then ((idx y8 (r5))>>=fun Qz=>((fL Qz.nk (wu++yh.nk))>>=fun QB=>(some (QB)))) else (some (false))))))>>=fun QC=>(bif QC then (some (Out.norm (r5,ao (r5+(1:Int))))) else (some (Out.norm (xB,ao (r5+(1:Int))))))) else (some (Out.exit 6 (xB,r5))))
def kE (y8:(List cE)) (ic:Int) (ph:(List Int)) (td:Int):Option (Out ((List Int)×Int) (aI)):=
 (bif decide (td < (y8.length:Int)) then ((idx y8 (ic))>>=fun QD=>((idx y8 (td))>>=fun QF=>(bif (QD.To) == (QF.aH) then ((idx y8 (ic))>>=fun QG=>((dE QG.nk)>>=fun wu=>((idx y8 (td))>>=fun yh=>((fits 8 (wu.length+yh.nk.length))>>=fun acy=>(ai (af 6 (aj (fun s=>kD y8 ic wu yh s.1 s.2) ((-1:Int),(0:Int)))) (fun (xB,r5)=>((fits 8 (ph.length+1))>>=fun acz=>(some (Out.norm (ph++[xB],ao (td+(1:Int)))))))))))) else ((fits 8 (ph.length+1))>>=fun acA=>(some (Out.norm (ph++[(-1:Int)],ao (td+(1:Int))))))))) else (some (Out.exit 4 (ph,td))))
def iM (y8:(List cE)) (ic:Int) (qv:(List (List Int))):Option (Out (Int×(List (List Int))) (aI)):=
 (bif decide (ic < (y8.length:Int)) then (ai (af 4 (aj (fun s=>kE y8 ic s.1 s.2) (([]:(List Int)),(0:Int)))) (fun (ph,td)=>((fits 24 (qv.length+1))>>=fun acB=>(some (Out.norm (ao (ic+(1:Int)),qv++[ph])))))) else (some (Out.exit 2 (ic,qv))))
def gA (x0:Int) (x1:(List Int)) (x2:(List Int)):Option (aI):=
 aq (S:=Unit) ((mC (x0) x1 x2)>>=fun y8=>((mk 8 (x0))>>=fun n36=>(ai (af 0 (aj (fun s=>kC y8 s.1 s.2.1 s.2.2.1 s.2.2.2) ((0:Int),([]:(List Int)),([]:(List Int)),List.replicate n36 (0:Int)))) (fun (dw,ks,kv,ox)=>((eC (aI.mk x0 ks kv ox (([]:(List (List Int))))))>>=fun QH=>(bif !(QH) then (some (Out.ret ((aI.mk x0 ks kv ox (([]:(List (List Int)))))))) else (ai (af 2 (aj (fun s=>iM y8 s.1 s.2) ((0:Int),([]:(List (List Int)))))) (fun (ic,qv)=>(some (Out.ret ((aI.mk x0 ks kv ox qv))))))))))))
def jY (x0:aL):Option ((List (List Int))×aL):=
 aq (S:=Unit) ((cM x0 ((8:Int)))>>=fun y5=>(bif (y5.1) == ((0:Int)) then (some (Out.ret (((([[(0:Int)]]:(List (List Int)))),(aL.mk x0.Code y5.2.At y5.2.av))))) else (bif (y5.1) == ((1:Int)) then (some (Out.ret (((([[(0:Int),(1:Int)],[(1:Int),(0:Int)]]:(List (List Int)))),(aL.mk x0.Code y5.2.At y5.2.av))))) else (bif (y5.1) == ((2:Int)) then (some (Out.ret (((([[(0:Int),(1:Int)],[(1:Int),(1:Int)]]:(List (List Int)))),(aL.mk x0.Code y5.2.At y5.2.av))))) else (bif (y5.1) == ((3:Int)) then (some (Out.ret (((([[(0:Int),(1:Int),(2:Int)],[(1:Int),(2:Int),(0:Int)],[(2:Int),(0:Int),(1:Int)]]:(List (List Int)))),(aL.mk x0.Code y5.2.At y5.2.av))))) else (bif (y5.1) == ((4:Int)) then (some (Out.ret (((([[(0:Int),(1:Int),(2:Int)],[(1:Int),(1:Int),(2:Int)],[(2:Int),(2:Int),(2:Int)]]:(List (List Int)))),(aL.mk x0.Code y5.2.At y5.2.av))))) else (bif (y5.1) == ((5:Int)) then (some (Out.ret (((([[(0:Int),(1:Int),(2:Int)],[(1:Int),(1:Int),(2:Int)],[(2:Int),(1:Int),(2:Int)]]:(List (List Int)))),(aL.mk x0.Code y5.2.At y5.2.av))))) else (bif (y5.1) == ((6:Int)) then (some (Out.ret (((([[(0:Int),(1:Int),(2:Int),(3:Int)],[(1:Int),(0:Int),(2:Int),(3:Int)],[(2:Int),(3:Int),(2:Int),(3:Int)],[(3:Int),(2:Int),(2:Int),(3:Int)]]:(List (List Int)))),(aL.mk x0.Code y5.2.At y5.2.av))))) else (some (Out.ret (((([[(0:Int),(1:Int),(2:Int)],[(1:Int),(2:Int),(2:Int)],[(2:Int),(2:Int),(2:Int)]]:(List (List Int)))),(aL.mk x0.Code y5.2.At y5.2.av)))))))))))))
def kS (x0:(List (List Int))) (mz:(List (List Int))) (de:Int):Option (Out ((List (List Int))×Int) ((List (List Int)))):=
 (bif decide (de < (x0.length:Int)) then ((idx x0 (de))>>=fun EJ=>((dE EJ)>>=fun sz=>((fits 24 (mz.length+1))>>=fun n49=>(some (Out.norm (mz++[sz],ao (de+(1:Int)))))))) else (some (Out.exit 0 (mz,de))))
def mO (x0:(List (List Int))):Option ((List (List Int))):=
 aq (S:=Unit) (ai (af 0 (aj (fun s=>kS x0 s.1 s.2) (([]:(List (List Int))),(0:Int)))) (fun (mz,de)=>(some (Out.ret (mz)))))
def jZ (x0:(List (List Int))):Option (aI):=
 aq (S:=Unit) ((mk 8 ((x0.length:Int)))>>=fun n10=>((mk 8 ((x0.length:Int)))>>=fun n19=>((mO x0)>>=fun Og=>(some (Out.ret ((aI.mk ((1:Int)) (List.replicate n10 (0:Int)) (List.replicate n19 (0:Int)) ([(0:Int)]) Og)))))))
def nU:Option (aI):=
 aq (S:=Unit) (some (Out.ret ((aI.mk ((2:Int)) (([(0:Int),(1:Int),(0:Int),(0:Int),(1:Int)]:(List Int))) (([(0:Int),(1:Int),(0:Int),(1:Int),(0:Int)]:(List Int))) (([(0:Int),(1:Int)]:(List Int))) (([[(0:Int),(-1:Int),(2:Int),(3:Int),(-1:Int)],[(-1:Int),(1:Int),(-1:Int),(-1:Int),(4:Int)],[(2:Int),(-1:Int),(2:Int),(3:Int),(-1:Int)],[(-1:Int),(3:Int),(-1:Int),(-1:Int),(2:Int)],[(4:Int),(-1:Int),(4:Int),(1:Int),(-1:Int)]]:(List (List Int))))))))
def lA (x0:aI):Option (aI):=
 aq (S:=Unit) ((dE x0.aH)>>=fun vK=>((dE x0.To)>>=fun B9=>((dE x0.aJ)>>=fun Oh=>((mO x0.aE)>>=fun WQ=>(some (Out.ret ((aI.mk x0.aA vK B9 Oh WQ))))))))
def iN (x0:aI) (x1:aI) (ie:Int) (yk:(List Int)):Option (Out (Int×(List Int)) (aI)):=
 (bif decide (ie < x1.aA) then ((idx x1.aJ (ie))>>=fun QI=>((fits 8 (yk.length+1))>>=fun n136=>(some (Out.norm (ao (ie+(1:Int)),yk++[ao (QI+(x0.aH.length:Int))]))))) else (some (Out.exit 0 (ie,yk))))
def iO (x1:aI) (kz:Int) (ed:Int) (zY:(List (List Int))):Option (Out (Int×(List (List Int))) (aI)):=
 (bif decide (ed < (x1.aH.length:Int)) then ((idx zY (kz))>>=fun WR=>((fits 8 (WR.length+1))>>=fun n233=>((idx zY (kz))>>=fun apD=>(some (Out.norm (ao (ed+(1:Int)),zY.set (kz).toNat (WR++[(-1:Int)]))))))) else (some (Out.exit 4 (ed,zY))))
def iP (x1:aI) (kz:Int) (Ca:(List (List Int))):Option (Out (Int×(List (List Int))) (aI)):=
 (bif decide (kz < (Ca.length:Int)) then (ai (af 4 (aj (fun s=>iO x1 kz s.1 s.2) ((0:Int),Ca))) (fun (ed,zY)=>(some (Out.norm (ao (kz+(1:Int)),zY))))) else (some (Out.exit 2 (kz,Ca))))
def iQ (x0:aI) (rb:(List Int)) (qc:Int):Option (Out ((List Int)×Int) (aI)):=
 (bif decide (qc < (x0.aH.length:Int)) then ((fits 8 (rb.length+1))>>=fun apE=>(some (Out.norm (rb++[(-1:Int)],ao (qc+(1:Int)))))) else (some (Out.exit 8 (rb,qc))))
def iR (x0:aI) (x1:aI) (fw:Int) (te:(List Int)) (tO:Int):Option (Out ((List Int)×Int) (aI)):=
 (bif decide (tO < (x1.aH.length:Int)) then ((idx x1.aE (fw))>>=fun acC=>((idx acC (tO))>>=fun QJ=>(bif decide (QJ ≥ (0:Int)) then ((fits 8 (te.length+1))>>=fun apF=>(some (Out.norm (te++[ao (QJ+(x0.aH.length:Int))],ao (tO+(1:Int)))))) else ((fits 8 (te.length+1))>>=fun apG=>(some (Out.norm (te++[QJ],ao (tO+(1:Int))))))))) else (some (Out.exit 10 (te,tO))))
def iS (x0:aI) (x1:aI) (fw:Int) (ym:(List Int)) (yn:(List Int)) (yo:(List (List Int))):Option (Out (Int×(List Int)×(List Int)×(List (List Int))) (aI)):=
 (bif decide (fw < (x1.aH.length:Int)) then ((idx x1.aH (fw))>>=fun acD=>((fits 8 (ym.length+1))>>=fun n314=>((idx x1.To (fw))>>=fun Qs=>((fits 8 (yn.length+1))>>=fun apI=>(ai (af 8 (aj (fun s=>iQ x0 s.1 s.2) (([]:(List Int)),(0:Int)))) (fun (rb,qc)=>(ai (af 10 (aj (fun s=>iR x0 x1 fw s.1 s.2) (rb,(0:Int)))) (fun (te,tO)=>((fits 24 (yo.length+1))>>=fun apJ=>(some (Out.norm (ao (fw+(1:Int)),ym++[ao (acD+x0.aA)],yn++[ao (Qs+x0.aA)],yo++[te])))))))))))) else (some (Out.exit 6 (fw,ym,yn,yo))))
def jT (x0:aI) (x1:aI):Option (aI):=
 aq (S:=Unit) ((lA x0)>>=fun ua=>(ai (af 0 (aj (fun s=>iN x0 x1 s.1 s.2) ((0:Int),ua.aJ))) (fun (ie,yk)=>(ai (af 2 (aj (fun s=>iP x1 s.1 s.2) ((0:Int),ua.aE))) (fun (kz,Ca)=>(ai (af 6 (aj (fun s=>iS x0 x1 s.1 s.2.1 s.2.2.1 s.2.2.2) ((0:Int),ua.aH,ua.To,Ca))) (fun (fw,ym,yn,yo)=>(some (Out.ret ((aI.mk (ao (x0.aA+x1.aA)) ym yn yk yo)))))))))))
def gW (x0:aI) (x1:aI) (bm:Int) (ch:Int) (yp:(List Int)) (yq:(List Int)):Option (Out (Int×(List Int)×(List Int)) (aI)):=
 (bif decide (ch < x1.aA) then ((fits 8 (yp.length+1))>>=fun n181=>((fits 8 (yq.length+1))>>=fun n217=>(some (Out.norm (ao (ch+(1:Int)),yp++[bm],yq++[ao (x0.aA+ch)]))))) else (some (Out.exit 2 (ch,yp,yq))))
def gX (x0:aI) (x1:aI) (bm:Int) (pr:(List Int)) (sk:(List Int)):Option (Out (Int×(List Int)×(List Int)) (aI)):=
 (bif decide (bm < x0.aA) then (ai (af 2 (aj (fun s=>gW x0 x1 bm s.1 s.2.1 s.2.2) ((0:Int),pr,sk))) (fun (ch,yp,yq)=>(some (Out.norm (ao (bm+(1:Int)),yp,yq))))) else (some (Out.exit 0 (bm,pr,sk))))
def gY (x0:aI) (x1:aI) (sz:aI) (pr:(List Int)) (sk:(List Int)) (ed:Int) (fw:(List Int)) (wJ:Int):Option (Out ((List Int)×Int) (aI)):=
 (bif decide (wJ < (pr.length:Int)) then ((idx sk (ed))>>=fun acE=>((idx pr (wJ))>>=fun acF=>(bif (acE) != (acF) then ((fits 8 (fw.length+1))>>=fun apK=>(some (Out.norm (fw++[(-1:Int)],ao (wJ+(1:Int)))))) else (((bif decide (ed < (sz.aH.length:Int)) then (some (decide (wJ < (sz.aH.length:Int)))) else (some (false))))>>=fun acG=>(bif acG then ((idx sz.aE (ed))>>=fun acH=>((idx acH (wJ))>>=fun acI=>((fits 8 (fw.length+1))>>=fun apN=>(some (Out.norm (fw++[acI],ao (wJ+(1:Int)))))))) else ((idx pr (ed))>>=fun QK=>((idx sk (wJ))>>=fun QM=>((fits 8 (fw.length+1))>>=fun apP=>(some (Out.norm (fw++[ao (ao (ao ((sz.aH.length:Int)+ao (QK * x1.aA))+QM) - x0.aA)],ao (wJ+(1:Int))))))))))))) else (some (Out.exit 6 (fw,wJ))))
def gZ (x0:aI) (x1:aI) (sz:aI) (pr:(List Int)) (sk:(List Int)) (bz:(List (List Int))) (ed:Int):Option (Out ((List (List Int))×Int) (aI)):=
 (bif decide (ed < (pr.length:Int)) then (ai (af 6 (aj (fun s=>gY x0 x1 sz pr sk ed s.1 s.2) (([]:(List Int)),(0:Int)))) (fun (fw,wJ)=>((fits 24 (bz.length+1))>>=fun acJ=>(some (Out.norm (bz++[fw],ao (ed+(1:Int)))))))) else (some (Out.exit 4 (bz,ed))))
def jB (x0:aI) (x1:aI):Option (aI):=
 aq (S:=Unit) ((jT x0 x1)>>=fun sz=>(ai (af 0 (aj (fun s=>gX x0 x1 s.1 s.2.1 s.2.2) ((0:Int),sz.aH,sz.To))) (fun (bm,pr,sk)=>(ai (af 4 (aj (fun s=>gZ x0 x1 sz pr sk s.1 s.2) (([]:(List (List Int))),(0:Int)))) (fun (bz,ed)=>(some (Out.ret ((aI.mk sz.aA pr sk sz.aJ bz)))))))))
def jL (x0:aI) (de:Int) (qw:(List Int)) (gv:Int):Option (Out ((List Int)×Int) (aI)):=
 (bif decide (gv < (x0.aH.length:Int)) then ((idx x0.aE (gv))>>=fun acK=>((idx acK (de))>>=fun acL=>((fits 8 (qw.length+1))>>=fun n187=>(some (Out.norm (qw++[acL],ao (gv+(1:Int)))))))) else (some (Out.exit 2 (qw,gv))))
def jM (x0:aI) (de:Int) (yr:(List (List Int))):Option (Out (Int×(List (List Int))) (aI)):=
 (bif decide (de < (x0.aH.length:Int)) then (ai (af 2 (aj (fun s=>jL x0 de s.1 s.2) (([]:(List Int)),(0:Int)))) (fun (qw,gv)=>((fits 24 (yr.length+1))>>=fun n222=>(some (Out.norm (ao (de+(1:Int)),yr++[qw])))))) else (some (Out.exit 0 (de,yr))))
def gT (x0:aI):Option (aI):=
 aq (S:=Unit) ((dE x0.To)>>=fun sz=>((dE x0.aH)>>=fun WS=>((dE x0.aJ)>>=fun IG=>(ai (af 0 (aj (fun s=>jM x0 s.1 s.2) ((0:Int),([]:(List (List Int)))))) (fun (de,yr)=>(some (Out.ret ((aI.mk x0.aA sz WS IG yr)))))))))
def nG (Cb:Int×aL) (gv:(List Int)) (rq:Int):Option (Out ((List Int)×Int) (aI×aL)):=
 (bif decide (rq < ao ((1:Int)+Cb.1)) then ((fits 8 (gv.length+1))>>=fun acM=>(some (Out.norm (gv++[(1:Int)],ao (rq+(1:Int)))))) else (some (Out.exit 3 (gv,rq))))
def nH (Cb:Int×aL) (de:(List (List Int))) (bo:Int):Option (Out ((List (List Int))×Int) (aI×aL)):=
 (bif decide (bo < ao ((1:Int)+Cb.1)) then (ai (af 3 (aj (fun s=>nG Cb s.1 s.2) (([]:(List Int)),(0:Int)))) (fun (gv,rq)=>((fits 24 (de.length+1))>>=fun apQ=>(some (Out.norm (de++[gv],ao (bo+(1:Int)))))))) else (some (Out.exit 1 (de,bo))))
def nI (x0:aL) (AW:Int×aL) (bz:(List Int)) (ed:(List Int)) (ph:Int) (y4:Int) (za:Int):Option (Out ((List Int)×(List Int)×Int×Int×Int) (aI×aL)):=
 (bif decide (ph > (0:Int)) then ((cM (aL.mk x0.Code y4 za) (ao (ao ((2:Int)+AW.1) - (1:Int))))>>=fun EK=>((fits 8 (bz.length+1))>>=fun an6=>((cM (aL.mk x0.Code EK.2.At EK.2.av) (ao (ao (ao ((2:Int)+AW.1) - (1:Int)) - EK.1)))>>=fun Mc=>((fits 8 (ed.length+1))>>=fun an7=>(some (Out.norm (bz++[EK.1],ed++[ao (ao (EK.1+(1:Int))+Mc.1)],ao (ph - (1:Int)),Mc.2.At,Mc.2.av))))))) else (some (Out.exit 5 (bz,ed,ph,y4,za))))
def iU (x0:aL):Option (aI×aL):=
 aq (S:=Unit) ((cM x0 ((12:Int)))>>=fun df=>(bif (df.1) == ((0:Int)) then ((cM (aL.mk x0.Code df.2.At df.2.av) ((5:Int)))>>=fun IH=>((kB (aL.mk x0.Code IH.2.At IH.2.av) (IH.1))>>=fun B9=>((fG B9.1)>>=fun Oh=>(some (Out.ret ((Oh,(aL.mk x0.Code B9.2.At B9.2.av)))))))) else (bif (df.1) == ((1:Int)) then ((fG [[(1:Int),(1:Int)],[(0:Int),(1:Int)]])>>=fun y85=>(some (Out.ret ((y85,(aL.mk x0.Code df.2.At df.2.av)))))) else (bif (df.1) == ((2:Int)) then ((fG [[(1:Int),(1:Int),(1:Int)],[(0:Int),(1:Int),(0:Int)],[(0:Int),(0:Int),(1:Int)]])>>=fun II=>(some (Out.ret ((II,(aL.mk x0.Code df.2.At df.2.av)))))) else (bif (df.1) == ((3:Int)) then ((gA ((2:Int)) [(0:Int),(0:Int)] [(1:Int),(1:Int)])>>=fun acN=>(some (Out.ret ((acN,(aL.mk x0.Code df.2.At df.2.av)))))) else (bif (df.1) == ((4:Int)) then ((jY (aL.mk x0.Code df.2.At df.2.av))>>=fun QN=>((jZ QN.1)>>=fun acO=>(some (Out.ret ((acO,(aL.mk x0.Code QN.2.At QN.2.av))))))) else (bif (df.1) == ((5:Int)) then ((cM (aL.mk x0.Code df.2.At df.2.av) ((3:Int)))>>=fun Cb=>(ai (af 1 (aj (fun s=>nH Cb s.1 s.2) (([]:(List (List Int))),(0:Int)))) (fun (de,bo)=>((fG de)>>=fun acP=>(some (Out.ret ((acP,(aL.mk x0.Code Cb.2.At Cb.2.av))))))))) else (bif (df.1) == ((6:Int)) then ((gA ((3:Int)) [(0:Int),(1:Int),(0:Int)] [(1:Int),(2:Int),(2:Int)])>>=fun acQ=>(some (Out.ret ((acQ,(aL.mk x0.Code df.2.At df.2.av)))))) else (bif (df.1) == ((7:Int)) then ((nU)>>=fun acR=>(some (Out.ret ((acR,(aL.mk x0.Code df.2.At df.2.av)))))) else (bif (df.1) == ((8:Int)) then ((jY (aL.mk x0.Code df.2.At df.2.av))>>=fun QO=>((jZ QO.1)>>=fun acS=>((fG [[(1:Int)]])>>=fun acT=>((jB acS acT)>>=fun acU=>((gT acU)>>=fun acV=>(some (Out.ret ((acV,(aL.mk x0.Code QO.2.At QO.2.av)))))))))) else (bif (df.1) == ((9:Int)) then ((jY (aL.mk x0.Code df.2.At df.2.av))>>=fun QP=>((jZ QP.1)>>=fun acW=>((fG [[(1:Int)]])>>=fun acX=>((jB acW acX)>>=fun acY=>(some (Out.ret ((acY,(aL.mk x0.Code QP.2.At QP.2.av))))))))) else (bif (df.1) == ((10:Int)) then ((cM (aL.mk x0.Code df.2.At df.2.av) ((2:Int)))>>=fun Md=>((kB (aL.mk x0.Code Md.2.At Md.2.av) (ao ((2:Int)+Md.1)))>>=fun Me=>((fG Me.1)>>=fun Zh=>(some (Out.ret ((Zh,(aL.mk x0.Code Me.2.At Me.2.av)))))))) else ((cM (aL.mk x0.Code df.2.At df.2.av) ((2:Int)))>>=fun AW=>((cM (aL.mk x0.Code AW.2.At AW.2.av) ((4:Int)))>>=fun Mf=>(ai (af 5 (aj (fun s=>nI x0 AW s.1 s.2.1 s.2.2.1 s.2.2.2.1 s.2.2.2.2) (([]:(List Int)),([]:(List Int)),Mf.1,Mf.2.At,Mf.2.av))) (fun (bz,ed,ph,y4,za)=>((gA (ao ((2:Int)+AW.1)) bz ed)>>=fun Zi=>(some (Out.ret ((Zi,(aL.mk x0.Code y4 za))))))))))))))))))))))
def fS (x0:aI) (x1:aI) (ie:Int) (kz:Int) (yt:(List Int)):Option (Out (Int×(List Int)) (aI)):=
 (bif decide (kz < x1.aA) then ((idx x0.aJ (ie))>>=fun acZ=>((idx x1.aJ (kz))>>=fun ac0=>((fits 8 (yt.length+1))>>=fun n186=>(some (Out.norm (ao (kz+(1:Int)),yt++[ao (ao (acZ * (x1.aH.length:Int))+ac0)])))))) else (some (Out.exit 2 (kz,yt))))
def fT (x0:aI) (x1:aI) (ie:Int) (AX:(List Int)):Option (Out (Int×(List Int)) (aI)):=
 (bif decide (ie < x0.aA) then (ai (af 2 (aj (fun s=>fS x0 x1 ie s.1 s.2) ((0:Int),AX))) (fun (kz,yt)=>(some (Out.norm (ao (ie+(1:Int)),yt))))) else (some (Out.exit 0 (ie,AX))))
def fU (x0:aI) (x1:aI) (ed:Int) (fw:Int) (qc:Int) (te:(List Int)) (tO:Int):Option (Out ((List Int)×Int) (aI)):=
 (bif decide (tO < (x1.aH.length:Int)) then ((((idx x0.aE (ed))>>=fun ac1=>((idx ac1 (qc))>>=fun ac2=>(bif decide (ac2 ≥ (0:Int)) then ((idx x1.aE (fw))>>=fun ac3=>((idx ac3 (tO))>>=fun ac4=>(some (decide (ac4 ≥ (0:Int)))))) else (some (false))))))>>=fun ac5=>(bif ac5 then ((idx x0.aE (ed))>>=fun ac6=>((idx ac6 (qc))>>=fun ac7=>((idx x1.aE (fw))>>=fun ac8=>((idx ac8 (tO))>>=fun ac9=>((fits 8 (te.length+1))>>=fun apT=>(some (Out.norm (te++[ao (ao (ac7 * (x1.aH.length:Int))+ac9)],ao (tO+(1:Int)))))))))) else ((fits 8 (te.length+1))>>=fun apU=>(some (Out.norm (te++[(-1:Int)],ao (tO+(1:Int)))))))) else (some (Out.exit 10 (te,tO))))
def fV (x0:aI) (x1:aI) (ed:Int) (fw:Int) (rb:(List Int)) (qc:Int):Option (Out ((List Int)×Int) (aI)):=
 (bif decide (qc < (x0.aH.length:Int)) then (ai (af 10 (aj (fun s=>fU x0 x1 ed fw qc s.1 s.2) (rb,(0:Int)))) (fun (te,tO)=>(some (Out.norm (te,ao (qc+(1:Int))))))) else (some (Out.exit 8 (rb,qc))))
def fW (x0:aI) (x1:aI) (ed:Int) (fw:Int) (yu:(List Int)) (yw:(List Int)) (yx:(List (List Int))):Option (Out (Int×(List Int)×(List Int)×(List (List Int))) (aI)):=
 (bif decide (fw < (x1.aH.length:Int)) then ((idx x0.aH (ed))>>=fun ada=>((idx x1.aH (fw))>>=fun adb=>((fits 8 (yu.length+1))>>=fun n318=>((idx x0.To (ed))>>=fun ade=>((idx x1.To (fw))>>=fun Qt=>((fits 8 (yw.length+1))>>=fun apV=>(ai (af 8 (aj (fun s=>fV x0 x1 ed fw s.1 s.2) (([]:(List Int)),(0:Int)))) (fun (rb,qc)=>((fits 24 (yx.length+1))>>=fun apW=>(some (Out.norm (ao (fw+(1:Int)),yu++[ao (ao (ada * x1.aA)+adb)],yw++[ao (ao (ade * x1.aA)+Qt)],yx++[rb])))))))))))) else (some (Out.exit 6 (fw,yu,yw,yx))))
def fX (x0:aI) (x1:aI) (ed:Int) (AY:(List Int)) (AZ:(List Int)) (A3:(List (List Int))):Option (Out (Int×(List Int)×(List Int)×(List (List Int))) (aI)):=
 (bif decide (ed < (x0.aH.length:Int)) then (ai (af 6 (aj (fun s=>fW x0 x1 ed s.1 s.2.1 s.2.2.1 s.2.2.2) ((0:Int),AY,AZ,A3))) (fun (fw,yu,yw,yx)=>(some (Out.norm (ao (ed+(1:Int)),yu,yw,yx))))) else (some (Out.exit 4 (ed,AY,AZ,A3))))
def gI (x0:aI) (x1:aI):Option (aI):=
 aq (S:=Unit) (ai (af 0 (aj (fun s=>fT x0 x1 s.1 s.2) ((0:Int),([]:(List Int))))) (fun (ie,AX)=>(ai (af 4 (aj (fun s=>fX x0 x1 s.1 s.2.1 s.2.2.1 s.2.2.2) ((0:Int),([]:(List Int)),([]:(List Int)),([]:(List (List Int)))))) (fun (ed,AY,AZ,A3)=>(some (Out.ret ((aI.mk (ao (x0.aA * x1.aA)) AY AZ AX A3))))))))
def pC (x0:aL) (x1:Int) (x2:Int) (bm:Int) (kp:Int) (kq:Int):Option (Out (Int×Int×Int) (aI×aL)):=
 (bif decide (bm < (12:Int)) then ((iU (aL.mk x0.Code kp kq))>>=fun uy=>((cM (aL.mk x0.Code uy.2.At uy.2.av) ((5:Int)))>>=fun Dm=>(bif (Dm.1) == ((0:Int)) then ((iU (aL.mk x0.Code Dm.2.At Dm.2.av))>>=fun WT=>((jT uy.1 WT.1)>>=fun IJ=>((cM (aL.mk x0.Code WT.2.At WT.2.av) ((8:Int)))>>=fun DI=>(bif (DI.1) == ((0:Int)) then ((iU (aL.mk x0.Code DI.2.At DI.2.av))>>=fun IK=>((gI IJ IK.1)>>=fun Mg=>(((bif decide (Mg.aA≤x1) then (bif decide ((Mg.aH.length:Int)≤x2) then ((eC Mg)>>=fun adg=>(some (adg))) else (some (false))) else (some (false))))>>=fun adh=>(bif adh then (some (Out.ret ((Mg,(aL.mk x0.Code IK.2.At IK.2.av))))) else (some (Out.norm (ao (bm+(1:Int)),IK.2.At,IK.2.av))))))) else (((bif decide (IJ.aA≤x1) then (bif decide ((IJ.aH.length:Int)≤x2) then ((eC IJ)>>=fun QQ=>(some (QQ))) else (some (false))) else (some (false))))>>=fun adi=>(bif adi then (some (Out.ret ((IJ,(aL.mk x0.Code DI.2.At DI.2.av))))) else (some (Out.norm (ao (bm+(1:Int)),DI.2.At,DI.2.av))))))))) else ((cM (aL.mk x0.Code Dm.2.At Dm.2.av) ((8:Int)))>>=fun DJ=>(bif (DJ.1) == ((0:Int)) then ((iU (aL.mk x0.Code DJ.2.At DJ.2.av))>>=fun DK=>((gI uy.1 DK.1)>>=fun Mh=>(((bif decide (Mh.aA≤x1) then (bif decide ((Mh.aH.length:Int)≤x2) then ((eC Mh)>>=fun adj=>(some (adj))) else (some (false))) else (some (false))))>>=fun adk=>(bif adk then (some (Out.ret ((Mh,(aL.mk x0.Code DK.2.At DK.2.av))))) else (some (Out.norm (ao (bm+(1:Int)),DK.2.At,DK.2.av))))))) else (((bif decide (uy.1.aA≤x1) then (bif decide ((uy.1.aH.length:Int)≤x2) then ((eC uy.1)>>=fun adl=>(some (adl))) else (some (false))) else (some (false))))>>=fun adm=>(bif adm then (some (Out.ret ((uy.1,(aL.mk x0.Code DJ.2.At DJ.2.av))))) else (some (Out.norm (ao (bm+(1:Int)),DJ.2.At,DJ.2.av)))))))))) else (some (Out.exit 0 (bm,kp,kq))))
def jC (x0:aL) (x1:Int) (x2:Int):Option (aI×aL):=
 aq (S:=Unit) (ai (af 0 (aj (fun s=>pC x0 x1 x2 s.1 s.2.1 s.2.2) ((0:Int),x0.At,x0.av))) (fun (bm,kp,kq)=>((fG [[(1:Int)]])>>=fun adn=>(some (Out.ret ((adn,(aL.mk x0.Code kp kq))))))))
def gO (x0:aI) (x1:Int):Option (Bool):=
 aq (S:=Unit) ((idx x0.aH (x1))>>=fun e8=>((idx x0.aJ (e8))>>=fun IL=>(some (Out.ret (((IL) == (x1)))))))
def nJ (x0:aI) (mz:(List Int)) (de:Int):Option (Out ((List Int)×Int) ((List Int))):=
 (bif decide (de < (x0.aH.length:Int)) then ((gO x0 (de))>>=fun sz=>(bif !(sz) then ((fits 8 (mz.length+1))>>=fun n45=>(some (Out.norm (mz++[de],ao (de+(1:Int)))))) else (some (Out.norm (mz,ao (de+(1:Int))))))) else (some (Out.exit 0 (mz,de))))
def nB (x0:aI):Option ((List Int)):=
 aq (S:=Unit) (ai (af 0 (aj (fun s=>nJ x0 s.1 s.2) (([]:(List Int)),(0:Int)))) (fun (mz,de)=>(some (Out.ret (mz)))))
def lZ (x0:aI) (x1:aI):Option (Bool):=
 aq (S:=Unit) ((nB x0)>>=fun vK=>(bif decide ((vK.length:Int)≤(8:Int)) then (some (Out.ret ((decide ((x1.aH.length:Int)≤(16:Int)))))) else (some (Out.ret (false)))))
def pW (x0:aI) (x1:Int) (x2:Int) (bm:(List Int)) (ie:Int):Option (Out ((List Int)×Int) ((List Int))):=
 (bif decide (ie < (x0.aH.length:Int)) then ((((idx x0.aH (ie))>>=fun e27=>(bif (e27) == (x1) then ((idx x0.To (ie))>>=fun e30=>(some ((e30) == (x2)))) else (some (false)))))>>=fun Oi=>(bif Oi then ((fits 8 (bm.length+1))>>=fun n50=>(some (Out.norm (bm++[ie],ao (ie+(1:Int)))))) else (some (Out.norm (bm,ao (ie+(1:Int))))))) else (some (Out.exit 0 (bm,ie))))
def iX (x0:aI) (x1:Int) (x2:Int):Option ((List Int)):=
 aq (S:=Unit) (ai (af 0 (aj (fun s=>pW x0 x1 x2 s.1 s.2) (([]:(List Int)),(0:Int)))) (fun (bm,ie)=>(some (Out.ret (bm)))))
def qX (x0:aI) (x1:aI) (x2:(List Int)) (bm:Int):Option (Out (Int) (Bool)):=
 (bif decide (bm < (x0.aH.length:Int)) then ((idx x0.aH (bm))>>=fun Oj=>((idx x0.To (bm))>>=fun KL=>(bif decide (Oj < (x2.length:Int)) then (bif decide (KL < (x2.length:Int)) then ((idx x2 (Oj))>>=fun Oa=>((idx x2 (KL))>>=fun e33=>((iX x1 (Oa) (e33))>>=fun EL=>(bif ((EL.length:Int)) == ((0:Int)) then (some (Out.ret (false))) else (some (Out.norm (ao (bm+(1:Int))))))))) else (some (Out.norm (ao (bm+(1:Int)))))) else (some (Out.norm (ao (bm+(1:Int)))))))) else (some (Out.exit 0 (bm))))
def nV (x0:aI) (x1:aI) (x2:(List Int)):Option (Bool):=
 aq (S:=Unit) (ai (af 0 (aj (qX x0 x1 x2) ((0:Int)))) (fun bm=>(some (Out.ret (true)))))
def oJ (x0:aI) (x1:aI) (ch:Int) (uR:Bool) (bz:Int) (n4:(List Int)):Option (Out (Bool×Int×(List Int)) (Bool×(List Int))):=
 (bif decide (bz < (n4.length:Int)) then ((idx x0.aE (ch))>>=fun e55=>((idx e55 (bz))>>=fun Dl=>(((bif decide (Dl < (0:Int)) then (some (true)) else ((idx n4 (ch))>>=fun WU=>(bif decide (WU < (0:Int)) then (some (true)) else ((idx n4 (bz))>>=fun Ol=>(some (decide (Ol < (0:Int)))))))))>>=fun g66=>(bif g66 then (some (Out.norm (uR,ao (bz+(1:Int)),n4))) else ((idx n4 (ch))>>=fun Om=>((idx x1.aE (Om))>>=fun EM=>((idx n4 (bz))>>=fun BG=>((idx EM (BG))>>=fun Sx=>((((idx n4 (Dl))>>=fun WV=>(bif decide (WV ≥ (0:Int)) then ((idx n4 (Dl))>>=fun WW=>(some ((WW) != (Sx)))) else (some (false)))))>>=fun g94=>(bif g94 then (some (Out.ret ((false,n4)))) else (((bif uR then (some (true)) else ((idx n4 (Dl))>>=fun DG=>(some (decide (DG < (0:Int)))))))>>=fun ado=>((idx n4 (Dl))>>=fun apX=>(some (Out.norm (ado,ao (bz+(1:Int)),n4.set (Dl).toNat (Sx)))))))))))))))) else (some (Out.exit 4 (uR,bz,n4))))
def oL (x0:aI) (x1:aI) (rq:Bool) (ch:Int) (zZ:(List Int)):Option (Out (Bool×Int×(List Int)) (Bool×(List Int))):=
 (bif decide (ch < (zZ.length:Int)) then (ai (af 4 (aj (fun s=>oJ x0 x1 ch s.1 s.2.1 s.2.2) (rq,(0:Int),zZ))) (fun (uR,bz,n4)=>(some (Out.norm (uR,ao (ch+(1:Int)),n4))))) else (some (Out.exit 2 (rq,ch,zZ))))
def oM (x0:aI) (x1:aI) (bm:Bool) (CO:(List Int)):Option (Out (Bool×(List Int)) (Bool×(List Int))):=
 (bif bm then (ai (af 2 (aj (fun s=>oL x0 x1 s.1 s.2.1 s.2.2) (false,(0:Int),CO))) (fun (rq,ch,zZ)=>(some (Out.norm (rq,zZ))))) else (some (Out.exit 0 (bm,CO))))
def nW (x0:aI) (x1:aI) (x2:(List Int)):Option (Bool×(List Int)):=
 aq (S:=Unit) (ai (af 0 (aj (fun s=>oM x0 x1 s.1 s.2) (true,x2))) (fun (bm,CO)=>(some (Out.ret ((true,CO))))))
def qU (x3:(List Int)) (de:Int):Option (Out (Int) ((List (List Int)))):=
 (((bif decide (de < (x3.length:Int)) then ((idx x3 (de))>>=fun IN=>(some (decide (IN ≥ (0:Int))))) else (some (false))))>>=fun g32=>(bif g32 then (some (Out.norm (ao (de+(1:Int))))) else (some (Out.exit 0 (de)))))
def nK (rc:aI→aI→(List Int)→(List Int)→Int→(List (List Int))→Option ((List (List Int)))) (x0:aI) (x1:aI) (x2:(List Int)) (x3:(List Int)) (de:Int) (Sy:(List Int)) (qw:(List (List Int))) (tP:Int):Option (Out ((List (List Int))×Int) ((List (List Int)))):=
 (((bif decide (tP < (Sy.length:Int)) then (some (decide ((qw.length:Int)≤(200:Int)))) else (some (false))))>>=fun adp=>(bif adp then ((dE x3)>>=fun WX=>((idx Sy (tP))>>=fun adq=>((idx WX (de))>>=fun apY=>((nW x0 x1 (WX.set (de).toNat (adq)))>>=fun WY=>(bif WY.1 then ((rc x0 x1 x2 WY.2 (ao (de+(1:Int))) qw)>>=fun adr=>(some (Out.norm (adr,ao (tP+(1:Int)))))) else (some (Out.norm (qw,ao (tP+(1:Int)))))))))) else (some (Out.exit 2 (qw,tP)))))
def lQ (rc:aI→aI→(List Int)→(List Int)→Int→(List (List Int))→Option ((List (List Int)))) (x0:aI) (x1:aI) (x2:(List Int)) (x3:(List Int)) (x4:Int) (x5:(List (List Int))):Option ((List (List Int))):=
 aq (S:=Unit) (ai (af 0 (aj (qU x3) (x4))) (fun de=>(bif (de) == ((x3.length:Int)) then ((dE x3)>>=fun WZ=>((fits 24 (x5.length+1))>>=fun n70=>(some (Out.ret ((x5++[WZ])))))) else ((idx x0.aH (de))>>=fun e75=>((idx x2 (e75))>>=fun e77=>((idx x0.To (de))>>=fun Om=>((idx x2 (Om))>>=fun EM=>((iX x1 (e77) (EM))>>=fun Sy=>(ai (af 2 (aj (fun s=>nK rc x0 x1 x2 x3 de Sy s.1 s.2) (x5,(0:Int)))) (fun (qw,tP)=>(some (Out.ret (qw)))))))))))))
def iV:Nat→aI→aI→(List Int)→(List Int)→Int→(List (List Int))→Option ((List (List Int)))
 | 0=>fun _ _ _ _ _ _=>none
 | n+1=>lQ (iV n)
def fY (x0:aI) (x1:aI) (x2:(List Int)) (x3:(List Int)):Option (aO):=
 aq (S:=Unit) ((lA x0)>>=fun sz=>((lA x1)>>=fun y60=>((dE x2)>>=fun ads=>((dE x3)>>=fun adu=>(some (Out.ret ((aO.mk sz y60 ads adu))))))))
def nL (x0:aI) (dw:(List Int)) (wK:Int):Option (Out ((List Int)×Int) ((List aO))):=
 (bif decide (wK < (x0.aH.length:Int)) then ((fits 8 (dw.length+1))>>=fun n78=>(some (Out.norm (dw++[(-1:Int)],ao (wK+(1:Int)))))) else (some (Out.exit 0 (dw,wK))))
def nM (x0:aI) (x1:aI) (x2:(List Int)) (uJ:Int) (Cc:(List Int)):Option (Out (Int×(List Int)) ((List aO))):=
 (bif decide (uJ < (x2.length:Int)) then ((idx x0.aJ (uJ))>>=fun Mi=>((idx x2 (uJ))>>=fun QR=>((idx x1.aJ (QR))>>=fun IP=>((idx Cc (Mi))>>=fun Mj=>(some (Out.norm (ao (uJ+(1:Int)),Cc.set (Mi).toNat (IP)))))))) else (some (Out.exit 2 (uJ,Cc))))
def nN (x0:aI) (x1:aI) (x2:(List Int)) (Mk:(List (List Int))) (FC:(List aO)) (EN:Int):Option (Out ((List aO)×Int) ((List aO))):=
 (((bif decide (EN < (Mk.length:Int)) then (some (decide ((FC.length:Int)≤(200:Int)))) else (some (false))))>>=fun adv=>(bif adv then ((idx Mk (EN))>>=fun adw=>((fY x0 x1 x2 adw)>>=fun adx=>((fits 256 (FC.length+1))>>=fun n290=>(some (Out.norm (FC++[adx],ao (EN+(1:Int)))))))) else (some (Out.exit 4 (FC,EN)))))
def nO (rc:aI→aI→(List Int)→(List aO)→Option ((List aO))) (x0:aI) (x1:aI) (x2:(List Int)) (IQ:(List aO)) (ES:Int):Option (Out ((List aO)×Int) ((List aO))):=
 (((bif decide (ES < x1.aA) then (some (decide ((IQ.length:Int)≤(200:Int)))) else (some (false))))>>=fun ady=>(bif ady then ((dE x2)>>=fun DL=>((fits 8 (DL.length+1))>>=fun n342=>((rc x0 x1 (DL++[ES]) IQ)>>=fun adz=>(some (Out.norm (adz,ao (ES+(1:Int)))))))) else (some (Out.exit 6 (IQ,ES)))))
def lR (rc:aI→aI→(List Int)→(List aO)→Option ((List aO))) (x0:aI) (x1:aI) (x2:(List Int)) (x3:(List aO)):Option ((List aO)):=
 aq (S:=Unit) ((nV x0 x1 x2)>>=fun ua=>(bif !(ua) then (some (Out.ret (x3))) else (bif ((x2.length:Int)) == (x0.aA) then (ai (af 0 (aj (fun s=>nL x0 s.1 s.2) (([]:(List Int)),(0:Int)))) (fun (dw,wK)=>(ai (af 2 (aj (fun s=>nM x0 x1 x2 s.1 s.2) ((0:Int),dw))) (fun (uJ,Cc)=>((iV 64 x0 x1 x2 Cc ((0:Int)) (([]:(List (List Int)))))>>=fun Mk=>(ai (af 4 (aj (fun s=>nN x0 x1 x2 Mk s.1 s.2) (x3,(0:Int)))) (fun (FC,EN)=>(some (Out.ret (FC)))))))))) else (ai (af 6 (aj (fun s=>nO rc x0 x1 x2 s.1 s.2) (x3,(0:Int)))) (fun (IQ,ES)=>(some (Out.ret (IQ))))))))
def iW:Nat→aI→aI→(List Int)→(List aO)→Option ((List aO))
 | 0=>fun _ _ _ _=>none
 | n+1=>lR (iW n)
def nT (x0:aI) (x1:aI):Option ((List aO)):=
 aq (S:=Unit) ((iW 64 x0 x1 (([]:(List Int))) (([]:(List aO))))>>=fun zb=>(some (Out.ret (zb))))
def mG (x0:aI) (x2:Int) (bm:(List Int)) (dw:Int):Option (Out ((List Int)×Int) (aO)):=
 (bif decide (dw < x0.aA) then ((fits 8 (bm.length+1))>>=fun n81=>(some (Out.norm (bm++[x2],ao (dw+(1:Int)))))) else (some (Out.exit 0 (bm,dw))))
def mH (x0:aI) (x1:aI) (x2:Int) (ch:(List Int)) (ic:Int):Option (Out ((List Int)×Int) (aO)):=
 (bif decide (ic < (x0.aH.length:Int)) then ((idx x1.aJ (x2))>>=fun adA=>((fits 8 (ch.length+1))>>=fun n131=>(some (Out.norm (ch++[adA],ao (ic+(1:Int))))))) else (some (Out.exit 2 (ch,ic))))
def kF (x0:aI) (x1:aI) (x2:Int):Option (aO):=
 aq (S:=Unit) (ai (af 0 (aj (fun s=>mG x0 x2 s.1 s.2) (([]:(List Int)),(0:Int)))) (fun (bm,dw)=>(ai (af 2 (aj (fun s=>mH x0 x1 x2 s.1 s.2) (([]:(List Int)),(0:Int)))) (fun (ch,ic)=>((fY x0 x1 bm ch)>>=fun adB=>(some (Out.ret (adB))))))))
def hY (x0:aI) (mz:(List Int)) (bo:Int):Option (Out ((List Int)×Int) (aO)):=
 (bif decide (bo < x0.aA) then ((fits 8 (mz.length+1))>>=fun n65=>(some (Out.norm (mz++[bo],ao (bo+(1:Int)))))) else (some (Out.exit 0 (mz,bo))))
def iA (x0:aI) (IS:(List Int)) (gv:Int):Option (Out ((List Int)×Int) (aO)):=
 (bif decide (gv < (x0.aH.length:Int)) then ((fits 8 (IS.length+1))>>=fun n107=>(some (Out.norm (IS++[gv],ao (gv+(1:Int)))))) else (some (Out.exit 2 (IS,gv))))
def eK (x0:aI):Option (aO):=
 aq (S:=Unit) (ai (af 0 (aj (fun s=>hY x0 s.1 s.2) (([]:(List Int)),(0:Int)))) (fun (mz,bo)=>(ai (af 2 (aj (fun s=>iA x0 s.1 s.2) (([]:(List Int)),(0:Int)))) (fun (IS,gv)=>((fY x0 x0 mz IS)>>=fun adC=>(some (Out.ret (adC))))))))
def lK (x0:aL) (x1:aI) (x2:Int) (x3:Int):Option (aO×aL):=
 aq (S:=Unit) ((jC x0 (x2) (x3))>>=fun dh=>((lZ x1 dh.1)>>=fun W0=>(bif W0 then ((nT x1 dh.1)>>=fun W1=>(bif decide ((W1.length:Int) > (0:Int)) then ((cM (aL.mk x0.Code dh.2.At dh.2.av) ((W1.length:Int)))>>=fun B8=>((idx W1 (B8.1))>>=fun vJ=>(some (Out.ret ((vJ,(aL.mk x0.Code B8.2.At B8.2.av))))))) else (bif decide (dh.1.aA > (0:Int)) then ((cM (aL.mk x0.Code dh.2.At dh.2.av) ((2:Int)))>>=fun IT=>(bif (IT.1) == ((0:Int)) then ((cM (aL.mk x0.Code IT.2.At IT.2.av) (dh.1.aA))>>=fun II=>((kF x1 dh.1 (II.1))>>=fun adD=>(some (Out.ret ((adD,(aL.mk x0.Code II.2.At II.2.av))))))) else ((eK x1)>>=fun adE=>(some (Out.ret ((adE,(aL.mk x0.Code IT.2.At IT.2.av)))))))) else ((eK x1)>>=fun adF=>(some (Out.ret ((adF,(aL.mk x0.Code dh.2.At dh.2.av))))))))) else (bif decide (dh.1.aA > (0:Int)) then ((cM (aL.mk x0.Code dh.2.At dh.2.av) ((2:Int)))>>=fun IU=>(bif (IU.1) == ((0:Int)) then ((cM (aL.mk x0.Code IU.2.At IU.2.av) (dh.1.aA))>>=fun QS=>((kF x1 dh.1 (QS.1))>>=fun adG=>(some (Out.ret ((adG,(aL.mk x0.Code QS.2.At QS.2.av))))))) else ((eK x1)>>=fun adH=>(some (Out.ret ((adH,(aL.mk x0.Code IU.2.At IU.2.av)))))))) else ((eK x1)>>=fun adI=>(some (Out.ret ((adI,(aL.mk x0.Code dh.2.At dh.2.av))))))))))
def nP (x0:(List (List Int))) (x1:Int) (bo:(List Int)) (du:Int):Option (Out ((List Int)×Int) ((List Int))):=
 (bif decide (du < (x0.length:Int)) then ((idx x0 (du))>>=fun EJ=>((idx EJ (x1))>>=fun KL=>((fits 8 (bo.length+1))>>=fun n41=>(some (Out.norm (bo++[KL],ao (du+(1:Int)))))))) else (some (Out.exit 0 (bo,du))))
def kA (x0:(List (List Int))) (x1:Int):Option ((List Int)):=
 aq (S:=Unit) (ai (af 0 (aj (fun s=>nP x0 x1 s.1 s.2) (([]:(List Int)),(0:Int)))) (fun (bo,du)=>(some (Out.ret (bo)))))
def rC (x0:(List (List Int))) (x1:(List Int)) (bo:Int):Option (Out (Int) (Int)):=
 (bif decide (bo < (x0.length:Int)) then ((idx x0 (bo))>>=fun e9=>((fL e9 x1)>>=fun vK=>(bif vK then (some (Out.ret (bo))) else (some (Out.norm (ao (bo+(1:Int)))))))) else (some (Out.exit 0 (bo))))
def kG (x0:(List (List Int))) (x1:(List Int)):Option (Int):=
 aq (S:=Unit) (ai (af 0 (aj (rC x0 x1) ((0:Int)))) (fun bo=>(some (Out.ret (((-1:Int)))))))
def eL (x0:aI) (x1:Int) (x2:Int):Option (Int):=
 aq (S:=Unit) ((idx x0.aE (x1))>>=fun e8=>((idx e8 (x2))>>=fun ET=>(some (Out.ret (ET)))))
def pX (x1:aI) (du:(List Int)) (bm:Int):Option (Out ((List Int)×Int) (aI×aO×aL)):=
 (bif decide (bm < x1.aA) then ((fits 8 (du.length+1))>>=fun n80=>(some (Out.norm (du++[bm],ao (bm+(1:Int)))))) else (some (Out.exit 0 (du,bm))))
def pY (x0:aL) (x1:aI) (gv:(List Int)) (ch:Int) (qh:Int) (qi:Int):Option (Out ((List Int)×Int×Int×Int) (aI×aO×aL)):=
 (((bif decide (ch > (0:Int)) then (some (decide (x1.aA > (0:Int)))) else (some (false))))>>=fun QT=>(bif QT then ((cM (aL.mk x0.Code qh qi) (x1.aA))>>=fun QU=>((fits 8 (gv.length+1))>>=fun n142=>(some (Out.norm (gv++[QU.1],ao (ch - (1:Int)),QU.2.At,QU.2.av))))) else (some (Out.exit 2 (gv,ch,qh,qi)))))
def pZ (ed:Int) (fw:Int) (Ml:(List Int)) (IV:(List (List Int))) (qc:Int):Option (Out ((List (List Int))×Int) (aI×aO×aL)):=
 (bif decide (qc < (Ml.length:Int)) then ((idx Ml (qc))>>=fun adJ=>((fits 24 (IV.length+1))>>=fun n276=>(some (Out.norm (IV++[([ed,fw,adJ]:(List Int))],ao (qc+(1:Int))))))) else (some (Out.exit 8 (IV,qc))))
def qA (x1:aI) (gv:(List Int)) (ed:Int) (Mm:(List (List Int))) (fw:Int):Option (Out ((List (List Int))×Int) (aI×aO×aL)):=
 (bif decide (fw < (gv.length:Int)) then ((idx gv (ed))>>=fun adK=>((idx gv (fw))>>=fun adL=>((iX x1 (adK) (adL))>>=fun Ml=>(ai (af 8 (aj (fun s=>pZ ed fw Ml s.1 s.2) (Mm,(0:Int)))) (fun (IV,qc)=>(some (Out.norm (IV,ao (fw+(1:Int)))))))))) else (some (Out.exit 6 (Mm,fw))))
def qB (x1:aI) (gv:(List Int)) (bz:(List (List Int))) (ed:Int):Option (Out ((List (List Int))×Int) (aI×aO×aL)):=
 (bif decide (ed < (gv.length:Int)) then (ai (af 6 (aj (fun s=>qA x1 gv ed s.1 s.2) (bz,(0:Int)))) (fun (Mm,fw)=>(some (Out.norm (Mm,ao (ed+(1:Int))))))) else (some (Out.exit 4 (bz,ed))))
def qC (x1:aI) (gv:(List Int)) (bz:(List (List Int))) (A4:Int) (qj:(List Int)):Option (Out (Int×(List Int)) (aI×aO×aL)):=
 (bif decide (A4 < (gv.length:Int)) then ((idx gv (A4))>>=fun adM=>((idx x1.aJ (adM))>>=fun adN=>((kG bz [A4,A4,adN])>>=fun QV=>((fits 8 (qj.length+1))>>=fun apZ=>(some (Out.norm (ao (A4+(1:Int)),qj++[QV]))))))) else (some (Out.exit 10 (A4,qj))))
def qD (x1:aI) (bz:(List (List Int))) (xC:Int) (A5:(List Int)) (zd:Int):Option (Out ((List Int)×Int) (aI×aO×aL)):=
 (bif decide (zd < (bz.length:Int)) then ((idx bz (xC))>>=fun adO=>((idx adO ((1:Int)))>>=fun adP=>((idx bz (zd))>>=fun adQ=>((idx adQ ((0:Int)))>>=fun adR=>(bif (adP) == (adR) then ((idx bz (xC))>>=fun adS=>((idx adS ((0:Int)))>>=fun adT=>((idx bz (zd))>>=fun adU=>((idx adU ((1:Int)))>>=fun adV=>((idx bz (xC))>>=fun adW=>((idx adW ((2:Int)))>>=fun adX=>((idx bz (zd))>>=fun adY=>((idx adY ((2:Int)))>>=fun adZ=>((eL x1 (adX) (adZ))>>=fun ad0=>((kG bz [adT,adV,ad0])>>=fun ad1=>((fits 8 (A5.length+1))>>=fun ap0=>(some (Out.norm (A5++[ad1],ao (zd+(1:Int)))))))))))))))) else ((fits 8 (A5.length+1))>>=fun ap3=>(some (Out.norm (A5++[(-1:Int)],ao (zd+(1:Int))))))))))) else (some (Out.exit 14 (A5,zd))))
def qE (x1:aI) (gv:(List Int)) (bz:(List (List Int))) (FD:(List Int)) (FG:(List Int)) (qj:(List Int)) (xC:Int) (sZ:(List (List Int))):Option (Out (Int×(List (List Int))) (aI×aO×aL)):=
 (((bif decide (xC < (bz.length:Int)) then ((eC (aI.mk ((gv.length:Int)) FD FG qj sZ))>>=fun ad2=>(some (ad2))) else (some (false))))>>=fun ad3=>(bif ad3 then (ai (af 14 (aj (fun s=>qD x1 bz xC s.1 s.2) (([]:(List Int)),(0:Int)))) (fun (A5,zd)=>((fits 24 (sZ.length+1))>>=fun ap4=>(some (Out.norm (ao (xC+(1:Int)),sZ++[A5])))))) else (some (Out.exit 12 (xC,sZ)))))
def qI (x0:aL) (x1:aI):Option (aI×aO×aL):=
 aq (S:=Unit) (ai (af 0 (aj (fun s=>pX x1 s.1 s.2) (([]:(List Int)),(0:Int)))) (fun (du,bm)=>((cM x0 ((3:Int)))>>=fun Cd=>(ai (af 2 (aj (fun s=>pY x0 x1 s.1 s.2.1 s.2.2.1 s.2.2.2) (du,Cd.1,Cd.2.At,Cd.2.av))) (fun (gv,ch,qh,qi)=>(ai (af 4 (aj (fun s=>qB x1 gv s.1 s.2) (([]:(List (List Int))),(0:Int)))) (fun (bz,ed)=>((kA bz ((0:Int)))>>=fun FD=>((kA bz ((1:Int)))>>=fun FG=>(ai (af 10 (aj (fun s=>qC x1 gv bz s.1 s.2) ((0:Int),([]:(List Int))))) (fun (A4,qj)=>(ai (af 12 (aj (fun s=>qE x1 gv bz FD FG qj s.1 s.2) ((0:Int),([]:(List (List Int)))))) (fun (xC,sZ)=>((eC (aI.mk ((gv.length:Int)) FD FG qj sZ))>>=fun ad4=>(bif !(ad4) then ((eK x1)>>=fun ad5=>(some (Out.ret ((x1,ad5,(aL.mk x0.Code qh qi)))))) else ((kA bz ((2:Int)))>>=fun ad6=>((fY (aI.mk ((gv.length:Int)) FD FG qj sZ) x1 gv ad6)>>=fun Zj=>(some (Out.ret (((aI.mk ((gv.length:Int)) FD FG qj sZ),Zj,(aL.mk x0.Code qh qi))))))))))))))))))))))
def oN (x0:aO) (x3:Int) (x4:Int) (y8:(List Int)) (my:(List Int)) (th:Int):Option (Out ((List Int)×Int) ((List Int))):=
 (bif decide (th < (y8.length:Int)) then ((idx y8 (th))>>=fun W2=>((idx x0.ae (W2))>>=fun On=>((eL x0.aF (On) (x3))>>=fun W3=>(bif (W3) == (x4) then ((idx y8 (th))>>=fun IE=>((fits 8 (my.length+1))>>=fun n64=>(some (Out.norm (my++[IE],ao (th+(1:Int))))))) else (some (Out.norm (my,ao (th+(1:Int))))))))) else (some (Out.exit 0 (my,th))))
def gB (x0:aO) (x1:Int) (x2:Int) (x3:Int) (x4:Int):Option ((List Int)):=
 aq (S:=Unit) ((iX x0.aB (x1) (x2))>>=fun y8=>(ai (af 0 (aj (fun s=>oN x0 x3 x4 y8 s.1 s.2) (([]:(List Int)),(0:Int)))) (fun (my,th)=>(some (Out.ret (my))))))
def pD (x0:aO) (x2:Int) (x3:Int) (dw:Int) (r6:(List Int)) (uJ:Int):Option (Out (Int) (Bool)):=
 (bif decide (uJ < (r6.length:Int)) then ((idx r6 (uJ))>>=fun IN=>((gB x0 (dw) (x2) (x3) (IN))>>=fun y40=>(bif ((y40.length:Int)) != ((1:Int)) then (some (Out.ret (false))) else (some (Out.norm (ao (uJ+(1:Int)))))))) else (some (Out.exit 2 (uJ))))
def pE (x0:aO) (x1:Int) (x2:Int) (x3:Int) (dw:Int):Option (Out (Int) (Bool)):=
 (bif decide (dw < x0.aB.aA) then ((idx x0.aA (dw))>>=fun tZ=>((iX x0.aF (tZ) (x1))>>=fun r6=>(ai (af 2 (aj (pD x0 x2 x3 dw r6) ((0:Int)))) (fun uJ=>(some (Out.norm (ao (dw+(1:Int))))))))) else (some (Out.exit 0 (dw))))
def lC (x0:aO) (x1:Int) (x2:Int) (x3:Int):Option (Bool):=
 aq (S:=Unit) (ai (af 0 (aj (pE x0 x1 x2 x3) ((0:Int)))) (fun dw=>(some (Out.ret (true)))))
def rD (x0:aO) (x1:Int) (bm:Int) (r6:(List Int)) (kz:Int):Option (Out (Int) (Int×Int×Bool)):=
 (bif decide (kz < (r6.length:Int)) then ((idx r6 (kz))>>=fun IN=>((lC x0 (x1) (bm) (IN))>>=fun Oh=>(bif Oh then ((idx r6 (kz))>>=fun e42=>(some (Out.ret ((bm,e42,true))))) else (some (Out.norm (ao (kz+(1:Int)))))))) else (some (Out.exit 2 (kz))))
def rE (x0:aO) (x1:Int) (bm:Int):Option (Out (Int) (Int×Int×Bool)):=
 (bif decide (bm < x0.aB.aA) then ((idx x0.aA (bm))>>=fun tZ=>((iX x0.aF (tZ) (x1))>>=fun r6=>(ai (af 2 (aj (rD x0 x1 bm r6) ((0:Int)))) (fun kz=>(some (Out.norm (ao (bm+(1:Int))))))))) else (some (Out.exit 0 (bm))))
def pF (x0:aO) (x1:Int):Option (Int×Int×Bool):=
 aq (S:=Unit) (ai (af 0 (aj (rE x0 x1) ((0:Int)))) (fun bm=>(some (Out.ret ((((0:Int)),((0:Int)),false))))))
def qJ (x0:aO):Option (aO):=
 aq (S:=Unit) ((fY x0.aB x0.aF x0.aA x0.ae)>>=fun vK=>(some (Out.ret (vK))))
def oO (x0:aO) (du:(List Int)) (bm:(List Int)) (wK:Int):Option (Out ((List Int)×(List Int)×Int) (aS×Bool)):=
 (bif decide (wK < x0.aF.aA) then ((pF x0 (wK))>>=fun QW=>(bif !(QW.2.2) then (some (Out.ret (((aS.mk (aO.mk (aI.mk ((0:Int)) ([]) ([]) ([]) ([])) (aI.mk ((0:Int)) ([]) ([]) ([]) ([])) ([]) ([])) (aO.mk (aI.mk ((0:Int)) ([]) ([]) ([]) ([])) (aI.mk ((0:Int)) ([]) ([]) ([]) ([])) ([]) ([])) ([]) ([])),false)))) else ((fits 8 (du.length+1))>>=fun n161=>((fits 8 (bm.length+1))>>=fun n193=>(some (Out.norm (du++[QW.1],bm++[QW.2.1],ao (wK+(1:Int))))))))) else (some (Out.exit 0 (du,bm,wK))))
def oP (x0:aO) (du:(List Int)) (bm:(List Int)) (ch:(List Int)) (tP:Int):Option (Out ((List Int)×Int) (aS×Bool)):=
 (bif decide (tP < (x0.aF.aH.length:Int)) then ((idx x0.aF.aH (tP))>>=fun W4=>((idx x0.aF.To (tP))>>=fun W5=>((idx du (W4))>>=fun Qr=>((idx du (W5))>>=fun W6=>((idx bm (W5))>>=fun ad7=>((idx bm (W4))>>=fun ad8=>((eL x0.aF (ad8) (tP))>>=fun ad9=>((gB x0 (Qr) (W6) (ad7) (ad9))>>=fun aea=>((idx aea ((0:Int)))>>=fun aeb=>((fits 8 (ch.length+1))>>=fun n302=>(some (Out.norm (ch++[aeb],ao (tP+(1:Int))))))))))))))) else (some (Out.exit 2 (ch,tP))))
def oQ (x0:aO) (du:(List Int)) (bm:(List Int)) (bz:(List Int)) (CP:Int):Option (Out ((List Int)×Int) (aS×Bool)):=
 (bif decide (CP < x0.aB.aA) then ((idx x0.aA (CP))>>=fun QY=>((idx du (QY))>>=fun aec=>((idx bm (QY))>>=fun aed=>((idx x0.aF.aJ (QY))>>=fun aee=>((gB x0 (CP) (aec) (aed) (aee))>>=fun DK=>((idx DK ((0:Int)))>>=fun aef=>((fits 8 (bz.length+1))>>=fun ap5=>(some (Out.norm (bz++[aef],ao (CP+(1:Int)))))))))))) else (some (Out.exit 4 (bz,CP))))
def iK (x0:aO):Option (aS×Bool):=
 aq (S:=Unit) (ai (af 0 (aj (fun s=>oO x0 s.1 s.2.1 s.2.2) (([]:(List Int)),([]:(List Int)),(0:Int)))) (fun (du,bm,wK)=>(ai (af 2 (aj (fun s=>oP x0 du bm s.1 s.2) (([]:(List Int)),(0:Int)))) (fun (ch,tP)=>(ai (af 4 (aj (fun s=>oQ x0 du bm s.1 s.2) (([]:(List Int)),(0:Int)))) (fun (bz,CP)=>((qJ x0)>>=fun aeg=>((fY x0.aF x0.aB du ch)>>=fun aeh=>(some (Out.ret (((aS.mk aeg aeh bz bm),true))))))))))))
def jQ (x0:aO):Option (aO):=
 aq (S:=Unit) ((gT x0.aB)>>=fun vK=>((gT x0.aF)>>=fun N9=>((fY vK N9 x0.aA x0.ae)>>=fun W7=>(some (Out.ret (W7))))))
def iB (x0:aS):Option (aS):=
 aq (S:=Unit) ((jQ x0.ab)>>=fun vK=>((jQ x0.Left)>>=fun QZ=>((dE x0.ba)>>=fun aei=>((dE x0.Unit)>>=fun QQ=>(some (Out.ret ((aS.mk vK QZ aei QQ))))))))
def pG (x0:aL) (mz:Int) (kp:Int) (kq:Int):Option (Out (Int×Int×Int) (aS×aL)):=
 (bif decide (mz < (10:Int)) then ((jC (aL.mk x0.Code kp kq) ((4:Int)) ((10:Int)))>>=fun uy=>((lK (aL.mk x0.Code uy.2.At uy.2.av) uy.1 ((4:Int)) ((10:Int)))>>=fun Dm=>((cM (aL.mk x0.Code Dm.2.At Dm.2.av) ((3:Int)))>>=fun wx=>(bif (wx.1) == ((0:Int)) then ((jC (aL.mk x0.Code wx.2.At wx.2.av) ((3:Int)) ((6:Int)))>>=fun Q0=>((qI (aL.mk x0.Code Q0.2.At Q0.2.av) Q0.1)>>=fun Ce=>((iK Ce.2.1)>>=fun W8=>(bif W8.2 then (some (Out.ret ((W8.1,(aL.mk x0.Code Ce.2.2.At Ce.2.2.av))))) else ((jQ Ce.2.1)>>=fun Zk=>((iK Zk)>>=fun Sz=>(bif Sz.2 then ((iB Sz.1)>>=fun Zm=>(some (Out.ret ((Zm,(aL.mk x0.Code Ce.2.2.At Ce.2.2.av)))))) else (some (Out.norm (ao (mz+(1:Int)),Ce.2.2.At,Ce.2.2.av)))))))))) else ((iK Dm.1)>>=fun SB=>(bif SB.2 then (some (Out.ret ((SB.1,(aL.mk x0.Code wx.2.At wx.2.av))))) else ((jQ Dm.1)>>=fun Zo=>((iK Zo)>>=fun SC=>(bif SC.2 then ((iB SC.1)>>=fun Zp=>(some (Out.ret ((Zp,(aL.mk x0.Code wx.2.At wx.2.av)))))) else (some (Out.norm (ao (mz+(1:Int)),wx.2.At,wx.2.av)))))))))))) else (some (Out.exit 0 (mz,kp,kq))))
def pH (x0:aL):Option (aS×aL):=
 aq (S:=Unit) (ai (af 0 (aj (fun s=>pG x0 s.1 s.2.1 s.2.2) ((0:Int),x0.At,x0.av))) (fun (mz,kp,kq)=>((jC (aL.mk x0.Code kp kq) ((4:Int)) ((10:Int)))>>=fun CQ=>((eK CQ.1)>>=fun Zq=>((eK CQ.1)>>=fun Zr=>(some (Out.ret (((aS.mk Zq Zr CQ.1.aJ CQ.1.aJ),(aL.mk x0.Code CQ.2.At CQ.2.av))))))))))
def mP (x0:aL) (x1:(List Int)):Option (Int×aL):=
 aq (S:=Unit) ((cM x0 ((x1.length:Int)))>>=fun y6=>((idx x1 (y6.1))>>=fun Oc=>(some (Out.ret ((Oc,(aL.mk x0.Code y6.2.At y6.2.av)))))))
def nC (x0:aL) (x1:Int):Option (Int×aL):=
 aq (S:=Unit) ((cM x0 ((40:Int)))>>=fun y5=>(bif (y5.1) == ((0:Int)) then ((mP (aL.mk x0.Code y5.2.At y5.2.av) ([(-1:Int),x1,(9223372036854775807:Int),(-9223372036854775808:Int)]))>>=fun z6=>(some (Out.ret ((z6.1,(aL.mk x0.Code z6.2.At z6.2.av)))))) else ((cM (aL.mk x0.Code y5.2.At y5.2.av) (x1))>>=fun IH=>(some (Out.ret ((IH.1,(aL.mk x0.Code IH.2.At IH.2.av))))))))
def pI (x0:aL) (x1:aI):Option (aI×aL):=
 aq (S:=Unit) ((lA x1)>>=fun dh=>((cM x0 ((dh.aH.length:Int)))>>=fun z7=>((cM (aL.mk x0.Code z7.2.At z7.2.av) ((8:Int)))>>=fun oy=>(bif (oy.1) == ((0:Int)) then ((mP (aL.mk x0.Code oy.2.At oy.2.av) ([ao (dh.aA+(1:Int)),(-1:Int),(9:Int)]))>>=fun W9=>(some (Out.ret (((aI.mk W9.1 dh.aH dh.To dh.aJ dh.aE),(aL.mk x0.Code W9.2.At W9.2.av)))))) else (bif (oy.1) == ((1:Int)) then ((fits 8 (dh.aH.length+1))>>=fun n120=>(some (Out.ret (((aI.mk dh.aA (dh.aH++[(0:Int)]) dh.To dh.aJ dh.aE),(aL.mk x0.Code oy.2.At oy.2.av)))))) else (bif (oy.1) == ((2:Int)) then (bif decide ((dh.aJ.length:Int) > (0:Int)) then ((cM (aL.mk x0.Code oy.2.At oy.2.av) (ao ((dh.aH.length:Int)+(1:Int))))>>=fun Q1=>((idx dh.aJ ((0:Int)))>>=fun ap6=>(some (Out.ret (((aI.mk dh.aA dh.aH dh.To (dh.aJ.set ((0:Int)).toNat (Q1.1)) dh.aE),(aL.mk x0.Code Q1.2.At Q1.2.av))))))) else (some (Out.ret ((dh,(aL.mk x0.Code oy.2.At oy.2.av)))))) else (bif (oy.1) == ((3:Int)) then (bif decide ((dh.aH.length:Int) > (0:Int)) then ((idx dh.aE (z7.1))>>=fun Xa=>((cM (aL.mk x0.Code oy.2.At oy.2.av) ((dh.aH.length:Int)))>>=fun Mn=>((cM (aL.mk x0.Code Mn.2.At Mn.2.av) (ao ((dh.aH.length:Int)+(1:Int))))>>=fun Q2=>((idx Xa (Mn.1))>>=fun ap7=>(some (Out.ret (((aI.mk dh.aA dh.aH dh.To dh.aJ (dh.aE.set (z7.1).toNat (Xa.set (Mn.1).toNat (ao (Q2.1 - (1:Int)))))),(aL.mk x0.Code Q2.2.At Q2.2.av))))))))) else (some (Out.ret ((dh,(aL.mk x0.Code oy.2.At oy.2.av)))))) else (bif (oy.1) == ((4:Int)) then (bif decide ((dh.aH.length:Int) > (0:Int)) then ((idx dh.aE (z7.1))>>=fun Xb=>((cM (aL.mk x0.Code oy.2.At oy.2.av) ((dh.aH.length:Int)))>>=fun Mo=>((cM (aL.mk x0.Code Mo.2.At Mo.2.av) (ao ((dh.aH.length:Int)+(1:Int))))>>=fun wx=>((idx Xb (Mo.1))>>=fun W6=>(some (Out.ret (((aI.mk dh.aA dh.aH dh.To dh.aJ (dh.aE.set (z7.1).toNat (Xb.set (Mo.1).toNat (ao (wx.1 - (1:Int)))))),(aL.mk x0.Code wx.2.At wx.2.av))))))))) else (some (Out.ret ((dh,(aL.mk x0.Code oy.2.At oy.2.av)))))) else (bif (oy.1) == ((5:Int)) then (bif decide ((dh.aH.length:Int) > (0:Int)) then ((idx dh.aE (z7.1))>>=fun Xc=>((cM (aL.mk x0.Code oy.2.At oy.2.av) ((dh.aH.length:Int)))>>=fun Mp=>((cM (aL.mk x0.Code Mp.2.At Mp.2.av) (ao ((dh.aH.length:Int)+(1:Int))))>>=fun Q3=>((idx Xc (Mp.1))>>=fun ap8=>(some (Out.ret (((aI.mk dh.aA dh.aH dh.To dh.aJ (dh.aE.set (z7.1).toNat (Xc.set (Mp.1).toNat (ao (Q3.1 - (1:Int)))))),(aL.mk x0.Code Q3.2.At Q3.2.av))))))))) else (some (Out.ret ((dh,(aL.mk x0.Code oy.2.At oy.2.av)))))) else (bif (oy.1) == ((6:Int)) then (bif decide ((dh.aH.length:Int) > (0:Int)) then ((cM (aL.mk x0.Code oy.2.At oy.2.av) (ao (dh.aA+(1:Int))))>>=fun Q4=>((idx dh.To (z7.1))>>=fun WJ=>(some (Out.ret (((aI.mk dh.aA dh.aH (dh.To.set (z7.1).toNat (Q4.1)) dh.aJ dh.aE),(aL.mk x0.Code Q4.2.At Q4.2.av))))))) else (some (Out.ret ((dh,(aL.mk x0.Code oy.2.At oy.2.av)))))) else (bif decide ((dh.aH.length:Int) > (0:Int)) then ((idx dh.aE (z7.1))>>=fun aej=>((tl aej ((1:Int)))>>=fun aek=>((idx dh.aE (z7.1))>>=fun ap9=>(some (Out.ret (((aI.mk dh.aA dh.aH dh.To dh.aJ (dh.aE.set (z7.1).toNat aek)),(aL.mk x0.Code oy.2.At oy.2.av)))))))) else (some (Out.ret ((dh,(aL.mk x0.Code oy.2.At oy.2.av))))))))))))))))
def pJ (x0:aL):Option (aO×aL):=
 aq (S:=Unit) ((jC x0 ((4:Int)) ((10:Int)))>>=fun df=>((lK (aL.mk x0.Code df.2.At df.2.av) df.1 ((4:Int)) ((12:Int)))>>=fun uc=>((cM (aL.mk x0.Code uc.2.At uc.2.av) ((30:Int)))>>=fun wy=>(bif (wy.1) == ((0:Int)) then ((pI (aL.mk x0.Code wy.2.At wy.2.av) uc.1.aB)>>=fun Q5=>(some (Out.ret (((aO.mk Q5.1 uc.1.aF uc.1.aA uc.1.ae),(aL.mk x0.Code Q5.2.At Q5.2.av)))))) else (bif (wy.1) == ((1:Int)) then (bif decide ((uc.1.ae.length:Int) > (0:Int)) then ((cM (aL.mk x0.Code wy.2.At wy.2.av) ((uc.1.ae.length:Int)))>>=fun DL=>((cM (aL.mk x0.Code DL.2.At DL.2.av) (ao ((uc.1.aF.aH.length:Int)+(1:Int))))>>=fun wu=>((idx uc.1.ae (DL.1))>>=fun aqa=>(some (Out.ret (((aO.mk uc.1.aB uc.1.aF uc.1.aA (uc.1.ae.set (DL.1).toNat (wu.1))),(aL.mk x0.Code wu.2.At wu.2.av)))))))) else (some (Out.ret ((uc.1,(aL.mk x0.Code wy.2.At wy.2.av)))))) else (bif (wy.1) == ((2:Int)) then ((fits 8 (uc.1.aA.length+1))>>=fun acM=>(some (Out.ret (((aO.mk uc.1.aB uc.1.aF (uc.1.aA++[(0:Int)]) uc.1.ae),(aL.mk x0.Code wy.2.At wy.2.av)))))) else (some (Out.ret ((uc.1,(aL.mk x0.Code wy.2.At wy.2.av)))))))))))
def kH (x0:aL):Option (aS×aL):=
 aq (S:=Unit) ((pH x0)>>=fun df=>((cM (aL.mk x0.Code df.2.At df.2.av) ((30:Int)))>>=fun wz=>(bif (wz.1) == ((0:Int)) then (bif decide ((df.1.Unit.length:Int) > (0:Int)) then ((dE df.1.Unit)>>=fun Xd=>((nC (aL.mk x0.Code wz.2.At wz.2.av) ((df.1.Left.aB.aH.length:Int)))>>=fun Q6=>((idx Xd ((0:Int)))>>=fun aqb=>(some (Out.ret (((aS.mk df.1.Left df.1.ab (Xd.set ((0:Int)).toNat (Q6.1)) df.1.ba),(aL.mk x0.Code Q6.2.At Q6.2.av)))))))) else (some (Out.ret ((df.1,(aL.mk x0.Code wz.2.At wz.2.av)))))) else (bif (wz.1) == ((1:Int)) then ((dE df.1.ba)>>=fun Xe=>((fits 8 (Xe.length+1))>>=fun acJ=>(some (Out.ret (((aS.mk df.1.Left df.1.ab df.1.Unit (Xe++[(0:Int)])),(aL.mk x0.Code wz.2.At wz.2.av))))))) else (bif (wz.1) == ((2:Int)) then ((pJ (aL.mk x0.Code wz.2.At wz.2.av))>>=fun Q7=>(some (Out.ret (((aS.mk Q7.1 df.1.ab df.1.Unit df.1.ba),(aL.mk x0.Code Q7.2.At Q7.2.av)))))) else (some (Out.ret ((df.1,(aL.mk x0.Code wz.2.At wz.2.av))))))))))
def qV (x0:Int) (x1:Int) (x2:Int):Option (Bool):=
 aq (S:=Unit) (((bif decide (x0 ≥ x1) then (some (decide (x0≤x2))) else (some (false))))>>=fun g3=>(some (Out.ret (g3))))
def nD (x0:Int) (x1:(List Int)) (bo:Int):Option (Out (Int) (Bool)):=
 (bif decide (bo < (x1.length:Int)) then ((((idx x1 (bo))>>=fun Xf=>(bif decide (Xf < (0:Int)) then (some (true)) else ((idx x1 (bo))>>=fun tZ=>(some (decide (tZ ≥ x0)))))))>>=fun g9=>(bif g9 then (some (Out.ret (false))) else (some (Out.norm (ao (bo+(1:Int))))))) else (some (Out.exit 0 (bo))))
def jU (x0:Int) (x1:(List Int)):Option (Bool):=
 aq (S:=Unit) (ai (af 0 (aj (nD x0 x1) ((0:Int)))) (fun bo=>(some (Out.ret (true)))))
def mQ (x0:(List Int)) (x1:Int) (x2:Int):Option (Bool):=
 aq (S:=Unit) (((bif ((x0.length:Int)) == (x1) then ((jU (x2) x0)>>=fun y6=>(some (y6))) else (some (false))))>>=fun g3=>(some (Out.ret (g3))))
def mJ (x0:aI) (de:Int):Option (Out (Int) (Bool)):=
 (bif decide (de < x0.aA) then ((((idx x0.aJ (de))>>=fun e45=>((idx x0.aH (e45))>>=fun Xg=>(bif (Xg) != (de) then (some (true)) else ((idx x0.aJ (de))>>=fun Od=>((idx x0.To (Od))>>=fun e52=>(some ((e52) != (de)))))))))>>=fun Xh=>(bif Xh then (some (Out.ret (false))) else (some (Out.norm (ao (de+(1:Int))))))) else (some (Out.exit 0 (de))))
def mK (x0:aI) (qw:Int) (zG:Int):Option (Out (Int) (Bool)):=
 (bif decide (zG < (x0.aH.length:Int)) then ((idx x0.aE (qw))>>=fun Xi=>((idx Xi (zG))>>=fun EH=>((idx x0.To (qw))>>=fun e97=>((idx x0.aH (zG))>>=fun WW=>(bif (e97) != (WW) then (bif (EH) != ((-1:Int)) then (some (Out.ret (false))) else (some (Out.norm (ao (zG+(1:Int)))))) else (((bif decide (EH < (0:Int)) then (some (true)) else (bif decide (EH ≥ (x0.aH.length:Int)) then (some (true)) else ((idx x0.aH (EH))>>=fun Qv=>((idx x0.aH (qw))>>=fun ael=>(bif (Qv) != (ael) then (some (true)) else ((idx x0.To (EH))>>=fun aem=>((idx x0.To (zG))>>=fun aen=>(some ((aem) != (aen)))))))))))>>=fun QT=>(bif QT then (some (Out.ret (false))) else (some (Out.norm (ao (zG+(1:Int)))))))))))) else (some (Out.exit 4 (zG))))
def pK (x0:aI) (qw:Int):Option (Out (Int) (Bool)):=
 (bif decide (qw < (x0.aH.length:Int)) then ((idx x0.aE (qw))>>=fun Xj=>(bif ((Xj.length:Int)) != ((x0.aH.length:Int)) then (some (Out.ret (false))) else (ai (af 4 (aj (mK x0 qw) ((0:Int)))) (fun zG=>(some (Out.norm (ao (qw+(1:Int))))))))) else (some (Out.exit 2 (qw))))
def pL (x0:aI):Option (Bool):=
 aq (S:=Unit) ((((qV (x0.aA) ((0:Int)) ((8:Int)))>>=fun EU=>(bif !(EU) then (some (true)) else (bif decide ((x0.aH.length:Int) > (40:Int)) then (some (true)) else ((mQ x0.aH ((x0.aH.length:Int)) (x0.aA))>>=fun vK=>(bif !(vK) then (some (true)) else ((mQ x0.To ((x0.aH.length:Int)) (x0.aA))>>=fun r6=>(bif !(r6) then (some (true)) else (some (((x0.aE.length:Int)) != ((x0.aH.length:Int))))))))))))>>=fun g10=>(bif g10 then (some (Out.ret (false))) else (((bif ((x0.aJ.length:Int)) != (x0.aA) then (some (true)) else ((jU ((x0.aH.length:Int)) x0.aJ)>>=fun Oo=>(some (!(Oo))))))>>=fun g27=>(bif g27 then (some (Out.ret (false))) else (ai (af 0 (aj (mJ x0) ((0:Int)))) (fun de=>(ai (af 2 (aj (pK x0) ((0:Int)))) (fun qw=>(some (Out.ret (true)))))))))))
def lS (x0:aI) (bm:Int):Option (Out (Int) (Int×Int×Int×Int)):=
 (bif decide (bm < (x0.aH.length:Int)) then ((((idx x0.aH (bm))>>=fun EJ=>((idx x0.aJ (EJ))>>=fun Oq=>((idx x0.aE (Oq))>>=fun ID=>((idx ID (bm))>>=fun e29=>(bif (e29) != (bm) then (some (true)) else ((idx x0.aE (bm))>>=fun e32=>((idx x0.To (bm))>>=fun On=>((idx x0.aJ (On))>>=fun Ot=>((idx e32 (Ot))>>=fun Xk=>(some ((Xk) != (bm)))))))))))))>>=fun g16=>(bif g16 then (some (Out.ret ((((1:Int)),bm,((0:Int)),((0:Int)))))) else (some (Out.norm (ao (bm+(1:Int))))))) else (some (Out.exit 0 (bm))))
def kI (x0:aI) (ch:Int) (bz:Int) (ij:Int):Option (Out (Int) (Int×Int×Int×Int)):=
 (bif decide (ij < (x0.aH.length:Int)) then ((((idx x0.To (bz))>>=fun e82=>((idx x0.aH (ij))>>=fun e84=>(bif (e82) == (e84) then ((idx x0.aE (ch))>>=fun Xl=>((idx Xl (bz))>>=fun e94=>((idx x0.aE (e94))>>=fun WV=>((idx WV (ij))>>=fun Mq=>((idx x0.aE (ch))>>=fun aeo=>((idx x0.aE (bz))>>=fun IW=>((idx IW (ij))>>=fun aep=>((idx aeo (aep))>>=fun aeq=>(some ((Mq) != (aeq))))))))))) else (some (false))))))>>=fun g80=>(bif g80 then (some (Out.ret ((((2:Int)),ch,bz,ij)))) else (some (Out.norm (ao (ij+(1:Int))))))) else (some (Out.exit 6 (ij))))
def kJ (x0:aI) (ch:Int) (bz:Int):Option (Out (Int) (Int×Int×Int×Int)):=
 (bif decide (bz < (x0.aH.length:Int)) then ((idx x0.To (ch))>>=fun e65=>((idx x0.aH (bz))>>=fun Xm=>(bif (e65) != (Xm) then (some (Out.norm (ao (bz+(1:Int))))) else (ai (af 6 (aj (kI x0 ch bz) ((0:Int)))) (fun ij=>(some (Out.norm (ao (bz+(1:Int)))))))))) else (some (Out.exit 4 (bz))))
def oR (x0:aI) (ch:Int):Option (Out (Int) (Int×Int×Int×Int)):=
 (bif decide (ch < (x0.aH.length:Int)) then (ai (af 4 (aj (kJ x0 ch) ((0:Int)))) (fun bz=>(some (Out.norm (ao (ch+(1:Int))))))) else (some (Out.exit 2 (ch))))
def nX (x0:aI):Option (Int×Int×Int×Int):=
 aq (S:=Unit) (ai (af 0 (aj (lS x0) ((0:Int)))) (fun bm=>(ai (af 2 (aj (oR x0) ((0:Int)))) (fun ch=>(some (Out.ret ((((0:Int)),((0:Int)),((0:Int)),((0:Int))))))))))
def pM (x0:aI):Option (Bool):=
 aq (S:=Unit) ((pL x0)>>=fun y8=>(bif !(y8) then (some (Out.ret (false))) else ((nX x0)>>=fun y15=>(some (Out.ret (((y15.1) == ((0:Int)))))))))
def qN (x0:aO) (bo:Int):Option (Out (Int) (Bool)):=
 (bif decide (bo < (x0.aB.aH.length:Int)) then ((((idx x0.ae (bo))>>=fun Xn=>((idx x0.aF.aH (Xn))>>=fun Ol=>((idx x0.aB.aH (bo))>>=fun Xo=>((idx x0.aA (Xo))>>=fun Xp=>(bif (Ol) != (Xp) then (some (true)) else ((idx x0.ae (bo))>>=fun Om=>((idx x0.aF.To (Om))>>=fun EM=>((idx x0.aB.To (bo))>>=fun e83=>((idx x0.aA (e83))>>=fun Xq=>(some ((EM) != (Xq)))))))))))))>>=fun g68=>(bif g68 then (some (Out.ret (false))) else (some (Out.norm (ao (bo+(1:Int))))))) else (some (Out.exit 0 (bo))))
def qO (x0:aO) (gv:Int):Option (Out (Int) (Bool)):=
 (bif decide (gv < x0.aB.aA) then ((idx x0.aB.aJ (gv))>>=fun IP=>((idx x0.ae (IP))>>=fun Mj=>((idx x0.aA (gv))>>=fun vJ=>((idx x0.aF.aJ (vJ))>>=fun DF=>(bif (Mj) != (DF) then (some (Out.ret (false))) else (some (Out.norm (ao (gv+(1:Int)))))))))) else (some (Out.exit 2 (gv))))
def qP (x0:aO) (uR:Int) (DM:Int):Option (Out (Int) (Bool)):=
 (bif decide (DM < (x0.aB.aH.length:Int)) then ((((idx x0.aB.To (uR))>>=fun aer=>((idx x0.aB.aH (DM))>>=fun aes=>(bif (aer) == (aes) then ((idx x0.aB.aE (uR))>>=fun aet=>((idx aet (DM))>>=fun Q8=>((idx x0.ae (Q8))>>=fun aeu=>((idx x0.ae (uR))>>=fun Qq=>((idx x0.aF.aE (Qq))>>=fun aev=>((idx x0.ae (DM))>>=fun aew=>((idx aev (aew))>>=fun aex=>(some ((aeu) != (aex)))))))))) else (some (false))))))>>=fun aey=>(bif aey then (some (Out.ret (false))) else (some (Out.norm (ao (DM+(1:Int))))))) else (some (Out.exit 6 (DM))))
def qQ (x0:aO) (uR:Int):Option (Out (Int) (Bool)):=
 (bif decide (uR < (x0.aB.aH.length:Int)) then (ai (af 6 (aj (qP x0 uR) ((0:Int)))) (fun DM=>(some (Out.norm (ao (uR+(1:Int))))))) else (some (Out.exit 4 (uR))))
def pN (x0:aO):Option (Bool):=
 aq (S:=Unit) ((((pM x0.aB)>>=fun EL=>(bif !(EL) then (some (true)) else ((pM x0.aF)>>=fun Ou=>(bif !(Ou) then (some (true)) else (bif ((x0.aA.length:Int)) != (x0.aB.aA) then (some (true)) else (some (((x0.ae.length:Int)) != ((x0.aB.aH.length:Int))))))))))>>=fun Xr=>(bif Xr then (some (Out.ret (false))) else ((((jU (x0.aF.aA) x0.aA)>>=fun WQ=>(bif !(WQ) then (some (true)) else ((jU ((x0.aF.aH.length:Int)) x0.ae)>>=fun y52=>(some (!(y52)))))))>>=fun g47=>(bif g47 then (some (Out.ret (false))) else (ai (af 0 (aj (qN x0) ((0:Int)))) (fun bo=>(ai (af 2 (aj (qO x0) ((0:Int)))) (fun gv=>(ai (af 4 (aj (qQ x0) ((0:Int)))) (fun uR=>(some (Out.ret (true)))))))))))))
def sA (x0:(List (List Int))) (x1:(List (List Int))) (bo:Int):Option (Out (Int) (Bool)):=
 (bif decide (bo < (x0.length:Int)) then ((idx x0 (bo))>>=fun tZ=>((idx x1 (bo))>>=fun zX=>((fL tZ zX)>>=fun EV=>(bif !(EV) then (some (Out.ret (false))) else (some (Out.norm (ao (bo+(1:Int))))))))) else (some (Out.exit 0 (bo))))
def qR (x0:(List (List Int))) (x1:(List (List Int))):Option (Bool):=
 aq (S:=Unit) (bif ((x0.length:Int)) != ((x1.length:Int)) then (some (Out.ret (false))) else (ai (af 0 (aj (sA x0 x1) ((0:Int)))) (fun bo=>(some (Out.ret (true))))))
def kK (x0:aI) (x1:aI):Option (Bool):=
 aq (S:=Unit) (((bif (x0.aA) == (x1.aA) then ((fL x0.aH x1.aH)>>=fun r6=>(bif r6 then ((fL x0.To x1.To)>>=fun Ov=>(bif Ov then ((fL x0.aJ x1.aJ)>>=fun sz=>(bif sz then ((qR x0.aE x1.aE)>>=fun EV=>(some (EV))) else (some (false)))) else (some (false)))) else (some (false)))) else (some (false))))>>=fun g16=>(some (Out.ret (g16))))
def nY (x0:aO) (x1:aO):Option (Bool):=
 aq (S:=Unit) ((((kK x0.aF x1.aB)>>=fun uy=>(bif uy then ((kK x1.aF x0.aB)>>=fun Cf=>(some (Cf))) else (some (false)))))>>=fun g16=>(some (Out.ret (g16))))
def kT (x0:(List Int)) (x1:(List Int)) (bo:(List Int)) (du:Int):Option (Out ((List Int)×Int) ((List Int))):=
 (bif decide (du < (x0.length:Int)) then ((idx x0 (du))>>=fun EJ=>((idx x1 (EJ))>>=fun Oq=>((fits 8 (bo.length+1))>>=fun n36=>(some (Out.norm (bo++[Oq],ao (du+(1:Int)))))))) else (some (Out.exit 0 (bo,du))))
def mR (x0:(List Int)) (x1:(List Int)):Option ((List Int)):=
 aq (S:=Unit) (ai (af 0 (aj (fun s=>kT x0 x1 s.1 s.2) (([]:(List Int)),(0:Int)))) (fun (bo,du)=>(some (Out.ret (bo)))))
def jD (x0:aO) (x1:aO):Option (aO):=
 aq (S:=Unit) ((mR x0.aA x1.aA)>>=fun sz=>((mR x0.ae x1.ae)>>=fun WS=>((fY x0.aB x1.aF sz WS)>>=fun IG=>(some (Out.ret (IG))))))
def mS (x0:aO) (x1:aO) (x2:(List Int)) (dw:Int):Option (Out (Int) (Bool)):=
 (bif decide (dw < (x2.length:Int)) then ((((idx x2 (dw))>>=fun Xm=>((idx x0.aF.aH (Xm))>>=fun WU=>((idx x0.aA (dw))>>=fun e71=>(bif (WU) != (e71) then (some (true)) else ((idx x2 (dw))>>=fun Xo=>((idx x0.aF.To (Xo))>>=fun Xp=>((idx x1.aA (dw))>>=fun e78=>(some ((Xp) != (e78)))))))))))>>=fun g65=>(bif g65 then (some (Out.ret (false))) else (some (Out.norm (ao (dw+(1:Int))))))) else (some (Out.exit 0 (dw))))
def mT (x0:aO) (x1:aO) (x2:(List Int)) (ic:Int):Option (Out (Int) (Bool)):=
 (bif decide (ic < (x0.aB.aH.length:Int)) then ((idx x0.ae (ic))>>=fun Mi=>((idx x0.aB.To (ic))>>=fun QR=>((idx x2 (QR))>>=fun IP=>((eL x0.aF (Mi) (IP))>>=fun aez=>((idx x0.aB.aH (ic))>>=fun vJ=>((idx x2 (vJ))>>=fun DF=>((idx x1.ae (ic))>>=fun IW=>((eL x0.aF (DF) (IW))>>=fun aeA=>(bif (aez) != (aeA) then (some (Out.ret (false))) else (some (Out.norm (ao (ic+(1:Int)))))))))))))) else (some (Out.exit 2 (ic))))
def gJ (x0:aO) (x1:aO) (x2:(List Int)):Option (Bool):=
 aq (S:=Unit) (((bif ((x2.length:Int)) != ((x0.aA.length:Int)) then (some (true)) else ((jU ((x0.aF.aH.length:Int)) x2)>>=fun WZ=>(some (!(WZ))))))>>=fun Xh=>(bif Xh then (some (Out.ret (false))) else (ai (af 0 (aj (mS x0 x1 x2) ((0:Int)))) (fun dw=>(ai (af 2 (aj (mT x0 x1 x2) ((0:Int)))) (fun ic=>(some (Out.ret (true)))))))))
def nZ (x0:aS) (bm:Int):Option (Out (Int) (Bool)):=
 (bif decide (bm < x0.Left.aB.aA) then ((idx x0.Unit (bm))>>=fun Zs=>((idx x0.Left.ae (Zs))>>=fun Zt=>((idx x0.Left.aA (bm))>>=fun Zu=>((idx x0.ba (Zu))>>=fun Zv=>((eL x0.Left.aF (Zt) (Zv))>>=fun Zw=>((gO x0.Left.aF (Zw))>>=fun Zx=>(bif !(Zx) then (some (Out.ret (false))) else (some (Out.norm (ao (bm+(1:Int)))))))))))) else (some (Out.exit 0 (bm))))
def qS (x0:aS) (ch:Int):Option (Out (Int) (Bool)):=
 (bif decide (ch < x0.Left.aF.aA) then ((idx x0.ab.aA (ch))>>=fun Zy=>((idx x0.Unit (Zy))>>=fun Zz=>((idx x0.ba (ch))>>=fun ZA=>((idx x0.ab.ae (ZA))>>=fun ZB=>((eL x0.Left.aB (Zz) (ZB))>>=fun ZC=>((gO x0.Left.aB (ZC))>>=fun ZD=>(bif !(ZD) then (some (Out.ret (false))) else (some (Out.norm (ao (ch+(1:Int)))))))))))) else (some (Out.exit 2 (ch))))
def lT (x0:aS):Option (Bool):=
 aq (S:=Unit) ((((pN x0.Left)>>=fun EL=>(bif !(EL) then (some (true)) else ((pN x0.ab)>>=fun Ou=>(bif !(Ou) then (some (true)) else ((nY x0.Left x0.ab)>>=fun W3=>(some (!(W3)))))))))>>=fun Xr=>(bif Xr then (some (Out.ret (false))) else (orE (((eK x0.Left.aB)>>=fun W0=>((jD x0.Left x0.ab)>>=fun aeB=>((gJ W0 aeB x0.Unit)>>=fun aeC=>(bif !(aeC) then (some (Out.ret (false))) else none))))) (((eK x0.Left.aB)>>=fun QV=>((jD x0.Left x0.ab)>>=fun aeD=>((gJ QV aeD x0.Unit)>>=fun aeE=>(bif !(aeE) then none else ((jD x0.ab x0.Left)>>=fun aeF=>((eK x0.Left.aF)>>=fun ZE=>((gJ aeF ZE x0.ba)>>=fun ZF=>(bif !(ZF) then (some (Out.ret (false))) else (ai (af 0 (aj (nZ x0) ((0:Int)))) (fun bm=>(ai (af 2 (aj (qS x0) ((0:Int)))) (fun ch=>(some (Out.ret (true)))))))))))))))))))
def lL (x0:aI) (x1:Int):Option (Bool):=
 aq (S:=Unit) (((bif decide (x1 ≥ (0:Int)) then (some (decide (x1 < x0.aA))) else (some (false))))>>=fun g8=>(some (Out.ret (g8))))
def oA (x0:aI) (x1:Int):Option (Bool):=
 aq (S:=Unit) (((bif decide (x1 ≥ (0:Int)) then (some (decide (x1 < (x0.aH.length:Int)))) else (some (false))))>>=fun g8=>(some (Out.ret (g8))))
def dB (x0:aI):Option (Int):=
 aq (S:=Unit) (some (Out.ret (((x0.aH.length:Int)))))
def gP (x0:Int) (x1:Int) (x2:Int):Option (Bool):=
 aq (S:=Unit) (((bif decide (x0 ≥ x1) then (some (decide (x0≤x2))) else (some (false))))>>=fun g3=>(some (Out.ret (g3))))
def nE (x0:(List Int)) (x1:Int) (dw:Int):Option (Out (Int) (Bool)):=
 (bif decide (dw < (x0.length:Int)) then ((idx x0 (dw))>>=fun e9=>((gP (e9) ((0:Int)) (ao (x1 - (1:Int))))>>=fun Ow=>(bif !(Ow) then (some (Out.ret (false))) else (some (Out.norm (ao (dw+(1:Int)))))))) else (some (Out.exit 0 (dw))))
def iY (x0:(List Int)) (x1:Int):Option (Bool):=
 aq (S:=Unit) (ai (af 0 (aj (nE x0 x1) ((0:Int)))) (fun dw=>(some (Out.ret (true)))))
def eV (x0:aI) (x1:Int):Option (qW):=
 aq (S:=Unit) ((idx x0.aH (x1))>>=fun e8=>((idx x0.To (x1))>>=fun IL=>(some (Out.ret ((qW.mk e8 IL))))))
def iC (x0:aI) (A6:Int):Option (Out (Int) (Bool)):=
 (bif decide (A6 < (x0.aJ.length:Int)) then ((idx x0.aJ (A6))>>=fun Ot=>((eV x0 (Ot))>>=fun Ox=>(bif !((Ox.aH) == (A6) && (Ox.To) == (A6)) then (some (Out.ret (false))) else (some (Out.norm (ao (A6+(1:Int)))))))) else (some (Out.exit 0 (A6))))
def iD (x0:aI) (y3:Int) (vL:Int) (Oy:(List Int)) (wW:Int):Option (Out (Int) (Bool)):=
 (bif decide (wW < (Oy.length:Int)) then ((idx Oy (wW))>>=fun EM=>((idx x0.To (vL))>>=fun Xq=>((idx x0.aH (wW))>>=fun Xl=>(bif (Xq) != (Xl) then (bif (EM) != ((-1:Int)) then (some (Out.ret (false))) else (some (Out.norm (ao (wW+(1:Int)))))) else ((((gP (EM) ((0:Int)) (ao (y3 - (1:Int))))>>=fun aeG=>(bif !(aeG) then (some (true)) else ((eV x0 (EM))>>=fun Xs=>((idx x0.aH (vL))>>=fun Mj=>((idx x0.To (wW))>>=fun vJ=>(some (!((Xs.aH) == (Mj) && (Xs.To) == (vJ))))))))))>>=fun g99=>(bif g99 then (some (Out.ret (false))) else (some (Out.norm (ao (wW+(1:Int))))))))))) else (some (Out.exit 4 (wW))))
def kL (x0:aI) (y3:Int) (vL:Int):Option (Out (Int) (Bool)):=
 (bif decide (vL < (x0.aE.length:Int)) then ((idx x0.aE (vL))>>=fun Oy=>(bif ((Oy.length:Int)) != (y3) then (some (Out.ret (false))) else (ai (af 4 (aj (iD x0 y3 vL Oy) ((0:Int)))) (fun wW=>(some (Out.norm (ao (vL+(1:Int))))))))) else (some (Out.exit 2 (vL))))
def jH (x0:aI):Option (Bool):=
 aq (S:=Unit) ((dB x0)>>=fun y3=>((((gP (x0.aA) ((0:Int)) ((8:Int)))>>=fun y9=>(bif !(y9) then (some (true)) else (bif decide (y3 > (40:Int)) then (some (true)) else (bif ((x0.To.length:Int)) != (y3) then (some (true)) else ((iY x0.aH (x0.aA))>>=fun z6=>(bif !(z6) then (some (true)) else ((iY x0.To (x0.aA))>>=fun Dn=>(some (!(Dn)))))))))))>>=fun g7=>(bif g7 then (some (Out.ret (false))) else (((bif ((x0.aJ.length:Int)) != (x0.aA) then (some (true)) else ((iY x0.aJ (y3))>>=fun ua=>(bif !(ua) then (some (true)) else (some (((x0.aE.length:Int)) != (y3)))))))>>=fun g24=>(bif g24 then (some (Out.ret (false))) else (ai (af 0 (aj (iC x0) ((0:Int)))) (fun A6=>(ai (af 2 (aj (kL x0 y3) ((0:Int)))) (fun vL=>(some (Out.ret (true))))))))))))
def cY (x0:aI) (x1:Int) (x2:Int):Option (Int):=
 aq (S:=Unit) ((idx x0.aE (x1))>>=fun e3=>((idx e3 (x2))>>=fun IL=>(some (Out.ret (IL)))))
def iZ (x0:aI) (y3:Int) (bm:Int):Option (Out (Int) (Int×Int×Int×Int)):=
 (bif decide (bm < y3) then ((((idx x0.aH (bm))>>=fun ET=>((idx x0.aJ (ET))>>=fun IX=>((cY x0 (IX) (bm))>>=fun r6=>(bif (r6) != (bm) then (some (true)) else ((idx x0.To (bm))>>=fun ID=>((idx x0.aJ (ID))>>=fun e24=>((cY x0 (bm) (e24))>>=fun B9=>(some ((B9) != (bm)))))))))))>>=fun g13=>(bif g13 then (some (Out.ret ((((1:Int)),bm,((0:Int)),((0:Int)))))) else (some (Out.norm (ao (bm+(1:Int))))))) else (some (Out.exit 0 (bm))))
def gQ (x0:aI) (y3:Int) (ch:Int) (bz:Int) (ij:Int):Option (Out (Int) (Int×Int×Int×Int)):=
 (bif decide (ij < y3) then ((((cY x0 (bz) (ij))>>=fun y63=>(bif decide (y63 ≥ (0:Int)) then ((cY x0 (ch) (bz))>>=fun y66=>((cY x0 (y66) (ij))>>=fun y68=>((cY x0 (bz) (ij))>>=fun y70=>((cY x0 (ch) (y70))>>=fun y72=>(some ((y68) != (y72))))))) else (some (false)))))>>=fun g61=>(bif g61 then (some (Out.ret ((((2:Int)),ch,bz,ij)))) else (some (Out.norm (ao (ij+(1:Int))))))) else (some (Out.exit 6 (ij))))
def gR (x0:aI) (y3:Int) (ch:Int) (bz:Int):Option (Out (Int) (Int×Int×Int×Int)):=
 (bif decide (bz < y3) then ((cY x0 (ch) (bz))>>=fun IG=>(bif decide (IG < (0:Int)) then (some (Out.norm (ao (bz+(1:Int))))) else (ai (af 6 (aj (gQ x0 y3 ch bz) ((0:Int)))) (fun ij=>(some (Out.norm (ao (bz+(1:Int))))))))) else (some (Out.exit 4 (bz))))
def lB (x0:aI) (y3:Int) (ch:Int):Option (Out (Int) (Int×Int×Int×Int)):=
 (bif decide (ch < y3) then (ai (af 4 (aj (gR x0 y3 ch) ((0:Int)))) (fun bz=>(some (Out.norm (ao (ch+(1:Int))))))) else (some (Out.exit 2 (ch))))
def kN (x0:aI):Option (Int×Int×Int×Int):=
 aq (S:=Unit) ((dB x0)>>=fun y3=>(ai (af 0 (aj (iZ x0 y3) ((0:Int)))) (fun bm=>(ai (af 2 (aj (lB x0 y3) ((0:Int)))) (fun ch=>(some (Out.ret ((((0:Int)),((0:Int)),((0:Int)),((0:Int)))))))))))
def iE (x0:aI):Option (Bool):=
 aq (S:=Unit) ((jH x0)>>=fun y3=>(bif !(y3) then (some (Out.ret (false))) else ((kN x0)>>=fun df=>(some (Out.ret (((df.1) == ((0:Int)))))))))
def jI (x0:(List aI)) (bm:Int):Option (Out (Int) (Bool)):=
 (bif decide (bm < (x0.length:Int)) then ((idx x0 (bm))>>=fun e9=>((iE e9)>>=fun dh=>(bif !(dh) then (some (Out.ret (false))) else (some (Out.norm (ao (bm+(1:Int)))))))) else (some (Out.exit 0 (bm))))
def kU (x0:(List aI)):Option (Bool):=
 aq (S:=Unit) (ai (af 0 (aj (jI x0) ((0:Int)))) (fun bm=>(some (Out.ret (true)))))
def lU (x0:aO) (A8:Int):Option (Out (Int) (Bool)):=
 (bif decide (A8 < (x0.ae.length:Int)) then ((idx x0.ae (A8))>>=fun Oa=>((((idx x0.aF.aH (Oa))>>=fun W2=>((idx x0.aB.aH (A8))>>=fun On=>((idx x0.aA (On))>>=fun Ot=>(bif (W2) != (Ot) then (some (true)) else ((idx x0.aF.To (Oa))>>=fun e44=>((idx x0.aB.To (A8))>>=fun IE=>((idx x0.aA (IE))>>=fun e48=>(some ((e44) != (e48)))))))))))>>=fun g35=>(bif g35 then (some (Out.ret (false))) else (some (Out.norm (ao (A8+(1:Int)))))))) else (some (Out.exit 0 (A8))))
def lV (x0:aO) (z8:Int):Option (Out (Int) (Bool)):=
 (bif decide (z8 < (x0.aB.aJ.length:Int)) then ((idx x0.aB.aJ (z8))>>=fun e64=>((idx x0.ae (e64))>>=fun Xj=>((idx x0.aA (z8))>>=fun Xn=>((idx x0.aF.aJ (Xn))>>=fun Ol=>(bif (Xj) != (Ol) then (some (Out.ret (false))) else (some (Out.norm (ao (z8+(1:Int)))))))))) else (some (Out.exit 2 (z8))))
def lW (x0:aO) (wX:Int) (BG:(List Int)) (Aa:Int):Option (Out (Int) (Bool)):=
 (bif decide (Aa < (BG.length:Int)) then ((idx BG (Aa))>>=fun Mq=>(((bif decide (Mq ≥ (0:Int)) then ((idx x0.ae (Mq))>>=fun DF=>((idx x0.ae (wX))>>=fun IW=>((idx x0.ae (Aa))>>=fun QI=>((cY x0.aF (IW) (QI))>>=fun QZ=>(some ((DF) != (QZ))))))) else (some (false))))>>=fun aeH=>(bif aeH then (some (Out.ret (false))) else (some (Out.norm (ao (Aa+(1:Int)))))))) else (some (Out.exit 6 (Aa))))
def lX (x0:aO) (wX:Int):Option (Out (Int) (Bool)):=
 (bif decide (wX < (x0.aB.aE.length:Int)) then ((idx x0.aB.aE (wX))>>=fun BG=>(ai (af 6 (aj (lW x0 wX BG) ((0:Int)))) (fun Aa=>(some (Out.norm (ao (wX+(1:Int)))))))) else (some (Out.exit 4 (wX))))
def lD (x0:aO):Option (Bool):=
 aq (S:=Unit) (((bif ((x0.aA.length:Int)) != (x0.aB.aA) then (some (true)) else ((dB x0.aB)>>=fun df=>(bif ((x0.ae.length:Int)) != (df) then (some (true)) else ((iY x0.aA (x0.aF.aA))>>=fun Ow=>(bif !(Ow) then (some (true)) else ((dB x0.aF)>>=fun vK=>((iY x0.ae (vK))>>=fun uy=>(some (!(uy)))))))))))>>=fun g7=>(bif g7 then (some (Out.ret (false))) else (ai (af 0 (aj (lU x0) ((0:Int)))) (fun A8=>(ai (af 2 (aj (lV x0) ((0:Int)))) (fun z8=>(ai (af 4 (aj (lX x0) ((0:Int)))) (fun wX=>(some (Out.ret (true)))))))))))
def jA (x0:aO):Option (Bool):=
 aq (S:=Unit) ((((kU [x0.aB,x0.aF])>>=fun z6=>(bif z6 then ((lD x0)>>=fun Dn=>(some (Dn))) else (some (false)))))>>=fun g12=>(some (Out.ret (g12))))
def kO (x0:(List aO)) (bm:Int):Option (Out (Int) (Bool)):=
 (bif decide (bm < (x0.length:Int)) then ((idx x0 (bm))>>=fun e9=>((jA e9)>>=fun EL=>(bif !(EL) then (some (Out.ret (false))) else (some (Out.norm (ao (bm+(1:Int)))))))) else (some (Out.exit 0 (bm))))
def kM (x0:(List aO)):Option (Bool):=
 aq (S:=Unit) (ai (af 0 (aj (kO x0) ((0:Int)))) (fun bm=>(some (Out.ret (true)))))
def iF (x0:(List Int)) (x1:(List Int)) (ie:Int):Option (Out (Int) (Int)):=
 (bif decide (ie < (x0.length:Int)) then (bif (ie) == ((x1.length:Int)) then (some (Out.ret (((1:Int))))) else ((idx x0 (ie))>>=fun EI=>((idx x1 (ie))>>=fun EJ=>(bif (EI) != (EJ) then ((idx x0 (ie))>>=fun Oj=>((idx x1 (ie))>>=fun KL=>(bif decide (Oj < KL) then (some (Out.ret (((-1:Int))))) else (some (Out.ret (((1:Int)))))))) else (some (Out.norm (ao (ie+(1:Int))))))))) else (some (Out.exit 0 (ie))))
def qY (x0:(List Int)) (x1:(List Int)):Option (Int):=
 aq (S:=Unit) (ai (af 0 (aj (iF x0 x1) ((0:Int)))) (fun ie=>(bif decide ((x0.length:Int) < (x1.length:Int)) then (some (Out.ret (((-1:Int))))) else (some (Out.ret (((0:Int))))))))
def mU (x0:(List Int)) (x1:(List Int)):Option (Bool):=
 aq (S:=Unit) ((qY x0 x1)>>=fun y3=>(some (Out.ret (((y3) == ((0:Int)))))))
def jR (x0:aI) (x1:aI) (CR:Int):Option (Out (Int) (Bool)):=
 (bif decide (CR < (x0.aE.length:Int)) then ((idx x0.aE (CR))>>=fun e28=>((idx x1.aE (CR))>>=fun IN=>((mU e28 IN)>>=fun uc=>(bif !(uc) then (some (Out.ret (false))) else (some (Out.norm (ao (CR+(1:Int))))))))) else (some (Out.exit 0 (CR))))
def fN (x0:aI) (x1:aI):Option (Bool):=
 aq (S:=Unit) (((bif (x0.aA) != (x1.aA) then (some (true)) else ((mU x0.aH x1.aH)>>=fun y6=>(bif !(y6) then (some (true)) else ((mU x0.To x1.To)>>=fun y9=>(bif !(y9) then (some (true)) else ((mU x0.aJ x1.aJ)>>=fun EU=>(bif !(EU) then (some (true)) else (some (((x0.aE.length:Int)) != ((x1.aE.length:Int))))))))))))>>=fun g3=>(bif g3 then (some (Out.ret (false))) else (ai (af 0 (aj (jR x0 x1) ((0:Int)))) (fun CR=>(some (Out.ret (true)))))))
def oB (x0:aO) (x1:aO):Option (Bool):=
 aq (S:=Unit) ((((fN x0.aB x1.aF)>>=fun y7=>(bif y7 then ((fN x0.aF x1.aB)>>=fun EU=>(some (EU))) else (some (false)))))>>=fun g3=>(some (Out.ret (g3))))
def mV (x0:(List Int)) (x1:(List Int)) (th:Int) (vM:(List Int)):Option (Out (Int×(List Int)) ((List Int))):=
 (bif decide (th < (x0.length:Int)) then ((idx x0 (th))>>=fun IX=>((idx x1 (IX))>>=fun zX=>((idx vM (th))>>=fun Oj=>(some (Out.norm (ao (th+(1:Int)),vM.set (th).toNat (zX))))))) else (some (Out.exit 0 (th,vM))))
def qL (x0:(List Int)) (x1:(List Int)):Option ((List Int)):=
 aq (S:=Unit) ((mk 8 ((x0.length:Int)))>>=fun n3=>(ai (af 0 (aj (fun s=>mV x0 x1 s.1 s.2) ((0:Int),List.replicate n3 (0:Int)))) (fun (th,vM)=>(some (Out.ret (vM))))))
def gU (x0:(List Int)):Option ((List Int)):=
 aq (S:=Unit) ((fits 8 ((([]:(List Int))).length+x0.length))>>=fun n15=>(some (Out.ret ((([]:(List Int))++x0)))))
def lM (x0:(List (List Int))) (mz:(List (List Int))) (EW:Int):Option (Out ((List (List Int))×Int) ((List (List Int)))):=
 (bif decide (EW < (x0.length:Int)) then ((idx x0 (EW))>>=fun Oq=>((gU Oq)>>=fun Xt=>((fits 24 (mz.length+1))>>=fun n53=>(some (Out.norm (mz++[Xt],ao (EW+(1:Int)))))))) else (some (Out.exit 0 (mz,EW))))
def qK (x0:(List (List Int))):Option ((List (List Int))):=
 aq (S:=Unit) ((mk 24 ((x0.length:Int)))>>=fun n3=>(ai (af 0 (aj (fun s=>lM x0 s.1 s.2) (([]:(List (List Int))),(0:Int)))) (fun (mz,EW)=>(some (Out.ret (mz))))))
def jE (x0:aI):Option (aI):=
 aq (S:=Unit) ((gU x0.aH)>>=fun y8=>((gU x0.To)>>=fun Dn=>((gU x0.aJ)>>=fun ua=>((qK x0.aE)>>=fun Ou=>(some (Out.ret ((aI.mk x0.aA y8 Dn ua Ou))))))))
def lN (x0:aI) (x1:aI) (x2:(List Int)) (x3:(List Int)):Option (aO):=
 aq (S:=Unit) ((jE x0)>>=fun y8=>((jE x1)>>=fun EL=>((gU x2)>>=fun y78=>((gU x3)>>=fun Of=>(some (Out.ret ((aO.mk y8 EL y78 Of))))))))
def gH (x0:aO) (x1:aO):Option (aO):=
 aq (S:=Unit) ((qL x0.aA x1.aA)>>=fun df=>((qL x0.ae x1.ae)>>=fun r6=>((lN x0.aB x1.aF df r6)>>=fun Xt=>(some (Out.ret (Xt))))))
def kV (n3:Nat) (dw:Int) (vM:(List Int)):Option (Out (Int×(List Int)) ((List Int))):=
 (bif decide (dw < ((List.replicate n3 (0:Int)).length:Int)) then ((idx vM (dw))>>=fun GF=>(some (Out.norm (ao (dw+(1:Int)),vM.set (dw).toNat (dw))))) else (some (Out.exit 0 (dw,vM))))
def mW (x0:Int):Option ((List Int)):=
 aq (S:=Unit) ((mk 8 (x0))>>=fun n3=>(ai (af 0 (aj (fun s=>kV n3 s.1 s.2) ((0:Int),List.replicate n3 (0:Int)))) (fun (dw,vM)=>(some (Out.ret (vM))))))
def mA (x0:aI):Option (aO):=
 aq (S:=Unit) ((mW (x0.aA))>>=fun y8=>((dB x0)>>=fun Dn=>((mW (Dn))>>=fun Cf=>((lN x0 x0 y8 Cf)>>=fun y31=>(some (Out.ret (y31)))))))
def jJ (x0:aO) (x1:aO):Option (Bool):=
 aq (S:=Unit) ((((fN x0.aB x1.aB)>>=fun y7=>(bif y7 then ((fN x0.aF x1.aF)>>=fun EU=>(some (EU))) else (some (false)))))>>=fun g3=>(some (Out.ret (g3))))
def iG (x0:bZ) (A9:Int):Option (Out (Int) (Bool)):=
 (bif decide (A9 < (x0.an.length:Int)) then ((idx x0.an (A9))>>=fun SD=>((eV x0.aB.aF (SD))>>=fun Ox=>((idx x0.aB.aA (A9))>>=fun Xg=>((idx x0.aF.aA (A9))>>=fun e49=>(bif !((Ox.aH) == (Xg) && (Ox.To) == (e49)) then (some (Out.ret (false))) else (some (Out.norm (ao (A9+(1:Int)))))))))) else (some (Out.exit 0 (A9))))
def gK (x0:bZ):Option (Bool):=
 aq (S:=Unit) ((((kM [x0.aB,x0.aF])>>=fun vK=>(bif !(vK) then (some (true)) else ((jJ x0.aB x0.aF)>>=fun r6=>(bif !(r6) then (some (true)) else (bif ((x0.an.length:Int)) != (x0.aB.aB.aA) then (some (true)) else ((dB x0.aB.aF)>>=fun sz=>((iY x0.an (sz))>>=fun ua=>(some (!(ua)))))))))))>>=fun g14=>(bif g14 then (some (Out.ret (false))) else (ai (af 0 (aj (iG x0) ((0:Int)))) (fun A9=>(some (Out.ret (true)))))))
def lY (x0:bZ) (x1:(aO→aO→(List Int)→Int→Option (Bool))) (my:Int):Option (Out (Int) (Int)):=
 (bif decide (my < (x0.aB.ae.length:Int)) then ((x1 x0.aB x0.aF x0.an (my))>>=fun z6=>(bif !(z6) then (some (Out.ret (my))) else (some (Out.norm (ao (my+(1:Int))))))) else (some (Out.exit 0 (my))))
def lE (x0:bZ) (x1:(aO→aO→(List Int)→Int→Option (Bool))):Option (Int):=
 aq (S:=Unit) (ai (af 0 (aj (lY x0 x1) ((0:Int)))) (fun my=>(some (Out.ret (((-1:Int)))))))
def jN (x0:aO) (x1:aO) (x2:(List Int)) (x3:Int):Option (Bool):=
 aq (S:=Unit) ((idx x0.ae (x3))>>=fun e7=>((idx x0.aB.To (x3))>>=fun e9=>((idx x2 (e9))>>=fun Xf=>((cY x0.aF (e7) (Xf))>>=fun Ow=>((idx x0.aB.aH (x3))>>=fun ET=>((idx x2 (ET))>>=fun IX=>((idx x1.ae (x3))>>=fun GF=>((cY x0.aF (IX) (GF))>>=fun Cf=>(some (Out.ret (((Ow) == (Cf)))))))))))))
def fR (x0:bZ):Option (Bool):=
 aq (S:=Unit) ((((gK x0)>>=fun y5=>(bif y5 then ((lE x0 (fun a0 a1 a2 a3=>jN a0 a1 a2 (a3)))>>=fun y8=>(some (decide (y8 < (0:Int))))) else (some (false)))))>>=fun g3=>(some (Out.ret (g3))))
def kW (x0:(List bZ)) (bm:Int):Option (Out (Int) (Bool)):=
 (bif decide (bm < (x0.length:Int)) then ((idx x0 (bm))>>=fun e9=>((fR e9)>>=fun y57=>(bif !(y57) then (some (Out.ret (false))) else (some (Out.norm (ao (bm+(1:Int)))))))) else (some (Out.exit 0 (bm))))
def kX (x0:(List bZ)):Option (Bool):=
 aq (S:=Unit) (ai (af 0 (aj (kW x0) ((0:Int)))) (fun bm=>(some (Out.ret (true)))))
def kQ (x0:aS) (CT:Int):Option (Out (Int) (Bool)):=
 (bif decide (CT < (x0.Left.aA.length:Int)) then ((idx x0.Left.aA (CT))>>=fun SE=>((idx x0.Unit (CT))>>=fun ZG=>((idx x0.Left.ae (ZG))>>=fun ZH=>((idx x0.ba (SE))>>=fun ZI=>((cY x0.Left.aF (ZH) (ZI))>>=fun ZJ=>((idx x0.Left.aF.aJ (SE))>>=fun ZK=>(bif (ZJ) != (ZK) then (some (Out.ret (false))) else (some (Out.norm (ao (CT+(1:Int)))))))))))) else (some (Out.exit 0 (CT))))
def kR (x0:aS) (Ab:Int):Option (Out (Int) (Bool)):=
 (bif decide (Ab < (x0.ab.aA.length:Int)) then ((idx x0.ab.aA (Ab))>>=fun SF=>((idx x0.Unit (SF))>>=fun ZL=>((idx x0.ba (Ab))>>=fun ZM=>((idx x0.ab.ae (ZM))>>=fun ZN=>((cY x0.Left.aB (ZL) (ZN))>>=fun ZO=>((idx x0.Left.aB.aJ (SF))>>=fun ZP=>(bif (ZO) != (ZP) then (some (Out.ret (false))) else (some (Out.norm (ao (Ab+(1:Int)))))))))))) else (some (Out.exit 2 (Ab))))
def jS (x0:aS):Option (Bool):=
 aq (S:=Unit) ((gH x0.Left x0.ab)>>=fun y11=>((gH x0.ab x0.Left)>>=fun y93=>((mA x0.Left.aB)>>=fun aeI=>((mA x0.Left.aF)>>=fun aeJ=>((kX [(bZ.mk aeI y11 x0.Unit),(bZ.mk y93 aeJ x0.ba)])>>=fun ZQ=>(bif !(ZQ) then (some (Out.ret (false))) else (ai (af 0 (aj (kQ x0) ((0:Int)))) (fun CT=>(ai (af 2 (aj (kR x0) ((0:Int)))) (fun Ab=>(some (Out.ret (true)))))))))))))
def eA (x0:aS):Option (Bool):=
 aq (S:=Unit) ((((kM [x0.Left,x0.ab])>>=fun z6=>(bif z6 then ((oB x0.Left x0.ab)>>=fun r6=>(bif r6 then ((jS x0)>>=fun Ov=>(some (Ov))) else (some (false)))) else (some (false)))))>>=fun g12=>(some (Out.ret (g12))))
def gL (x0:aS) (x1:Int) (x2:Int):Option (Int):=
 aq (S:=Unit) ((eA x0)>>=fun y3=>(bif !(y3) then (some (Out.ret (((1:Int))))) else ((((gP (x1) ((0:Int)) (ao (x0.Left.aB.aA - (1:Int))))>>=fun z6=>(bif !(z6) then (some (true)) else ((gP (x2) ((0:Int)) (ao (x0.Left.aF.aA - (1:Int))))>>=fun r6=>(some (!(r6)))))))>>=fun g10=>(bif g10 then (some (Out.ret (((2:Int))))) else (some (Out.ret (((0:Int)))))))))
def fA (x0:aS) (x1:Int) (x2:Int):Option (Int):=
 aq (S:=Unit) ((idx x0.Unit (x1))>>=fun e5=>((idx x0.ab.ae (x2))>>=fun e8=>((cY x0.Left.aB (e5) (e8))>>=fun df=>(some (Out.ret (df))))))
def fM (x0:aS) (x1:Int) (x2:Int) (x3:Int) (x4:aI) (x5:qW) (x6:Int) (x7:(Int→Int→Option (Int))):Option (Int×Int):=
 aq (S:=Unit) ((dB x4)>>=fun y8=>((gP (x3) ((0:Int)) (ao (y8 - (1:Int))))>>=fun df=>(bif !(df) then (some (Out.ret ((((0:Int)),((2:Int)))))) else ((eV x4 (x3))>>=fun Dn=>(bif !((Dn.aH) == (x5.aH) && (Dn.To) == (x5.To)) then (some (Out.ret ((((0:Int)),((5:Int)))))) else ((x7 (x6) (x3))>>=fun IY=>(some (Out.ret ((IY,((0:Int))))))))))))
def gN (x0:aS) (x1:Int) (x2:Int) (x3:Int):Option (Int×Int):=
 aq (S:=Unit) ((gL x0 (x1) (x2))>>=fun y8=>(bif (y8) != ((0:Int)) then (some (Out.ret ((((0:Int)),y8)))) else ((idx x0.Left.aA (x1))>>=fun IX=>((fM x0 (x1) (x2) (x3) x0.Left.aF (qW.mk IX x2) (x1) (fun a0 a1=>fA x0 (a0) (a1)))>>=fun r6=>(some (Out.ret ((r6.1,r6.2))))))))
def qZ (x0:aS) (x1:Int) (x2:Int) (x3:aI) (x4:Int):Option (Int):=
 aq (S:=Unit) ((((lL x0.Left.aB (x1))>>=fun uy=>(bif !(uy) then (some (true)) else ((lL x0.Left.aF (x2))>>=fun Cf=>(bif !(Cf) then (some (true)) else ((oA x3 (x4))>>=fun IY=>(some (!(IY)))))))))>>=fun g16=>(bif g16 then (some (Out.ret (((2:Int))))) else (some (Out.ret (((0:Int)))))))
def oC (x0:aS) (x1:Int) (x2:Int):Option (Int):=
 aq (S:=Unit) ((idx x0.Unit (x1))>>=fun e8=>((idx x0.ab.ae (x2))>>=fun IL=>((eL x0.Left.aB (e8) (IL))>>=fun EU=>(some (Out.ret (EU))))))
def kP (x0:aS) (x1:Int) (x2:Int) (x3:Int):Option (Int×Int):=
 aq (S:=Unit) ((lT x0)>>=fun y8=>(bif !(y8) then (some (Out.ret ((((0:Int)),((1:Int)))))) else ((qZ x0 (x1) (x2) x0.Left.aF (x3))>>=fun ua=>(bif (ua) != ((0:Int)) then (some (Out.ret ((((0:Int)),ua)))) else ((((idx x0.Left.aF.aH (x3))>>=fun e38=>((idx x0.Left.aA (x1))>>=fun SD=>(bif (e38) != (SD) then (some (true)) else ((idx x0.Left.aF.To (x3))>>=fun Xk=>(some ((Xk) != (x2))))))))>>=fun g36=>(bif g36 then (some (Out.ret ((((0:Int)),((5:Int)))))) else ((oC x0 (x1) (x3))>>=fun y50=>(some (Out.ret ((y50,((0:Int)))))))))))))
def fB (x0:aS) (x1:Int) (x2:Int):Option (Int):=
 aq (S:=Unit) ((idx x0.Left.ae (x2))>>=fun e6=>((idx x0.ba (x1))>>=fun e8=>((cY x0.Left.aF (e6) (e8))>>=fun df=>(some (Out.ret (df))))))
def jF (x0:(List Int)) (zb:aS×aL) (du:Int) (DN:Int) (DO:Int):Option (Out (Int×Int×Int) (aS×aS)):=
 (bif decide (du < (6:Int)) then ((lK (aL.mk x0 DN DO) zb.1.Left.aF ((4:Int)) ((10:Int)))>>=fun CU=>((kK CU.1.aB zb.1.Left.aF)>>=fun ZR=>(bif !(ZR) then (some (Out.norm (ao (du+(1:Int)),CU.2.At,CU.2.av))) else ((iK CU.1)>>=fun SG=>(bif SG.2 then (some (Out.ret ((zb.1,SG.1)))) else (some (Out.norm (ao (du+(1:Int)),CU.2.At,CU.2.av)))))))) else (some (Out.exit 0 (du,DN,DO))))
def iI (x0:(List Int)):Option (aS×aS):=
 aq (S:=Unit) ((pA x0)>>=fun vK=>(match vK with | none=>none | some m23=>((kH (aL.mk x0 m23.At m23.av))>>=fun zb=>((cM (aL.mk x0 zb.2.At zb.2.av) ((10:Int)))>>=fun DP=>(bif (DP.1) == ((0:Int)) then ((kH (aL.mk x0 DP.2.At DP.2.av))>>=fun aeK=>(some (Out.ret ((zb.1,aeK.1))))) else ((lT zb.1)>>=fun ZS=>(bif !(ZS) then ((kH (aL.mk x0 DP.2.At DP.2.av))>>=fun ZT=>(some (Out.ret ((zb.1,ZT.1))))) else (ai (af 0 (aj (fun s=>jF x0 zb s.1 s.2.1 s.2.2) ((0:Int),DP.2.At,DP.2.av))) (fun (du,DN,DO)=>((iB zb.1)>>=fun ZU=>((iB ZU)>>=fun ZV=>(some (Out.ret ((zb.1,ZV)))))))))))))))
def jO (x0:aO):Option (aO):=
 aq (S:=Unit) ((lN x0.aB x0.aF x0.aA x0.ae)>>=fun df=>(some (Out.ret (df))))
def mL (x0:aO) (x1:aO) (x2:(List Int)) (x3:(List Int)):Option (aS):=
 aq (S:=Unit) ((jO x0)>>=fun y8=>((jO x1)>>=fun y98=>((gU x2)>>=fun aeL=>((gU x3)>>=fun Q9=>(some (Out.ret ((aS.mk y8 y98 aeL Q9))))))))
def gD (x0:aS) (x1:aS) (ie:(List Int)) (CV:Int):Option (Out ((List Int)×Int) (aS×Int)):=
 (bif decide (CV < (x0.Left.aA.length:Int)) then ((idx x0.Left.aA (CV))>>=fun aeM=>((idx x1.Unit (aeM))>>=fun aeN=>((fA x0 (CV) (aeN))>>=fun aeO=>((fits 8 (ie.length+1))>>=fun aqc=>(some (Out.norm (ie++[aeO],ao (CV+(1:Int))))))))) else (some (Out.exit 0 (ie,CV))))
def gE (x0:aS) (x1:aS) (kz:(List Int)) (CW:Int):Option (Out ((List Int)×Int) (aS×Int)):=
 (bif decide (CW < (x1.ab.aA.length:Int)) then ((idx x1.ab.aA (CW))>>=fun ZW=>((idx x0.ba (ZW))>>=fun ZX=>((fB x1 (CW) (ZX))>>=fun ZY=>((fits 8 (kz.length+1))>>=fun an8=>(some (Out.norm (kz++[ZY],ao (CW+(1:Int))))))))) else (some (Out.exit 2 (kz,CW))))
def eW (x0:aS) (x1:aS):Option (aS×Int):=
 aq (S:=Unit) ((((eA x0)>>=fun ua=>(bif !(ua) then (some (true)) else ((eA x1)>>=fun Oo=>(some (!(Oo)))))))>>=fun Oi=>(bif Oi then (some (Out.ret (((aS.mk (aO.mk (aI.mk ((0:Int)) ([]) ([]) ([]) ([])) (aI.mk ((0:Int)) ([]) ([]) ([]) ([])) ([]) ([])) (aO.mk (aI.mk ((0:Int)) ([]) ([]) ([]) ([])) (aI.mk ((0:Int)) ([]) ([]) ([]) ([])) ([]) ([])) ([]) ([])),((1:Int)))))) else ((fN x0.Left.aF x1.Left.aB)>>=fun Og=>(bif !(Og) then (some (Out.ret (((aS.mk (aO.mk (aI.mk ((0:Int)) ([]) ([]) ([]) ([])) (aI.mk ((0:Int)) ([]) ([]) ([]) ([])) ([]) ([])) (aO.mk (aI.mk ((0:Int)) ([]) ([]) ([]) ([])) (aI.mk ((0:Int)) ([]) ([]) ([]) ([])) ([]) ([])) ([]) ([])),((5:Int)))))) else ((gH x0.Left x1.Left)>>=fun IG=>((gH x1.ab x0.ab)>>=fun aeP=>(ai (af 0 (aj (fun s=>gD x0 x1 s.1 s.2) (([]:(List Int)),(0:Int)))) (fun (ie,CV)=>(ai (af 2 (aj (fun s=>gE x0 x1 s.1 s.2) (([]:(List Int)),(0:Int)))) (fun (kz,CW)=>((mL IG aeP ie kz)>>=fun ZZ=>(some (Out.ret ((ZZ,((0:Int)))))))))))))))))
def gF (x0:aS) (x1:aS) (du:(List Int)) (ie:Int):Option (Out ((List Int)×Int) (aS×Int)):=
 (bif decide (ie < (x0.Unit.length:Int)) then ((idx x0.Unit (ie))>>=fun Xi=>((idx x0.Left.aA (ie))>>=fun BG=>((idx x1.Unit (BG))>>=fun Sx=>((idx x0.ab.ae (Sx))>>=fun e92=>((eL x0.Left.aB (Xi) (e92))>>=fun W7=>((fits 8 (du.length+1))>>=fun n116=>(some (Out.norm (du++[W7],ao (ie+(1:Int))))))))))) else (some (Out.exit 0 (du,ie))))
def gG (x0:aS) (x1:aS) (rq:(List Int)) (kz:Int):Option (Out ((List Int)×Int) (aS×Int)):=
 (bif decide (kz < (x1.ba.length:Int)) then ((idx x1.ab.aA (kz))>>=fun aeQ=>((idx x0.ba (aeQ))>>=fun DH=>((idx x1.Left.ae (DH))>>=fun aeR=>((idx x1.ba (kz))>>=fun Q8=>((eL x1.Left.aF (aeR) (Q8))>>=fun aeS=>((fits 8 (rq.length+1))>>=fun n176=>(some (Out.norm (rq++[aeS],ao (kz+(1:Int))))))))))) else (some (Out.exit 2 (rq,kz))))
def eX (x0:aS) (x1:aS):Option (aS×Int):=
 aq (S:=Unit) ((((lT x0)>>=fun ua=>(bif !(ua) then (some (true)) else ((lT x1)>>=fun Oo=>(some (!(Oo)))))))>>=fun Oi=>(bif Oi then (some (Out.ret (((aS.mk (aO.mk (aI.mk ((0:Int)) ([]) ([]) ([]) ([])) (aI.mk ((0:Int)) ([]) ([]) ([]) ([])) ([]) ([])) (aO.mk (aI.mk ((0:Int)) ([]) ([]) ([]) ([])) (aI.mk ((0:Int)) ([]) ([]) ([]) ([])) ([]) ([])) ([]) ([])),((1:Int)))))) else ((kK x0.Left.aF x1.Left.aB)>>=fun Og=>(bif !(Og) then (some (Out.ret (((aS.mk (aO.mk (aI.mk ((0:Int)) ([]) ([]) ([]) ([])) (aI.mk ((0:Int)) ([]) ([]) ([]) ([])) ([]) ([])) (aO.mk (aI.mk ((0:Int)) ([]) ([]) ([]) ([])) (aI.mk ((0:Int)) ([]) ([]) ([]) ([])) ([]) ([])) ([]) ([])),((5:Int)))))) else (ai (af 0 (aj (fun s=>gF x0 x1 s.1 s.2) (([]:(List Int)),(0:Int)))) (fun (du,ie)=>(ai (af 2 (aj (fun s=>gG x0 x1 s.1 s.2) (([]:(List Int)),(0:Int)))) (fun (rq,kz)=>((jD x0.Left x1.Left)>>=fun aeT=>((jD x1.ab x0.ab)>>=fun Q9=>(some (Out.ret (((aS.mk aeT Q9 du rq),((0:Int))))))))))))))))
def sB (x0:(List Int)) (x1:(List Int)) (bo:Int):Option (Out (Int) (Bool)):=
 (bif decide (bo < (x0.length:Int)) then ((idx x0 (bo))>>=fun tZ=>((idx x1 (bo))>>=fun EI=>(bif (tZ) != (EI) then (some (Out.ret (false))) else (some (Out.norm (ao (bo+(1:Int)))))))) else (some (Out.exit 0 (bo))))
def gC (x0:(List Int)) (x1:(List Int)):Option (Bool):=
 aq (S:=Unit) (bif ((x0.length:Int)) != ((x1.length:Int)) then (some (Out.ret (false))) else (ai (af 0 (aj (sB x0 x1) ((0:Int)))) (fun bo=>(some (Out.ret (true))))))
def nQ (x0:(List (List Int))) (x1:(List (List Int))) (bo:Int):Option (Out (Int) (Bool)):=
 (bif decide (bo < (x0.length:Int)) then ((idx x0 (bo))>>=fun tZ=>((idx x1 (bo))>>=fun zX=>((gC tZ zX)>>=fun EV=>(bif !(EV) then (some (Out.ret (false))) else (some (Out.norm (ao (bo+(1:Int))))))))) else (some (Out.exit 0 (bo))))
def nF (x0:(List (List Int))) (x1:(List (List Int))):Option (Bool):=
 aq (S:=Unit) (bif ((x0.length:Int)) != ((x1.length:Int)) then (some (Out.ret (false))) else (ai (af 0 (aj (nQ x0 x1) ((0:Int)))) (fun bo=>(some (Out.ret (true))))))
def iJ (x0:aI) (x1:aI):Option (Bool):=
 aq (S:=Unit) (((bif (x0.aA) == (x1.aA) then ((gC x0.aH x1.aH)>>=fun r6=>(bif r6 then ((gC x0.To x1.To)>>=fun Ov=>(bif Ov then ((gC x0.aJ x1.aJ)>>=fun sz=>(bif sz then ((nF x0.aE x1.aE)>>=fun EV=>(some (EV))) else (some (false)))) else (some (false)))) else (some (false)))) else (some (false))))>>=fun g16=>(some (Out.ret (g16))))
def jG (x0:aO) (x1:aO):Option (Bool):=
 aq (S:=Unit) ((((iJ x0.aB x1.aB)>>=fun uy=>(bif uy then ((iJ x0.aF x1.aF)>>=fun Cf=>(bif Cf then ((gC x0.aA x1.aA)>>=fun IY=>(bif IY then ((gC x0.ae x1.ae)>>=fun ua=>(some (ua))) else (some (false)))) else (some (false)))) else (some (false)))))>>=fun g16=>(some (Out.ret (g16))))
def jK (x0:aS) (x1:aS):Option (Bool):=
 aq (S:=Unit) ((((jG x0.Left x1.Left)>>=fun uy=>(bif uy then ((jG x0.ab x1.ab)>>=fun Cf=>(bif Cf then ((gC x0.Unit x1.Unit)>>=fun IY=>(bif IY then ((gC x0.ba x1.ba)>>=fun ua=>(some (ua))) else (some (false)))) else (some (false)))) else (some (false)))))>>=fun g16=>(some (Out.ret (g16))))
def jP (x0:aS):Option (Bool):=
 aq (S:=Unit) ((eA x0)>>=fun y8=>(some (Out.ret (y8))))
def rA (x0:(List Int)) (du:Int) (CX:Int):Option (Out (Int×Int) ((Option um))):=
 (bif decide (du < (x0.length:Int)) then ((rf .mul .u64 (CX) ((1099511628211:Int)))>>=fun z18=>((idx x0 (du))>>=fun GF=>((rf .add .u64 (z18) (IntKind.u64.wrap GF))>>=fun z21=>((rf .add .u64 (z21) ((5:Int)))>>=fun z22=>(some (Out.norm (ao (du+(1:Int)),z22))))))) else (some (Out.exit 0 (du,CX))))
def rF (x0:(List Int)) (x1:Int):Option ((Option um)):=
 aq (S:=Unit) ((rf .mul .u64 (x1) ((7681:Int)))>>=fun z3=>((rf .add .u64 (z3) (IntKind.u64.wrap ((x0.length:Int))))>>=fun z4=>(ai (af 0 (aj (fun s=>rA x0 s.1 s.2) ((0:Int),z4))) (fun (du,CX)=>(some (Out.ret ((some (um.mk x0 ((0:Int)) CX)))))))))
def kY (x0:um) (x1:Int):Option (Int×um):=
 aq (S:=Unit) (bif decide (x1 < (1:Int)) then (some (Out.ret ((((0:Int)),x0)))) else ((rf .mul .u64 (x0.H) ((6364136223846793005:Int)))>>=fun z9=>((rf .add .u64 (z9) ((1442695040888963407:Int)))>>=fun IB=>((rf .shr .u64 (IB) ((33:Int)))>>=fun IC=>((rf .and .u64 (IC) ((16777215:Int)))>>=fun N8=>(bif decide (x0.I < (x0.B.length:Int)) then ((idx x0.B (x0.I))>>=fun ID=>((rf .rem .i64 (ao (IntKind.i64.wrap N8+IntKind.i64.wrap ID)) (x1))>>=fun WE=>(some (Out.ret ((WE,(um.mk x0.B (ao (x0.I+(1:Int))) IB))))))) else ((rf .rem .i64 (IntKind.i64.wrap N8) (x1))>>=fun z33=>(some (Out.ret ((z33,(um.mk x0.B x0.I IB))))))))))))
def iL (df:aS×aS) (ze:aS×Int) (wL:Int×um) (my:Int):Option (Out (Int) (Bool)):=
 (bif decide (my < df.1.Left.aB.aA) then ((idx ze.1.Left.aA (my))>>=fun Z0=>((idx df.2.Left.aF.aH (wL.1))>>=fun Z1=>(bif (Z0) != (Z1) then (some (Out.norm (ao (my+(1:Int))))) else ((idx df.2.Left.aF.To (wL.1))>>=fun Z4=>((gN ze.1 (my) (Z4) (wL.1))>>=fun SH=>((idx df.1.Left.aA (my))>>=fun Z5=>((idx df.2.Left.aF.To (wL.1))>>=fun Z6=>((gN df.2 (Z5) (Z6) (wL.1))>>=fun SI=>((idx df.1.Left.aA (my))>>=fun Z7=>((idx df.2.Left.aF.To (wL.1))>>=fun Z8=>((kP df.2 (Z7) (Z8) (wL.1))>>=fun Mr=>(((bif (SH.2) != ((0:Int)) then (some (true)) else (bif (SI.2) != ((0:Int)) then (some (true)) else (bif (Mr.2) != ((0:Int)) then (some (true)) else (some ((SI.1) != (Mr.1)))))))>>=fun Z9=>(bif Z9 then (some (Out.ret (false))) else ((idx df.2.Left.aF.To (wL.1))>>=fun aaa=>((idx df.2.ab.aA (aaa))>>=fun aab=>((gN df.1 (my) (aab) (Mr.1))>>=fun SJ=>(((bif (SJ.2) != ((0:Int)) then (some (true)) else (some ((SH.1) != (SJ.1)))))>>=fun aac=>(bif aac then (some (Out.ret (false))) else (some (Out.norm (ao (my+(1:Int))))))))))))))))))))))) else (some (Out.exit 0 (my))))
def gV (x0:(List Int)):Option (Bool):=
 aq (S:=Unit) ((rZ x0)>>=fun y3=>(bif y3 then (some (Out.ret (true))) else ((iI x0)>>=fun df=>((eW df.1 df.2)>>=fun Ms=>((eX df.1 df.2)>>=fun ze=>(((bif (Ms.2) != (ze.2) then (some (true)) else ((jK Ms.1 ze.1)>>=fun aad=>(some (!(aad))))))>>=fun aae=>(bif aae then (some (Out.ret (false))) else (bif (Ms.2) != ((0:Int)) then (some (Out.ret (true))) else ((((jP ze.1)>>=fun aaf=>(bif !(aaf) then (some (true)) else (bif (df.1.Left.aB.aA) == ((0:Int)) then (some (true)) else (some ((df.2.Left.aF.aA) == ((0:Int))))))))>>=fun aag=>(bif aag then ((jP ze.1)>>=fun aah=>(some (Out.ret (aah)))) else ((rF x0 ((1502:Int)))>>=fun aai=>(match aai with | none=>none | some SK=>((kY (um.mk x0 SK.I SK.H) ((df.2.Left.aF.aH.length:Int)))>>=fun wL=>(ai (af 0 (aj (iL df ze wL) ((0:Int)))) (fun my=>(some (Out.ret (true))))))))))))))))))
end
end Go.Proofs.YtjdkifckhidlbaaGreat
