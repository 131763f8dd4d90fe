/- Walks by the calculus D. No condition beside those that each theorem names. -/
import Derived.Test.YtcnehblmgfbfoaaGreatDp
import Derived.Test.YtcnehblmgfbfoaaGreatDi
import Derived.Test.YtcnehblmgfbfoaaGreatMo
import Derived.Test.YtcnehblmgfbfoaaGreatDs
import Derived.Test.YtcnehblmgfbfoaaGreatWa
import Derived.Test.YtcnehblmgfbfoaaGreatWc
import Derived.Test.YtcnehblmgfbfoaaGreatWd
namespace Go.Proofs.YtcnehblmgfbfoaaGreat
open Go Go.Li Go.Dk
set_option linter.unusedVariables false
set_option maxHeartbeats 16000000
set_option maxRecDepth 100000
theorem X4 {x0:aH} {bH bR aW aT:Value}:Ct Tryz.prog 138 true (lY x0) [.agg #[.int .i64 (x0.aD),bH,bR,aW,aT]] [rI bH x0.aF,rI bR x0.To,rI aW x0.aG,rJ aT x0.aC] (fun y (v:Value×Value×Value×Value)=>[.agg #[.int .i64 y.aD,v.1,v.2.1,v.2.2.1,v.2.2.2]]) (fun y v=>[.own (aI 2 (aJ .i64)) v.1 y.aF,.own (aI 2 (aJ .i64)) v.2.1 y.To,.own (aI 2 (aJ .i64)) v.2.2.1 y.aG,.own (aI 22 (aI 2 (aJ .i64))) v.2.2.2 y.aC]):=by
 refine ct (S:=Unit) (bp fun _ _=>rfl) Tryz.func138 rfl rfl ?_
 repeat' first
  | (apply Dk.fe; repeat' first | exact rfl | (refine @id.{0} _ ?_; constructor))
  | intro _
  | exact rfl
  | (refine @id.{0} _ ?_; constructor)
  | apply Dk.any (id:=1) 14 [] [] [[],[0],[],[2],[2,3],[],[5],[2,3,4,5,6],[],[8],[2,3,4,5,6,7,8,9],[],[11],[2,3,4,5,6,7,8,9,10,11,12]] (by kernel_rfl)
  | apply Lt
  | apply XU
  | exact ()
theorem RV {x0:aH} {bH bR aW aT:Value} {x1:aH} {dV fF cW cH:Value} {x2:(List Int)} {lE:Value} {x3:(List Int)} {oJ:Value}:Ct Tryz.prog 59 true (jS x0 x1 x2 x3) [.agg #[.int .i64 (x0.aD),bH,bR,aW,aT],.agg #[.int .i64 (x1.aD),dV,fF,cW,cH],lE,oJ] [rI bH x0.aF,rI bR x0.To,rI aW x0.aG,rJ aT x0.aC,rI dV x1.aF,rI fF x1.To,rI cW x1.aG,rJ cH x1.aC,rI lE x2,rI oJ x3] (fun y (v:Value×Value×Value×Value×Value×Value×Value×Value×Value×Value)=>[.agg #[.int .i64 y.aB.aD,v.1,v.2.1,v.2.2.1,v.2.2.2.1,.int .i64 y.aE.aD,v.2.2.2.2.1,v.2.2.2.2.2.1,v.2.2.2.2.2.2.1,v.2.2.2.2.2.2.2.1,v.2.2.2.2.2.2.2.2.1,v.2.2.2.2.2.2.2.2.2]]) (fun y v=>[.own (aI 2 (aJ .i64)) v.1 y.aB.aF,.own (aI 2 (aJ .i64)) v.2.1 y.aB.To,.own (aI 2 (aJ .i64)) v.2.2.1 y.aB.aG,.own (aI 22 (aI 2 (aJ .i64))) v.2.2.2.1 y.aB.aC,.own (aI 2 (aJ .i64)) v.2.2.2.2.1 y.aE.aF,.own (aI 2 (aJ .i64)) v.2.2.2.2.2.1 y.aE.To,.own (aI 2 (aJ .i64)) v.2.2.2.2.2.2.1 y.aE.aG,.own (aI 22 (aI 2 (aJ .i64))) v.2.2.2.2.2.2.2.1 y.aE.aC,.own (aI 2 (aJ .i64)) v.2.2.2.2.2.2.2.2.1 y.aD,.own (aI 2 (aJ .i64)) v.2.2.2.2.2.2.2.2.2 y.ab]):=by
 refine ct (S:=Unit) (bp fun _ _=>rfl) Tryz.func59 rfl rfl ?_
 repeat' first
  | (apply Dk.fe; repeat' first | exact rfl | (refine @id.{0} _ ?_; constructor))
  | intro _
  | exact rfl
  | (refine @id.{0} _ ?_; constructor)
  | apply Dk.any (id:=1) 7 [] [] [[],[0],[],[0,1,2],[],[0,1,2,3,4],[]] (by kernel_rfl)
  | apply X4
  | apply Lt
  | exact ()
theorem X5 {x0:aH} {cD:Addr} {bH bR aW aT:Value}:Ct Tryz.prog 267 true (gM x0) [.pointer (some (cD))] [.aw cD [.int .i64 (x0.aD),bH,bR,aW,aT],rI bH x0.aF,rI bR x0.To,rI aW x0.aG,rJ aT x0.aC] (fun y (_:Unit)=>[.bool y]) (fun y _=>[]):=by
 refine ct (S:=Unit) (bp fun _ _=>rfl) Tryz.func267 rfl rfl ?_
 repeat' first
  | (apply Dk.fe; repeat' first | exact rfl | (refine @id.{0} _ ?_; constructor))
  | intro _
  | exact rfl
  | (refine @id.{0} _ ?_; constructor)
  | apply Dk.loop 0 (V:=Unit) (fun (s:Int) v=>[]) (fun s v=>[(88,.int .i64 (s))]) () [(0,_),(3,_),(86,_),(87,_)]
  | apply Dk.loop 2 (V:=Unit) (fun (s:Int) v=>[]) (fun s v=>[(106,.int .i64 (s))]) () [(0,_),(3,_),(104,_),(105,_)]
  | apply Dk.loop 4 (V:=Unit) (fun (s:Int) v=>[]) (fun s v=>[(117,.int .i64 (s))]) () [(0,_),(3,_),(6,_),(104,_),(105,_),(106,_),(115,_),(116,_)]
  | apply Dk.quiet (id:=2) (by kernel_rfl)
  | apply Dk.quiet (id:=4) (by kernel_rfl)
  | apply Dk.quiet (id:=20) (by kernel_rfl)
  | apply Dk.quiet (id:=23) (by kernel_rfl)
  | apply D2
  | apply RU
  | apply Lu
  | apply Lo
  | exact ()
theorem X6 {x0:aH} {cD:Addr} {bH bR aW aT:Value}:Ct Tryz.prog 201 true (fI x0) [.pointer (some (cD))] [.aw cD [.int .i64 (x0.aD),bH,bR,aW,aT],rI bH x0.aF,rI bR x0.To,rI aW x0.aG,rJ aT x0.aC] (fun y (_:Unit)=>[.bool y]) (fun y _=>[]):=by
 refine ct (S:=Unit) (bp fun _ _=>rfl) Tryz.func201 rfl rfl ?_
 repeat' first
  | (apply Dk.fe; repeat' first | exact rfl | (refine @id.{0} _ ?_; constructor))
  | intro _
  | exact rfl
  | (refine @id.{0} _ ?_; constructor)
  | apply X5
  | apply Xw
  | exact ()
theorem Jg {x0:bO} {cD:Addr} {cZ dF cS cK dA dG cT cL dO dW dB dH cU cM dC dI cV cN dP dX eR:Value}:Ct Tryz.prog 288 true (jO x0 (fun a0 a1 a2 a3=>gP a0 a1 a2 a3)) [.pointer (some (cD)),.func (.func 289) #[] #[]] [.aw cD [.int .i64 (x0.aB.aB.aD),cZ,dF,cS,cK,.int .i64 (x0.aB.aE.aD),dA,dG,cT,cL,dO,dW,.int .i64 (x0.aE.aB.aD),dB,dH,cU,cM,.int .i64 (x0.aE.aE.aD),dC,dI,cV,cN,dP,dX,eR],rI cZ x0.aB.aB.aF,rI dF x0.aB.aB.To,rI cS x0.aB.aB.aG,rJ cK x0.aB.aB.aC,rI dA x0.aB.aE.aF,rI dG x0.aB.aE.To,rI cT x0.aB.aE.aG,rJ cL x0.aB.aE.aC,rI dO x0.aB.aD,rI dW x0.aB.ab,rI dB x0.aE.aB.aF,rI dH x0.aE.aB.To,rI cU x0.aE.aB.aG,rJ cM x0.aE.aB.aC,rI dC x0.aE.aE.aF,rI dI x0.aE.aE.To,rI cV x0.aE.aE.aG,rJ cN x0.aE.aE.aC,rI dP x0.aE.aD,rI dX x0.aE.ab,rI eR x0.bb] (fun y (_:Unit)=>[.int .i64 y]) (fun y _=>[]):=by
 refine ct (S:=Unit) (bp fun _ _=>rfl) Tryz.func288 rfl rfl ?_
 repeat' first
  | (apply Dk.fe; repeat' first | exact rfl | (refine @id.{0} _ ?_; constructor))
  | intro _
  | exact rfl
  | (refine @id.{0} _ ?_; constructor)
  | apply Dk.loop 0 (V:=Unit) (fun (s:Int) v=>[]) (fun s v=>[(12,.int .i64 (s))]) () [(0,_),(1,_),(11,_)]
  | apply Dk.quiet (id:=4) (by kernel_rfl)
  | apply Xx
  | exact ()
theorem X7 {a0 a1:Int} {ll:List (List Int)} {mm:List (ByteArray×Int)} {x0:bB} {pl pa pb q3 q1 pm:Addr} {vl va sC sD sE sF sG sH sI sJ fo fa fu fj:Value}:Ct Tryz.prog 230 true (eO a0 a1 ll mm x0) [.int .i64 a0,.int .i64 a1,.pointer (some pl),.pointer (some pa),.pointer (some pb)] [.aw pl [vl],.aw pa [va],.aw pb [.pointer (some pm),.pointer (some pm),.func (.func 276) #[] #[.pointer (some q3),.pointer (some q1)]],.aw q3 [.pointer (some pm)],.aw q1 [.pointer (some pm)],.aw pm [.int .i64 x0.On.aB.aD,sC,sD,sE,sF,.int .i64 x0.On.aE.aD,sG,sH,sI,sJ,fo,fa,fu,fj],rJ vl ll,.rd false (o3 Value.string (Value.int .i64)) va mm,rI sC x0.On.aB.aF,rI sD x0.On.aB.To,rI sE x0.On.aB.aG,rJ sF x0.On.aB.aC,rI sG x0.On.aE.aF,rI sH x0.On.aE.To,rI sI x0.On.aE.aG,rJ sJ x0.On.aE.aC,rI fo x0.On.aD,rI fa x0.On.ab,rI fu x0.Unit,rI fj x0.ba] (fun y (_:Unit)=>[.int .i64 y]) (fun _ _=>[]):=by
 refine ct (S:=Unit) (bp fun _ _=>rfl) Tryz.func230 rfl rfl ?_
 repeat' first
  | (apply Dk.fe; repeat' first | exact rfl | (refine @id.{0} _ ?_; constructor))
  | intro _
  | exact rfl
  | apply Dk.PE (t:=144)
  | (refine @id.{0} _ ?_; constructor)
  | apply Dk.any (id:=2) 22 [] [] [[],[],[1],[1,2],[],[4],[4,5],[],[7],[],[9],[9,10],[],[12],[12,13],[],[15],[15,16],[7,8,9,10,11,12,13,14,15,16,17],[1,2,3,4,5,6,7,8,9,10,11,12,13,14,15,16,17,18],[1,2,3,4,5,6,7,8,9,10,11,12,13,14,15,16,17,18,19],[1,2,3,4,5,6,7,8,9,10,11,12,13,14,15,16,17,18,19,20]] (by kernel_rfl)
  | apply Dk.any (id:=1) 9 [] [] [[],[],[0,1],[0,1,2],[],[],[4,5],[4,5,6],[0,1,2,3]] (by kernel_rfl)
  | apply XA
  | apply Ha
  | exact ()
theorem Jh {x0:aH} {oL:Nat} {bH bR aW aT:Value} {D5:List (List Int)} {D6:List (ByteArray×Int)} {qI:bB} {RW RX RY RZ R0 D7:Addr} {R1 R2 MP MQ MR MS MT MU MW MX R3 R4 R5 R6:Value}:Ct Tryz.prog 166 true (eS x0 (fun a0 a1=>eO a0 a1 D5 D6 qI)) [.pointer (some (⟨oL,0,none⟩)),.func (.func 230) #[] #[.pointer (some RW),.pointer (some RX),.pointer (some RY)]] [.row oL [.int .i64 (x0.aD),bH,bR,aW,aT] 31,rI bH x0.aF,rI bR x0.To,rI aW x0.aG,.own (aI 22 (aI 2 (aJ .i64))) aT x0.aC,.aw RW [R1],.aw RX [R2],.aw RY [.pointer (some D7),.pointer (some D7),.func (.func 276) #[] #[.pointer (some RZ),.pointer (some R0)]],.aw RZ [.pointer (some D7)],.aw R0 [.pointer (some D7)],.aw D7 [.int .i64 qI.On.aB.aD,MP,MQ,MR,MS,.int .i64 qI.On.aE.aD,MT,MU,MW,MX,R3,R4,R5,R6],rJ R1 D5,.rd false (o3 Value.string (Value.int .i64)) R2 D6,rI MP qI.On.aB.aF,rI MQ qI.On.aB.To,rI MR qI.On.aB.aG,rJ MS qI.On.aB.aC,rI MT qI.On.aE.aF,rI MU qI.On.aE.To,rI MW qI.On.aE.aG,rJ MX qI.On.aE.aC,rI R3 qI.On.aD,rI R4 qI.On.ab,rI R5 qI.Unit,rI R6 qI.ba] (fun y (v:Value)=>[]) (fun y v=>[.row oL [.int .i64 y.aD,bH,bR,aW,v] 31,.own (aI 22 (aI 2 (aJ .i64))) v y.aC]):=by
 refine TQ (bp fun _ _=>rfl) Tryz.func166 rfl rfl ?_
 repeat' first
  | (apply Dk.fe; repeat' first | exact rfl | (refine @id.{0} _ ?_; constructor))
  | intro _
  | exact rfl
  | (refine @id.{0} _ ?_; constructor)
  | apply Dk.mb 0 (V:=Unit) (A:=Value) _ (fun a (s:Int×(List (List Int))) v=>[.own (aI 22 (aI 2 (aJ .i64))) a s.2]) (fun a s v=>[(19,.int .i64 (s.1))]) () [(0,_),(1,_),(4,_),(18,_)]
  | apply Dk.mb 2 (V:=Unit) (A:=Value) _ (fun a (s:Int×(List (List Int))) v=>[.own (aI 22 (aI 2 (aJ .i64))) a s.2]) (fun a s v=>[(38,.int .i64 (s.1))]) () [(0,_),(1,_),(4,_),(5,_),(18,_),(19,_),(37,_)]
  | apply Dk.quiet (id:=10) (by kernel_rfl)
  | apply Dk.any (id:=5) 7 [] [] [[],[0],[0,1],[0,1,2],[],[],[5]] (by kernel_rfl)
  | apply Dk.any (id:=11) 12 [] [] [[],[0],[0,1],[0,1,2],[],[0,1,2,3,4],[0,1,2,3,4,5],[],[],[],[],[8,9,10]] (by kernel_rfl)
  | apply D2
  | apply X7
  | exact ()
theorem X8 {x0:bB} {p:Addr} {sC sD sE sF sG sH sI sJ fo fa fu fj:Value}:Ct Tryz.prog 231 false (fV x0) [.pointer (some p)] [.aw p [.int .i64 x0.On.aB.aD,sC,sD,sE,sF,.int .i64 x0.On.aE.aD,sG,sH,sI,sJ,fo,fa,fu,fj],rI sC x0.On.aB.aF,rI sD x0.On.aB.To,rI sE x0.On.aB.aG,rJ sF x0.On.aB.aC,rI sG x0.On.aE.aF,rI sH x0.On.aE.To,rI sI x0.On.aE.aG,rJ sJ x0.On.aE.aC,rI fo x0.On.aD,rI fa x0.On.ab,rI fu x0.Unit,rI fj x0.ba] (fun _ (v:Value)=>[v]) (fun y v=>[.rd false (bE (kn rq)) v y]):=by
 refine ct (S:=Unit) OG Tryz.func231 rfl rfl ?_
 repeat' first
  | (apply Dk.fe; repeat' first | exact rfl | (refine @id.{0} _ ?_; constructor))
  | intro _
  | exact rfl
  | apply Dk.lgP (t:=183) (kn rq)
  | apply Dk.apP (S:=rq) (t:=183) (bW.mk _ _)
  | (refine @id.{0} _ ?_; constructor)
  | apply Dk.loop 0 (V:=Value) (fun (s:List bW×Int) v=>[.om 181 (kn rq) v s.1]) (fun s v=>[(4,v),(5,.int .i64 s.2)]) _ [(0,_),(3,_)]
  | apply Dk.loop 2 (V:=Value) (fun (s:List bW×Int) v=>[.om 181 (kn rq) v s.1]) (fun s v=>[(4,v),(28,.int .i64 s.2)]) _ [(0,_),(3,_),(5,_),(26,_),(27,_)]
  | apply D3
  | apply Lp
  | apply XB
  | exact ()
end Go.Proofs.YtcnehblmgfbfoaaGreat
