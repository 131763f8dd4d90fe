/- Walks by the calculus D. No condition beside those that each theorem names. -/
import Derived.Test.YtkcpiblgpnjanaaGreatDi
import Derived.Test.YtkcpiblgpnjanaaGreatMo
import Derived.Test.YtkcpiblgpnjanaaGreatDp
import Derived.Test.YtkcpiblgpnjanaaGreatDs
import Derived.Test.YtkcpiblgpnjanaaGreatWa
import Derived.Test.YtkcpiblgpnjanaaGreatWb
import Derived.Test.YtkcpiblgpnjanaaGreatWc
import Derived.Test.YtkcpiblgpnjanaaGreatWd
import Derived.Test.YtkcpiblgpnjanaaGreatWe
import Derived.Test.YtkcpiblgpnjanaaGreatWf
import Derived.Test.YtkcpiblgpnjanaaGreatWg
import Derived.Test.YtkcpiblgpnjanaaGreatWh
namespace Go.Proofs.YtkcpiblgpnjanaaGreat
open Go Go.Li Go.Dk
set_option linter.unusedVariables false
set_option maxHeartbeats 16000000
set_option maxRecDepth 100000
theorem adp {x0:(List aI)} {dI:Value}:Ct Tryz.prog 111 true (kI x0) [dI] [.rd false (aD (wb O5)) dI x0] (fun y (_:Unit)=>[.bool y]) (fun y _=>[]):=by
 refine ct (S:=Unit) (cf fun _ _=>rfl) Tryz.func111 rfl rfl ?_
 repeat' first
  | ((first | show Dk.ER _ _ _ | show Dk.bd _ _ | show Dk.EF _ _ _ | show Dk.EO _ _ _ | show Dk.EP _ _ | show Dk.bb _ _ _ _ | show Dk.av _ _ _ _ | show Dk.Kp _ _ _ _ | show Dk.bp _ _ | show Dk.bg _ _ _ _); repeat' first | exact rfl | (refine @id.{0} _ ?_; constructor))
  | intro _
  | exact rfl
  | (refine @id.{0} _ ?_; constructor)
  | apply Dk.loop 0 (V:=Unit) (fun (s:Int) v=>[]) (fun s v=>[(7,.int .i64 (s))]) () [(5,_),(6,_)]
  | apply adk
  | exact ()
theorem Zr {x0:aL} {dK:Addr} {bA:Value} {bG:Value} {aS:Value} {aP:Value} {bB:Value} {bH:Value} {aT:Value} {aQ:Value} {bI:Value} {bR:Value}:Ct Tryz.prog 52 true (gE x0) [.pointer (some (dK))] [.ak dK [.int .i64 (x0.aB.aC),bA,bG,aS,aP,.int .i64 (x0.aE.aC),bB,bH,aT,aQ,bI,bR],.rd false (aD (aA .i64)) bA x0.aB.aG,.rd false (aD (aA .i64)) bG x0.aB.To,.rd false (aD (aA .i64)) aS x0.aB.aJ,.rd false (aD (aD (aA .i64))) aP x0.aB.aF,.rd false (aD (aA .i64)) bB x0.aE.aG,.rd false (aD (aA .i64)) bH x0.aE.To,.rd false (aD (aA .i64)) aT x0.aE.aJ,.rd false (aD (aD (aA .i64))) aQ x0.aE.aF,.rd false (aD (aA .i64)) bI x0.aC,.rd false (aD (aA .i64)) bR x0.af] (fun y (_:Unit)=>[.bool y]) (fun y _=>[]):=by
 refine ct (S:=Unit) (cf fun _ _=>rfl) Tryz.func52 rfl rfl ?_
 repeat' first
  | ((first | show Dk.ER _ _ _ | show Dk.bd _ _ | show Dk.EF _ _ _ | show Dk.EO _ _ _ | show Dk.EP _ _ | show Dk.bb _ _ _ _ | show Dk.av _ _ _ _ | show Dk.Kp _ _ _ _ | show Dk.bp _ _ | show Dk.bg _ _ _ _); repeat' first | exact rfl | (refine @id.{0} _ ?_; constructor))
  | intro _
  | exact rfl
  | (refine @id.{0} _ ?_; constructor)
  | apply Dk.Uv (id:=1) 7 [] [[],[0],[1,0],[],[3],[4,3],[2,1,0,5,4,3]] (by kernel_rfl)
  | apply adp
  | apply ade
  | exact ()
theorem Zs {x0:(List aL)} {dI:Value}:Ct Tryz.prog 88 true (kC x0) [dI] [.rd false (aD (wb He)) dI x0] (fun y (_:Unit)=>[.bool y]) (fun y _=>[]):=by
 refine ct (S:=Unit) (cf fun _ _=>rfl) Tryz.func88 rfl rfl ?_
 repeat' first
  | ((first | show Dk.ER _ _ _ | show Dk.bd _ _ | show Dk.EF _ _ _ | show Dk.EO _ _ _ | show Dk.EP _ _ | show Dk.bb _ _ _ _ | show Dk.av _ _ _ _ | show Dk.Kp _ _ _ _ | show Dk.bp _ _ | show Dk.bg _ _ _ _); repeat' first | exact rfl | (refine @id.{0} _ ?_; constructor))
  | intro _
  | exact rfl
  | (refine @id.{0} _ ?_; constructor)
  | apply Dk.loop 0 (V:=Unit) (fun (s:Int) v=>[]) (fun s v=>[(7,.int .i64 (s))]) () [(5,_),(6,_)]
  | apply Zr
  | exact ()
theorem Zt {x0:aL} {dK:Addr} {bA:Value} {bG:Value} {aS:Value} {aP:Value} {bB:Value} {bH:Value} {aT:Value} {aQ:Value} {bI:Value} {bR:Value} {x1:aL} {jB:Addr} {bJ:Value} {bX:Value} {bD:Value} {aY:Value} {bK:Value} {bY:Value} {bE:Value} {aZ:Value} {cF:Value} {cL:Value}:Ct Tryz.prog 40 true (fX x0 x1) [.pointer (some (dK)),.pointer (some (jB))] [.ak jB [.int .i64 (x1.aB.aC),bJ,bX,bD,aY,.int .i64 (x1.aE.aC),bK,bY,bE,aZ,cF,cL],.ak dK [.int .i64 (x0.aB.aC),bA,bG,aS,aP,.int .i64 (x0.aE.aC),bB,bH,aT,aQ,bI,bR],.rd false (aD (aA .i64)) bA x0.aB.aG,.rd false (aD (aA .i64)) bG x0.aB.To,.rd false (aD (aA .i64)) aS x0.aB.aJ,.rd false (aD (aD (aA .i64))) aP x0.aB.aF,.rd false (aD (aA .i64)) bB x0.aE.aG,.rd false (aD (aA .i64)) bH x0.aE.To,.rd false (aD (aA .i64)) aT x0.aE.aJ,.rd false (aD (aD (aA .i64))) aQ x0.aE.aF,.rd false (aD (aA .i64)) bI x0.aC,.rd false (aD (aA .i64)) bR x0.af,.rd false (aD (aA .i64)) bJ x1.aB.aG,.rd false (aD (aA .i64)) bX x1.aB.To,.rd false (aD (aA .i64)) bD x1.aB.aJ,.rd false (aD (aD (aA .i64))) aY x1.aB.aF,.rd false (aD (aA .i64)) bK x1.aE.aG,.rd false (aD (aA .i64)) bY x1.aE.To,.rd false (aD (aA .i64)) bE x1.aE.aJ,.rd false (aD (aD (aA .i64))) aZ x1.aE.aF,.rd false (aD (aA .i64)) cF x1.aC,.rd false (aD (aA .i64)) cL x1.af] (fun y (_:Unit)=>[.int .i64 y]) (fun y _=>[]):=by
 refine ct (S:=Unit) (cf fun _ _=>rfl) Tryz.func40 rfl rfl ?_
 repeat' first
  | ((first | show Dk.ER _ _ _ | show Dk.bd _ _ | show Dk.EF _ _ _ | show Dk.EO _ _ _ | show Dk.EP _ _ | show Dk.bb _ _ _ _ | show Dk.av _ _ _ _ | show Dk.Kp _ _ _ _ | show Dk.bp _ _ | show Dk.bg _ _ _ _); repeat' first | exact rfl | (refine @id.{0} _ ?_; constructor))
  | intro _
  | exact rfl
  | (refine @id.{0} _ ?_; constructor)
  | apply Zs
  | apply Zq
  | exact ()
theorem Ie {x0 x1:aL} {st:(List (List Int))} {pf pg:Addr} {vo:Value} {bo:Nat} {xm:Int} {pm:Addr} {oK o3 o4 o5 o6 o7 o9 pj uo ua qz q9 ra rb rf rh ri rj wo wa:Value}:Ct Tryz.prog 95 true (iA (fun a0=>jH a0) (fun a0 a1=>eE a0 a1 xm) x0 x1 st) [.pointer (some pf),.pointer (some pg),.func (.func 102) #[] #[],.func (.func 103) #[] #[.pointer (some ⟨bo,0,none⟩),.pointer (some pm)]] [.row bo [vo] 25,.ak pm [.int .i64 xm],.ak pf [.int .i64 x0.aB.aC,oK,o3,o4,o5,.int .i64 x0.aE.aC,o6,o7,o9,pj,uo,ua],.ak pg [.int .i64 x1.aB.aC,qz,q9,ra,rb,.int .i64 x1.aE.aC,rf,rh,ri,rj,wo,wa],.own (aK 24 (aK 2 (aA .i64))) vo st,.rd false (aD (aA .i64)) oK x0.aB.aG,.rd false (aD (aA .i64)) o3 x0.aB.To,.rd false (aD (aA .i64)) o4 x0.aB.aJ,.rd false (aD (aD (aA .i64))) o5 x0.aB.aF,.rd false (aD (aA .i64)) o6 x0.aE.aG,.rd false (aD (aA .i64)) o7 x0.aE.To,.rd false (aD (aA .i64)) o9 x0.aE.aJ,.rd false (aD (aD (aA .i64))) pj x0.aE.aF,.rd false (aD (aA .i64)) uo x0.aC,.rd false (aD (aA .i64)) ua x0.af,.rd false (aD (aA .i64)) qz x1.aB.aG,.rd false (aD (aA .i64)) q9 x1.aB.To,.rd false (aD (aA .i64)) ra x1.aB.aJ,.rd false (aD (aD (aA .i64))) rb x1.aB.aF,.rd false (aD (aA .i64)) rf x1.aE.aG,.rd false (aD (aA .i64)) rh x1.aE.To,.rd false (aD (aA .i64)) ri x1.aE.aJ,.rd false (aD (aD (aA .i64))) rj x1.aE.aF,.rd false (aD (aA .i64)) wo x1.aC,.rd false (aD (aA .i64)) wa x1.af] (fun y (_:Value)=>[.bool y.1]) (fun y v=>[.row bo [v] 25,.own (aK 24 (aK 2 (aA .i64))) v y.2]):=by
 refine ct (S:=Unit) (cf fun _ _=>rfl) Tryz.func95 rfl rfl ?_
 repeat' first
  | ((first | show Dk.ER _ _ _ | show Dk.bd _ _ | show Dk.EF _ _ _ | show Dk.EO _ _ _ | show Dk.EP _ _ | show Dk.bb _ _ _ _ | show Dk.av _ _ _ _ | show Dk.Kp _ _ _ _ | show Dk.bp _ _ | show Dk.bg _ _ _ _); repeat' first | exact rfl | (refine @id.{0} _ ?_; constructor))
  | intro _
  | exact rfl
  | (refine @id.{0} _ ?_; constructor)
  | apply Dk.UM (id:=1) [0,1,2,3,4,5] 6 7 8 9 9 10 (by kernel_rfl)
  | apply NT
  | exact ()
theorem JO {x0 x1:aL} {st:(List Int)} {pf pg:Addr} {vo:Value} {bo:Nat} {pq:Addr} {oK o3 o4 o5 o6 o7 o9 pj uo ua qz q9 ra rb rf rh ri rj wo wa:Value}:Ct Tryz.prog 95 true (iA (fun a0=>eS a0 x0) (fun a0 a1=>eL a0 a1) x0 x1 st) [.pointer (some pf),.pointer (some pg),.func (.func 96) #[] #[.pointer (some pq)],.func (.func 97) #[] #[.pointer (some ⟨bo,0,none⟩)]] [.row bo [vo] 24,.ak pq [.pointer (some pf)],.ak pf [.int .i64 x0.aB.aC,oK,o3,o4,o5,.int .i64 x0.aE.aC,o6,o7,o9,pj,uo,ua],.ak pg [.int .i64 x1.aB.aC,qz,q9,ra,rb,.int .i64 x1.aE.aC,rf,rh,ri,rj,wo,wa],.own (aK 2 (aA .i64)) vo st,.rd false (aD (aA .i64)) oK x0.aB.aG,.rd false (aD (aA .i64)) o3 x0.aB.To,.rd false (aD (aA .i64)) o4 x0.aB.aJ,.rd false (aD (aD (aA .i64))) o5 x0.aB.aF,.rd false (aD (aA .i64)) o6 x0.aE.aG,.rd false (aD (aA .i64)) o7 x0.aE.To,.rd false (aD (aA .i64)) o9 x0.aE.aJ,.rd false (aD (aD (aA .i64))) pj x0.aE.aF,.rd false (aD (aA .i64)) uo x0.aC,.rd false (aD (aA .i64)) ua x0.af,.rd false (aD (aA .i64)) qz x1.aB.aG,.rd false (aD (aA .i64)) q9 x1.aB.To,.rd false (aD (aA .i64)) ra x1.aB.aJ,.rd false (aD (aD (aA .i64))) rb x1.aB.aF,.rd false (aD (aA .i64)) rf x1.aE.aG,.rd false (aD (aA .i64)) rh x1.aE.To,.rd false (aD (aA .i64)) ri x1.aE.aJ,.rd false (aD (aD (aA .i64))) rj x1.aE.aF,.rd false (aD (aA .i64)) wo x1.aC,.rd false (aD (aA .i64)) wa x1.af] (fun y (_:Value)=>[.bool y.1]) (fun y v=>[.row bo [v] 24,.own (aK 2 (aA .i64)) v y.2]):=by
 refine ct (S:=Unit) (cf fun _ _=>rfl) Tryz.func95 rfl rfl ?_
 repeat' first
  | ((first | show Dk.ER _ _ _ | show Dk.bd _ _ | show Dk.EF _ _ _ | show Dk.EO _ _ _ | show Dk.EP _ _ | show Dk.bb _ _ _ _ | show Dk.av _ _ _ _ | show Dk.Kp _ _ _ _ | show Dk.bp _ _ | show Dk.bg _ _ _ _); repeat' first | exact rfl | (refine @id.{0} _ ?_; constructor))
  | intro _
  | exact rfl
  | (refine @id.{0} _ ?_; constructor)
  | apply Dk.UM (id:=1) [0,1,2,3,4,5] 6 7 8 9 9 10 (by kernel_rfl)
  | apply Qr
  | exact ()
theorem c41 {x0:aL} {dK:Addr} {bA:Value} {bG:Value} {aS:Value} {aP:Value} {bB:Value} {bH:Value} {aT:Value} {aQ:Value} {bI:Value} {bR:Value} {x1:aL} {jB:Addr} {bJ:Value} {bX:Value} {bD:Value} {aY:Value} {bK:Value} {bY:Value} {bE:Value} {aZ:Value} {cF:Value} {cL:Value}:Ct Tryz.prog 41 true (oS x0 x1) [.pointer (some (dK)),.pointer (some (jB))] [.ak jB [.int .i64 (x1.aB.aC),bJ,bX,bD,aY,.int .i64 (x1.aE.aC),bK,bY,bE,aZ,cF,cL],.ak dK [.int .i64 (x0.aB.aC),bA,bG,aS,aP,.int .i64 (x0.aE.aC),bB,bH,aT,aQ,bI,bR],.rd false (aD (aA .i64)) bA x0.aB.aG,.rd false (aD (aA .i64)) bG x0.aB.To,.rd false (aD (aA .i64)) aS x0.aB.aJ,.rd false (aD (aD (aA .i64))) aP x0.aB.aF,.rd false (aD (aA .i64)) bB x0.aE.aG,.rd false (aD (aA .i64)) bH x0.aE.To,.rd false (aD (aA .i64)) aT x0.aE.aJ,.rd false (aD (aD (aA .i64))) aQ x0.aE.aF,.rd false (aD (aA .i64)) bI x0.aC,.rd false (aD (aA .i64)) bR x0.af,.rd false (aD (aA .i64)) bJ x1.aB.aG,.rd false (aD (aA .i64)) bX x1.aB.To,.rd false (aD (aA .i64)) bD x1.aB.aJ,.rd false (aD (aD (aA .i64))) aY x1.aB.aF,.rd false (aD (aA .i64)) bK x1.aE.aG,.rd false (aD (aA .i64)) bY x1.aE.To,.rd false (aD (aA .i64)) bE x1.aE.aJ,.rd false (aD (aD (aA .i64))) aZ x1.aE.aF,.rd false (aD (aA .i64)) cF x1.aC,.rd false (aD (aA .i64)) cL x1.af] (fun y (v:Value)=>[v,.bool y.2]) (fun y v=>[.own (aK 2 (aA .i64)) v y.1]):=by
 refine ct (S:=Unit) (cf fun _ _=>rfl) Tryz.func41 rfl rfl ?_
 repeat' first
  | ((first | show Dk.ER _ _ _ | show Dk.bd _ _ | show Dk.EF _ _ _ | show Dk.EO _ _ _ | show Dk.EP _ _ | show Dk.bb _ _ _ _ | show Dk.av _ _ _ _ | show Dk.Kp _ _ _ _ | show Dk.bp _ _ | show Dk.bg _ _ _ _); repeat' first | exact rfl | (refine @id.{0} _ ?_; constructor))
  | intro _
  | exact rfl
  | (refine @id.{0} _ ?_; constructor)
  | apply Ie
  | apply JO
  | apply Zm
  | apply Zj
  | exact ()
theorem c9 {x0:aL} {bA:Value} {bG:Value} {aS:Value} {aP:Value} {bB:Value} {bH:Value} {aT:Value} {aQ:Value} {bI:Value} {bR:Value} {x1:aL} {bJ:Value} {bX:Value} {bD:Value} {aY:Value} {bK:Value} {bY:Value} {bE:Value} {aZ:Value} {cF:Value} {cL:Value}:Ct Tryz.prog 9 true (eI x0 x1) [.agg #[.int .i64 (x0.aB.aC),bA,bG,aS,aP,.int .i64 (x0.aE.aC),bB,bH,aT,aQ,bI,bR],.agg #[.int .i64 (x1.aB.aC),bJ,bX,bD,aY,.int .i64 (x1.aE.aC),bK,bY,bE,aZ,cF,cL]] [.rd false (aD (aA .i64)) bA x0.aB.aG,.rd false (aD (aA .i64)) bG x0.aB.To,.rd false (aD (aA .i64)) aS x0.aB.aJ,.rd false (aD (aD (aA .i64))) aP x0.aB.aF,.rd false (aD (aA .i64)) bB x0.aE.aG,.rd false (aD (aA .i64)) bH x0.aE.To,.rd false (aD (aA .i64)) aT x0.aE.aJ,.rd false (aD (aD (aA .i64))) aQ x0.aE.aF,.rd false (aD (aA .i64)) bI x0.aC,.rd false (aD (aA .i64)) bR x0.af,.rd false (aD (aA .i64)) bJ x1.aB.aG,.rd false (aD (aA .i64)) bX x1.aB.To,.rd false (aD (aA .i64)) bD x1.aB.aJ,.rd false (aD (aD (aA .i64))) aY x1.aB.aF,.rd false (aD (aA .i64)) bK x1.aE.aG,.rd false (aD (aA .i64)) bY x1.aE.To,.rd false (aD (aA .i64)) bE x1.aE.aJ,.rd false (aD (aD (aA .i64))) aZ x1.aE.aF,.rd false (aD (aA .i64)) cF x1.aC,.rd false (aD (aA .i64)) cL x1.af] (fun y (v:Value)=>[v,.int .i64 y.2]) (fun y v=>[.own (aK 2 (aA .i64)) v y.1]):=by
 refine ct (S:=Unit) (cf fun _ _=>rfl) Tryz.func9 rfl rfl ?_
 repeat' first
  | ((first | show Dk.ER _ _ _ | show Dk.bd _ _ | show Dk.EF _ _ _ | show Dk.EO _ _ _ | show Dk.EP _ _ | show Dk.bb _ _ _ _ | show Dk.av _ _ _ _ | show Dk.Kp _ _ _ _ | show Dk.bp _ _ | show Dk.bg _ _ _ _); repeat' first | exact rfl | (refine @id.{0} _ ?_; constructor))
  | intro _
  | exact rfl
  | (refine @id.{0} _ ?_; constructor)
  | apply Zt
  | apply c41
  | exact ()
theorem c44 {x0:aL} {dK:Addr} {bA:Value} {bG:Value} {aS:Value} {aP:Value} {bB:Value} {bH:Value} {aT:Value} {aQ:Value} {bI:Value} {bR:Value} {x1:aL} {jB:Addr} {bJ:Value} {bX:Value} {bD:Value} {aY:Value} {bK:Value} {bY:Value} {bE:Value} {aZ:Value} {cF:Value} {cL:Value} {x2:Int}:Ct Tryz.prog 44 true (mA x0 x1 x2) [.pointer (some (dK)),.pointer (some (jB)),.int .i64 (x2)] [.ak jB [.int .i64 (x1.aB.aC),bJ,bX,bD,aY,.int .i64 (x1.aE.aC),bK,bY,bE,aZ,cF,cL],.ak dK [.int .i64 (x0.aB.aC),bA,bG,aS,aP,.int .i64 (x0.aE.aC),bB,bH,aT,aQ,bI,bR],.rd false (aD (aA .i64)) bA x0.aB.aG,.rd false (aD (aA .i64)) bG x0.aB.To,.rd false (aD (aA .i64)) aS x0.aB.aJ,.rd false (aD (aD (aA .i64))) aP x0.aB.aF,.rd false (aD (aA .i64)) bB x0.aE.aG,.rd false (aD (aA .i64)) bH x0.aE.To,.rd false (aD (aA .i64)) aT x0.aE.aJ,.rd false (aD (aD (aA .i64))) aQ x0.aE.aF,.rd false (aD (aA .i64)) bI x0.aC,.rd false (aD (aA .i64)) bR x0.af,.rd false (aD (aA .i64)) bJ x1.aB.aG,.rd false (aD (aA .i64)) bX x1.aB.To,.rd false (aD (aA .i64)) bD x1.aB.aJ,.rd false (aD (aD (aA .i64))) aY x1.aB.aF,.rd false (aD (aA .i64)) bK x1.aE.aG,.rd false (aD (aA .i64)) bY x1.aE.To,.rd false (aD (aA .i64)) bE x1.aE.aJ,.rd false (aD (aD (aA .i64))) aZ x1.aE.aF,.rd false (aD (aA .i64)) cF x1.aC,.rd false (aD (aA .i64)) cL x1.af] (fun y (v:Value)=>[v,.bool y.2]) (fun y v=>[.own (aK 24 (aK 2 (aA .i64))) v y.1]):=by
 refine ct (S:=Unit) (cf fun _ _=>rfl) Tryz.func44 rfl rfl ?_
 repeat' first
  | ((first | show Dk.ER _ _ _ | show Dk.bd _ _ | show Dk.EF _ _ _ | show Dk.EO _ _ _ | show Dk.EP _ _ | show Dk.bb _ _ _ _ | show Dk.av _ _ _ _ | show Dk.Kp _ _ _ _ | show Dk.bp _ _ | show Dk.bg _ _ _ _); repeat' first | exact rfl | (refine @id.{0} _ ?_; constructor))
  | intro _
  | exact rfl
  | (refine @id.{0} _ ?_; constructor)
  | apply Ie
  | apply JO
  | apply WW
  | exact ()
theorem Mz {x0:aL} {bA:Value} {bG:Value} {aS:Value} {aP:Value} {bB:Value} {bH:Value} {aT:Value} {aQ:Value} {bI:Value} {bR:Value} {x1:aL} {bJ:Value} {bX:Value} {bD:Value} {aY:Value} {bK:Value} {bY:Value} {bE:Value} {aZ:Value} {cF:Value} {cL:Value}:Ct Tryz.prog 12 true (iC x0 x1) [.agg #[.int .i64 (x0.aB.aC),bA,bG,aS,aP,.int .i64 (x0.aE.aC),bB,bH,aT,aQ,bI,bR],.agg #[.int .i64 (x1.aB.aC),bJ,bX,bD,aY,.int .i64 (x1.aE.aC),bK,bY,bE,aZ,cF,cL]] [.rd false (aD (aA .i64)) bA x0.aB.aG,.rd false (aD (aA .i64)) bG x0.aB.To,.rd false (aD (aA .i64)) aS x0.aB.aJ,.rd false (aD (aD (aA .i64))) aP x0.aB.aF,.rd false (aD (aA .i64)) bB x0.aE.aG,.rd false (aD (aA .i64)) bH x0.aE.To,.rd false (aD (aA .i64)) aT x0.aE.aJ,.rd false (aD (aD (aA .i64))) aQ x0.aE.aF,.rd false (aD (aA .i64)) bI x0.aC,.rd false (aD (aA .i64)) bR x0.af,.rd false (aD (aA .i64)) bJ x1.aB.aG,.rd false (aD (aA .i64)) bX x1.aB.To,.rd false (aD (aA .i64)) bD x1.aB.aJ,.rd false (aD (aD (aA .i64))) aY x1.aB.aF,.rd false (aD (aA .i64)) bK x1.aE.aG,.rd false (aD (aA .i64)) bY x1.aE.To,.rd false (aD (aA .i64)) bE x1.aE.aJ,.rd false (aD (aD (aA .i64))) aZ x1.aE.aF,.rd false (aD (aA .i64)) cF x1.aC,.rd false (aD (aA .i64)) cL x1.af] (fun y (v:Value)=>[v,.int .i64 y.2]) (fun y v=>[.own (aK 24 (aK 2 (aA .i64))) v y.1]):=by
 refine ct (S:=Unit) (cf fun _ _=>rfl) Tryz.func12 rfl rfl ?_
 repeat' first
  | ((first | show Dk.ER _ _ _ | show Dk.bd _ _ | show Dk.EF _ _ _ | show Dk.EO _ _ _ | show Dk.EP _ _ | show Dk.bb _ _ _ _ | show Dk.av _ _ _ _ | show Dk.Kp _ _ _ _ | show Dk.bp _ _ | show Dk.bg _ _ _ _); repeat' first | exact rfl | (refine @id.{0} _ ?_; constructor))
  | intro _
  | exact rfl
  | (refine @id.{0} _ ?_; constructor)
  | apply Zt
  | apply c44
  | exact ()
theorem adq {x0:aV} {dK:Addr} {cB:Value} {cH:Value} {bT:Value} {bL:Value} {cC:Value} {cI:Value} {bU:Value} {bN:Value} {cR:Value} {cY:Value} {cD:Value} {cJ:Value} {bV:Value} {bP:Value} {cE:Value} {cK:Value} {bW:Value} {bQ:Value} {cS:Value} {cZ:Value} {dH:Value}:Ct Tryz.prog 104 true (fZ x0) [.pointer (some (dK))] [.ak dK [.int .i64 (x0.aB.aB.aC),cB,cH,bT,bL,.int .i64 (x0.aB.aE.aC),cC,cI,bU,bN,cR,cY,.int .i64 (x0.aE.aB.aC),cD,cJ,bV,bP,.int .i64 (x0.aE.aE.aC),cE,cK,bW,bQ,cS,cZ,dH],.rd false (aD (aA .i64)) cB x0.aB.aB.aG,.rd false (aD (aA .i64)) cH x0.aB.aB.To,.rd false (aD (aA .i64)) bT x0.aB.aB.aJ,.rd false (aD (aD (aA .i64))) bL x0.aB.aB.aF,.rd false (aD (aA .i64)) cC x0.aB.aE.aG,.rd false (aD (aA .i64)) cI x0.aB.aE.To,.rd false (aD (aA .i64)) bU x0.aB.aE.aJ,.rd false (aD (aD (aA .i64))) bN x0.aB.aE.aF,.rd false (aD (aA .i64)) cR x0.aB.aC,.rd false (aD (aA .i64)) cY x0.aB.af,.rd false (aD (aA .i64)) cD x0.aE.aB.aG,.rd false (aD (aA .i64)) cJ x0.aE.aB.To,.rd false (aD (aA .i64)) bV x0.aE.aB.aJ,.rd false (aD (aD (aA .i64))) bP x0.aE.aB.aF,.rd false (aD (aA .i64)) cE x0.aE.aE.aG,.rd false (aD (aA .i64)) cK x0.aE.aE.To,.rd false (aD (aA .i64)) bW x0.aE.aE.aJ,.rd false (aD (aD (aA .i64))) bQ x0.aE.aE.aF,.rd false (aD (aA .i64)) cS x0.aE.aC,.rd false (aD (aA .i64)) cZ x0.aE.af,.rd false (aD (aA .i64)) dH x0.au] (fun y (_:Unit)=>[.bool y]) (fun y _=>[]):=by
 refine ct (S:=Unit) (cf fun _ _=>rfl) Tryz.func104 rfl rfl ?_
 repeat' first
  | ((first | show Dk.ER _ _ _ | show Dk.bd _ _ | show Dk.EF _ _ _ | show Dk.EO _ _ _ | show Dk.EP _ _ | show Dk.bb _ _ _ _ | show Dk.av _ _ _ _ | show Dk.Kp _ _ _ _ | show Dk.bp _ _ | show Dk.bg _ _ _ _); repeat' first | exact rfl | (refine @id.{0} _ ?_; constructor))
  | intro _
  | exact rfl
  | (refine @id.{0} _ ?_; constructor)
  | apply Dk.loop 0 (V:=Unit) (fun (s:Int) v=>[]) (fun s v=>[(54,.int .i64 (s))]) () [(3,_),(4,_),(52,_),(53,_)]
  | apply Dk.quiet (id:=1) (by kernel_rfl)
  | apply Dk.quiet (id:=7) (by kernel_rfl)
  | apply Dk.Uv (id:=2) 3 [] [[],[],[0,1]] (by kernel_rfl)
  | apply Zs
  | apply Zq
  | apply Ll
  | apply WR
  | apply WV
  | exact ()
theorem W1 {x0:aV} {dK:Addr} {cB:Value} {cH:Value} {bT:Value} {bL:Value} {cC:Value} {cI:Value} {bU:Value} {bN:Value} {cR:Value} {cY:Value} {cD:Value} {cJ:Value} {bV:Value} {bP:Value} {cE:Value} {cK:Value} {bW:Value} {bQ:Value} {cS:Value} {cZ:Value} {dH:Value}:Ct Tryz.prog 45 true (eG x0) [.pointer (some (dK))] [.ak dK [.int .i64 (x0.aB.aB.aC),cB,cH,bT,bL,.int .i64 (x0.aB.aE.aC),cC,cI,bU,bN,cR,cY,.int .i64 (x0.aE.aB.aC),cD,cJ,bV,bP,.int .i64 (x0.aE.aE.aC),cE,cK,bW,bQ,cS,cZ,dH],.rd false (aD (aA .i64)) cB x0.aB.aB.aG,.rd false (aD (aA .i64)) cH x0.aB.aB.To,.rd false (aD (aA .i64)) bT x0.aB.aB.aJ,.rd false (aD (aD (aA .i64))) bL x0.aB.aB.aF,.rd false (aD (aA .i64)) cC x0.aB.aE.aG,.rd false (aD (aA .i64)) cI x0.aB.aE.To,.rd false (aD (aA .i64)) bU x0.aB.aE.aJ,.rd false (aD (aD (aA .i64))) bN x0.aB.aE.aF,.rd false (aD (aA .i64)) cR x0.aB.aC,.rd false (aD (aA .i64)) cY x0.aB.af,.rd false (aD (aA .i64)) cD x0.aE.aB.aG,.rd false (aD (aA .i64)) cJ x0.aE.aB.To,.rd false (aD (aA .i64)) bV x0.aE.aB.aJ,.rd false (aD (aD (aA .i64))) bP x0.aE.aB.aF,.rd false (aD (aA .i64)) cE x0.aE.aE.aG,.rd false (aD (aA .i64)) cK x0.aE.aE.To,.rd false (aD (aA .i64)) bW x0.aE.aE.aJ,.rd false (aD (aD (aA .i64))) bQ x0.aE.aE.aF,.rd false (aD (aA .i64)) cS x0.aE.aC,.rd false (aD (aA .i64)) cZ x0.aE.af,.rd false (aD (aA .i64)) dH x0.au] (fun y (_:Unit)=>[.bool y]) (fun y _=>[]):=by
 refine ct (S:=Unit) (cf fun _ _=>rfl) Tryz.func45 rfl rfl ?_
 repeat' first
  | ((first | show Dk.ER _ _ _ | show Dk.bd _ _ | show Dk.EF _ _ _ | show Dk.EO _ _ _ | show Dk.EP _ _ | show Dk.bb _ _ _ _ | show Dk.av _ _ _ _ | show Dk.Kp _ _ _ _ | show Dk.bp _ _ | show Dk.bg _ _ _ _); repeat' first | exact rfl | (refine @id.{0} _ ?_; constructor))
  | intro _
  | exact rfl
  | (refine @id.{0} _ ?_; constructor)
  | apply adq
  | apply NU
  | exact ()
theorem adr {x0:aL} {dK:Addr} {bA:Value} {bG:Value} {aS:Value} {aP:Value} {bB:Value} {bH:Value} {aT:Value} {aQ:Value} {bI:Value} {bR:Value}:Ct Tryz.prog 109 true (jK x0) [.pointer (some (dK))] [.ak dK [.int .i64 (x0.aB.aC),bA,bG,aS,aP,.int .i64 (x0.aE.aC),bB,bH,aT,aQ,bI,bR],.rd false (aD (aA .i64)) bA x0.aB.aG,.rd false (aD (aA .i64)) bG x0.aB.To,.rd false (aD (aA .i64)) aS x0.aB.aJ,.rd false (aD (aD (aA .i64))) aP x0.aB.aF,.rd false (aD (aA .i64)) bB x0.aE.aG,.rd false (aD (aA .i64)) bH x0.aE.To,.rd false (aD (aA .i64)) aT x0.aE.aJ,.rd false (aD (aD (aA .i64))) aQ x0.aE.aF,.rd false (aD (aA .i64)) bI x0.aC,.rd false (aD (aA .i64)) bR x0.af] (fun y (v:Value×Value×Value×Value×Value×Value×Value×Value×Value×Value)=>[.agg #[.int .i64 y.aB.aC,v.1,v.2.1,v.2.2.1,v.2.2.2.1,.int .i64 y.aE.aC,v.2.2.2.2.1,v.2.2.2.2.2.1,v.2.2.2.2.2.2.1,v.2.2.2.2.2.2.2.1,v.2.2.2.2.2.2.2.2.1,v.2.2.2.2.2.2.2.2.2]]) (fun y v=>[.own (aK 2 (aA .i64)) v.1 y.aB.aG,.own (aK 2 (aA .i64)) v.2.1 y.aB.To,.own (aK 2 (aA .i64)) v.2.2.1 y.aB.aJ,.own (aK 24 (aK 2 (aA .i64))) v.2.2.2.1 y.aB.aF,.own (aK 2 (aA .i64)) v.2.2.2.2.1 y.aE.aG,.own (aK 2 (aA .i64)) v.2.2.2.2.2.1 y.aE.To,.own (aK 2 (aA .i64)) v.2.2.2.2.2.2.1 y.aE.aJ,.own (aK 24 (aK 2 (aA .i64))) v.2.2.2.2.2.2.2.1 y.aE.aF,.own (aK 2 (aA .i64)) v.2.2.2.2.2.2.2.2.1 y.aC,.own (aK 2 (aA .i64)) v.2.2.2.2.2.2.2.2.2 y.af]):=by
 refine ct (S:=Unit) (cf fun _ _=>rfl) Tryz.func109 rfl rfl ?_
 repeat' first
  | ((first | show Dk.ER _ _ _ | show Dk.bd _ _ | show Dk.EF _ _ _ | show Dk.EO _ _ _ | show Dk.EP _ _ | show Dk.bb _ _ _ _ | show Dk.av _ _ _ _ | show Dk.Kp _ _ _ _ | show Dk.bp _ _ | show Dk.bg _ _ _ _); repeat' first | exact rfl | (refine @id.{0} _ ?_; constructor))
  | intro _
  | exact rfl
  | (refine @id.{0} _ ?_; constructor)
  | apply Dk.any (id:=1) 14 [] [] [[],[0],[1,0],[],[3],[4,3],[],[6],[7,6],[8,7,6],[],[10],[11,10],[12,11,10]] (by kernel_rfl)
  | apply c68
  | exact ()
theorem W2 {x0:aL} {dK:Addr} {bA:Value} {bG:Value} {aS:Value} {aP:Value} {bB:Value} {bH:Value} {aT:Value} {aQ:Value} {bI:Value} {bR:Value} {x1:aL} {jB:Addr} {bJ:Value} {bX:Value} {bD:Value} {aY:Value} {bK:Value} {bY:Value} {bE:Value} {aZ:Value} {cF:Value} {cL:Value} {x2:(List Int)} {eB:Value}:Ct Tryz.prog 48 true (gB x0 x1 x2) [.pointer (some (dK)),.pointer (some (jB)),eB] [.ak jB [.int .i64 (x1.aB.aC),bJ,bX,bD,aY,.int .i64 (x1.aE.aC),bK,bY,bE,aZ,cF,cL],.ak dK [.int .i64 (x0.aB.aC),bA,bG,aS,aP,.int .i64 (x0.aE.aC),bB,bH,aT,aQ,bI,bR],.rd false (aD (aA .i64)) bA x0.aB.aG,.rd false (aD (aA .i64)) bG x0.aB.To,.rd false (aD (aA .i64)) aS x0.aB.aJ,.rd false (aD (aD (aA .i64))) aP x0.aB.aF,.rd false (aD (aA .i64)) bB x0.aE.aG,.rd false (aD (aA .i64)) bH x0.aE.To,.rd false (aD (aA .i64)) aT x0.aE.aJ,.rd false (aD (aD (aA .i64))) aQ x0.aE.aF,.rd false (aD (aA .i64)) bI x0.aC,.rd false (aD (aA .i64)) bR x0.af,.rd false (aD (aA .i64)) bJ x1.aB.aG,.rd false (aD (aA .i64)) bX x1.aB.To,.rd false (aD (aA .i64)) bD x1.aB.aJ,.rd false (aD (aD (aA .i64))) aY x1.aB.aF,.rd false (aD (aA .i64)) bK x1.aE.aG,.rd false (aD (aA .i64)) bY x1.aE.To,.rd false (aD (aA .i64)) bE x1.aE.aJ,.rd false (aD (aD (aA .i64))) aZ x1.aE.aF,.rd false (aD (aA .i64)) cF x1.aC,.rd false (aD (aA .i64)) cL x1.af,.rd false (aD (aA .i64)) eB x2] (fun y (v:Value×Value×Value×Value×Value×Value×Value×Value×Value×Value×Value×Value×Value×Value×Value×Value×Value×Value×Value×Value×Value)=>[.agg #[.int .i64 y.aB.aB.aC,v.1,v.2.1,v.2.2.1,v.2.2.2.1,.int .i64 y.aB.aE.aC,v.2.2.2.2.1,v.2.2.2.2.2.1,v.2.2.2.2.2.2.1,v.2.2.2.2.2.2.2.1,v.2.2.2.2.2.2.2.2.1,v.2.2.2.2.2.2.2.2.2.1,.int .i64 y.aE.aB.aC,v.2.2.2.2.2.2.2.2.2.2.1,v.2.2.2.2.2.2.2.2.2.2.2.1,v.2.2.2.2.2.2.2.2.2.2.2.2.1,v.2.2.2.2.2.2.2.2.2.2.2.2.2.1,.int .i64 y.aE.aE.aC,v.2.2.2.2.2.2.2.2.2.2.2.2.2.2.1,v.2.2.2.2.2.2.2.2.2.2.2.2.2.2.2.1,v.2.2.2.2.2.2.2.2.2.2.2.2.2.2.2.2.1,v.2.2.2.2.2.2.2.2.2.2.2.2.2.2.2.2.2.1,v.2.2.2.2.2.2.2.2.2.2.2.2.2.2.2.2.2.2.1,v.2.2.2.2.2.2.2.2.2.2.2.2.2.2.2.2.2.2.2.1,v.2.2.2.2.2.2.2.2.2.2.2.2.2.2.2.2.2.2.2.2]]) (fun y v=>[.own (aK 2 (aA .i64)) v.1 y.aB.aB.aG,.own (aK 2 (aA .i64)) v.2.1 y.aB.aB.To,.own (aK 2 (aA .i64)) v.2.2.1 y.aB.aB.aJ,.own (aK 24 (aK 2 (aA .i64))) v.2.2.2.1 y.aB.aB.aF,.own (aK 2 (aA .i64)) v.2.2.2.2.1 y.aB.aE.aG,.own (aK 2 (aA .i64)) v.2.2.2.2.2.1 y.aB.aE.To,.own (aK 2 (aA .i64)) v.2.2.2.2.2.2.1 y.aB.aE.aJ,.own (aK 24 (aK 2 (aA .i64))) v.2.2.2.2.2.2.2.1 y.aB.aE.aF,.own (aK 2 (aA .i64)) v.2.2.2.2.2.2.2.2.1 y.aB.aC,.own (aK 2 (aA .i64)) v.2.2.2.2.2.2.2.2.2.1 y.aB.af,.own (aK 2 (aA .i64)) v.2.2.2.2.2.2.2.2.2.2.1 y.aE.aB.aG,.own (aK 2 (aA .i64)) v.2.2.2.2.2.2.2.2.2.2.2.1 y.aE.aB.To,.own (aK 2 (aA .i64)) v.2.2.2.2.2.2.2.2.2.2.2.2.1 y.aE.aB.aJ,.own (aK 24 (aK 2 (aA .i64))) v.2.2.2.2.2.2.2.2.2.2.2.2.2.1 y.aE.aB.aF,.own (aK 2 (aA .i64)) v.2.2.2.2.2.2.2.2.2.2.2.2.2.2.1 y.aE.aE.aG,.own (aK 2 (aA .i64)) v.2.2.2.2.2.2.2.2.2.2.2.2.2.2.2.1 y.aE.aE.To,.own (aK 2 (aA .i64)) v.2.2.2.2.2.2.2.2.2.2.2.2.2.2.2.2.1 y.aE.aE.aJ,.own (aK 24 (aK 2 (aA .i64))) v.2.2.2.2.2.2.2.2.2.2.2.2.2.2.2.2.2.1 y.aE.aE.aF,.own (aK 2 (aA .i64)) v.2.2.2.2.2.2.2.2.2.2.2.2.2.2.2.2.2.2.1 y.aE.aC,.own (aK 2 (aA .i64)) v.2.2.2.2.2.2.2.2.2.2.2.2.2.2.2.2.2.2.2.1 y.aE.af,.own (aK 2 (aA .i64)) v.2.2.2.2.2.2.2.2.2.2.2.2.2.2.2.2.2.2.2.2 y.au]):=by
 refine ct (S:=Unit) (cf fun _ _=>rfl) Tryz.func48 rfl rfl ?_
 repeat' first
  | ((first | show Dk.ER _ _ _ | show Dk.bd _ _ | show Dk.EF _ _ _ | show Dk.EO _ _ _ | show Dk.EP _ _ | show Dk.bb _ _ _ _ | show Dk.av _ _ _ _ | show Dk.Kp _ _ _ _ | show Dk.bp _ _ | show Dk.bg _ _ _ _); repeat' first | exact rfl | (refine @id.{0} _ ?_; constructor))
  | intro _
  | exact rfl
  | (refine @id.{0} _ ?_; constructor)
  | apply adr
  | apply JN
  | exact ()
theorem c16 {x0:aL} {bA:Value} {bG:Value} {aS:Value} {aP:Value} {bB:Value} {bH:Value} {aT:Value} {aQ:Value} {bI:Value} {bR:Value}:Ct Tryz.prog 16 true (gA x0) [.agg #[.int .i64 (x0.aB.aC),bA,bG,aS,aP,.int .i64 (x0.aE.aC),bB,bH,aT,aQ,bI,bR]] [.rd false (aD (aA .i64)) bA x0.aB.aG,.rd false (aD (aA .i64)) bG x0.aB.To,.rd false (aD (aA .i64)) aS x0.aB.aJ,.rd false (aD (aD (aA .i64))) aP x0.aB.aF,.rd false (aD (aA .i64)) bB x0.aE.aG,.rd false (aD (aA .i64)) bH x0.aE.To,.rd false (aD (aA .i64)) aT x0.aE.aJ,.rd false (aD (aD (aA .i64))) aQ x0.aE.aF,.rd false (aD (aA .i64)) bI x0.aC,.rd false (aD (aA .i64)) bR x0.af] (fun y (v:Value×Value×Value×Value×Value×Value×Value×Value×Value×Value×Value×Value×Value×Value×Value×Value×Value×Value×Value×Value×Value)=>[.agg #[.int .i64 y.1.aB.aB.aC,v.1,v.2.1,v.2.2.1,v.2.2.2.1,.int .i64 y.1.aB.aE.aC,v.2.2.2.2.1,v.2.2.2.2.2.1,v.2.2.2.2.2.2.1,v.2.2.2.2.2.2.2.1,v.2.2.2.2.2.2.2.2.1,v.2.2.2.2.2.2.2.2.2.1,.int .i64 y.1.aE.aB.aC,v.2.2.2.2.2.2.2.2.2.2.1,v.2.2.2.2.2.2.2.2.2.2.2.1,v.2.2.2.2.2.2.2.2.2.2.2.2.1,v.2.2.2.2.2.2.2.2.2.2.2.2.2.1,.int .i64 y.1.aE.aE.aC,v.2.2.2.2.2.2.2.2.2.2.2.2.2.2.1,v.2.2.2.2.2.2.2.2.2.2.2.2.2.2.2.1,v.2.2.2.2.2.2.2.2.2.2.2.2.2.2.2.2.1,v.2.2.2.2.2.2.2.2.2.2.2.2.2.2.2.2.2.1,v.2.2.2.2.2.2.2.2.2.2.2.2.2.2.2.2.2.2.1,v.2.2.2.2.2.2.2.2.2.2.2.2.2.2.2.2.2.2.2.1,v.2.2.2.2.2.2.2.2.2.2.2.2.2.2.2.2.2.2.2.2],.int .i64 y.2]) (fun y v=>[.own (aK 2 (aA .i64)) v.1 y.1.aB.aB.aG,.own (aK 2 (aA .i64)) v.2.1 y.1.aB.aB.To,.own (aK 2 (aA .i64)) v.2.2.1 y.1.aB.aB.aJ,.own (aK 24 (aK 2 (aA .i64))) v.2.2.2.1 y.1.aB.aB.aF,.own (aK 2 (aA .i64)) v.2.2.2.2.1 y.1.aB.aE.aG,.own (aK 2 (aA .i64)) v.2.2.2.2.2.1 y.1.aB.aE.To,.own (aK 2 (aA .i64)) v.2.2.2.2.2.2.1 y.1.aB.aE.aJ,.own (aK 24 (aK 2 (aA .i64))) v.2.2.2.2.2.2.2.1 y.1.aB.aE.aF,.own (aK 2 (aA .i64)) v.2.2.2.2.2.2.2.2.1 y.1.aB.aC,.own (aK 2 (aA .i64)) v.2.2.2.2.2.2.2.2.2.1 y.1.aB.af,.own (aK 2 (aA .i64)) v.2.2.2.2.2.2.2.2.2.2.1 y.1.aE.aB.aG,.own (aK 2 (aA .i64)) v.2.2.2.2.2.2.2.2.2.2.2.1 y.1.aE.aB.To,.own (aK 2 (aA .i64)) v.2.2.2.2.2.2.2.2.2.2.2.2.1 y.1.aE.aB.aJ,.own (aK 24 (aK 2 (aA .i64))) v.2.2.2.2.2.2.2.2.2.2.2.2.2.1 y.1.aE.aB.aF,.own (aK 2 (aA .i64)) v.2.2.2.2.2.2.2.2.2.2.2.2.2.2.1 y.1.aE.aE.aG,.own (aK 2 (aA .i64)) v.2.2.2.2.2.2.2.2.2.2.2.2.2.2.2.1 y.1.aE.aE.To,.own (aK 2 (aA .i64)) v.2.2.2.2.2.2.2.2.2.2.2.2.2.2.2.2.1 y.1.aE.aE.aJ,.own (aK 24 (aK 2 (aA .i64))) v.2.2.2.2.2.2.2.2.2.2.2.2.2.2.2.2.2.1 y.1.aE.aE.aF,.own (aK 2 (aA .i64)) v.2.2.2.2.2.2.2.2.2.2.2.2.2.2.2.2.2.2.1 y.1.aE.aC,.own (aK 2 (aA .i64)) v.2.2.2.2.2.2.2.2.2.2.2.2.2.2.2.2.2.2.2.1 y.1.aE.af,.own (aK 2 (aA .i64)) v.2.2.2.2.2.2.2.2.2.2.2.2.2.2.2.2.2.2.2.2 y.1.au]):=by
 refine ct (S:=Unit) (cf fun _ _=>rfl) Tryz.func16 rfl rfl ?_
 repeat' first
  | ((first | show Dk.ER _ _ _ | show Dk.bd _ _ | show Dk.EF _ _ _ | show Dk.EO _ _ _ | show Dk.EP _ _ | show Dk.bb _ _ _ _ | show Dk.av _ _ _ _ | show Dk.Kp _ _ _ _ | show Dk.bp _ _ | show Dk.bg _ _ _ _); repeat' first | exact rfl | (refine @id.{0} _ ?_; constructor))
  | intro _
  | exact rfl
  | (refine @id.{0} _ ?_; constructor)
  | apply Zr
  | apply c53
  | apply W2
  | exact ()
end Go.Proofs.YtkcpiblgpnjanaaGreat
