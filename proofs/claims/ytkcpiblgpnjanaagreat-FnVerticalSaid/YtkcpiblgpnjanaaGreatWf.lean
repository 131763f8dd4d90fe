/- Walks by the calculus D. No condition beside those that each theorem names. -/
import Derived.Test.YtkcpiblgpnjanaaGreatDi
import Derived.Test.YtkcpiblgpnjanaaGreatMo
import Derived.Test.YtkcpiblgpnjanaaGreatDp
import Derived.Test.YtkcpiblgpnjanaaGreatDs
import Derived.Test.YtkcpiblgpnjanaaGreatWb
import Derived.Test.YtkcpiblgpnjanaaGreatWc
namespace Go.Proofs.YtkcpiblgpnjanaaGreat
open Go Go.Li Go.Dk
set_option linter.unusedVariables false
set_option maxHeartbeats 16000000
set_option maxRecDepth 100000
theorem WV {x0:aI} {aV:Value} {bG:Value} {aO:Value} {aM:Value} {x1:aI} {cA:Value} {cR:Value} {bH:Value} {bB:Value}:Ct Tryz.prog 57 true (iS x0 x1) [.agg #[.int .i64 (x0.aE),aV,bG,aO,aM],.agg #[.int .i64 (x1.aE),cA,cR,bH,bB]] [.rd false (aD (aB .i64)) aV x0.aG,.rd false (aD (aB .i64)) bG x0.To,.rd false (aD (aB .i64)) aO x0.aJ,.rd false (aD (aD (aB .i64))) aM x0.aF,.rd false (aD (aB .i64)) cA x1.aG,.rd false (aD (aB .i64)) cR x1.To,.rd false (aD (aB .i64)) bH x1.aJ,.rd false (aD (aD (aB .i64))) bB x1.aF] (fun y (_:Unit)=>[.bool y]) (fun y _=>[]):=by
 refine ct (S:=Unit) (ca fun _ _=>rfl) Tryz.func57 rfl rfl ?_
 repeat' first
  | ((first | show Dk.ER _ _ _ | show Dk.bb _ _ | show Dk.EF _ _ _ | show Dk.EO _ _ _ | show Dk.EP _ _ | show Dk.ba _ _ _ _ | show Dk.aw _ _ _ _ | show Dk.Kp _ _ _ _ | show Dk.bp _ _ | show Dk.bc _ _ _ _); repeat' first | exact rfl | (refine @id.{0} _ ?_; constructor))
  | intro _
  | exact rfl
  | (apply Dk.MR (t:=4); exact rfl)
  | (refine @id.{0} _ ?_; constructor)
  | apply acN
  | exact ()
theorem ade {x0:aI} {aV:Value} {bG:Value} {aO:Value} {aM:Value}:Ct Tryz.prog 177 true (oH x0) [.agg #[.int .i64 (x0.aE),aV,bG,aO,aM]] [.rd false (aD (aB .i64)) aV x0.aG,.rd false (aD (aB .i64)) bG x0.To,.rd false (aD (aB .i64)) aO x0.aJ,.rd false (aD (aD (aB .i64))) aM x0.aF] (fun y (_:Unit)=>[.bool y]) (fun y _=>[]):=by
 refine ct (S:=Unit) (ca fun _ _=>rfl) Tryz.func177 rfl rfl ?_
 repeat' first
  | ((first | show Dk.ER _ _ _ | show Dk.bb _ _ | show Dk.EF _ _ _ | show Dk.EO _ _ _ | show Dk.EP _ _ | show Dk.ba _ _ _ _ | show Dk.aw _ _ _ _ | show Dk.Kp _ _ _ _ | show Dk.bp _ _ | show Dk.bc _ _ _ _); repeat' first | exact rfl | (refine @id.{0} _ ?_; constructor))
  | intro _
  | exact rfl
  | (refine Dk.s9 (t:=102) rfl ?_ ?_)
  | (refine @id.{0} _ ?_; constructor)
  | apply Dk.loop 0 (V:=Unit) (fun (s:Int) v=>[]) (fun s v=>[(4,.int .i64 (s))]) () [(1,_),(3,_)]
  | apply Dk.loop 2 (V:=Unit) (fun (s:Int) v=>[]) (fun s v=>[(5,.int .i64 (s))]) () [(1,_),(3,_)]
  | apply Dk.loop 4 (V:=Unit) (fun (s:Int) v=>[]) (fun s v=>[(6,.int .i64 (s))]) () [(1,_),(3,_),(5,_)]
  | apply Dk.quiet (id:=9) (by kernel_rfl)
  | apply Dk.quiet (id:=20) (by kernel_rfl)
  | apply Dk.quiet (id:=23) (by kernel_rfl)
  | apply acO
  | apply acU
  | apply LD
  | exact ()
theorem adg {x0:aI} {aV:Value} {bG:Value} {aO:Value} {aM:Value}:Ct Tryz.prog 123 true (oI x0) [.agg #[.int .i64 (x0.aE),aV,bG,aO,aM]] [.rd false (aD (aB .i64)) aV x0.aG,.rd false (aD (aB .i64)) bG x0.To,.rd false (aD (aB .i64)) aO x0.aJ,.rd false (aD (aD (aB .i64))) aM x0.aF] (fun y (_:Unit)=>[.bool y]) (fun y _=>[]):=by
 refine ct (S:=Unit) (ca fun _ _=>rfl) Tryz.func123 rfl rfl ?_
 repeat' first
  | ((first | show Dk.ER _ _ _ | show Dk.bb _ _ | show Dk.EF _ _ _ | show Dk.EO _ _ _ | show Dk.EP _ _ | show Dk.ba _ _ _ _ | show Dk.aw _ _ _ _ | show Dk.Kp _ _ _ _ | show Dk.bp _ _ | show Dk.bc _ _ _ _); repeat' first | exact rfl | (refine @id.{0} _ ?_; constructor))
  | intro _
  | exact rfl
  | (refine @id.{0} _ ?_; constructor)
  | apply ade
  | apply acP
  | exact ()
theorem adh {x0:aL} {dV:Nat} {cW:Value} {x1:Int}:Ct Tryz.prog 114 true (kQ x0 x1) [.pointer (some (⟨dV,0,none⟩)),.int .i64 (x1)] [.row dV [cW,.int .i64 (x0.At),.int .u64 (x0.av)] 142,.rd false (aD (aB .u8)) cW x0.Code] (fun y (_:Unit)=>[.int .i64 y.1]) (fun y _=>[.row dV [cW,.int .i64 y.2.At,.int .u64 y.2.av] 142]):=by
 refine ct (S:=Unit) (ca fun _ _=>rfl) Tryz.func114 rfl rfl ?_
 repeat' first
  | ((first | show Dk.ER _ _ _ | show Dk.bb _ _ | show Dk.EF _ _ _ | show Dk.EO _ _ _ | show Dk.EP _ _ | show Dk.ba _ _ _ _ | show Dk.aw _ _ _ _ | show Dk.Kp _ _ _ _ | show Dk.bp _ _ | show Dk.bc _ _ _ _); repeat' first | exact rfl | (refine @id.{0} _ ?_; constructor))
  | intro _
  | exact rfl
  | (refine @id.{0} _ ?_; constructor)
  | apply AM
  | apply WN
  | exact ()
theorem c31 {x0:aI} {aV:Value} {bG:Value} {aO:Value} {aM:Value} {x1:aI} {cA:Value} {cR:Value} {bH:Value} {bB:Value}:Ct Tryz.prog 31 true (lC x0 x1) [.agg #[.int .i64 (x0.aE),aV,bG,aO,aM],.agg #[.int .i64 (x1.aE),cA,cR,bH,bB]] [.rd false (aD (aB .i64)) aV x0.aG,.rd false (aD (aB .i64)) bG x0.To,.rd false (aD (aB .i64)) aO x0.aJ,.rd false (aD (aD (aB .i64))) aM x0.aF,.rd false (aD (aB .i64)) cA x1.aG,.rd false (aD (aB .i64)) cR x1.To,.rd false (aD (aB .i64)) bH x1.aJ,.rd false (aD (aD (aB .i64))) bB x1.aF] (fun y (_:Unit)=>[.bool y]) (fun y _=>[]):=by
 refine ct (S:=Unit) (ca fun _ _=>rfl) Tryz.func31 rfl rfl ?_
 repeat' first
  | ((first | show Dk.ER _ _ _ | show Dk.bb _ _ | show Dk.EF _ _ _ | show Dk.EO _ _ _ | show Dk.EP _ _ | show Dk.ba _ _ _ _ | show Dk.aw _ _ _ _ | show Dk.Kp _ _ _ _ | show Dk.bp _ _ | show Dk.bc _ _ _ _); repeat' first | exact rfl | (refine @id.{0} _ ?_; constructor))
  | intro _
  | exact rfl
  | (refine @id.{0} _ ?_; constructor)
  | apply Jt
  | apply c32
  | exact ()
theorem c24 {x0:aN} {aW:Value} {bC:Value} {aS:Value} {aQ:Value} {aY:Value} {bD:Value} {aT:Value} {aR:Value} {bI:Value} {bR:Value} {x1:aN} {bP:Value} {bW:Value} {bE:Value} {aZ:Value} {bQ:Value} {bX:Value} {bF:Value} {bA:Value} {cF:Value} {cL:Value}:Ct Tryz.prog 24 true (lD x0 x1) [.agg #[.int .i64 (x0.aA.aE),aW,bC,aS,aQ,.int .i64 (x0.aC.aE),aY,bD,aT,aR,bI,bR],.agg #[.int .i64 (x1.aA.aE),bP,bW,bE,aZ,.int .i64 (x1.aC.aE),bQ,bX,bF,bA,cF,cL]] [.rd false (aD (aB .i64)) aW x0.aA.aG,.rd false (aD (aB .i64)) bC x0.aA.To,.rd false (aD (aB .i64)) aS x0.aA.aJ,.rd false (aD (aD (aB .i64))) aQ x0.aA.aF,.rd false (aD (aB .i64)) aY x0.aC.aG,.rd false (aD (aB .i64)) bD x0.aC.To,.rd false (aD (aB .i64)) aT x0.aC.aJ,.rd false (aD (aD (aB .i64))) aR x0.aC.aF,.rd false (aD (aB .i64)) bI x0.aE,.rd false (aD (aB .i64)) bR x0.ae,.rd false (aD (aB .i64)) bP x1.aA.aG,.rd false (aD (aB .i64)) bW x1.aA.To,.rd false (aD (aB .i64)) bE x1.aA.aJ,.rd false (aD (aD (aB .i64))) aZ x1.aA.aF,.rd false (aD (aB .i64)) bQ x1.aC.aG,.rd false (aD (aB .i64)) bX x1.aC.To,.rd false (aD (aB .i64)) bF x1.aC.aJ,.rd false (aD (aD (aB .i64))) bA x1.aC.aF,.rd false (aD (aB .i64)) cF x1.aE,.rd false (aD (aB .i64)) cL x1.ae] (fun y (_:Unit)=>[.bool y]) (fun y _=>[]):=by
 refine ct (S:=Unit) (ca fun _ _=>rfl) Tryz.func24 rfl rfl ?_
 repeat' first
  | ((first | show Dk.ER _ _ _ | show Dk.bb _ _ | show Dk.EF _ _ _ | show Dk.EO _ _ _ | show Dk.EP _ _ | show Dk.ba _ _ _ _ | show Dk.aw _ _ _ _ | show Dk.Kp _ _ _ _ | show Dk.bp _ _ | show Dk.bc _ _ _ _); repeat' first | exact rfl | (refine @id.{0} _ ?_; constructor))
  | intro _
  | exact rfl
  | (refine @id.{0} _ ?_; constructor)
  | apply c31
  | apply Jt
  | exact ()
theorem IV {x0 x1:aN} {xm:Int} {rc:Int→List Int→(List (List Int))→Option (Bool×List Int×(List (List Int)))} (ih:∀ {x:Int} {cs:List Int} {st:(List (List Int))} {pc po pk pd pa pb pl ph:Addr} {pf pg:Addr} {vk vo:Value} {bo:Nat} {pm:Addr} {ye yf yg yh yi yj yk ym uo ua yn yo yp yq yr yt yu yw wo wa:Value},Ct Tryz.prog 165 true (rc x cs st) [.int .i64 x,.pointer (some pc),.pointer (some po),.pointer (some pk),.pointer (some pd),.pointer (some pa),.pointer (some pb),.pointer (some pl),.pointer (some ph)] [.row bo [vo] 25,.au pc [.pointer (some pf)],.au pd [.pointer (some (pf.add 5))],.au pa [.pointer (some pf)],.au pb [.pointer (some pg)],.au pk [vk],.au pl [.func (.func 102) #[] #[]],.au po [.func (.func 103) #[] #[.pointer (some ⟨bo,0,none⟩),.pointer (some pm)]],.au ph [.func (.func 165) #[] #[.pointer (some pc),.pointer (some po),.pointer (some pk),.pointer (some pd),.pointer (some pa),.pointer (some pb),.pointer (some pl),.pointer (some ph)]],.au pm [.int .i64 xm],.au pf [.int .i64 x0.aA.aE,ye,yf,yg,yh,.int .i64 x0.aC.aE,yi,yj,yk,ym,uo,ua],.au pg [.int .i64 x1.aA.aE,yn,yo,yp,yq,.int .i64 x1.aC.aE,yr,yt,yu,yw,wo,wa],.own (aK 24 (aK 2 (aB .i64))) vo st,.own (aK 2 (aB .i64)) vk cs,.rd false (aD (aB .i64)) ye x0.aA.aG,.rd false (aD (aB .i64)) yf x0.aA.To,.rd false (aD (aB .i64)) yg x0.aA.aJ,.rd false (aD (aD (aB .i64))) yh x0.aA.aF,.rd false (aD (aB .i64)) yi x0.aC.aG,.rd false (aD (aB .i64)) yj x0.aC.To,.rd false (aD (aB .i64)) yk x0.aC.aJ,.rd false (aD (aD (aB .i64))) ym x0.aC.aF,.rd false (aD (aB .i64)) uo x0.aE,.rd false (aD (aB .i64)) ua x0.ae,.rd false (aD (aB .i64)) yn x1.aA.aG,.rd false (aD (aB .i64)) yo x1.aA.To,.rd false (aD (aB .i64)) yp x1.aA.aJ,.rd false (aD (aD (aB .i64))) yq x1.aA.aF,.rd false (aD (aB .i64)) yr x1.aC.aG,.rd false (aD (aB .i64)) yt x1.aC.To,.rd false (aD (aB .i64)) yu x1.aC.aJ,.rd false (aD (aD (aB .i64))) yw x1.aC.aF,.rd false (aD (aB .i64)) wo x1.aE,.rd false (aD (aB .i64)) wa x1.ae] (fun y (_:Value)=>[.bool y.1]) (fun y v=>[.row bo [v] 25,.own (aK 24 (aK 2 (aB .i64))) v y.2.2,.own (aK 2 (aB .i64)) vk y.2.1])) {x:Int} {cs:List Int} {st:(List (List Int))} {pc po pk pd pa pb pl ph:Addr} {pf pg:Addr} {vk vo:Value} {bo:Nat} {pm:Addr} {ye yf yg yh yi yj yk ym uo ua yn yo yp yq yr yt yu yw wo wa:Value}:Ct Tryz.prog 165 true (iQ (fun a0=>iU a0) (fun a0 a1=>eW a0 a1 xm) x0 x1 rc x cs st) [.int .i64 x,.pointer (some pc),.pointer (some po),.pointer (some pk),.pointer (some pd),.pointer (some pa),.pointer (some pb),.pointer (some pl),.pointer (some ph)] [.row bo [vo] 25,.au pc [.pointer (some pf)],.au pd [.pointer (some (pf.add 5))],.au pa [.pointer (some pf)],.au pb [.pointer (some pg)],.au pk [vk],.au pl [.func (.func 102) #[] #[]],.au po [.func (.func 103) #[] #[.pointer (some ⟨bo,0,none⟩),.pointer (some pm)]],.au ph [.func (.func 165) #[] #[.pointer (some pc),.pointer (some po),.pointer (some pk),.pointer (some pd),.pointer (some pa),.pointer (some pb),.pointer (some pl),.pointer (some ph)]],.au pm [.int .i64 xm],.au pf [.int .i64 x0.aA.aE,ye,yf,yg,yh,.int .i64 x0.aC.aE,yi,yj,yk,ym,uo,ua],.au pg [.int .i64 x1.aA.aE,yn,yo,yp,yq,.int .i64 x1.aC.aE,yr,yt,yu,yw,wo,wa],.own (aK 24 (aK 2 (aB .i64))) vo st,.own (aK 2 (aB .i64)) vk cs,.rd false (aD (aB .i64)) ye x0.aA.aG,.rd false (aD (aB .i64)) yf x0.aA.To,.rd false (aD (aB .i64)) yg x0.aA.aJ,.rd false (aD (aD (aB .i64))) yh x0.aA.aF,.rd false (aD (aB .i64)) yi x0.aC.aG,.rd false (aD (aB .i64)) yj x0.aC.To,.rd false (aD (aB .i64)) yk x0.aC.aJ,.rd false (aD (aD (aB .i64))) ym x0.aC.aF,.rd false (aD (aB .i64)) uo x0.aE,.rd false (aD (aB .i64)) ua x0.ae,.rd false (aD (aB .i64)) yn x1.aA.aG,.rd false (aD (aB .i64)) yo x1.aA.To,.rd false (aD (aB .i64)) yp x1.aA.aJ,.rd false (aD (aD (aB .i64))) yq x1.aA.aF,.rd false (aD (aB .i64)) yr x1.aC.aG,.rd false (aD (aB .i64)) yt x1.aC.To,.rd false (aD (aB .i64)) yu x1.aC.aJ,.rd false (aD (aD (aB .i64))) yw x1.aC.aF,.rd false (aD (aB .i64)) wo x1.aE,.rd false (aD (aB .i64)) wa x1.ae] (fun y (_:Value)=>[.bool y.1]) (fun y v=>[.row bo [v] 25,.own (aK 24 (aK 2 (aB .i64))) v y.2.2,.own (aK 2 (aB .i64)) vk y.2.1]):=by
 refine ct (S:=Unit) (ca fun _ _=>rfl) Tryz.func165 rfl rfl ?_
 repeat' first
  | ((first | show Dk.ER _ _ _ | show Dk.bb _ _ | show Dk.EF _ _ _ | show Dk.EO _ _ _ | show Dk.EP _ _ | show Dk.ba _ _ _ _ | show Dk.aw _ _ _ _ | show Dk.Kp _ _ _ _ | show Dk.bp _ _ | show Dk.bc _ _ _ _); repeat' first | exact rfl | (refine @id.{0} _ ?_; constructor))
  | intro _
  | exact rfl
  | (refine @id.{0} _ ?_; constructor)
  | apply Dk.scp
  | apply Dk.lab
  | apply Dk.loop 0 (V:=Value) (fun (s:Int×List Int×(List (List Int))) v=>[.row bo [v] 25,.own (aK 24 (aK 2 (aB .i64))) v s.2.2,.own (aK 2 (aB .i64)) vk s.2.1]) (fun s v=>[(40,.int .i64 s.1)]) _ [(0,_),(1,_),(2,_),(3,_),(4,_),(5,_),(6,_),(7,_),(8,_),(38,_),(39,_)]
  | apply Dk.XN 2 1 (V:=Unit) (fun (s:Int) _=>[]) (fun s _=>[(57,.int .i64 s)]) () [(0,_),(1,_),(2,_),(3,_),(4,_),(5,_),(6,_),(7,_),(8,_),(12,_),(38,_),(39,_),(40,_),(56,_)] rfl
  | apply Dk.nlx
  | apply Dk.xlx
  | (apply Dk.xlo <;> first | exact rfl | skip)
  | apply Dk.any (id:=3) 18 [] [] [[],[],[1],[2,1],[3,2,1],[],[4,3,2,1,5],[6,4,3,2,1,5],[],[8],[9,8],[10,9,8],[],[11,10,9,8,12],[13,11,10,9,8,12],[0,7,6,4,3,2,1,5,14,13,11,10,9,8,12],[15,0,7,6,4,3,2,1,5,14,13,11,10,9,8,12],[]] (by kernel_rfl)
  | apply Dk.quiet (id:=11) (by kernel_rfl)
  | apply ih
  | apply acZ
  | apply WK
  | apply acY
  | apply WJ
  | exact ()
theorem IW {x0 x1:aN} {xm:Int} (n:Nat):∀ {x:Int} {cs:List Int} {st:(List (List Int))} {pc po pk pd pa pb pl ph:Addr} {pf pg:Addr} {vk vo:Value} {bo:Nat} {pm:Addr} {ye yf yg yh yi yj yk ym uo ua yn yo yp yq yr yt yu yw wo wa:Value},Ct Tryz.prog 165 true (eM (fun a0=>iU a0) (fun a0 a1=>eW a0 a1 xm) x0 x1 n x cs st) [.int .i64 x,.pointer (some pc),.pointer (some po),.pointer (some pk),.pointer (some pd),.pointer (some pa),.pointer (some pb),.pointer (some pl),.pointer (some ph)] [.row bo [vo] 25,.au pc [.pointer (some pf)],.au pd [.pointer (some (pf.add 5))],.au pa [.pointer (some pf)],.au pb [.pointer (some pg)],.au pk [vk],.au pl [.func (.func 102) #[] #[]],.au po [.func (.func 103) #[] #[.pointer (some ⟨bo,0,none⟩),.pointer (some pm)]],.au ph [.func (.func 165) #[] #[.pointer (some pc),.pointer (some po),.pointer (some pk),.pointer (some pd),.pointer (some pa),.pointer (some pb),.pointer (some pl),.pointer (some ph)]],.au pm [.int .i64 xm],.au pf [.int .i64 x0.aA.aE,ye,yf,yg,yh,.int .i64 x0.aC.aE,yi,yj,yk,ym,uo,ua],.au pg [.int .i64 x1.aA.aE,yn,yo,yp,yq,.int .i64 x1.aC.aE,yr,yt,yu,yw,wo,wa],.own (aK 24 (aK 2 (aB .i64))) vo st,.own (aK 2 (aB .i64)) vk cs,.rd false (aD (aB .i64)) ye x0.aA.aG,.rd false (aD (aB .i64)) yf x0.aA.To,.rd false (aD (aB .i64)) yg x0.aA.aJ,.rd false (aD (aD (aB .i64))) yh x0.aA.aF,.rd false (aD (aB .i64)) yi x0.aC.aG,.rd false (aD (aB .i64)) yj x0.aC.To,.rd false (aD (aB .i64)) yk x0.aC.aJ,.rd false (aD (aD (aB .i64))) ym x0.aC.aF,.rd false (aD (aB .i64)) uo x0.aE,.rd false (aD (aB .i64)) ua x0.ae,.rd false (aD (aB .i64)) yn x1.aA.aG,.rd false (aD (aB .i64)) yo x1.aA.To,.rd false (aD (aB .i64)) yp x1.aA.aJ,.rd false (aD (aD (aB .i64))) yq x1.aA.aF,.rd false (aD (aB .i64)) yr x1.aC.aG,.rd false (aD (aB .i64)) yt x1.aC.To,.rd false (aD (aB .i64)) yu x1.aC.aJ,.rd false (aD (aD (aB .i64))) yw x1.aC.aF,.rd false (aD (aB .i64)) wo x1.aE,.rd false (aD (aB .i64)) wa x1.ae] (fun y (_:Value)=>[.bool y.1]) (fun y v=>[.row bo [v] 25,.own (aK 24 (aK 2 (aB .i64))) v y.2.2,.own (aK 2 (aB .i64)) vk y.2.1]):=by
 induction n with
 | zero=>intros; rw [qa]; exact ⟨(ca fun _ _=>rfl),fun _ _ _ _ _ _ _ y hy=>nomatch (show none=some y from hy)⟩
 | succ n ih=>exact IV ih
theorem Og {x0 x1:aN} {xm:Int} {x:Int} {cs:List Int} {st:(List (List Int))} {pc po pk pd pa pb pl ph:Addr} {pf pg:Addr} {vk vo:Value} {bo:Nat} {pm:Addr} {ye yf yg yh yi yj yk ym uo ua yn yo yp yq yr yt yu yw wo wa:Value}:Ct Tryz.prog 165 true (eM (fun a0=>iU a0) (fun a0 a1=>eW a0 a1 xm) x0 x1 64 x cs st) [.int .i64 x,.pointer (some pc),.pointer (some po),.pointer (some pk),.pointer (some pd),.pointer (some pa),.pointer (some pb),.pointer (some pl),.pointer (some ph)] [.row bo [vo] 25,.au pc [.pointer (some pf)],.au pd [.pointer (some (pf.add 5))],.au pa [.pointer (some pf)],.au pb [.pointer (some pg)],.au pk [vk],.au pl [.func (.func 102) #[] #[]],.au po [.func (.func 103) #[] #[.pointer (some ⟨bo,0,none⟩),.pointer (some pm)]],.au ph [.func (.func 165) #[] #[.pointer (some pc),.pointer (some po),.pointer (some pk),.pointer (some pd),.pointer (some pa),.pointer (some pb),.pointer (some pl),.pointer (some ph)]],.au pm [.int .i64 xm],.au pf [.int .i64 x0.aA.aE,ye,yf,yg,yh,.int .i64 x0.aC.aE,yi,yj,yk,ym,uo,ua],.au pg [.int .i64 x1.aA.aE,yn,yo,yp,yq,.int .i64 x1.aC.aE,yr,yt,yu,yw,wo,wa],.own (aK 24 (aK 2 (aB .i64))) vo st,.own (aK 2 (aB .i64)) vk cs,.rd false (aD (aB .i64)) ye x0.aA.aG,.rd false (aD (aB .i64)) yf x0.aA.To,.rd false (aD (aB .i64)) yg x0.aA.aJ,.rd false (aD (aD (aB .i64))) yh x0.aA.aF,.rd false (aD (aB .i64)) yi x0.aC.aG,.rd false (aD (aB .i64)) yj x0.aC.To,.rd false (aD (aB .i64)) yk x0.aC.aJ,.rd false (aD (aD (aB .i64))) ym x0.aC.aF,.rd false (aD (aB .i64)) uo x0.aE,.rd false (aD (aB .i64)) ua x0.ae,.rd false (aD (aB .i64)) yn x1.aA.aG,.rd false (aD (aB .i64)) yo x1.aA.To,.rd false (aD (aB .i64)) yp x1.aA.aJ,.rd false (aD (aD (aB .i64))) yq x1.aA.aF,.rd false (aD (aB .i64)) yr x1.aC.aG,.rd false (aD (aB .i64)) yt x1.aC.To,.rd false (aD (aB .i64)) yu x1.aC.aJ,.rd false (aD (aD (aB .i64))) yw x1.aC.aF,.rd false (aD (aB .i64)) wo x1.aE,.rd false (aD (aB .i64)) wa x1.ae] (fun y (_:Value)=>[.bool y.1]) (fun y v=>[.row bo [v] 25,.own (aK 24 (aK 2 (aB .i64))) v y.2.2,.own (aK 2 (aB .i64)) vk y.2.1]):=by
 exact IW 64
theorem QI {x0 x1:aN} {st:(List (List Int))} {pf pg:Addr} {vo:Value} {bo:Nat} {xm:Int} {pm:Addr} {ye yf yg yh yi yj yk ym uo ua yn yo yp yq yr yt yu yw wo wa:Value}:Ct Tryz.prog 95 true (kL (fun a0=>iU a0) (fun a0 a1=>eW a0 a1 xm) x0 x1 st) [.pointer (some pf),.pointer (some pg),.func (.func 102) #[] #[],.func (.func 103) #[] #[.pointer (some ⟨bo,0,none⟩),.pointer (some pm)]] [.row bo [vo] 25,.au pm [.int .i64 xm],.au pf [.int .i64 x0.aA.aE,ye,yf,yg,yh,.int .i64 x0.aC.aE,yi,yj,yk,ym,uo,ua],.au pg [.int .i64 x1.aA.aE,yn,yo,yp,yq,.int .i64 x1.aC.aE,yr,yt,yu,yw,wo,wa],.own (aK 24 (aK 2 (aB .i64))) vo st,.rd false (aD (aB .i64)) ye x0.aA.aG,.rd false (aD (aB .i64)) yf x0.aA.To,.rd false (aD (aB .i64)) yg x0.aA.aJ,.rd false (aD (aD (aB .i64))) yh x0.aA.aF,.rd false (aD (aB .i64)) yi x0.aC.aG,.rd false (aD (aB .i64)) yj x0.aC.To,.rd false (aD (aB .i64)) yk x0.aC.aJ,.rd false (aD (aD (aB .i64))) ym x0.aC.aF,.rd false (aD (aB .i64)) uo x0.aE,.rd false (aD (aB .i64)) ua x0.ae,.rd false (aD (aB .i64)) yn x1.aA.aG,.rd false (aD (aB .i64)) yo x1.aA.To,.rd false (aD (aB .i64)) yp x1.aA.aJ,.rd false (aD (aD (aB .i64))) yq x1.aA.aF,.rd false (aD (aB .i64)) yr x1.aC.aG,.rd false (aD (aB .i64)) yt x1.aC.To,.rd false (aD (aB .i64)) yu x1.aC.aJ,.rd false (aD (aD (aB .i64))) yw x1.aC.aF,.rd false (aD (aB .i64)) wo x1.aE,.rd false (aD (aB .i64)) wa x1.ae] (fun y (_:Value)=>[.bool y.1]) (fun y v=>[.row bo [v] 25,.own (aK 24 (aK 2 (aB .i64))) v y.2]):=by
 refine ct (S:=Unit) (ca fun _ _=>rfl) Tryz.func95 rfl rfl ?_
 repeat' first
  | ((first | show Dk.ER _ _ _ | show Dk.bb _ _ | show Dk.EF _ _ _ | show Dk.EO _ _ _ | show Dk.EP _ _ | show Dk.ba _ _ _ _ | show Dk.aw _ _ _ _ | show Dk.Kp _ _ _ _ | show Dk.bp _ _ | show Dk.bc _ _ _ _); repeat' first | exact rfl | (refine @id.{0} _ ?_; constructor))
  | intro _
  | exact rfl
  | (refine @id.{0} _ ?_; constructor)
  | apply Dk.aai (id:=1) [0,1,2,3,4,5] 6 7 8 9 9 10 (by kernel_rfl)
  | apply Og
  | exact ()
end Go.Proofs.YtkcpiblgpnjanaaGreat
