/- Walks by the calculus D. No condition beside those that each theorem names. -/
import Derived.Test.YtgjbmjjihmfppaaGreatDi
import Derived.Test.YtgjbmjjihmfppaaGreatMo
import Derived.Test.YtgjbmjjihmfppaaGreatDp
import Derived.Test.YtgjbmjjihmfppaaGreatDs
import Derived.Test.YtgjbmjjihmfppaaGreatWa
import Derived.Test.YtgjbmjjihmfppaaGreatWb
import Derived.Test.YtgjbmjjihmfppaaGreatWc
import Derived.Test.YtgjbmjjihmfppaaGreatWd
namespace Go.Proofs.YtgjbmjjihmfppaaGreat
open Go Go.Li Go.Dk
set_option linter.unusedVariables false
set_option maxHeartbeats 16000000
set_option maxRecDepth 100000
theorem adC {x0:Int} {x1:(List Int)} {dP:Value} {x2:(List Int)} {dX:Value}:Ct Tryz.prog 155 false (lC x0 x1 x2) [.int .i64 (x0),dP,dX] [.rd false (aB (aC .i64)) dP x1,.rd false (aB (aC .i64)) dX x2] (fun y (v:Value)=>[v]) (fun y v=>[.rd false (aB (iy vC)) v y]):=by
 refine ct (S:=Unit) tZ Tryz.func155 rfl rfl ?_
 repeat' first
  | ((first | show Dk.ER _ _ _ | show Dk.ba _ _ | show Dk.EF _ _ _ | show Dk.EO _ _ _ | show Dk.EP _ _ | show Dk.aX _ _ _ _ | show Dk.aq _ _ _ _ | show Dk.Kp _ _ _ _ | show Dk.bn _ _ | show Dk.bb _ _ _ _); repeat' first | exact rfl | (refine @id.{0} _ ?_; constructor))
  | intro _
  | exact rfl
  | (refine (id (α:=@Eq (List Value) _ _) ?_); dsimp only; try exact rfl)
  | apply Dk.Q7 (t:=173) (S:=vC)
  | apply Dk.UE (t:=173)
  | apply Dk.ixS (t:=173)
  | apply Dk.Q9 (t:=173) (bP.mk _ _ _)
  | apply Dk.ME (n:=3)
  | apply Dk.KP (n:=3)
  | apply Dk.Q8 (n:=3)
  | apply Dk.stS (n:=3) (S:=vC) _
  | apply Dk.AD.TV
  | apply Dk.AD.YA (n:=3)
  | apply Dk.AD.TW (n:=3)
  | (refine @id.{0} _ ?_; constructor)
  | apply Dk.vB 0 (V:=Value) (W:=List (List Value)) (fun (s:(List bP)×Int) v u=>[.own (aL 176 (ij 3)) v u,.rd false (tn vC) (.bool true) (u,s.1)]) (fun s v u=>[(7,v),(8,.int .i64 (s.2))]) _ _ [(0,_),(1,_),(2,_)]
  | apply Dk.vB 2 (V:=Value) (W:=List (List Value)) (fun (s:(List bP)×Int) v u=>[.own (aL 176 (ij 3)) v u,.rd false (tn vC) (.bool true) (u,s.1)]) (fun s v u=>[(7,v),(9,.int .i64 (s.2))]) _ _ [(0,_),(1,_),(2,_)]
  | apply Dk.vB 4 (V:=Value) (W:=List (List Value)) (fun (s:(List bP)×Int) v u=>[.own (aL 176 (ij 3)) v u,.rd false (tn vC) (.bool true) (u,s.1)]) (fun s v u=>[(7,v),(10,.int .i64 (s.2))]) _ _ [(0,_),(1,_),(2,_),(9,_)]
  | apply Dk.vB 6 (V:=Value) (W:=List (List Value)) (fun (s:(List bP)×Int) v u=>[.own (aL 176 (ij 3)) v u,.rd false (tn vC) (.bool true) (u,s.1)]) (fun s v u=>[(7,v),(11,.int .i64 (s.2))]) _ _ []
  | apply Dk.vB 8 (V:=Value) (W:=List (List Value)) (fun (s:(List bP)×Int) v u=>[.own (aL 176 (ij 3)) v u,.rd false (tn vC) (.bool true) (u,s.1)]) (fun s v u=>[(7,v),(12,.int .i64 (s.2))]) _ _ [(11,_)]
  | apply Dk.quiet (id:=12) (by kernel_rfl)
  | apply Dk.quiet (id:=18) (by kernel_rfl)
  | apply Dk.any (id:=13) 19 [0] [[],[],[],[],[],[],[],[],[],[],[],[],[],[],[],[],[],[],[15]] [[],[],[],[1,2],[3,1,2],[4,3,1,2],[],[],[6,7],[8,6,7],[],[],[10,11],[12,10,11],[13,12,10,11],[14,13,12,10,11],[],[16],[15,14,13,12,10,11,17,16,15,14,13,12,10,11]] (by kernel_rfl)
  | apply yU
  | apply adm
  | exact ()
theorem W6 {x0:Int} {x1:(List Int)} {dP:Value} {x2:(List Int)} {dX:Value}:Ct Tryz.prog 136 true (eJ x0 x1 x2) [.int .i64 (x0),dP,dX] [.rd false (aB (aC .i64)) dP x1,.rd false (aB (aC .i64)) dX x2] (fun y (v:Value×Value×Value×Value)=>[.agg #[.int .i64 y.aA,v.1,v.2.1,v.2.2.1,v.2.2.2]]) (fun y v=>[.own (aL 2 (aC .i64)) v.1 y.aF,.own (aL 2 (aC .i64)) v.2.1 y.To,.own (aL 2 (aC .i64)) v.2.2.1 y.aJ,.own (aL 24 (aL 2 (aC .i64))) v.2.2.2 y.aD]):=by
 refine ct (S:=Unit) (ca fun _ _=>rfl) Tryz.func136 rfl rfl ?_
 repeat' first
  | ((first | show Dk.ER _ _ _ | show Dk.ba _ _ | show Dk.EF _ _ _ | show Dk.EO _ _ _ | show Dk.EP _ _ | show Dk.aX _ _ _ _ | show Dk.aq _ _ _ _ | show Dk.Kp _ _ _ _ | show Dk.bn _ _ | show Dk.bb _ _ _ _); repeat' first | exact rfl | (refine @id.{0} _ ?_; constructor))
  | intro _
  | exact rfl
  | (refine Dk.ue (t:=83) rfl ?_ ?_)
  | apply Dk.AD.YS (d:=108)
  | (refine Dk.ue (t:=112) rfl ?_ ?_)
  | (refine @id.{0} _ ?_; constructor)
  | apply Dk.jr 0 (V:=Value×Value) (A:=Nat×Value×Value) (_,_,_) (fun a (s:Int×(List Int)×(List Int)×(List Int)) v=>Dk.pc (fun a0=>Dk.pc (fun a1 a2=>[.row a0 [.int .i64 (x0),v.1,v.2,a1,a2] 27,.own (aL 2 (aC .i64)) a1 s.2.2.2,.own (aL 2 (aC .i64)) v.1 s.2.1,.own (aL 2 (aC .i64)) v.2 s.2.2.1])) a) (fun a s v=>Dk.pc (fun a0=>Dk.pc (fun a1 a2=>[(8,.pointer (some ⟨a0,0,none⟩)),(9,.int .i64 (s.1))])) a) (_,_) [(6,_),(7,_)]
  | apply Dk.jr 2 (V:=Value) (A:=Nat×Value×Value×Value) (_,_,_,_) (fun a (s:Int×(List (List Int))) v=>Dk.pc (fun a0=>Dk.pc (fun a1=>Dk.pc (fun a2 a3=>[.row a0 [.int .i64 (x0),a1,a2,a3,v] 27,.own (aL 24 (aL 2 (aC .i64))) v s.2]))) a) (fun a s v=>Dk.pc (fun a0=>Dk.pc (fun a1=>Dk.pc (fun a2 a3=>[(8,.pointer (some ⟨a0,0,none⟩)),(10,.int .i64 (s.1))]))) a) _ [(6,_),(7,_)]
  | apply Dk.loop 4 (V:=Value) (fun (s:(List Int)×Int) v=>[.own (aL 2 (aC .i64)) v s.1]) (fun s v=>[(11,v),(12,.int .i64 (s.2))]) _ [(6,_),(7,_),(8,_),(10,_)]
  | apply Dk.loop 6 (V:=Unit) (fun (s:Int×Int) v=>[]) (fun s v=>[(13,.int .i64 (s.1)),(15,.int .i64 (s.2))]) () [(6,_),(7,_),(8,_),(10,_),(11,_),(12,_),(14,_)]
  | apply Dk.quiet (id:=20) (by kernel_rfl)
  | apply Dk.quiet (id:=25) (by kernel_rfl)
  | apply Dk.any (id:=6) 8 [] [] [[],[0],[],[],[2,3],[4,2,3],[5,4,2,3],[6,5,4,2,3]] (by kernel_rfl)
  | apply Dk.any (id:=7) 8 [] [] [[],[0],[],[],[2,3],[4,2,3],[5,4,2,3],[6,5,4,2,3]] (by kernel_rfl)
  | apply Dk.any (id:=9) 8 [] [] [[],[0],[],[],[2,3],[4,2,3],[5,4,2,3],[]] (by kernel_rfl)
  | apply Dk.any (id:=21) 11 [] [] [[],[],[0,1],[2,0,1],[3,2,0,1],[4,3,2,0,1],[],[],[6,7],[8,6,7],[9,8,6,7]] (by kernel_rfl)
  | apply adC
  | apply WU
  | apply yU
  | apply WV
  | exact ()
theorem W7 {x0:(List (List Int))} {cY:Value}:Ct Tryz.prog 137 true (gG x0) [cY] [.rd false (aB (aB (aC .i64))) cY x0] (fun y (v:Value×Value×Value×Value)=>[.agg #[.int .i64 y.aA,v.1,v.2.1,v.2.2.1,v.2.2.2]]) (fun y v=>[.own (aL 2 (aC .i64)) v.1 y.aF,.own (aL 2 (aC .i64)) v.2.1 y.To,.own (aL 2 (aC .i64)) v.2.2.1 y.aJ,.own (aL 24 (aL 2 (aC .i64))) v.2.2.2 y.aD]):=by
 refine ct (S:=Unit) (ca fun _ _=>rfl) Tryz.func137 rfl rfl ?_
 repeat' first
  | ((first | show Dk.ER _ _ _ | show Dk.ba _ _ | show Dk.EF _ _ _ | show Dk.EO _ _ _ | show Dk.EP _ _ | show Dk.aX _ _ _ _ | show Dk.aq _ _ _ _ | show Dk.Kp _ _ _ _ | show Dk.bn _ _ | show Dk.bb _ _ _ _); repeat' first | exact rfl | (refine @id.{0} _ ?_; constructor))
  | intro _
  | exact rfl
  | (refine @id.{0} _ ?_; constructor)
  | apply Dk.any (id:=2) 7 [] [] [[],[0,0],[],[2,2],[],[],[5]] (by kernel_rfl)
  | apply WM
  | exact ()
theorem W8 {x0:aI} {aT:Value} {bB:Value} {aO:Value} {aN:Value} {x1:aI} {bS:Value} {cG:Value} {bD:Value} {aZ:Value}:Ct Tryz.prog 81 true (hJ x0 x1) [.agg #[.int .i64 (x0.aA),aT,bB,aO,aN],.agg #[.int .i64 (x1.aA),bS,cG,bD,aZ]] [.rd false (aB (aC .i64)) aT x0.aF,.rd false (aB (aC .i64)) bB x0.To,.rd false (aB (aC .i64)) aO x0.aJ,.rd false (aB (aB (aC .i64))) aN x0.aD,.rd false (aB (aC .i64)) bS x1.aF,.rd false (aB (aC .i64)) cG x1.To,.rd false (aB (aC .i64)) bD x1.aJ,.rd false (aB (aB (aC .i64))) aZ x1.aD] (fun y (_:Unit)=>[.bool y]) (fun y _=>[]):=by
 refine ct (S:=Unit) (ca fun _ _=>rfl) Tryz.func81 rfl rfl ?_
 repeat' first
  | ((first | show Dk.ER _ _ _ | show Dk.ba _ _ | show Dk.EF _ _ _ | show Dk.EO _ _ _ | show Dk.EP _ _ | show Dk.aX _ _ _ _ | show Dk.aq _ _ _ _ | show Dk.Kp _ _ _ _ | show Dk.bn _ _ | show Dk.bb _ _ _ _); repeat' first | exact rfl | (refine @id.{0} _ ?_; constructor))
  | intro _
  | exact rfl
  | (apply Dk.Rb (t:=4); exact rfl)
  | (refine @id.{0} _ ?_; constructor)
  | apply ac7
  | exact ()
theorem adD {x0:aI} {dE:Addr} {aT:Value} {bB:Value} {aO:Value} {aN:Value}:Ct Tryz.prog 115 true (gU x0) [.pointer (some (dE))] [.au dE [.int .i64 (x0.aA),aT,bB,aO,aN],.rd false (aB (aC .i64)) aT x0.aF,.rd false (aB (aC .i64)) bB x0.To,.rd false (aB (aC .i64)) aO x0.aJ,.rd false (aB (aB (aC .i64))) aN x0.aD] (fun y (v:Value×Value×Value×Value)=>[.agg #[.int .i64 y.aA,v.1,v.2.1,v.2.2.1,v.2.2.2]]) (fun y v=>[.own (aL 2 (aC .i64)) v.1 y.aF,.own (aL 2 (aC .i64)) v.2.1 y.To,.own (aL 2 (aC .i64)) v.2.2.1 y.aJ,.own (aL 24 (aL 2 (aC .i64))) v.2.2.2 y.aD]):=by
 refine ct (S:=Unit) (ca fun _ _=>rfl) Tryz.func115 rfl rfl ?_
 repeat' first
  | ((first | show Dk.ER _ _ _ | show Dk.ba _ _ | show Dk.EF _ _ _ | show Dk.EO _ _ _ | show Dk.EP _ _ | show Dk.aX _ _ _ _ | show Dk.aq _ _ _ _ | show Dk.Kp _ _ _ _ | show Dk.bn _ _ | show Dk.bb _ _ _ _); repeat' first | exact rfl | (refine @id.{0} _ ?_; constructor))
  | intro _
  | exact rfl
  | (refine @id.{0} _ ?_; constructor)
  | apply Dk.any (id:=1) 24 [] [] [[],[0],[1,0],[2,1,0],[],[4],[5,4],[6,5,4],[7,6,5,4],[],[9],[10,9],[11,10,9],[12,11,10,9,8,7,6,5,4],[],[14],[15,14],[16,15,14],[17,16,15,14,13,12,11,10,9,8,7,6,5,4],[],[19],[20,19],[21,20,19],[22,21,20,19,18,17,16,15,14,13,12,11,10,9,8,7,6,5,4]] (by kernel_rfl)
  | apply IL
  | apply adi
  | exact ()
theorem ZB {x0:aI} {dE:Addr} {aT:Value} {bB:Value} {aO:Value} {aN:Value} {x1:aI} {rA:Addr} {bS:Value} {cG:Value} {bD:Value} {aZ:Value} {x2:(List Int)} {dX:Value} {x3:(List Int)} {fX:Value}:Ct Tryz.prog 74 true (lU x0 x1 x2 x3) [.pointer (some (dE)),.pointer (some (rA)),dX,fX] [.au rA [.int .i64 (x1.aA),bS,cG,bD,aZ],.au dE [.int .i64 (x0.aA),aT,bB,aO,aN],.rd false (aB (aC .i64)) aT x0.aF,.rd false (aB (aC .i64)) bB x0.To,.rd false (aB (aC .i64)) aO x0.aJ,.rd false (aB (aB (aC .i64))) aN x0.aD,.rd false (aB (aC .i64)) bS x1.aF,.rd false (aB (aC .i64)) cG x1.To,.rd false (aB (aC .i64)) bD x1.aJ,.rd false (aB (aB (aC .i64))) aZ x1.aD,.rd false (aB (aC .i64)) dX x2,.rd false (aB (aC .i64)) fX x3] (fun y (v:Value×Value×Value×Value×Value×Value×Value×Value×Value×Value)=>[.agg #[.int .i64 y.aE.aA,v.1,v.2.1,v.2.2.1,v.2.2.2.1,.int .i64 y.aH.aA,v.2.2.2.2.1,v.2.2.2.2.2.1,v.2.2.2.2.2.2.1,v.2.2.2.2.2.2.2.1,v.2.2.2.2.2.2.2.2.1,v.2.2.2.2.2.2.2.2.2]]) (fun y v=>[.own (aL 2 (aC .i64)) v.1 y.aE.aF,.own (aL 2 (aC .i64)) v.2.1 y.aE.To,.own (aL 2 (aC .i64)) v.2.2.1 y.aE.aJ,.own (aL 24 (aL 2 (aC .i64))) v.2.2.2.1 y.aE.aD,.own (aL 2 (aC .i64)) v.2.2.2.2.1 y.aH.aF,.own (aL 2 (aC .i64)) v.2.2.2.2.2.1 y.aH.To,.own (aL 2 (aC .i64)) v.2.2.2.2.2.2.1 y.aH.aJ,.own (aL 24 (aL 2 (aC .i64))) v.2.2.2.2.2.2.2.1 y.aH.aD,.own (aL 2 (aC .i64)) v.2.2.2.2.2.2.2.2.1 y.aA,.own (aL 2 (aC .i64)) v.2.2.2.2.2.2.2.2.2 y.ab]):=by
 refine ct (S:=Unit) (ca fun _ _=>rfl) Tryz.func74 rfl rfl ?_
 repeat' first
  | ((first | show Dk.ER _ _ _ | show Dk.ba _ _ | show Dk.EF _ _ _ | show Dk.EO _ _ _ | show Dk.EP _ _ | show Dk.aX _ _ _ _ | show Dk.aq _ _ _ _ | show Dk.Kp _ _ _ _ | show Dk.bn _ _ | show Dk.bb _ _ _ _); repeat' first | exact rfl | (refine @id.{0} _ ?_; constructor))
  | intro _
  | exact rfl
  | (refine @id.{0} _ ?_; constructor)
  | apply adD
  | apply IL
  | exact ()
theorem W9 {x0:aM} {xa:Int} {rc:Int→List Int→List bE→Option (Bool×List Int×List bE)} (ih:∀ {x:Int} {cs:List Int} {st:List bE} {ps po pk pc px pd ph:Addr} {pf pm:Addr} {vk vo:Value} {bo:Nat} {lz l3 l4 l5 l6 l7 l8 l9 uo ua:Value},Ct Tryz.prog 148 true (rc x cs st) [.int .i64 x,.pointer (some ps),.pointer (some po),.pointer (some pk),.pointer (some pc),.pointer (some px),.pointer (some pd),.pointer (some ph)] [.row bo [vo] 83,.au ps [.pointer (some pf)],.au pc [.pointer (some (pf.add 5))],.au px [.int .i64 xa],.au pd [.pointer (some pf)],.au pk [vk],.au po [.func (.func 117) #[] #[.pointer (some ⟨bo,0,none⟩),.pointer (some pm)]],.au ph [.func (.func 148) #[] #[.pointer (some ps),.pointer (some po),.pointer (some pk),.pointer (some pc),.pointer (some px),.pointer (some pd),.pointer (some ph)]],.au pm [.int .i64 xa],.au pf [.int .i64 x0.aE.aA,lz,l3,l4,l5,.int .i64 x0.aH.aA,l6,l7,l8,l9,uo,ua],.own (aL 32 qt) vo st,.own (aL 2 (aC .i64)) vk cs,.rd false (aB (aC .i64)) lz x0.aE.aF,.rd false (aB (aC .i64)) l3 x0.aE.To,.rd false (aB (aC .i64)) l4 x0.aE.aJ,.rd false (aB (aB (aC .i64))) l5 x0.aE.aD,.rd false (aB (aC .i64)) l6 x0.aH.aF,.rd false (aB (aC .i64)) l7 x0.aH.To,.rd false (aB (aC .i64)) l8 x0.aH.aJ,.rd false (aB (aB (aC .i64))) l9 x0.aH.aD,.rd false (aB (aC .i64)) uo x0.aA,.rd false (aB (aC .i64)) ua x0.ab] (fun y (_:Value)=>[.bool y.1]) (fun y v=>[.row bo [v] 83,.own (aL 32 qt) v y.2.2,.own (aL 2 (aC .i64)) vk y.2.1])) {x:Int} {cs:List Int} {st:List bE} {ps po pk pc px pd ph:Addr} {pf pm:Addr} {vk vo:Value} {bo:Nat} {lz l3 l4 l5 l6 l7 l8 l9 uo ua:Value}:Ct Tryz.prog 148 true (nI (fun a0 a1=>eA a0 a1 xa) x0 xa rc x cs st) [.int .i64 x,.pointer (some ps),.pointer (some po),.pointer (some pk),.pointer (some pc),.pointer (some px),.pointer (some pd),.pointer (some ph)] [.row bo [vo] 83,.au ps [.pointer (some pf)],.au pc [.pointer (some (pf.add 5))],.au px [.int .i64 xa],.au pd [.pointer (some pf)],.au pk [vk],.au po [.func (.func 117) #[] #[.pointer (some ⟨bo,0,none⟩),.pointer (some pm)]],.au ph [.func (.func 148) #[] #[.pointer (some ps),.pointer (some po),.pointer (some pk),.pointer (some pc),.pointer (some px),.pointer (some pd),.pointer (some ph)]],.au pm [.int .i64 xa],.au pf [.int .i64 x0.aE.aA,lz,l3,l4,l5,.int .i64 x0.aH.aA,l6,l7,l8,l9,uo,ua],.own (aL 32 qt) vo st,.own (aL 2 (aC .i64)) vk cs,.rd false (aB (aC .i64)) lz x0.aE.aF,.rd false (aB (aC .i64)) l3 x0.aE.To,.rd false (aB (aC .i64)) l4 x0.aE.aJ,.rd false (aB (aB (aC .i64))) l5 x0.aE.aD,.rd false (aB (aC .i64)) l6 x0.aH.aF,.rd false (aB (aC .i64)) l7 x0.aH.To,.rd false (aB (aC .i64)) l8 x0.aH.aJ,.rd false (aB (aB (aC .i64))) l9 x0.aH.aD,.rd false (aB (aC .i64)) uo x0.aA,.rd false (aB (aC .i64)) ua x0.ab] (fun y (_:Value)=>[.bool y.1]) (fun y v=>[.row bo [v] 83,.own (aL 32 qt) v y.2.2,.own (aL 2 (aC .i64)) vk y.2.1]):=by
 refine ct (S:=Unit) (ca fun _ _=>rfl) Tryz.func148 rfl rfl ?_
 repeat' first
  | ((first | show Dk.ER _ _ _ | show Dk.ba _ _ | show Dk.EF _ _ _ | show Dk.EO _ _ _ | show Dk.EP _ _ | show Dk.aX _ _ _ _ | show Dk.aq _ _ _ _ | show Dk.Kp _ _ _ _ | show Dk.bn _ _ | show Dk.bb _ _ _ _); repeat' first | exact rfl | (refine @id.{0} _ ?_; constructor))
  | intro _
  | exact rfl
  | (refine @id.{0} _ ?_; constructor)
  | apply Dk.Y2
  | apply Dk.Y3
  | apply Dk.loop 0 (V:=Value) (fun (s:Int×List Int×List bE) v=>[.row bo [v] 83,.own (aL 32 qt) v s.2.2,.own (aL 2 (aC .i64)) vk s.2.1]) (fun s v=>[(36,.int .i64 s.1)]) _ [(0,_),(1,_),(2,_),(3,_),(4,_),(5,_),(6,_),(7,_),(34,_),(35,_)]
  | apply Dk.Ri 2 1 (V:=Unit) (fun (s:Int) _=>[]) (fun s _=>[(49,.int .i64 s)]) () [(0,_),(1,_),(2,_),(3,_),(4,_),(5,_),(6,_),(7,_),(11,_),(34,_),(35,_),(36,_),(47,_),(48,_)] rfl
  | apply Dk.Y4
  | apply Dk.Y5
  | (apply Dk.Y6 <;> first | exact rfl | skip)
  | apply Dk.any (id:=3) 12 [] [] [[],[],[],[2],[3,2],[4,3,2],[],[5,4,3,2,6],[7,5,4,3,2,6],[0,1,8,7,5,4,3,2,6],[9,0,1,8,7,5,4,3,2,6],[]] (by kernel_rfl)
  | apply Dk.quiet (id:=10) (by kernel_rfl)
  | apply Dk.quiet (id:=11) (by kernel_rfl)
  | apply ih
  | apply adj
  | apply WT
  | apply Ki
  | exact ()
theorem Xa {x0:aM} {xa:Int} (n:Nat):∀ {x:Int} {cs:List Int} {st:List bE} {ps po pk pc px pd ph:Addr} {pf pm:Addr} {vk vo:Value} {bo:Nat} {lz l3 l4 l5 l6 l7 l8 l9 uo ua:Value},Ct Tryz.prog 148 true (fD (fun a0 a1=>eA a0 a1 xa) x0 xa n x cs st) [.int .i64 x,.pointer (some ps),.pointer (some po),.pointer (some pk),.pointer (some pc),.pointer (some px),.pointer (some pd),.pointer (some ph)] [.row bo [vo] 83,.au ps [.pointer (some pf)],.au pc [.pointer (some (pf.add 5))],.au px [.int .i64 xa],.au pd [.pointer (some pf)],.au pk [vk],.au po [.func (.func 117) #[] #[.pointer (some ⟨bo,0,none⟩),.pointer (some pm)]],.au ph [.func (.func 148) #[] #[.pointer (some ps),.pointer (some po),.pointer (some pk),.pointer (some pc),.pointer (some px),.pointer (some pd),.pointer (some ph)]],.au pm [.int .i64 xa],.au pf [.int .i64 x0.aE.aA,lz,l3,l4,l5,.int .i64 x0.aH.aA,l6,l7,l8,l9,uo,ua],.own (aL 32 qt) vo st,.own (aL 2 (aC .i64)) vk cs,.rd false (aB (aC .i64)) lz x0.aE.aF,.rd false (aB (aC .i64)) l3 x0.aE.To,.rd false (aB (aC .i64)) l4 x0.aE.aJ,.rd false (aB (aB (aC .i64))) l5 x0.aE.aD,.rd false (aB (aC .i64)) l6 x0.aH.aF,.rd false (aB (aC .i64)) l7 x0.aH.To,.rd false (aB (aC .i64)) l8 x0.aH.aJ,.rd false (aB (aB (aC .i64))) l9 x0.aH.aD,.rd false (aB (aC .i64)) uo x0.aA,.rd false (aB (aC .i64)) ua x0.ab] (fun y (_:Value)=>[.bool y.1]) (fun y v=>[.row bo [v] 83,.own (aL 32 qt) v y.2.2,.own (aL 2 (aC .i64)) vk y.2.1]):=by
 induction n with
 | zero=>intros; rw [ra]; exact ⟨(ca fun _ _=>rfl),fun _ _ _ _ _ _ _ y hy=>nomatch (show none=some y from hy)⟩
 | succ n ih=>exact W9 ih
theorem adE {x0:aM} {xa:Int} {x:Int} {cs:List Int} {st:List bE} {ps po pk pc px pd ph:Addr} {pf pm:Addr} {vk vo:Value} {bo:Nat} {lz l3 l4 l5 l6 l7 l8 l9 uo ua:Value}:Ct Tryz.prog 148 true (fD (fun a0 a1=>eA a0 a1 xa) x0 xa 64 x cs st) [.int .i64 x,.pointer (some ps),.pointer (some po),.pointer (some pk),.pointer (some pc),.pointer (some px),.pointer (some pd),.pointer (some ph)] [.row bo [vo] 83,.au ps [.pointer (some pf)],.au pc [.pointer (some (pf.add 5))],.au px [.int .i64 xa],.au pd [.pointer (some pf)],.au pk [vk],.au po [.func (.func 117) #[] #[.pointer (some ⟨bo,0,none⟩),.pointer (some pm)]],.au ph [.func (.func 148) #[] #[.pointer (some ps),.pointer (some po),.pointer (some pk),.pointer (some pc),.pointer (some px),.pointer (some pd),.pointer (some ph)]],.au pm [.int .i64 xa],.au pf [.int .i64 x0.aE.aA,lz,l3,l4,l5,.int .i64 x0.aH.aA,l6,l7,l8,l9,uo,ua],.own (aL 32 qt) vo st,.own (aL 2 (aC .i64)) vk cs,.rd false (aB (aC .i64)) lz x0.aE.aF,.rd false (aB (aC .i64)) l3 x0.aE.To,.rd false (aB (aC .i64)) l4 x0.aE.aJ,.rd false (aB (aB (aC .i64))) l5 x0.aE.aD,.rd false (aB (aC .i64)) l6 x0.aH.aF,.rd false (aB (aC .i64)) l7 x0.aH.To,.rd false (aB (aC .i64)) l8 x0.aH.aJ,.rd false (aB (aB (aC .i64))) l9 x0.aH.aD,.rd false (aB (aC .i64)) uo x0.aA,.rd false (aB (aC .i64)) ua x0.ab] (fun y (_:Value)=>[.bool y.1]) (fun y v=>[.row bo [v] 83,.own (aL 32 qt) v y.2.2,.own (aL 2 (aC .i64)) vk y.2.1]):=by
 exact Xa 64
theorem Xb {x0:aM} {xa:Int} {st:List bE} {pf pm:Addr} {vo:Value} {bo:Nat} {lz l3 l4 l5 l6 l7 l8 l9 uo ua:Value}:Ct Tryz.prog 116 true (rC (fun a0 a1=>eA a0 a1 xa) x0 xa st) [.pointer (some pf),.int .i64 xa,.func (.func 117) #[] #[.pointer (some ⟨bo,0,none⟩),.pointer (some pm)]] [.row bo [vo] 83,.au pm [.int .i64 xa],.au pf [.int .i64 x0.aE.aA,lz,l3,l4,l5,.int .i64 x0.aH.aA,l6,l7,l8,l9,uo,ua],.own (aL 32 qt) vo st,.rd false (aB (aC .i64)) lz x0.aE.aF,.rd false (aB (aC .i64)) l3 x0.aE.To,.rd false (aB (aC .i64)) l4 x0.aE.aJ,.rd false (aB (aB (aC .i64))) l5 x0.aE.aD,.rd false (aB (aC .i64)) l6 x0.aH.aF,.rd false (aB (aC .i64)) l7 x0.aH.To,.rd false (aB (aC .i64)) l8 x0.aH.aJ,.rd false (aB (aB (aC .i64))) l9 x0.aH.aD,.rd false (aB (aC .i64)) uo x0.aA,.rd false (aB (aC .i64)) ua x0.ab] (fun y (_:Value)=>[.bool y.1]) (fun y v=>[.row bo [v] 83,.own (aL 32 qt) v y.2]):=by
 refine ct (S:=Unit) (ca fun _ _=>rfl) Tryz.func116 rfl rfl ?_
 repeat' first
  | ((first | show Dk.ER _ _ _ | show Dk.ba _ _ | show Dk.EF _ _ _ | show Dk.EO _ _ _ | show Dk.EP _ _ | show Dk.aX _ _ _ _ | show Dk.aq _ _ _ _ | show Dk.Kp _ _ _ _ | show Dk.bn _ _ | show Dk.bb _ _ _ _); repeat' first | exact rfl | (refine @id.{0} _ ?_; constructor))
  | intro _
  | exact rfl
  | (refine @id.{0} _ ?_; constructor)
  | apply Dk.aax (id:=1) [0,1,2,3,4,5] 6 7 8 9 7 8 (by kernel_rfl)
  | apply adE
  | exact ()
end Go.Proofs.YtgjbmjjihmfppaaGreat
