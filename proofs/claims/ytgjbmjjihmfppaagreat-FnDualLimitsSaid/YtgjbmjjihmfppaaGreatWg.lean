/- Walks by the calculus D. No condition beside those that each theorem names. -/
import Derived.Test.YtgjbmjjihmfppaaGreatDi
import Derived.Test.YtgjbmjjihmfppaaGreatMo
import Derived.Test.YtgjbmjjihmfppaaGreatDp
import Derived.Test.YtgjbmjjihmfppaaGreatDs
import Derived.Test.YtgjbmjjihmfppaaGreatWa
import Derived.Test.YtgjbmjjihmfppaaGreatWb
import Derived.Test.YtgjbmjjihmfppaaGreatWc
import Derived.Test.YtgjbmjjihmfppaaGreatWd
namespace Go.Proofs.YtgjbmjjihmfppaaGreat
open Go Go.Li Go.Dk
set_option linter.unusedVariables false
set_option maxHeartbeats 16000000
set_option maxRecDepth 100000
theorem YF {x0:aG} {aU:Value} {aZ:Value} {aO:Value} {aM:Value} {x1:aG} {bI:Value} {bY:Value} {bC:Value} {aY:Value}:Ct Tryz.prog 81 true (iI x0 x1) [.agg #[.int .i64 (x0.aA),aU,aZ,aO,aM],.agg #[.int .i64 (x1.aA),bI,bY,bC,aY]] [.rd false (aE (aC .i64)) aU x0.aD,.rd false (aE (aC .i64)) aZ x0.To,.rd false (aE (aC .i64)) aO x0.aJ,.rd false (aE (aE (aC .i64))) aM x0.aB,.rd false (aE (aC .i64)) bI x1.aD,.rd false (aE (aC .i64)) bY x1.To,.rd false (aE (aC .i64)) bC x1.aJ,.rd false (aE (aE (aC .i64))) aY x1.aB] (fun y (_:Unit)=>[.bool y]) (fun y _=>[]):=by
 refine ct (S:=Unit) (db fun _ _=>rfl) Tryz.func81 rfl rfl ?_
 repeat' first
  | ((first | show Dk.ER _ _ _ | show Dk.bd _ _ | show Dk.EF _ _ _ | show Dk.EO _ _ _ | show Dk.EP _ _ | show Dk.ba _ _ _ _ | show Dk.aw _ _ _ _ | show Dk.Kp _ _ _ _ | show Dk.bp _ _ | show Dk.bg _ _ _ _); repeat' first | exact rfl | (refine @id.{0} _ ?_; constructor))
  | intro _
  | exact rfl
  | (apply Dk.Ub (t:=4); exact rfl)
  | (refine @id.{0} _ ?_; constructor)
  | apply aco
  | exact ()
theorem MZ {x0:aG} {cH:Nat} {aU:Value} {aZ:Value} {aO:Value} {aM:Value} {D0:aG} {I1:Addr} {M0:Addr} {BW:Value} {EU:Value} {x6:Value} {vQ:Value}:Ct Tryz.prog 113 true (fF x0 (fun a0 a1=>dU a0 a1 D0)) [.pointer (some (⟨cH,0,none⟩)),.func (.func 114) #[] #[.pointer (some (I1))]] [.row cH [.int .i64 (x0.aA),aU,aZ,aO,aM] 27,.rd false (aE (aC .i64)) aU x0.aD,.rd false (aE (aC .i64)) aZ x0.To,.rd false (aE (aC .i64)) aO x0.aJ,.own (aK 24 (aK 2 (aC .i64))) aM x0.aB,.aq I1 [.pointer (some (M0))],.aq M0 [.int .i64 (D0.aA),BW,EU,x6,vQ],.rd false (aE (aC .i64)) BW D0.aD,.rd false (aE (aC .i64)) EU D0.To,.rd false (aE (aC .i64)) x6 D0.aJ,.rd false (aE (aE (aC .i64))) vQ D0.aB] (fun y (v:Value)=>[]) (fun y v=>[.row cH [.int .i64 y.aA,aU,aZ,aO,v] 27,.own (aK 24 (aK 2 (aC .i64))) v y.aB]):=by
 refine XL (db fun _ _=>rfl) Tryz.func113 rfl rfl ?_
 repeat' first
  | ((first | show Dk.ER _ _ _ | show Dk.bd _ _ | show Dk.EF _ _ _ | show Dk.EO _ _ _ | show Dk.EP _ _ | show Dk.ba _ _ _ _ | show Dk.aw _ _ _ _ | show Dk.Kp _ _ _ _ | show Dk.bp _ _ | show Dk.bg _ _ _ _); repeat' first | exact rfl | (refine @id.{0} _ ?_; constructor))
  | intro _
  | exact rfl
  | (refine @id.{0} _ ?_; constructor)
  | apply Dk.kj 0 (V:=Unit) (A:=Value) _ (fun a (s:Int×(List (List Int))) v=>[.own (aK 24 (aK 2 (aC .i64))) a s.2]) (fun a s v=>[(19,.int .i64 (s.1))]) () [(0,_),(1,_),(4,_),(18,_)]
  | apply Dk.kj 2 (V:=Unit) (A:=Value) _ (fun a (s:Int×(List (List Int))) v=>[.own (aK 24 (aK 2 (aC .i64))) a s.2]) (fun a s v=>[(38,.int .i64 (s.1))]) () [(0,_),(1,_),(4,_),(5,_),(18,_),(19,_),(37,_)]
  | apply Dk.quiet (id:=10) (by kernel_rfl)
  | apply Dk.any (id:=5) 7 [] [] [[],[0],[1,0],[2,1,0],[],[],[5,5]] (by kernel_rfl)
  | apply Dk.any (id:=11) 12 [] [] [[],[0],[1,0],[2,1,0],[],[3,2,1,0,4],[5,3,2,1,0,4],[],[],[],[],[8,9,10]] (by kernel_rfl)
  | apply MY
  | apply Wn
  | exact ()
theorem c73 {x0:aG} {dE:Addr} {aU:Value} {aZ:Value} {aO:Value} {aM:Value}:Ct Tryz.prog 73 true (jW x0) [.pointer (some (dE))] [.aq dE [.int .i64 (x0.aA),aU,aZ,aO,aM],.rd false (aE (aC .i64)) aU x0.aD,.rd false (aE (aC .i64)) aZ x0.To,.rd false (aE (aC .i64)) aO x0.aJ,.rd false (aE (aE (aC .i64))) aM x0.aB] (fun y (v:Value×Value×Value×Value)=>[.agg #[.int .i64 y.aA,v.1,v.2.1,v.2.2.1,v.2.2.2]]) (fun y v=>[.own (aK 2 (aC .i64)) v.1 y.aD,.own (aK 2 (aC .i64)) v.2.1 y.To,.own (aK 2 (aC .i64)) v.2.2.1 y.aJ,.own (aK 24 (aK 2 (aC .i64))) v.2.2.2 y.aB]):=by
 refine ct (S:=Unit) (db fun _ _=>rfl) Tryz.func73 rfl rfl ?_
 repeat' first
  | ((first | show Dk.ER _ _ _ | show Dk.bd _ _ | show Dk.EF _ _ _ | show Dk.EO _ _ _ | show Dk.EP _ _ | show Dk.ba _ _ _ _ | show Dk.aw _ _ _ _ | show Dk.Kp _ _ _ _ | show Dk.bp _ _ | show Dk.bg _ _ _ _); repeat' first | exact rfl | (refine @id.{0} _ ?_; constructor))
  | intro _
  | exact rfl
  | (refine @id.{0} _ ?_; constructor)
  | apply Dk.TF (id:=1) [20,0,1,2,3,4,5,6,7,8,9,10,11,12,13,14,15,16,17,18,19,21] [1,2,3,4,5,6,7,8,9,10,11,12,13,14,15,16,17,18,19,20,0,21] [] 21 [] [] [[],[],[1],[2,1],[3,2,1],[],[5],[6,5],[7,6,5],[8,7,6,5],[],[10],[11,10],[12,11,10],[13,12,11,10,9,8,7,6,5],[],[15],[16,15],[17,16,15],[18,17,16,15,14,13,12,11,10,9,8,7,6,5],[4,3,2,1,9,8,7,6,5,14,13,12,11,10,9,8,7,6,5,19,18,17,16,15,14,13,12,11,10,9,8,7,6,5]] (by kernel_rfl)
  | apply Hr
  | apply Wn
  | apply MZ
  | exact ()
theorem Wz {x0:aN} {xa:Int} {rc:Int→List Int→List bD→Option (Bool×List Int×List bD)} (ih:∀ {x:Int} {cs:List Int} {st:List bD} {ps po pk pc px pd ph:Addr} {pf pm:Addr} {vk vo:Value} {bo:Nat} {py p4 p5 p6 p7 p8 p9 qa uo ua:Value},Ct Tryz.prog 148 true (rc x cs st) [.int .i64 x,.pointer (some ps),.pointer (some po),.pointer (some pk),.pointer (some pc),.pointer (some px),.pointer (some pd),.pointer (some ph)] [.row bo [vo] 83,.aq ps [.pointer (some pf)],.aq pc [.pointer (some (pf.add 5))],.aq px [.int .i64 xa],.aq pd [.pointer (some pf)],.aq pk [vk],.aq po [.func (.func 117) #[] #[.pointer (some ⟨bo,0,none⟩),.pointer (some pm)]],.aq ph [.func (.func 148) #[] #[.pointer (some ps),.pointer (some po),.pointer (some pk),.pointer (some pc),.pointer (some px),.pointer (some pd),.pointer (some ph)]],.aq pm [.int .i64 xa],.aq pf [.int .i64 x0.aH.aA,py,p4,p5,p6,.int .i64 x0.aI.aA,p7,p8,p9,qa,uo,ua],.own (aK 32 rV) vo st,.own (aK 2 (aC .i64)) vk cs,.rd false (aE (aC .i64)) py x0.aH.aD,.rd false (aE (aC .i64)) p4 x0.aH.To,.rd false (aE (aC .i64)) p5 x0.aH.aJ,.rd false (aE (aE (aC .i64))) p6 x0.aH.aB,.rd false (aE (aC .i64)) p7 x0.aI.aD,.rd false (aE (aC .i64)) p8 x0.aI.To,.rd false (aE (aC .i64)) p9 x0.aI.aJ,.rd false (aE (aE (aC .i64))) qa x0.aI.aB,.rd false (aE (aC .i64)) uo x0.aA,.rd false (aE (aC .i64)) ua x0.aj] (fun y (_:Value)=>[.bool y.1]) (fun y v=>[.row bo [v] 83,.own (aK 32 rV) v y.2.2,.own (aK 2 (aC .i64)) vk y.2.1])) {x:Int} {cs:List Int} {st:List bD} {ps po pk pc px pd ph:Addr} {pf pm:Addr} {vk vo:Value} {bo:Nat} {py p4 p5 p6 p7 p8 p9 qa uo ua:Value}:Ct Tryz.prog 148 true (mC (fun a0 a1=>dK a0 a1 xa) x0 xa rc x cs st) [.int .i64 x,.pointer (some ps),.pointer (some po),.pointer (some pk),.pointer (some pc),.pointer (some px),.pointer (some pd),.pointer (some ph)] [.row bo [vo] 83,.aq ps [.pointer (some pf)],.aq pc [.pointer (some (pf.add 5))],.aq px [.int .i64 xa],.aq pd [.pointer (some pf)],.aq pk [vk],.aq po [.func (.func 117) #[] #[.pointer (some ⟨bo,0,none⟩),.pointer (some pm)]],.aq ph [.func (.func 148) #[] #[.pointer (some ps),.pointer (some po),.pointer (some pk),.pointer (some pc),.pointer (some px),.pointer (some pd),.pointer (some ph)]],.aq pm [.int .i64 xa],.aq pf [.int .i64 x0.aH.aA,py,p4,p5,p6,.int .i64 x0.aI.aA,p7,p8,p9,qa,uo,ua],.own (aK 32 rV) vo st,.own (aK 2 (aC .i64)) vk cs,.rd false (aE (aC .i64)) py x0.aH.aD,.rd false (aE (aC .i64)) p4 x0.aH.To,.rd false (aE (aC .i64)) p5 x0.aH.aJ,.rd false (aE (aE (aC .i64))) p6 x0.aH.aB,.rd false (aE (aC .i64)) p7 x0.aI.aD,.rd false (aE (aC .i64)) p8 x0.aI.To,.rd false (aE (aC .i64)) p9 x0.aI.aJ,.rd false (aE (aE (aC .i64))) qa x0.aI.aB,.rd false (aE (aC .i64)) uo x0.aA,.rd false (aE (aC .i64)) ua x0.aj] (fun y (_:Value)=>[.bool y.1]) (fun y v=>[.row bo [v] 83,.own (aK 32 rV) v y.2.2,.own (aK 2 (aC .i64)) vk y.2.1]):=by
 refine ct (S:=Unit) (db fun _ _=>rfl) Tryz.func148 rfl rfl ?_
 repeat' first
  | ((first | show Dk.ER _ _ _ | show Dk.bd _ _ | show Dk.EF _ _ _ | show Dk.EO _ _ _ | show Dk.EP _ _ | show Dk.ba _ _ _ _ | show Dk.aw _ _ _ _ | show Dk.Kp _ _ _ _ | show Dk.bp _ _ | show Dk.bg _ _ _ _); repeat' first | exact rfl | (refine @id.{0} _ ?_; constructor))
  | intro _
  | exact rfl
  | (refine @id.{0} _ ?_; constructor)
  | apply Dk.Yb
  | apply Dk.Yc
  | apply Dk.loop 0 (V:=Value) (fun (s:Int×List Int×List bD) v=>[.row bo [v] 83,.own (aK 32 rV) v s.2.2,.own (aK 2 (aC .i64)) vk s.2.1]) (fun s v=>[(36,.int .i64 s.1)]) _ [(0,_),(1,_),(2,_),(3,_),(4,_),(5,_),(6,_),(7,_),(34,_),(35,_)]
  | apply Dk.Qm 2 1 (V:=Unit) (fun (s:Int) _=>[]) (fun s _=>[(49,.int .i64 s)]) () [(0,_),(1,_),(2,_),(3,_),(4,_),(5,_),(6,_),(7,_),(11,_),(34,_),(35,_),(36,_),(47,_),(48,_)] rfl
  | apply Dk.Yd
  | apply Dk.Ye
  | (apply Dk.Yf <;> first | exact rfl | skip)
  | apply Dk.any (id:=3) 12 [] [] [[],[],[],[2],[3,2],[4,3,2],[],[5,4,3,2,6],[7,5,4,3,2,6],[0,1,8,7,5,4,3,2,6],[9,0,1,8,7,5,4,3,2,6],[]] (by kernel_rfl)
  | apply Dk.quiet (id:=10) (by kernel_rfl)
  | apply Dk.quiet (id:=11) (by kernel_rfl)
  | apply ih
  | apply acj
  | apply Wo
  | apply I0
  | exact ()
theorem WA {x0:aN} {xa:Int} (n:Nat):∀ {x:Int} {cs:List Int} {st:List bD} {ps po pk pc px pd ph:Addr} {pf pm:Addr} {vk vo:Value} {bo:Nat} {py p4 p5 p6 p7 p8 p9 qa uo ua:Value},Ct Tryz.prog 148 true (eJ (fun a0 a1=>dK a0 a1 xa) x0 xa n x cs st) [.int .i64 x,.pointer (some ps),.pointer (some po),.pointer (some pk),.pointer (some pc),.pointer (some px),.pointer (some pd),.pointer (some ph)] [.row bo [vo] 83,.aq ps [.pointer (some pf)],.aq pc [.pointer (some (pf.add 5))],.aq px [.int .i64 xa],.aq pd [.pointer (some pf)],.aq pk [vk],.aq po [.func (.func 117) #[] #[.pointer (some ⟨bo,0,none⟩),.pointer (some pm)]],.aq ph [.func (.func 148) #[] #[.pointer (some ps),.pointer (some po),.pointer (some pk),.pointer (some pc),.pointer (some px),.pointer (some pd),.pointer (some ph)]],.aq pm [.int .i64 xa],.aq pf [.int .i64 x0.aH.aA,py,p4,p5,p6,.int .i64 x0.aI.aA,p7,p8,p9,qa,uo,ua],.own (aK 32 rV) vo st,.own (aK 2 (aC .i64)) vk cs,.rd false (aE (aC .i64)) py x0.aH.aD,.rd false (aE (aC .i64)) p4 x0.aH.To,.rd false (aE (aC .i64)) p5 x0.aH.aJ,.rd false (aE (aE (aC .i64))) p6 x0.aH.aB,.rd false (aE (aC .i64)) p7 x0.aI.aD,.rd false (aE (aC .i64)) p8 x0.aI.To,.rd false (aE (aC .i64)) p9 x0.aI.aJ,.rd false (aE (aE (aC .i64))) qa x0.aI.aB,.rd false (aE (aC .i64)) uo x0.aA,.rd false (aE (aC .i64)) ua x0.aj] (fun y (_:Value)=>[.bool y.1]) (fun y v=>[.row bo [v] 83,.own (aK 32 rV) v y.2.2,.own (aK 2 (aC .i64)) vk y.2.1]):=by
 induction n with
 | zero=>intros; rw [qm]; exact ⟨(db fun _ _=>rfl),fun _ _ _ _ _ _ _ y hy=>nomatch (show none=some y from hy)⟩
 | succ n ih=>exact Wz ih
theorem acA {x0:aN} {xa:Int} {x:Int} {cs:List Int} {st:List bD} {ps po pk pc px pd ph:Addr} {pf pm:Addr} {vk vo:Value} {bo:Nat} {py p4 p5 p6 p7 p8 p9 qa uo ua:Value}:Ct Tryz.prog 148 true (eJ (fun a0 a1=>dK a0 a1 xa) x0 xa 64 x cs st) [.int .i64 x,.pointer (some ps),.pointer (some po),.pointer (some pk),.pointer (some pc),.pointer (some px),.pointer (some pd),.pointer (some ph)] [.row bo [vo] 83,.aq ps [.pointer (some pf)],.aq pc [.pointer (some (pf.add 5))],.aq px [.int .i64 xa],.aq pd [.pointer (some pf)],.aq pk [vk],.aq po [.func (.func 117) #[] #[.pointer (some ⟨bo,0,none⟩),.pointer (some pm)]],.aq ph [.func (.func 148) #[] #[.pointer (some ps),.pointer (some po),.pointer (some pk),.pointer (some pc),.pointer (some px),.pointer (some pd),.pointer (some ph)]],.aq pm [.int .i64 xa],.aq pf [.int .i64 x0.aH.aA,py,p4,p5,p6,.int .i64 x0.aI.aA,p7,p8,p9,qa,uo,ua],.own (aK 32 rV) vo st,.own (aK 2 (aC .i64)) vk cs,.rd false (aE (aC .i64)) py x0.aH.aD,.rd false (aE (aC .i64)) p4 x0.aH.To,.rd false (aE (aC .i64)) p5 x0.aH.aJ,.rd false (aE (aE (aC .i64))) p6 x0.aH.aB,.rd false (aE (aC .i64)) p7 x0.aI.aD,.rd false (aE (aC .i64)) p8 x0.aI.To,.rd false (aE (aC .i64)) p9 x0.aI.aJ,.rd false (aE (aE (aC .i64))) qa x0.aI.aB,.rd false (aE (aC .i64)) uo x0.aA,.rd false (aE (aC .i64)) ua x0.aj] (fun y (_:Value)=>[.bool y.1]) (fun y v=>[.row bo [v] 83,.own (aK 32 rV) v y.2.2,.own (aK 2 (aC .i64)) vk y.2.1]):=by
 exact WA 64
theorem acB {x0:aN} {xa:Int} {st:List bD} {pf pm:Addr} {vo:Value} {bo:Nat} {py p4 p5 p6 p7 p8 p9 qa uo ua:Value}:Ct Tryz.prog 116 true (pJ (fun a0 a1=>dK a0 a1 xa) x0 xa st) [.pointer (some pf),.int .i64 xa,.func (.func 117) #[] #[.pointer (some ⟨bo,0,none⟩),.pointer (some pm)]] [.row bo [vo] 83,.aq pm [.int .i64 xa],.aq pf [.int .i64 x0.aH.aA,py,p4,p5,p6,.int .i64 x0.aI.aA,p7,p8,p9,qa,uo,ua],.own (aK 32 rV) vo st,.rd false (aE (aC .i64)) py x0.aH.aD,.rd false (aE (aC .i64)) p4 x0.aH.To,.rd false (aE (aC .i64)) p5 x0.aH.aJ,.rd false (aE (aE (aC .i64))) p6 x0.aH.aB,.rd false (aE (aC .i64)) p7 x0.aI.aD,.rd false (aE (aC .i64)) p8 x0.aI.To,.rd false (aE (aC .i64)) p9 x0.aI.aJ,.rd false (aE (aE (aC .i64))) qa x0.aI.aB,.rd false (aE (aC .i64)) uo x0.aA,.rd false (aE (aC .i64)) ua x0.aj] (fun y (_:Value)=>[.bool y.1]) (fun y v=>[.row bo [v] 83,.own (aK 32 rV) v y.2]):=by
 refine ct (S:=Unit) (db fun _ _=>rfl) Tryz.func116 rfl rfl ?_
 repeat' first
  | ((first | show Dk.ER _ _ _ | show Dk.bd _ _ | show Dk.EF _ _ _ | show Dk.EO _ _ _ | show Dk.EP _ _ | show Dk.ba _ _ _ _ | show Dk.aw _ _ _ _ | show Dk.Kp _ _ _ _ | show Dk.bp _ _ | show Dk.bg _ _ _ _); repeat' first | exact rfl | (refine @id.{0} _ ?_; constructor))
  | intro _
  | exact rfl
  | (refine @id.{0} _ ?_; constructor)
  | apply Dk.ZD (id:=1) [0,1,2,3,4,5] 6 7 8 9 7 8 (by kernel_rfl)
  | apply acA
  | exact ()
theorem acC {x0:aG} {aU:Value} {aZ:Value} {aO:Value} {aM:Value}:Ct Tryz.prog 106 true (nQ x0) [.agg #[.int .i64 (x0.aA),aU,aZ,aO,aM]] [.rd false (aE (aC .i64)) aU x0.aD,.rd false (aE (aC .i64)) aZ x0.To,.rd false (aE (aC .i64)) aO x0.aJ,.rd false (aE (aE (aC .i64))) aM x0.aB] (fun y (_:Unit)=>[.bool y]) (fun y _=>[]):=by
 refine ct (S:=Unit) (db fun _ _=>rfl) Tryz.func106 rfl rfl ?_
 repeat' first
  | ((first | show Dk.ER _ _ _ | show Dk.bd _ _ | show Dk.EF _ _ _ | show Dk.EO _ _ _ | show Dk.EP _ _ | show Dk.ba _ _ _ _ | show Dk.aw _ _ _ _ | show Dk.Kp _ _ _ _ | show Dk.bp _ _ | show Dk.bg _ _ _ _); repeat' first | exact rfl | (refine @id.{0} _ ?_; constructor))
  | intro _
  | exact rfl
  | (refine Dk.tu (t:=102) rfl ?_ ?_)
  | (refine @id.{0} _ ?_; constructor)
  | apply Dk.loop 0 (V:=Unit) (fun (s:Int) v=>[]) (fun s v=>[(4,.int .i64 (s))]) () [(1,_),(3,_)]
  | apply Dk.loop 2 (V:=Unit) (fun (s:Int) v=>[]) (fun s v=>[(5,.int .i64 (s))]) () [(1,_),(3,_)]
  | apply Dk.loop 4 (V:=Unit) (fun (s:Int) v=>[]) (fun s v=>[(6,.int .i64 (s))]) () [(1,_),(3,_),(5,_)]
  | apply Dk.quiet (id:=9) (by kernel_rfl)
  | apply Dk.quiet (id:=20) (by kernel_rfl)
  | apply Dk.quiet (id:=23) (by kernel_rfl)
  | apply ab7
  | apply acp
  | apply Wu
  | exact ()
theorem c67 {x0:aG} {aU:Value} {aZ:Value} {aO:Value} {aM:Value}:Ct Tryz.prog 67 true (nR x0) [.agg #[.int .i64 (x0.aA),aU,aZ,aO,aM]] [.rd false (aE (aC .i64)) aU x0.aD,.rd false (aE (aC .i64)) aZ x0.To,.rd false (aE (aC .i64)) aO x0.aJ,.rd false (aE (aE (aC .i64))) aM x0.aB] (fun y (_:Unit)=>[.bool y]) (fun y _=>[]):=by
 refine ct (S:=Unit) (db fun _ _=>rfl) Tryz.func67 rfl rfl ?_
 repeat' first
  | ((first | show Dk.ER _ _ _ | show Dk.bd _ _ | show Dk.EF _ _ _ | show Dk.EO _ _ _ | show Dk.EP _ _ | show Dk.ba _ _ _ _ | show Dk.aw _ _ _ _ | show Dk.Kp _ _ _ _ | show Dk.bp _ _ | show Dk.bg _ _ _ _); repeat' first | exact rfl | (refine @id.{0} _ ?_; constructor))
  | intro _
  | exact rfl
  | (refine @id.{0} _ ?_; constructor)
  | apply acC
  | apply acd
  | exact ()
end Go.Proofs.YtgjbmjjihmfppaaGreat
