/- Walks by the calculus D. No condition beside those that each theorem names. -/
import Derived.Test.YtgjbmjjihmfppaaGreatDp
import Derived.Test.YtgjbmjjihmfppaaGreatDi
import Derived.Test.YtgjbmjjihmfppaaGreatMo
import Derived.Test.YtgjbmjjihmfppaaGreatDs
import Derived.Test.YtgjbmjjihmfppaaGreatWa
import Derived.Test.YtgjbmjjihmfppaaGreatWb
import Derived.Test.YtgjbmjjihmfppaaGreatWc
import Derived.Test.YtgjbmjjihmfppaaGreatWd
namespace Go.Proofs.YtgjbmjjihmfppaaGreat
open Go Go.Li Go.Dk
set_option linter.unusedVariables false
set_option maxHeartbeats 16000000
set_option maxRecDepth 100000
theorem afJ {x0:Int} {x1:(List Int)} {dX:Value} {x2:(List Int)} {eC:Value}:Ct Tryz.prog 155 false (lN x0 x1 x2) [.int .i64 (x0),dX,eC] [rI dX x1,rI eC x2] (fun y (v:Value)=>[v]) (fun y v=>[.rd false (bL (iu wT)) v y]):=by
 refine ct (S:=Unit) u9 Tryz.func155 rfl rfl ?_
 repeat' first
  | (apply Dk.fe; repeat' first | exact rfl | (refine @id.{0} _ ?_; constructor))
  | intro _
  | exact rfl
  | (refine (id (α:=@Eq (List Value) _ _) ?_); dsimp only; try exact rfl)
  | apply Dk.SY (t:=173) (S:=wT)
  | apply Dk.SZ (t:=173)
  | apply Dk.ixS (t:=173)
  | apply Dk.N5 (t:=173) (bR.mk _ _ _)
  | apply Dk.N3 (n:=3)
  | apply Dk.Mi (n:=3)
  | apply Dk.N4 (n:=3)
  | apply Dk.stS (n:=3) (S:=wT) _
  | apply Dk.AD.VT
  | apply Dk.AD.laG (n:=3)
  | apply Dk.AD.VU (n:=3)
  | (refine @id.{0} _ ?_; constructor)
  | apply Dk.vL 0 (V:=Value) (W:=List (List Value)) (fun (s:(List bR)×Int) v u=>[.own (aJ 176 (ef 3)) v u,.rd false (qf wT) (.bool true) (u,s.1)]) (fun s v u=>[(7,v),(8,.int .i64 (s.2))]) _ _ [(0,_),(1,_),(2,_)]
  | apply Dk.vL 2 (V:=Value) (W:=List (List Value)) (fun (s:(List bR)×Int) v u=>[.own (aJ 176 (ef 3)) v u,.rd false (qf wT) (.bool true) (u,s.1)]) (fun s v u=>[(7,v),(9,.int .i64 (s.2))]) _ _ [(0,_),(1,_),(2,_)]
  | apply Dk.vL 4 (V:=Value) (W:=List (List Value)) (fun (s:(List bR)×Int) v u=>[.own (aJ 176 (ef 3)) v u,.rd false (qf wT) (.bool true) (u,s.1)]) (fun s v u=>[(7,v),(10,.int .i64 (s.2))]) _ _ [(0,_),(1,_),(2,_),(9,_)]
  | apply Dk.vL 6 (V:=Value) (W:=List (List Value)) (fun (s:(List bR)×Int) v u=>[.own (aJ 176 (ef 3)) v u,.rd false (qf wT) (.bool true) (u,s.1)]) (fun s v u=>[(7,v),(11,.int .i64 (s.2))]) _ _ []
  | apply Dk.vL 8 (V:=Value) (W:=List (List Value)) (fun (s:(List bR)×Int) v u=>[.own (aJ 176 (ef 3)) v u,.rd false (qf wT) (.bool true) (u,s.1)]) (fun s v u=>[(7,v),(12,.int .i64 (s.2))]) _ _ [(11,_)]
  | apply Dk.quiet (id:=12) (by kernel_rfl)
  | apply Dk.quiet (id:=18) (by kernel_rfl)
  | apply Dk.any (id:=13) 19 [0] [[],[],[],[],[],[],[],[],[],[],[],[],[],[],[],[],[],[],[15]] [[],[],[],[1,2],[3,1,2],[4,3,1,2],[],[],[6,7],[8,6,7],[],[],[10,11],[12,10,11],[13,12,10,11],[14,13,12,10,11],[],[16],[15,14,13,12,10,11,17,16,15,14,13,12,10,11]] (by kernel_rfl)
  | apply z8
  | apply afs
  | exact ()
theorem Y2 {x0:Int} {x1:(List Int)} {dX:Value} {x2:(List Int)} {eC:Value}:Ct Tryz.prog 136 true (eN x0 x1 x2) [.int .i64 (x0),dX,eC] [rI dX x1,rI eC x2] (fun y (v:Value×Value×Value×Value)=>[.agg #[.int .i64 y.aA,v.1,v.2.1,v.2.2.1,v.2.2.2]]) (fun y v=>[.own (aJ 2 (aM .i64)) v.1 y.aE,.own (aJ 2 (aM .i64)) v.2.1 y.To,.own (aJ 2 (aM .i64)) v.2.2.1 y.aH,.own (aJ 24 (aJ 2 (aM .i64))) v.2.2.2 y.aB]):=by
 refine ct (S:=Unit) (ca fun _ _=>rfl) Tryz.func136 rfl rfl ?_
 repeat' first
  | (apply Dk.fe; repeat' first | exact rfl | (refine @id.{0} _ ?_; constructor))
  | intro _
  | exact rfl
  | (refine Dk.ve (t:=83) rfl ?_ ?_)
  | apply Dk.AD.apR (d:=108)
  | (refine Dk.ve (t:=112) rfl ?_ ?_)
  | (refine @id.{0} _ ?_; constructor)
  | apply Dk.jr 0 (V:=Value×Value) (A:=Nat×Value×Value) (_,_,_) (fun a (s:Int×(List Int)×(List Int)×(List Int)) v=>Dk.pc (fun a0=>Dk.pc (fun a1 a2=>[.row a0 [.int .i64 (x0),v.1,v.2,a1,a2] 27,.own (aJ 2 (aM .i64)) a1 s.2.2.2,.own (aJ 2 (aM .i64)) v.1 s.2.1,.own (aJ 2 (aM .i64)) v.2 s.2.2.1])) a) (fun a s v=>Dk.pc (fun a0=>Dk.pc (fun a1 a2=>[(8,.pointer (some ⟨a0,0,none⟩)),(9,.int .i64 (s.1))])) a) (_,_) [(6,_),(7,_)]
  | apply Dk.jr 2 (V:=Value) (A:=Nat×Value×Value×Value) (_,_,_,_) (fun a (s:Int×(List (List Int))) v=>Dk.pc (fun a0=>Dk.pc (fun a1=>Dk.pc (fun a2 a3=>[.row a0 [.int .i64 (x0),a1,a2,a3,v] 27,.own (aJ 24 (aJ 2 (aM .i64))) v s.2]))) a) (fun a s v=>Dk.pc (fun a0=>Dk.pc (fun a1=>Dk.pc (fun a2 a3=>[(8,.pointer (some ⟨a0,0,none⟩)),(10,.int .i64 (s.1))]))) a) _ [(6,_),(7,_)]
  | apply Dk.loop 4 (V:=Value) (fun (s:(List Int)×Int) v=>[.own (aJ 2 (aM .i64)) v s.1]) (fun s v=>[(11,v),(12,.int .i64 (s.2))]) _ [(6,_),(7,_),(8,_),(10,_)]
  | apply Dk.loop 6 (V:=Unit) (fun (s:Int×Int) v=>[]) (fun s v=>[(13,.int .i64 (s.1)),(15,.int .i64 (s.2))]) () [(6,_),(7,_),(8,_),(10,_),(11,_),(12,_),(14,_)]
  | apply Dk.quiet (id:=20) (by kernel_rfl)
  | apply Dk.quiet (id:=25) (by kernel_rfl)
  | apply Dk.any (id:=6) 8 [] [] [[],[0],[],[],[2,3],[4,2,3],[5,4,2,3],[6,5,4,2,3]] (by kernel_rfl)
  | apply Dk.any (id:=7) 8 [] [] [[],[0],[],[],[2,3],[4,2,3],[5,4,2,3],[6,5,4,2,3]] (by kernel_rfl)
  | apply Dk.any (id:=9) 8 [] [] [[],[0],[],[],[2,3],[4,2,3],[5,4,2,3],[]] (by kernel_rfl)
  | apply Dk.any (id:=21) 11 [] [] [[],[],[0,1],[2,0,1],[3,2,0,1],[4,3,2,0,1],[],[],[6,7],[8,6,7],[9,8,6,7]] (by kernel_rfl)
  | apply afJ
  | apply YT
  | apply z8
  | apply TH
  | exact ()
theorem Y3 {x0:(List (List Int))} {cX:Value}:Ct Tryz.prog 137 true (gG x0) [cX] [rJ cX x0] (fun y (v:Value×Value×Value×Value)=>[.agg #[.int .i64 y.aA,v.1,v.2.1,v.2.2.1,v.2.2.2]]) (fun y v=>[.own (aJ 2 (aM .i64)) v.1 y.aE,.own (aJ 2 (aM .i64)) v.2.1 y.To,.own (aJ 2 (aM .i64)) v.2.2.1 y.aH,.own (aJ 24 (aJ 2 (aM .i64))) v.2.2.2 y.aB]):=by
 refine ct (S:=Unit) (ca fun _ _=>rfl) Tryz.func137 rfl rfl ?_
 repeat' first
  | (apply Dk.fe; repeat' first | exact rfl | (refine @id.{0} _ ?_; constructor))
  | intro _
  | exact rfl
  | (refine @id.{0} _ ?_; constructor)
  | apply Dk.any (id:=2) 7 [] [] [[],[0,0],[],[2,2],[],[],[5]] (by kernel_rfl)
  | apply YM
  | exact ()
theorem afK {x0:aG} {aU bB aN aL:Value}:Ct Tryz.prog 106 true (pB x0) [.agg #[.int .i64 (x0.aA),aU,bB,aN,aL]] [rI aU x0.aE,rI bB x0.To,rI aN x0.aH,rJ aL x0.aB] (fun y (_:Unit)=>[.bool y]) (fun y _=>[]):=by
 refine ct (S:=Unit) (ca fun _ _=>rfl) Tryz.func106 rfl rfl ?_
 repeat' first
  | (apply Dk.fe; repeat' first | exact rfl | (refine @id.{0} _ ?_; constructor))
  | intro _
  | exact rfl
  | (refine Dk.ve (t:=102) rfl ?_ ?_)
  | (refine @id.{0} _ ?_; constructor)
  | apply Dk.loop 0 (V:=Unit) (fun (s:Int) v=>[]) (fun s v=>[(4,.int .i64 (s))]) () [(1,_),(3,_)]
  | apply Dk.loop 2 (V:=Unit) (fun (s:Int) v=>[]) (fun s v=>[(5,.int .i64 (s))]) () [(1,_),(3,_)]
  | apply Dk.loop 4 (V:=Unit) (fun (s:Int) v=>[]) (fun s v=>[(6,.int .i64 (s))]) () [(1,_),(3,_),(5,_)]
  | apply Dk.quiet (id:=9) (by kernel_rfl)
  | apply Dk.quiet (id:=20) (by kernel_rfl)
  | apply Dk.quiet (id:=23) (by kernel_rfl)
  | apply aff
  | apply afg
  | apply YQ
  | exact ()
theorem c67 {x0:aG} {aU bB aN aL:Value}:Ct Tryz.prog 67 true (pC x0) [.agg #[.int .i64 (x0.aA),aU,bB,aN,aL]] [rI aU x0.aE,rI bB x0.To,rI aN x0.aH,rJ aL x0.aB] (fun y (_:Unit)=>[.bool y]) (fun y _=>[]):=by
 refine ct (S:=Unit) (ca fun _ _=>rfl) Tryz.func67 rfl rfl ?_
 repeat' first
  | (apply Dk.fe; repeat' first | exact rfl | (refine @id.{0} _ ?_; constructor))
  | intro _
  | exact rfl
  | (refine @id.{0} _ ?_; constructor)
  | apply afK
  | apply ae8
  | exact ()
theorem c65 {x0:aI} {dG:Addr} {aS aV aQ aO aT aW aR aP bC bG:Value}:Ct Tryz.prog 65 true (kB x0) [.pointer (some (dG))] [.ay dG [.int .i64 (x0.aC.aA),aS,aV,aQ,aO,.int .i64 (x0.aD.aA),aT,aW,aR,aP,bC,bG],rI aS x0.aC.aE,rI aV x0.aC.To,rI aQ x0.aC.aH,rJ aO x0.aC.aB,rI aT x0.aD.aE,rI aW x0.aD.To,rI aR x0.aD.aH,rJ aP x0.aD.aB,rI bC x0.aA,rI bG x0.ab] (fun y (_:Unit)=>[.bool y]) (fun y _=>[]):=by
 refine ct (S:=Unit) (ca fun _ _=>rfl) Tryz.func65 rfl rfl ?_
 repeat' first
  | (apply Dk.fe; repeat' first | exact rfl | (refine @id.{0} _ ?_; constructor))
  | intro _
  | exact rfl
  | (refine @id.{0} _ ?_; constructor)
  | apply Dk.loop 0 (V:=Unit) (fun (s:Int) v=>[]) (fun s v=>[(66,.int .i64 (s))]) () [(0,_),(3,_),(4,_),(64,_),(65,_)]
  | apply Dk.loop 2 (V:=Unit) (fun (s:Int) v=>[]) (fun s v=>[(121,.int .i64 (s))]) () [(0,_),(3,_),(4,_),(119,_),(120,_)]
  | apply Dk.loop 4 (V:=Unit) (fun (s:Int) v=>[]) (fun s v=>[(153,.int .i64 (s))]) () [(0,_),(4,_),(151,_),(152,_)]
  | apply Dk.loop 6 (V:=Unit) (fun (s:Int) v=>[]) (fun s v=>[(160,.int .i64 (s))]) () [(0,_),(4,_),(9,_),(151,_),(152,_),(153,_),(158,_),(159,_)]
  | apply Dk.quiet (id:=1) (by kernel_rfl)
  | apply Dk.quiet (id:=2) (by kernel_rfl)
  | apply Dk.quiet (id:=7) (by kernel_rfl)
  | apply Dk.quiet (id:=13) (by kernel_rfl)
  | apply Dk.quiet (id:=22) (by kernel_rfl)
  | apply Pw
  | apply YX
  | apply Px
  | exact ()
theorem Y4 {x0:aI} {xa:Int} {rc:Int→List Int→List aZ→Option (Bool×List Int×List aZ)} (ih:∀ {x:Int} {cs:List Int} {st:List aZ} {ps po pk pc px pd ph pf pm:Addr} {vk vo:Value} {bo:Nat} {jz j3 j4 j5 j6 j7 j8 j9 uo ua:Value},Ct Tryz.prog 148 true (rc x cs st) [.int .i64 x,.pointer (some ps),.pointer (some po),.pointer (some pk),.pointer (some pc),.pointer (some px),.pointer (some pd),.pointer (some ph)] [.row bo [vo] 83,.ay ps [.pointer (some pf)],.ay pc [.pointer (some (pf.add 5))],.ay px [.int .i64 xa],.ay pd [.pointer (some pf)],.ay pk [vk],.ay po [.func (.func 117) #[] #[.pointer (some ⟨bo,0,none⟩),.pointer (some pm)]],.ay ph [.func (.func 148) #[] #[.pointer (some ps),.pointer (some po),.pointer (some pk),.pointer (some pc),.pointer (some px),.pointer (some pd),.pointer (some ph)]],.ay pm [.int .i64 xa],.ay pf [.int .i64 x0.aC.aA,jz,j3,j4,j5,.int .i64 x0.aD.aA,j6,j7,j8,j9,uo,ua],.own (aJ 32 ru) vo st,.own (aJ 2 (aM .i64)) vk cs,rI jz x0.aC.aE,rI j3 x0.aC.To,rI j4 x0.aC.aH,rJ j5 x0.aC.aB,rI j6 x0.aD.aE,rI j7 x0.aD.To,rI j8 x0.aD.aH,rJ j9 x0.aD.aB,rI uo x0.aA,rI ua x0.ab] (fun y (_:Value)=>[.bool y.1]) (fun y v=>[.row bo [v] 83,.own (aJ 32 ru) v y.2.2,.own (aJ 2 (aM .i64)) vk y.2.1])) {x:Int} {cs:List Int} {st:List aZ} {ps po pk pc px pd ph pf pm:Addr} {vk vo:Value} {bo:Nat} {jz j3 j4 j5 j6 j7 j8 j9 uo ua:Value}:Ct Tryz.prog 148 true (nP (fun a0 a1=>eH a0 a1 xa) x0 xa rc x cs st) [.int .i64 x,.pointer (some ps),.pointer (some po),.pointer (some pk),.pointer (some pc),.pointer (some px),.pointer (some pd),.pointer (some ph)] [.row bo [vo] 83,.ay ps [.pointer (some pf)],.ay pc [.pointer (some (pf.add 5))],.ay px [.int .i64 xa],.ay pd [.pointer (some pf)],.ay pk [vk],.ay po [.func (.func 117) #[] #[.pointer (some ⟨bo,0,none⟩),.pointer (some pm)]],.ay ph [.func (.func 148) #[] #[.pointer (some ps),.pointer (some po),.pointer (some pk),.pointer (some pc),.pointer (some px),.pointer (some pd),.pointer (some ph)]],.ay pm [.int .i64 xa],.ay pf [.int .i64 x0.aC.aA,jz,j3,j4,j5,.int .i64 x0.aD.aA,j6,j7,j8,j9,uo,ua],.own (aJ 32 ru) vo st,.own (aJ 2 (aM .i64)) vk cs,rI jz x0.aC.aE,rI j3 x0.aC.To,rI j4 x0.aC.aH,rJ j5 x0.aC.aB,rI j6 x0.aD.aE,rI j7 x0.aD.To,rI j8 x0.aD.aH,rJ j9 x0.aD.aB,rI uo x0.aA,rI ua x0.ab] (fun y (_:Value)=>[.bool y.1]) (fun y v=>[.row bo [v] 83,.own (aJ 32 ru) v y.2.2,.own (aJ 2 (aM .i64)) vk y.2.1]):=by
 refine ct (S:=Unit) (ca fun _ _=>rfl) Tryz.func148 rfl rfl ?_
 repeat' first
  | (apply Dk.fe; repeat' first | exact rfl | (refine @id.{0} _ ?_; constructor))
  | intro _
  | exact rfl
  | (refine @id.{0} _ ?_; constructor)
  | apply Dk.scp
  | apply Dk.lab
  | apply Dk.loop 0 (V:=Value) (fun (s:Int×List Int×List aZ) v=>[.row bo [v] 83,.own (aJ 32 ru) v s.2.2,.own (aJ 2 (aM .i64)) vk s.2.1]) (fun s v=>[(36,.int .i64 s.1)]) _ [(0,_),(1,_),(2,_),(3,_),(4,_),(5,_),(6,_),(7,_),(34,_),(35,_)]
  | apply Dk.S8 2 1 (V:=Unit) (fun (s:Int) _=>[]) (fun s _=>[(49,.int .i64 s)]) () [(0,_),(1,_),(2,_),(3,_),(4,_),(5,_),(6,_),(7,_),(11,_),(34,_),(35,_),(36,_),(47,_),(48,_)] rfl
  | apply Dk.nlx
  | apply Dk.xlx
  | (apply Dk.xlo <;> first | exact rfl | skip)
  | apply Dk.any (id:=3) 12 [] [] [[],[],[],[2],[3,2],[4,3,2],[],[5,4,3,2,6],[7,5,4,3,2,6],[0,1,8,7,5,4,3,2,6],[9,0,1,8,7,5,4,3,2,6],[]] (by kernel_rfl)
  | apply Dk.quiet (id:=10) (by kernel_rfl)
  | apply Dk.quiet (id:=11) (by kernel_rfl)
  | apply ih
  | apply afm
  | apply YS
  | apply Px
  | exact ()
theorem Y5 {x0:aI} {xa:Int} (n:Nat):∀ {x:Int} {cs:List Int} {st:List aZ} {ps po pk pc px pd ph pf pm:Addr} {vk vo:Value} {bo:Nat} {jz j3 j4 j5 j6 j7 j8 j9 uo ua:Value},Ct Tryz.prog 148 true (fF (fun a0 a1=>eH a0 a1 xa) x0 xa n x cs st) [.int .i64 x,.pointer (some ps),.pointer (some po),.pointer (some pk),.pointer (some pc),.pointer (some px),.pointer (some pd),.pointer (some ph)] [.row bo [vo] 83,.ay ps [.pointer (some pf)],.ay pc [.pointer (some (pf.add 5))],.ay px [.int .i64 xa],.ay pd [.pointer (some pf)],.ay pk [vk],.ay po [.func (.func 117) #[] #[.pointer (some ⟨bo,0,none⟩),.pointer (some pm)]],.ay ph [.func (.func 148) #[] #[.pointer (some ps),.pointer (some po),.pointer (some pk),.pointer (some pc),.pointer (some px),.pointer (some pd),.pointer (some ph)]],.ay pm [.int .i64 xa],.ay pf [.int .i64 x0.aC.aA,jz,j3,j4,j5,.int .i64 x0.aD.aA,j6,j7,j8,j9,uo,ua],.own (aJ 32 ru) vo st,.own (aJ 2 (aM .i64)) vk cs,rI jz x0.aC.aE,rI j3 x0.aC.To,rI j4 x0.aC.aH,rJ j5 x0.aC.aB,rI j6 x0.aD.aE,rI j7 x0.aD.To,rI j8 x0.aD.aH,rJ j9 x0.aD.aB,rI uo x0.aA,rI ua x0.ab] (fun y (_:Value)=>[.bool y.1]) (fun y v=>[.row bo [v] 83,.own (aJ 32 ru) v y.2.2,.own (aJ 2 (aM .i64)) vk y.2.1]):=by
 induction n with
 | zero=>intros; rw [r7]; exact ⟨(ca fun _ _=>rfl),fun _ _ _ _ _ _ _ y hy=>nomatch (show none=some y from hy)⟩
 | succ n ih=>exact Y4 ih
theorem afL {x0:aI} {xa:Int} {x:Int} {cs:List Int} {st:List aZ} {ps po pk pc px pd ph pf pm:Addr} {vk vo:Value} {bo:Nat} {jz j3 j4 j5 j6 j7 j8 j9 uo ua:Value}:Ct Tryz.prog 148 true (fF (fun a0 a1=>eH a0 a1 xa) x0 xa 64 x cs st) [.int .i64 x,.pointer (some ps),.pointer (some po),.pointer (some pk),.pointer (some pc),.pointer (some px),.pointer (some pd),.pointer (some ph)] [.row bo [vo] 83,.ay ps [.pointer (some pf)],.ay pc [.pointer (some (pf.add 5))],.ay px [.int .i64 xa],.ay pd [.pointer (some pf)],.ay pk [vk],.ay po [.func (.func 117) #[] #[.pointer (some ⟨bo,0,none⟩),.pointer (some pm)]],.ay ph [.func (.func 148) #[] #[.pointer (some ps),.pointer (some po),.pointer (some pk),.pointer (some pc),.pointer (some px),.pointer (some pd),.pointer (some ph)]],.ay pm [.int .i64 xa],.ay pf [.int .i64 x0.aC.aA,jz,j3,j4,j5,.int .i64 x0.aD.aA,j6,j7,j8,j9,uo,ua],.own (aJ 32 ru) vo st,.own (aJ 2 (aM .i64)) vk cs,rI jz x0.aC.aE,rI j3 x0.aC.To,rI j4 x0.aC.aH,rJ j5 x0.aC.aB,rI j6 x0.aD.aE,rI j7 x0.aD.To,rI j8 x0.aD.aH,rJ j9 x0.aD.aB,rI uo x0.aA,rI ua x0.ab] (fun y (_:Value)=>[.bool y.1]) (fun y v=>[.row bo [v] 83,.own (aJ 32 ru) v y.2.2,.own (aJ 2 (aM .i64)) vk y.2.1]):=by
 exact Y5 64
theorem Y6 {x0:aI} {xa:Int} {st:List aZ} {pf pm:Addr} {vo:Value} {bo:Nat} {jz j3 j4 j5 j6 j7 j8 j9 uo ua:Value}:Ct Tryz.prog 116 true (rG (fun a0 a1=>eH a0 a1 xa) x0 xa st) [.pointer (some pf),.int .i64 xa,.func (.func 117) #[] #[.pointer (some ⟨bo,0,none⟩),.pointer (some pm)]] [.row bo [vo] 83,.ay pm [.int .i64 xa],.ay pf [.int .i64 x0.aC.aA,jz,j3,j4,j5,.int .i64 x0.aD.aA,j6,j7,j8,j9,uo,ua],.own (aJ 32 ru) vo st,rI jz x0.aC.aE,rI j3 x0.aC.To,rI j4 x0.aC.aH,rJ j5 x0.aC.aB,rI j6 x0.aD.aE,rI j7 x0.aD.To,rI j8 x0.aD.aH,rJ j9 x0.aD.aB,rI uo x0.aA,rI ua x0.ab] (fun y (_:Value)=>[.bool y.1]) (fun y v=>[.row bo [v] 83,.own (aJ 32 ru) v y.2]):=by
 refine ct (S:=Unit) (ca fun _ _=>rfl) Tryz.func116 rfl rfl ?_
 repeat' first
  | (apply Dk.fe; repeat' first | exact rfl | (refine @id.{0} _ ?_; constructor))
  | intro _
  | exact rfl
  | (refine @id.{0} _ ?_; constructor)
  | apply Dk.acw (id:=1) [0,1,2,3,4,5] 6 7 8 9 7 8 (by kernel_rfl)
  | apply afL
  | exact ()
end Go.Proofs.YtgjbmjjihmfppaaGreat
