/- Walks by the calculus D. No condition beside those that each theorem names. -/
import Derived.Test.YtgjbmjjihmfppaaGreatDp
import Derived.Test.YtgjbmjjihmfppaaGreatDi
import Derived.Test.YtgjbmjjihmfppaaGreatMo
import Derived.Test.YtgjbmjjihmfppaaGreatDs
import Derived.Test.YtgjbmjjihmfppaaGreatWa
import Derived.Test.YtgjbmjjihmfppaaGreatWb
import Derived.Test.YtgjbmjjihmfppaaGreatWc
import Derived.Test.YtgjbmjjihmfppaaGreatWd
namespace Go.Proofs.YtgjbmjjihmfppaaGreat
open Go Go.Li Go.Dk
set_option linter.unusedVariables false
set_option maxHeartbeats 16000000
set_option maxRecDepth 100000
theorem ae3 {x0:Int} {x1:(List Int)} {eA:Value} {x2:(List Int)} {eC:Value}:Ct Tryz.prog 155 false (lV x0 x1 x2) [.int .i64 (x0),eA,eC] [rI eA x1,rI eC x2] (fun y (v:Value)=>[v]) (fun y v=>[.rd false (bJ (iq wu)) v y]):=by
 refine ct (S:=Unit) vK Tryz.func155 rfl rfl ?_
 repeat' first
  | (apply Dk.fe; repeat' first | exact rfl | (refine @id.{0} _ ?_; constructor))
  | intro _
  | exact rfl
  | (refine (id (α:=@Eq (List Value) _ _) ?_); dsimp only; try exact rfl)
  | apply Dk.VU (t:=173) (S:=wu)
  | apply Dk.VV (t:=173)
  | apply Dk.Z9 (t:=173)
  | apply Dk.Si (t:=173) (bQ.mk _ _ _)
  | apply Dk.NG (n:=3)
  | apply Dk.LJ (n:=3)
  | apply Dk.NH (n:=3)
  | apply Dk.stS (n:=3) (S:=wu) _
  | apply Dk.AD.U8
  | apply Dk.AD.ZR (n:=3)
  | apply Dk.AD.U9 (n:=3)
  | (refine @id.{0} _ ?_; constructor)
  | apply Dk.wq 0 (V:=Value) (W:=List (List Value)) (fun (s:(List bQ)×Int) v u=>[.own (aJ 176 (ee 3)) v u,.rd false (qt wu) (.bool true) (u,s.1)]) (fun s v u=>[(7,v),(8,.int .i64 (s.2))]) _ _ [(0,_),(1,_),(2,_)]
  | apply Dk.wq 2 (V:=Value) (W:=List (List Value)) (fun (s:(List bQ)×Int) v u=>[.own (aJ 176 (ee 3)) v u,.rd false (qt wu) (.bool true) (u,s.1)]) (fun s v u=>[(7,v),(9,.int .i64 (s.2))]) _ _ [(0,_),(1,_),(2,_)]
  | apply Dk.wq 4 (V:=Value) (W:=List (List Value)) (fun (s:(List bQ)×Int) v u=>[.own (aJ 176 (ee 3)) v u,.rd false (qt wu) (.bool true) (u,s.1)]) (fun s v u=>[(7,v),(10,.int .i64 (s.2))]) _ _ [(0,_),(1,_),(2,_),(9,_)]
  | apply Dk.wq 6 (V:=Value) (W:=List (List Value)) (fun (s:(List bQ)×Int) v u=>[.own (aJ 176 (ee 3)) v u,.rd false (qt wu) (.bool true) (u,s.1)]) (fun s v u=>[(7,v),(11,.int .i64 (s.2))]) _ _ []
  | apply Dk.wq 8 (V:=Value) (W:=List (List Value)) (fun (s:(List bQ)×Int) v u=>[.own (aJ 176 (ee 3)) v u,.rd false (qt wu) (.bool true) (u,s.1)]) (fun s v u=>[(7,v),(12,.int .i64 (s.2))]) _ _ [(11,_)]
  | apply Dk.quiet (id:=12) (by kernel_rfl)
  | apply Dk.quiet (id:=18) (by kernel_rfl)
  | apply Dk.any (id:=13) 19 [0] [[],[],[],[],[],[],[],[],[],[],[],[],[],[],[],[],[],[],[15]] [[],[],[],[1,2],[3,1,2],[4,3,1,2],[],[],[6,7],[8,6,7],[],[],[10,11],[12,10,11],[13,12,10,11],[14,13,12,10,11],[],[16],[15,14,13,12,10,11,17,16,15,14,13,12,10,11]] (by kernel_rfl)
  | apply zH
  | apply aeO
  | exact ()
theorem Yr {x0:Int} {x1:(List Int)} {eA:Value} {x2:(List Int)} {eC:Value}:Ct Tryz.prog 136 true (eL x0 x1 x2) [.int .i64 (x0),eA,eC] [rI eA x1,rI eC x2] (fun y (v:Value×Value×Value×Value)=>[.agg #[.int .i64 y.aA,v.1,v.2.1,v.2.2.1,v.2.2.2]]) (fun y v=>[.own (aJ 2 (aM .i64)) v.1 y.aD,.own (aJ 2 (aM .i64)) v.2.1 y.To,.own (aJ 2 (aM .i64)) v.2.2.1 y.aH,.own (aJ 24 (aJ 2 (aM .i64))) v.2.2.2 y.aB]):=by
 refine ct (S:=Unit) (b9 fun _ _=>rfl) Tryz.func136 rfl rfl ?_
 repeat' first
  | (apply Dk.fe; repeat' first | exact rfl | (refine @id.{0} _ ?_; constructor))
  | intro _
  | exact rfl
  | (refine Dk.uP (t:=83) rfl ?_ ?_)
  | apply Dk.AD.apR (d:=108)
  | (refine Dk.uP (t:=112) rfl ?_ ?_)
  | (refine @id.{0} _ ?_; constructor)
  | apply Dk.j6 0 (V:=Value×Value) (A:=Nat×Value×Value) (_,_,_) (fun a (s:Int×(List Int)×(List Int)×(List Int)) v=>Dk.pc (fun a0=>Dk.pc (fun a1 a2=>[.row a0 [.int .i64 (x0),v.1,v.2,a1,a2] 27,.own (aJ 2 (aM .i64)) a1 s.2.2.2,.own (aJ 2 (aM .i64)) v.1 s.2.1,.own (aJ 2 (aM .i64)) v.2 s.2.2.1])) a) (fun a s v=>Dk.pc (fun a0=>Dk.pc (fun a1 a2=>[(8,.pointer (some ⟨a0,0,none⟩)),(9,.int .i64 (s.1))])) a) (_,_) [(6,_),(7,_)]
  | apply Dk.j6 2 (V:=Value) (A:=Nat×Value×Value×Value) (_,_,_,_) (fun a (s:Int×(List (List Int))) v=>Dk.pc (fun a0=>Dk.pc (fun a1=>Dk.pc (fun a2 a3=>[.row a0 [.int .i64 (x0),a1,a2,a3,v] 27,.own (aJ 24 (aJ 2 (aM .i64))) v s.2]))) a) (fun a s v=>Dk.pc (fun a0=>Dk.pc (fun a1=>Dk.pc (fun a2 a3=>[(8,.pointer (some ⟨a0,0,none⟩)),(10,.int .i64 (s.1))]))) a) _ [(6,_),(7,_)]
  | apply Dk.loop 4 (V:=Value) (fun (s:(List Int)×Int) v=>[.own (aJ 2 (aM .i64)) v s.1]) (fun s v=>[(11,v),(12,.int .i64 (s.2))]) _ [(6,_),(7,_),(8,_),(10,_)]
  | apply Dk.loop 6 (V:=Unit) (fun (s:Int×Int) v=>[]) (fun s v=>[(13,.int .i64 (s.1)),(15,.int .i64 (s.2))]) () [(6,_),(7,_),(8,_),(10,_),(11,_),(12,_),(14,_)]
  | apply Dk.quiet (id:=20) (by kernel_rfl)
  | apply Dk.quiet (id:=25) (by kernel_rfl)
  | apply Dk.any (id:=6) 8 [] [] [[],[0],[],[],[2,3],[4,2,3],[5,4,2,3],[6,5,4,2,3]] (by kernel_rfl)
  | apply Dk.any (id:=7) 8 [] [] [[],[0],[],[],[2,3],[4,2,3],[5,4,2,3],[6,5,4,2,3]] (by kernel_rfl)
  | apply Dk.any (id:=9) 8 [] [] [[],[0],[],[],[2,3],[4,2,3],[5,4,2,3],[]] (by kernel_rfl)
  | apply Dk.any (id:=21) 11 [] [] [[],[],[0,1],[2,0,1],[3,2,0,1],[4,3,2,0,1],[],[],[6,7],[8,6,7],[9,8,6,7]] (by kernel_rfl)
  | apply ae3
  | apply Yh
  | apply zH
  | apply Yi
  | exact ()
theorem ae4 {x0:aG} {aS aY aN aL:Value}:Ct Tryz.prog 106 true (pH x0) [.agg #[.int .i64 (x0.aA),aS,aY,aN,aL]] [rI aS x0.aD,rI aY x0.To,rI aN x0.aH,rJ aL x0.aB] (fun y (_:Unit)=>[.bool y]) (fun y _=>[]):=by
 refine ct (S:=Unit) (b9 fun _ _=>rfl) Tryz.func106 rfl rfl ?_
 repeat' first
  | (apply Dk.fe; repeat' first | exact rfl | (refine @id.{0} _ ?_; constructor))
  | intro _
  | exact rfl
  | (refine Dk.uP (t:=102) rfl ?_ ?_)
  | (refine @id.{0} _ ?_; constructor)
  | apply Dk.loop 0 (V:=Unit) (fun (s:Int) v=>[]) (fun s v=>[(4,.int .i64 (s))]) () [(1,_),(3,_)]
  | apply Dk.loop 2 (V:=Unit) (fun (s:Int) v=>[]) (fun s v=>[(5,.int .i64 (s))]) () [(1,_),(3,_)]
  | apply Dk.loop 4 (V:=Unit) (fun (s:Int) v=>[]) (fun s v=>[(6,.int .i64 (s))]) () [(1,_),(3,_),(5,_)]
  | apply Dk.quiet (id:=9) (by kernel_rfl)
  | apply Dk.quiet (id:=20) (by kernel_rfl)
  | apply Dk.quiet (id:=23) (by kernel_rfl)
  | apply aew
  | apply aex
  | apply Yd
  | exact ()
theorem c67 {x0:aG} {aS aY aN aL:Value}:Ct Tryz.prog 67 true (pI x0) [.agg #[.int .i64 (x0.aA),aS,aY,aN,aL]] [rI aS x0.aD,rI aY x0.To,rI aN x0.aH,rJ aL x0.aB] (fun y (_:Unit)=>[.bool y]) (fun y _=>[]):=by
 refine ct (S:=Unit) (b9 fun _ _=>rfl) Tryz.func67 rfl rfl ?_
 repeat' first
  | (apply Dk.fe; repeat' first | exact rfl | (refine @id.{0} _ ?_; constructor))
  | intro _
  | exact rfl
  | (refine @id.{0} _ ?_; constructor)
  | apply ae4
  | apply aeI
  | exact ()
theorem Ys {x0:aI} {xa:Int} {rc:Int→List Int→List bG→Option (Bool×List Int×List bG)} (ih:∀ {x:Int} {cs:List Int} {st:List bG} {ps po pk pc px pd ph pf pm:Addr} {vk vo:Value} {bo:Nat} {fq fu fv fw fx fy gf gh uo ua:Value},Ct Tryz.prog 148 true (rc x cs st) [.int .i64 x,.pointer (some ps),.pointer (some po),.pointer (some pk),.pointer (some pc),.pointer (some px),.pointer (some pd),.pointer (some ph)] [.row bo [vo] 83,.au ps [.pointer (some pf)],.au pc [.pointer (some (pf.add 5))],.au px [.int .i64 xa],.au pd [.pointer (some pf)],.au pk [vk],.au po [.func (.func 117) #[] #[.pointer (some ⟨bo,0,none⟩),.pointer (some pm)]],.au ph [.func (.func 148) #[] #[.pointer (some ps),.pointer (some po),.pointer (some pk),.pointer (some pc),.pointer (some px),.pointer (some pd),.pointer (some ph)]],.au pm [.int .i64 xa],.au pf [.int .i64 x0.aC.aA,fq,fu,fv,fw,.int .i64 x0.aE.aA,fx,fy,gf,gh,uo,ua],.own (aJ 32 rq) vo st,.own (aJ 2 (aM .i64)) vk cs,rI fq x0.aC.aD,rI fu x0.aC.To,rI fv x0.aC.aH,rJ fw x0.aC.aB,rI fx x0.aE.aD,rI fy x0.aE.To,rI gf x0.aE.aH,rJ gh x0.aE.aB,rI uo x0.aA,rI ua x0.ab] (fun y (_:Value)=>[.bool y.1]) (fun y v=>[.row bo [v] 83,.own (aJ 32 rq) v y.2.2,.own (aJ 2 (aM .i64)) vk y.2.1])) {x:Int} {cs:List Int} {st:List bG} {ps po pk pc px pd ph pf pm:Addr} {vk vo:Value} {bo:Nat} {fq fu fv fw fx fy gf gh uo ua:Value}:Ct Tryz.prog 148 true (nV (fun a0 a1=>eG a0 a1 xa) x0 xa rc x cs st) [.int .i64 x,.pointer (some ps),.pointer (some po),.pointer (some pk),.pointer (some pc),.pointer (some px),.pointer (some pd),.pointer (some ph)] [.row bo [vo] 83,.au ps [.pointer (some pf)],.au pc [.pointer (some (pf.add 5))],.au px [.int .i64 xa],.au pd [.pointer (some pf)],.au pk [vk],.au po [.func (.func 117) #[] #[.pointer (some ⟨bo,0,none⟩),.pointer (some pm)]],.au ph [.func (.func 148) #[] #[.pointer (some ps),.pointer (some po),.pointer (some pk),.pointer (some pc),.pointer (some px),.pointer (some pd),.pointer (some ph)]],.au pm [.int .i64 xa],.au pf [.int .i64 x0.aC.aA,fq,fu,fv,fw,.int .i64 x0.aE.aA,fx,fy,gf,gh,uo,ua],.own (aJ 32 rq) vo st,.own (aJ 2 (aM .i64)) vk cs,rI fq x0.aC.aD,rI fu x0.aC.To,rI fv x0.aC.aH,rJ fw x0.aC.aB,rI fx x0.aE.aD,rI fy x0.aE.To,rI gf x0.aE.aH,rJ gh x0.aE.aB,rI uo x0.aA,rI ua x0.ab] (fun y (_:Value)=>[.bool y.1]) (fun y v=>[.row bo [v] 83,.own (aJ 32 rq) v y.2.2,.own (aJ 2 (aM .i64)) vk y.2.1]):=by
 refine ct (S:=Unit) (b9 fun _ _=>rfl) Tryz.func148 rfl rfl ?_
 repeat' first
  | (apply Dk.fe; repeat' first | exact rfl | (refine @id.{0} _ ?_; constructor))
  | intro _
  | exact rfl
  | (refine @id.{0} _ ?_; constructor)
  | apply Dk.scp
  | apply Dk.lab
  | apply Dk.loop 0 (V:=Value) (fun (s:Int×List Int×List bG) v=>[.row bo [v] 83,.own (aJ 32 rq) v s.2.2,.own (aJ 2 (aM .i64)) vk s.2.1]) (fun s v=>[(36,.int .i64 s.1)]) _ [(0,_),(1,_),(2,_),(3,_),(4,_),(5,_),(6,_),(7,_),(34,_),(35,_)]
  | apply Dk.Sr 2 1 (V:=Unit) (fun (s:Int) _=>[]) (fun s _=>[(49,.int .i64 s)]) () [(0,_),(1,_),(2,_),(3,_),(4,_),(5,_),(6,_),(7,_),(11,_),(34,_),(35,_),(36,_),(47,_),(48,_)] rfl
  | apply Dk.nlx
  | apply Dk.xlx
  | (apply Dk.xlo <;> first | exact rfl | skip)
  | apply Dk.any (id:=3) 12 [] [] [[],[],[],[2],[3,2],[4,3,2],[],[5,4,3,2,6],[7,5,4,3,2,6],[0,1,8,7,5,4,3,2,6],[9,0,1,8,7,5,4,3,2,6],[]] (by kernel_rfl)
  | apply Dk.quiet (id:=10) (by kernel_rfl)
  | apply Dk.quiet (id:=11) (by kernel_rfl)
  | apply ih
  | apply aeL
  | apply Yg
  | apply O4
  | exact ()
theorem Yt {x0:aI} {xa:Int} (n:Nat):∀ {x:Int} {cs:List Int} {st:List bG} {ps po pk pc px pd ph pf pm:Addr} {vk vo:Value} {bo:Nat} {fq fu fv fw fx fy gf gh uo ua:Value},Ct Tryz.prog 148 true (fJ (fun a0 a1=>eG a0 a1 xa) x0 xa n x cs st) [.int .i64 x,.pointer (some ps),.pointer (some po),.pointer (some pk),.pointer (some pc),.pointer (some px),.pointer (some pd),.pointer (some ph)] [.row bo [vo] 83,.au ps [.pointer (some pf)],.au pc [.pointer (some (pf.add 5))],.au px [.int .i64 xa],.au pd [.pointer (some pf)],.au pk [vk],.au po [.func (.func 117) #[] #[.pointer (some ⟨bo,0,none⟩),.pointer (some pm)]],.au ph [.func (.func 148) #[] #[.pointer (some ps),.pointer (some po),.pointer (some pk),.pointer (some pc),.pointer (some px),.pointer (some pd),.pointer (some ph)]],.au pm [.int .i64 xa],.au pf [.int .i64 x0.aC.aA,fq,fu,fv,fw,.int .i64 x0.aE.aA,fx,fy,gf,gh,uo,ua],.own (aJ 32 rq) vo st,.own (aJ 2 (aM .i64)) vk cs,rI fq x0.aC.aD,rI fu x0.aC.To,rI fv x0.aC.aH,rJ fw x0.aC.aB,rI fx x0.aE.aD,rI fy x0.aE.To,rI gf x0.aE.aH,rJ gh x0.aE.aB,rI uo x0.aA,rI ua x0.ab] (fun y (_:Value)=>[.bool y.1]) (fun y v=>[.row bo [v] 83,.own (aJ 32 rq) v y.2.2,.own (aJ 2 (aM .i64)) vk y.2.1]):=by
 induction n with
 | zero=>intros; rw [r6]; exact ⟨(b9 fun _ _=>rfl),fun _ _ _ _ _ _ _ y hy=>nomatch (show none=some y from hy)⟩
 | succ n ih=>exact Ys ih
theorem ae5 {x0:aI} {xa:Int} {x:Int} {cs:List Int} {st:List bG} {ps po pk pc px pd ph pf pm:Addr} {vk vo:Value} {bo:Nat} {fq fu fv fw fx fy gf gh uo ua:Value}:Ct Tryz.prog 148 true (fJ (fun a0 a1=>eG a0 a1 xa) x0 xa 64 x cs st) [.int .i64 x,.pointer (some ps),.pointer (some po),.pointer (some pk),.pointer (some pc),.pointer (some px),.pointer (some pd),.pointer (some ph)] [.row bo [vo] 83,.au ps [.pointer (some pf)],.au pc [.pointer (some (pf.add 5))],.au px [.int .i64 xa],.au pd [.pointer (some pf)],.au pk [vk],.au po [.func (.func 117) #[] #[.pointer (some ⟨bo,0,none⟩),.pointer (some pm)]],.au ph [.func (.func 148) #[] #[.pointer (some ps),.pointer (some po),.pointer (some pk),.pointer (some pc),.pointer (some px),.pointer (some pd),.pointer (some ph)]],.au pm [.int .i64 xa],.au pf [.int .i64 x0.aC.aA,fq,fu,fv,fw,.int .i64 x0.aE.aA,fx,fy,gf,gh,uo,ua],.own (aJ 32 rq) vo st,.own (aJ 2 (aM .i64)) vk cs,rI fq x0.aC.aD,rI fu x0.aC.To,rI fv x0.aC.aH,rJ fw x0.aC.aB,rI fx x0.aE.aD,rI fy x0.aE.To,rI gf x0.aE.aH,rJ gh x0.aE.aB,rI uo x0.aA,rI ua x0.ab] (fun y (_:Value)=>[.bool y.1]) (fun y v=>[.row bo [v] 83,.own (aJ 32 rq) v y.2.2,.own (aJ 2 (aM .i64)) vk y.2.1]):=by
 exact Yt 64
theorem Yu {x0:aI} {xa:Int} {st:List bG} {pf pm:Addr} {vo:Value} {bo:Nat} {fq fu fv fw fx fy gf gh uo ua:Value}:Ct Tryz.prog 116 true (rB (fun a0 a1=>eG a0 a1 xa) x0 xa st) [.pointer (some pf),.int .i64 xa,.func (.func 117) #[] #[.pointer (some ⟨bo,0,none⟩),.pointer (some pm)]] [.row bo [vo] 83,.au pm [.int .i64 xa],.au pf [.int .i64 x0.aC.aA,fq,fu,fv,fw,.int .i64 x0.aE.aA,fx,fy,gf,gh,uo,ua],.own (aJ 32 rq) vo st,rI fq x0.aC.aD,rI fu x0.aC.To,rI fv x0.aC.aH,rJ fw x0.aC.aB,rI fx x0.aE.aD,rI fy x0.aE.To,rI gf x0.aE.aH,rJ gh x0.aE.aB,rI uo x0.aA,rI ua x0.ab] (fun y (_:Value)=>[.bool y.1]) (fun y v=>[.row bo [v] 83,.own (aJ 32 rq) v y.2]):=by
 refine ct (S:=Unit) (b9 fun _ _=>rfl) Tryz.func116 rfl rfl ?_
 repeat' first
  | (apply Dk.fe; repeat' first | exact rfl | (refine @id.{0} _ ?_; constructor))
  | intro _
  | exact rfl
  | (refine @id.{0} _ ?_; constructor)
  | apply Dk.abW (id:=1) [0,1,2,3,4,5] 6 7 8 9 7 8 (by kernel_rfl)
  | apply ae5
  | exact ()
theorem c70 {x0:aI} {aU aZ aQ aO aV bA aR aP bK bP:Value} {x1:(List bG)} {eA:Value} {x2:bG} {lD:Value}:Ct Tryz.prog 70 true (iP x0 x1 x2) [.agg #[.int .i64 (x0.aC.aA),aU,aZ,aQ,aO,.int .i64 (x0.aE.aA),aV,bA,aR,aP,bK,bP],eA,.agg #[.int .i64 (x2.dy),lD]] [rI aU x0.aC.aD,rI aZ x0.aC.To,rI aQ x0.aC.aH,rJ aO x0.aC.aB,rI aV x0.aE.aD,rI bA x0.aE.To,rI aR x0.aE.aH,rJ aP x0.aE.aB,rI bK x0.aA,rI bP x0.ab,.rd false (bJ (iq kp)) eA x1,rI lD x2.br] (fun y (_:Unit)=>[.bool y]) (fun y _=>[]):=by
 refine ct (S:=Unit) (b9 fun _ _=>rfl) Tryz.func70 rfl rfl ?_
 repeat' first
  | (apply Dk.fe; repeat' first | exact rfl | (refine @id.{0} _ ?_; constructor))
  | intro _
  | exact rfl
  | (refine @id.{0} _ ?_; constructor)
  | apply Dk.loop 0 (V:=Unit) (fun (s:Int) v=>[]) (fun s v=>[(7,.int .i64 (s))]) () [(1,_),(3,_),(5,_)]
  | apply Dk.any (id:=4) 6 [] [] [[],[],[],[1,2],[3,1,2],[]] (by kernel_rfl)
  | apply aez
  | exact ()
end Go.Proofs.YtgjbmjjihmfppaaGreat
