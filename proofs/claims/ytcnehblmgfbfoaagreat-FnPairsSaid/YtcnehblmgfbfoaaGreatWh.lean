/- Walks by the calculus D. No condition beside those that each theorem names. -/
import Derived.Test.YtcnehblmgfbfoaaGreatDp
import Derived.Test.YtcnehblmgfbfoaaGreatDi
import Derived.Test.YtcnehblmgfbfoaaGreatMo
import Derived.Test.YtcnehblmgfbfoaaGreatDs
import Derived.Test.YtcnehblmgfbfoaaGreatWa
import Derived.Test.YtcnehblmgfbfoaaGreatWb
import Derived.Test.YtcnehblmgfbfoaaGreatWc
import Derived.Test.YtcnehblmgfbfoaaGreatWd
namespace Go.Proofs.YtcnehblmgfbfoaaGreat
open Go Go.Li Go.Dk
set_option linter.unusedVariables false
set_option maxHeartbeats 16000000
set_option maxRecDepth 100000
theorem aax {x0:Int} {x1:(List Int)} {cH:Value} {x2:(List Int)} {cL:Value}:Ct Tryz.prog 281 false (iY x0 x1 x2) [.int .i64 (x0),cH,cL] [rI cH x1,rI cL x2] (fun y (v:Value)=>[v]) (fun y v=>[.rd false (bE (pU tC)) v y]):=by
 refine ct (S:=Unit) Hk Tryz.func281 rfl rfl ?_
 repeat' first
  | (apply Dk.fe; repeat' first | exact rfl | (refine @id.{0} _ ?_; constructor))
  | intro _
  | exact rfl
  | (refine (id (α:=@Eq (List Value) _ _) ?_); dsimp only; try exact rfl)
  | apply Dk.lgS (t:=285) (S:=tC)
  | apply Dk.lnS (t:=285)
  | apply Dk.ixS (t:=285)
  | apply Dk.apS (t:=285) (bA.mk _ _ _)
  | apply Dk.Oz (n:=3)
  | apply Dk.Mq (n:=3)
  | apply Dk.RP (n:=3)
  | apply Dk.stS (n:=3) (S:=tC) _
  | apply Dk.AD.Q1
  | apply Dk.AD.VP (n:=3)
  | apply Dk.AD.Q2 (n:=3)
  | (refine @id.{0} _ ?_; constructor)
  | apply Dk.B4 0 (V:=Value) (W:=List (List Value)) (fun (s:(List bA)×Int) v u=>[.own (aI 288 (iw 3)) v u,.rd false (tI tC) (.bool true) (u,s.1)]) (fun s v u=>[(7,v),(8,.int .i64 (s.2))]) _ _ [(0,_),(1,_),(2,_)]
  | apply Dk.B4 2 (V:=Value) (W:=List (List Value)) (fun (s:(List bA)×Int) v u=>[.own (aI 288 (iw 3)) v u,.rd false (tI tC) (.bool true) (u,s.1)]) (fun s v u=>[(7,v),(9,.int .i64 (s.2))]) _ _ [(0,_),(1,_),(2,_)]
  | apply Dk.B4 4 (V:=Value) (W:=List (List Value)) (fun (s:(List bA)×Int) v u=>[.own (aI 288 (iw 3)) v u,.rd false (tI tC) (.bool true) (u,s.1)]) (fun s v u=>[(7,v),(10,.int .i64 (s.2))]) _ _ [(0,_),(1,_),(2,_),(9,_)]
  | apply Dk.B4 6 (V:=Value) (W:=List (List Value)) (fun (s:(List bA)×Int) v u=>[.own (aI 288 (iw 3)) v u,.rd false (tI tC) (.bool true) (u,s.1)]) (fun s v u=>[(7,v),(11,.int .i64 (s.2))]) _ _ []
  | apply Dk.B4 8 (V:=Value) (W:=List (List Value)) (fun (s:(List bA)×Int) v u=>[.own (aI 288 (iw 3)) v u,.rd false (tI tC) (.bool true) (u,s.1)]) (fun s v u=>[(7,v),(12,.int .i64 (s.2))]) _ _ [(11,_)]
  | apply Dk.quiet (id:=12) (by kernel_rfl)
  | apply Dk.quiet (id:=18) (by kernel_rfl)
  | apply Dk.any (id:=13) 19 [0] [[],[],[],[],[],[],[],[],[],[],[],[],[],[],[],[],[],[],[15]] [[],[],[],[1,2],[1,2,3],[1,2,3,4],[],[],[6,7],[6,7,8],[],[],[10,11],[10,11,12],[10,11,12,13],[10,11,12,13,14],[],[16],[10,11,12,13,14,15,16,17]] (by kernel_rfl)
  | apply yz
  | apply aae
  | exact ()
theorem aay {x0:Int} {x1:(List Int)} {cH:Value} {x2:(List Int)} {cL:Value}:Ct Tryz.prog 248 true (dD x0 x1 x2) [.int .i64 (x0),cH,cL] [rI cH x1,rI cL x2] (fun y (v:Value×Value×Value×Value)=>[.agg #[.int .i64 y.aA,v.1,v.2.1,v.2.2.1,v.2.2.2]]) (fun y v=>[.own (aI 2 (aL .i64)) v.1 y.aB,.own (aI 2 (aL .i64)) v.2.1 y.To,.own (aI 2 (aL .i64)) v.2.2.1 y.aF,.own (aI 22 (aI 2 (aL .i64))) v.2.2.2 y.aC]):=by
 refine ct (S:=Unit) (cf fun _ _=>rfl) Tryz.func248 rfl rfl ?_
 repeat' first
  | (apply Dk.fe; repeat' first | exact rfl | (refine @id.{0} _ ?_; constructor))
  | intro _
  | exact rfl
  | (refine Dk.ry (t:=83) rfl ?_ ?_)
  | apply Dk.AD.Ds (d:=108)
  | (refine Dk.ry (t:=112) rfl ?_ ?_)
  | (refine @id.{0} _ ?_; constructor)
  | apply Dk.dg 0 (V:=Value×Value) (A:=Nat×Value×Value) (_,_,_) (fun a (s:Int×(List Int)×(List Int)×(List Int)) v=>Dk.pc (fun a0=>Dk.pc (fun a1 a2=>[.row a0 [.int .i64 (x0),v.1,v.2,a1,a2] 31,.own (aI 2 (aL .i64)) a1 s.2.2.2,.own (aI 2 (aL .i64)) v.1 s.2.1,.own (aI 2 (aL .i64)) v.2 s.2.2.1])) a) (fun a s v=>Dk.pc (fun a0=>Dk.pc (fun a1 a2=>[(8,.pointer (some ⟨a0,0,none⟩)),(9,.int .i64 (s.1))])) a) (_,_) [(6,_),(7,_)]
  | apply Dk.dg 2 (V:=Value) (A:=Nat×Value×Value×Value) (_,_,_,_) (fun a (s:Int×(List (List Int))) v=>Dk.pc (fun a0=>Dk.pc (fun a1=>Dk.pc (fun a2 a3=>[.row a0 [.int .i64 (x0),a1,a2,a3,v] 31,.own (aI 22 (aI 2 (aL .i64))) v s.2]))) a) (fun a s v=>Dk.pc (fun a0=>Dk.pc (fun a1=>Dk.pc (fun a2 a3=>[(8,.pointer (some ⟨a0,0,none⟩)),(10,.int .i64 (s.1))]))) a) _ [(6,_),(7,_)]
  | apply Dk.loop 4 (V:=Value) (fun (s:(List Int)×Int) v=>[.own (aI 2 (aL .i64)) v s.1]) (fun s v=>[(11,v),(12,.int .i64 (s.2))]) _ [(6,_),(7,_),(8,_),(10,_)]
  | apply Dk.loop 6 (V:=Unit) (fun (s:Int×Int) v=>[]) (fun s v=>[(13,.int .i64 (s.1)),(15,.int .i64 (s.2))]) () [(6,_),(7,_),(8,_),(10,_),(11,_),(12,_),(14,_)]
  | apply Dk.quiet (id:=20) (by kernel_rfl)
  | apply Dk.quiet (id:=25) (by kernel_rfl)
  | apply Dk.any (id:=6) 8 [] [] [[],[0],[],[],[2,3],[2,3,4],[2,3,4,5],[2,3,4,5,6]] (by kernel_rfl)
  | apply Dk.any (id:=7) 8 [] [] [[],[0],[],[],[2,3],[2,3,4],[2,3,4,5],[2,3,4,5,6]] (by kernel_rfl)
  | apply Dk.any (id:=9) 8 [] [] [[],[0],[],[],[2,3],[2,3,4],[2,3,4,5],[]] (by kernel_rfl)
  | apply Dk.any (id:=21) 11 [] [] [[],[],[0,1],[0,1,2],[0,1,2,3],[0,1,2,3,4],[],[],[6,7],[6,7,8],[6,7,8,9]] (by kernel_rfl)
  | apply aax
  | apply Pe
  | apply yz
  | apply NT
  | exact ()
theorem aaz {x0:(List (List Int))} {cC:Value}:Ct Tryz.prog 249 true (fY x0) [cC] [rJ cC x0] (fun y (v:Value×Value×Value×Value)=>[.agg #[.int .i64 y.aA,v.1,v.2.1,v.2.2.1,v.2.2.2]]) (fun y v=>[.own (aI 2 (aL .i64)) v.1 y.aB,.own (aI 2 (aL .i64)) v.2.1 y.To,.own (aI 2 (aL .i64)) v.2.2.1 y.aF,.own (aI 22 (aI 2 (aL .i64))) v.2.2.2 y.aC]):=by
 refine ct (S:=Unit) (cf fun _ _=>rfl) Tryz.func249 rfl rfl ?_
 repeat' first
  | (apply Dk.fe; repeat' first | exact rfl | (refine @id.{0} _ ?_; constructor))
  | intro _
  | exact rfl
  | (refine @id.{0} _ ?_; constructor)
  | apply Dk.any (id:=2) 7 [] [] [[],[0],[],[2],[],[],[5]] (by kernel_rfl)
  | apply T2
  | exact ()
theorem aaA {x0:aD} {cG:Addr} {aO aR aK aJ:Value}:Ct Tryz.prog 119 true (fJ x0) [.pointer (some (cG))] [.aw cG [.int .i64 (x0.aA),aO,aR,aK,aJ],rI aO x0.aB,rI aR x0.To,rI aK x0.aF,rJ aJ x0.aC] (fun y (v:Value×Value×Value×Value)=>[.agg #[.int .i64 y.aA,v.1,v.2.1,v.2.2.1,v.2.2.2]]) (fun y v=>[.own (aI 2 (aL .i64)) v.1 y.aB,.own (aI 2 (aL .i64)) v.2.1 y.To,.own (aI 2 (aL .i64)) v.2.2.1 y.aF,.own (aI 22 (aI 2 (aL .i64))) v.2.2.2 y.aC]):=by
 refine ct (S:=Unit) (cf fun _ _=>rfl) Tryz.func119 rfl rfl ?_
 repeat' first
  | (apply Dk.fe; repeat' first | exact rfl | (refine @id.{0} _ ?_; constructor))
  | intro _
  | exact rfl
  | (refine @id.{0} _ ?_; constructor)
  | apply Dk.any (id:=1) 24 [] [] [[],[0],[0,1],[0,1,2],[],[4],[4,5],[4,5,6],[4,5,6,7],[],[9],[9,10],[9,10,11],[4,5,6,7,8,9,10,11,12],[],[14],[14,15],[14,15,16],[4,5,6,7,8,9,10,11,12,13,14,15,16,17],[],[19],[19,20],[19,20,21],[4,5,6,7,8,9,10,11,12,13,14,15,16,17,18,19,20,21,22]] (by kernel_rfl)
  | apply H5
  | apply aah
  | exact ()
theorem Ia {x0:aD} {cG:Addr} {aO aR aK aJ:Value} {x1:aD} {iM:Addr} {aT bC aQ aP:Value} {x2:(List Int)} {cL:Value} {x3:(List Int)} {eG:Value}:Ct Tryz.prog 89 true (fK x0 x1 x2 x3) [.pointer (some (cG)),.pointer (some (iM)),cL,eG] [.aw iM [.int .i64 (x1.aA),aT,bC,aQ,aP],.aw cG [.int .i64 (x0.aA),aO,aR,aK,aJ],rI aO x0.aB,rI aR x0.To,rI aK x0.aF,rJ aJ x0.aC,rI aT x1.aB,rI bC x1.To,rI aQ x1.aF,rJ aP x1.aC,rI cL x2,rI eG x3] (fun y (v:Value×Value×Value×Value×Value×Value×Value×Value×Value×Value)=>[.agg #[.int .i64 y.aG.aA,v.1,v.2.1,v.2.2.1,v.2.2.2.1,.int .i64 y.aH.aA,v.2.2.2.2.1,v.2.2.2.2.2.1,v.2.2.2.2.2.2.1,v.2.2.2.2.2.2.2.1,v.2.2.2.2.2.2.2.2.1,v.2.2.2.2.2.2.2.2.2]]) (fun y v=>[.own (aI 2 (aL .i64)) v.1 y.aG.aB,.own (aI 2 (aL .i64)) v.2.1 y.aG.To,.own (aI 2 (aL .i64)) v.2.2.1 y.aG.aF,.own (aI 22 (aI 2 (aL .i64))) v.2.2.2.1 y.aG.aC,.own (aI 2 (aL .i64)) v.2.2.2.2.1 y.aH.aB,.own (aI 2 (aL .i64)) v.2.2.2.2.2.1 y.aH.To,.own (aI 2 (aL .i64)) v.2.2.2.2.2.2.1 y.aH.aF,.own (aI 22 (aI 2 (aL .i64))) v.2.2.2.2.2.2.2.1 y.aH.aC,.own (aI 2 (aL .i64)) v.2.2.2.2.2.2.2.2.1 y.aA,.own (aI 2 (aL .i64)) v.2.2.2.2.2.2.2.2.2 y.ae]):=by
 refine ct (S:=Unit) (cf fun _ _=>rfl) Tryz.func89 rfl rfl ?_
 repeat' first
  | (apply Dk.fe; repeat' first | exact rfl | (refine @id.{0} _ ?_; constructor))
  | intro _
  | exact rfl
  | (refine @id.{0} _ ?_; constructor)
  | apply aaA
  | apply H5
  | exact ()
theorem aaB {x0:aD} {aO aR aK aJ:Value}:Ct Tryz.prog 174 true (lW x0) [.agg #[.int .i64 (x0.aA),aO,aR,aK,aJ]] [rI aO x0.aB,rI aR x0.To,rI aK x0.aF,rJ aJ x0.aC] (fun y (_:Unit)=>[.bool y]) (fun y _=>[]):=by
 refine ct (S:=Unit) (cf fun _ _=>rfl) Tryz.func174 rfl rfl ?_
 repeat' first
  | (apply Dk.fe; repeat' first | exact rfl | (refine @id.{0} _ ?_; constructor))
  | intro _
  | exact rfl
  | (refine Dk.ry (t:=102) rfl ?_ ?_)
  | (refine @id.{0} _ ?_; constructor)
  | apply Dk.loop 0 (V:=Unit) (fun (s:Int) v=>[]) (fun s v=>[(4,.int .i64 (s))]) () [(1,_),(3,_)]
  | apply Dk.loop 2 (V:=Unit) (fun (s:Int) v=>[]) (fun s v=>[(5,.int .i64 (s))]) () [(1,_),(3,_)]
  | apply Dk.loop 4 (V:=Unit) (fun (s:Int) v=>[]) (fun s v=>[(6,.int .i64 (s))]) () [(1,_),(3,_),(5,_)]
  | apply Dk.quiet (id:=9) (by kernel_rfl)
  | apply Dk.quiet (id:=20) (by kernel_rfl)
  | apply Dk.quiet (id:=23) (by kernel_rfl)
  | apply Z8
  | apply aab
  | apply NS
  | exact ()
theorem Ui {x0:aD} {aO aR aK aJ:Value}:Ct Tryz.prog 100 true (jZ x0) [.agg #[.int .i64 (x0.aA),aO,aR,aK,aJ]] [rI aO x0.aB,rI aR x0.To,rI aK x0.aF,rJ aJ x0.aC] (fun y (_:Unit)=>[.bool y]) (fun y _=>[]):=by
 refine ct (S:=Unit) (cf fun _ _=>rfl) Tryz.func100 rfl rfl ?_
 repeat' first
  | (apply Dk.fe; repeat' first | exact rfl | (refine @id.{0} _ ?_; constructor))
  | intro _
  | exact rfl
  | (refine @id.{0} _ ?_; constructor)
  | apply aaB
  | apply Z9
  | exact ()
end Go.Proofs.YtcnehblmgfbfoaaGreat
