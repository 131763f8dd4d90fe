/- Walks by the calculus D. No condition beside those that each theorem names. -/
import Derived.Test.YtgjbmjjihmfppaaGreatDp
import Derived.Test.YtgjbmjjihmfppaaGreatDi
import Derived.Test.YtgjbmjjihmfppaaGreatMo
import Derived.Test.YtgjbmjjihmfppaaGreatDs
namespace Go.Proofs.YtgjbmjjihmfppaaGreat
open Go Go.Li Go.Dk
set_option linter.unusedVariables false
set_option maxHeartbeats 16000000
set_option maxRecDepth 100000
theorem AL {x0:aK} {dC:Nat} {cA:Value} {x1:Int}:Ct Tryz.prog 61 true (bX x0 x1) [.pointer (some (⟨dC,0,none⟩)),.int .i64 (x1)] [.row dC [cA,.int .i64 (x0.At),.int .u64 (x0.au)] 81,.rd false (bL (aM .u8)) cA x0.Code] (fun y (_:Unit)=>[.int .i64 y.1]) (fun y _=>[.row dC [cA,.int .i64 y.2.At,.int .u64 y.2.au] 81]):=by
 refine ct (S:=Unit) (ca fun _ _=>rfl) Tryz.func61 rfl rfl ?_
 repeat' first
  | (apply Dk.fe; repeat' first | exact rfl | (refine @id.{0} _ ?_; constructor))
  | intro _
  | exact rfl
  | apply Dk.D.uG (d:=13)
  | apply Dk.AD.uG (d:=13)
  | apply Dk.D.uG (d:=14)
  | apply Dk.AD.uG (d:=14)
  | apply Dk.D.uG (d:=21)
  | apply Dk.AD.uG (d:=21)
  | apply Dk.D.uG (d:=22)
  | apply Dk.AD.uG (d:=22)
  | apply Dk.D.uG (d:=57)
  | apply Dk.AD.uG (d:=57)
  | (refine @id.{0} _ ?_; constructor)
  | apply Dk.quiet (id:=5) (by kernel_rfl)
  | apply Dk.quiet (id:=6) (by kernel_rfl)
  | exact ()
theorem afj {x0:aK} {dC:Nat} {cA:Value} {x1:Int}:Ct Tryz.prog 153 true (iV x0 x1) [.pointer (some (⟨dC,0,none⟩)),.int .i64 (x1)] [.row dC [cA,.int .i64 (x0.At),.int .u64 (x0.au)] 81,.rd false (bL (aM .u8)) cA x0.Code] (fun y (v:Value)=>[v]) (fun y v=>[.own (aJ 24 (aJ 2 (aM .i64))) v y.1,.row dC [cA,.int .i64 y.2.At,.int .u64 y.2.au] 81]):=by
 refine ct (S:=Unit) (ca fun _ _=>rfl) Tryz.func153 rfl rfl ?_
 repeat' first
  | (apply Dk.fe; repeat' first | exact rfl | (refine @id.{0} _ ?_; constructor))
  | intro _
  | exact rfl
  | (apply Dk.N8 (t:=45); exact rfl)
  | (refine Dk.ve (t:=62) rfl ?_ ?_)
  | (refine Dk.ve (t:=67) rfl ?_ ?_)
  | (refine @id.{0} _ ?_; constructor)
  | apply Dk.loop 0 (V:=Value) (fun (s:(List (List Int))×Int×Int×Int) v=>[.row dC [cA,.int .i64 (s.2.2.1),.int .u64 (s.2.2.2)] 81,.own (aJ 24 (aJ 2 (aM .i64))) v s.1]) (fun s v=>[(5,v),(6,.int .i64 (s.2.1))]) _ [(0,_),(1,_)]
  | apply Dk.jr 2 (V:=Unit) (A:=Value) _ (fun a (s:Int×Int×Int×(List Int)) v=>[.row dC [cA,.int .i64 (s.2.1),.int .u64 (s.2.2.1)] 81,.own (aJ 2 (aM .i64)) a s.2.2.2]) (fun a s v=>[(7,a),(8,.int .i64 (s.1))]) () [(0,_),(1,_),(5,_),(6,_)]
  | apply Dk.jr 4 (V:=Unit) (A:=Value) _ (fun a (s:Int×(List (List Int))) v=>[.own (aJ 24 (aJ 2 (aM .i64))) a s.2]) (fun a s v=>[(5,a),(9,.int .i64 (s.1))]) () [(1,_)]
  | apply Dk.jr 6 (V:=Unit) (A:=Value) _ (fun a (s:Int×(List (List Int))) v=>[.own (aJ 24 (aJ 2 (aM .i64))) a s.2]) (fun a s v=>[(5,a),(10,.int .i64 (s.1))]) () [(1,_),(9,_)]
  | apply Dk.jr 8 (V:=Unit) (A:=Value) _ (fun a (s:Int×(List (List Int))) v=>[.own (aJ 24 (aJ 2 (aM .i64))) a s.2]) (fun a s v=>[(5,a),(11,.int .i64 (s.1))]) () [(1,_),(9,_),(10,_)]
  | apply Dk.xD (id:=13) [Dk.aX.row _ _ 81] 8 [] [[],[],[],[],[],[],[],[10]] [[],[],[1],[0,2,1],[3,0,2,1],[],[],[5,6]] (by kernel_rfl)
  | apply AL
  | exact ()
theorem YT {x0:aG} {aU bB aN aL:Value}:Ct Tryz.prog 134 true (eI x0) [.agg #[.int .i64 (x0.aA),aU,bB,aN,aL]] [rI aU x0.aE,rI bB x0.To,rI aN x0.aH,rJ aL x0.aB] (fun y (_:Unit)=>[.bool y]) (fun y _=>[]):=by
 refine ct (S:=Unit) (ca fun _ _=>rfl) Tryz.func134 rfl rfl ?_
 repeat' first
  | (apply Dk.fe; repeat' first | exact rfl | (refine @id.{0} _ ?_; constructor))
  | intro _
  | exact rfl
  | (refine @id.{0} _ ?_; constructor)
  | exact ()
theorem YU {x0:aK} {dC:Nat} {cA:Value}:Ct Tryz.prog 138 true (gF x0) [.pointer (some (⟨dC,0,none⟩))] [.row dC [cA,.int .i64 (x0.At),.int .u64 (x0.au)] 81,.rd false (bL (aM .u8)) cA x0.Code] (fun y (v:Value)=>[v]) (fun y v=>[.own (aJ 24 (aJ 2 (aM .i64))) v y.1,.row dC [cA,.int .i64 y.2.At,.int .u64 y.2.au] 81]):=by
 refine ct (S:=Unit) (ca fun _ _=>rfl) Tryz.func138 rfl rfl ?_
 repeat' first
  | (apply Dk.fe; repeat' first | exact rfl | (refine @id.{0} _ ?_; constructor))
  | intro _
  | exact rfl
  | apply Dk.D.En (d:=2) (x:=.tmp 8)
  | apply Dk.D.En (d:=2) (x:=.tmp 13)
  | apply Dk.D.En (d:=2) (x:=.tmp 18)
  | apply Dk.D.En (d:=2) (x:=.tmp 24)
  | apply Dk.D.En (d:=2) (x:=.tmp 30)
  | apply Dk.D.En (d:=2) (x:=.tmp 36)
  | apply Dk.D.En (d:=2) (x:=.tmp 43)
  | apply Dk.D.En (d:=2) (x:=.tmp 47)
  | (refine @id.{0} _ ?_; constructor)
  | apply AL
  | exact ()
theorem afk {x0:aK} {dC:Nat} {cA:Value} {x1:(List Int)} {dX:Value}:Ct Tryz.prog 135 true (oX x0 x1) [.pointer (some (⟨dC,0,none⟩)),dX] [.row dC [cA,.int .i64 (x0.At),.int .u64 (x0.au)] 81,.rd false (bL (aM .u8)) cA x0.Code,rI dX x1] (fun y (_:Unit)=>[.int .i64 y.1]) (fun y _=>[.row dC [cA,.int .i64 y.2.At,.int .u64 y.2.au] 81]):=by
 refine ct (S:=Unit) (ca fun _ _=>rfl) Tryz.func135 rfl rfl ?_
 repeat' first
  | (apply Dk.fe; repeat' first | exact rfl | (refine @id.{0} _ ?_; constructor))
  | intro _
  | exact rfl
  | (refine @id.{0} _ ?_; constructor)
  | apply AL
  | exact ()
theorem JU {x0:(List Int)} {cX:Value}:Ct Tryz.prog 112 true (eS x0) [cX] [rI cX x0] (fun y (v:Value)=>[v]) (fun y v=>[.own (aJ 2 (aM .i64)) v y]):=by
 refine ct (S:=Unit) (ca fun _ _=>rfl) Tryz.func112 rfl rfl ?_
 repeat' first
  | (apply Dk.fe; repeat' first | exact rfl | (refine @id.{0} _ ?_; constructor))
  | intro _
  | exact rfl
  | (refine @id.{0} _ ?_; constructor)
  | exact ()
theorem afl {x0:(List (List Int))} {cX:Value}:Ct Tryz.prog 147 true (qF x0) [cX] [rJ cX x0] (fun y (v:Value)=>[v]) (fun y v=>[.own (aJ 24 (aJ 2 (aM .i64))) v y]):=by
 refine ct (S:=Unit) (ca fun _ _=>rfl) Tryz.func147 rfl rfl ?_
 repeat' first
  | (apply Dk.fe; repeat' first | exact rfl | (refine @id.{0} _ ?_; constructor))
  | intro _
  | exact rfl
  | (refine @id.{0} _ ?_; constructor)
  | apply Dk.loop 0 (V:=Value) (fun (s:(List (List Int))×Int) v=>[.own (aJ 24 (aJ 2 (aM .i64))) v s.1]) (fun s v=>[(3,v),(11,.int .i64 (s.2))]) _ [(9,_),(10,_)]
  | apply JU
  | exact ()
theorem afm {x0:List Int} {v0:Value} {x1:List aZ} {bo:Nat} {vo:Value} {xm:Int} {pm:Addr}:Ct Tryz.prog 117 true (eH x0 x1 xm) [v0,.pointer (some ⟨bo,0,none⟩),.pointer (some pm)] [.row bo [vo] 83,.ay pm [.int .i64 xm],.own (aJ 32 ru) vo x1,rI v0 x0] (fun y (_:Value)=>[.bool y.1]) (fun y v=>[.row bo [v] 83,.own (aJ 32 ru) v y.2]):=by
 refine ct (S:=Unit) (ca fun _ _=>rfl) Tryz.func117 rfl rfl ?_
 repeat' first
  | (apply Dk.fe; repeat' first | exact rfl | (refine @id.{0} _ ?_; constructor))
  | intro _
  | exact rfl
  | apply Dk.apO (t:=83) (S:=ru) (aZ.mk _ _)
  | apply Dk.AD.mls (n:=2)
  | apply Dk.N9 (t:=83)
  | (refine @id.{0} _ ?_; constructor)
  | apply Dk.any (id:=1) 6 [] [] [[],[],[],[2],[1,3,2],[4,1,3,2]] (by kernel_rfl)
  | apply JU
  | exact ()
theorem afn {x0:(List (List Int))} {cX:Value}:Ct Tryz.prog 128 true (sH x0) [cX] [rJ cX x0] (fun y (_:Unit)=>[.string y]) (fun y _=>[]):=by
 refine ct (S:=Unit) (ca fun _ _=>rfl) Tryz.func128 rfl rfl ?_
 repeat' first
  | (apply Dk.fe; repeat' first | exact rfl | (refine @id.{0} _ ?_; constructor))
  | intro _
  | exact rfl
  | (refine @id.{0} _ ?_; constructor)
  | apply Dk.loop 0 (V:=Value) (fun (s:(List Int)×Int) v=>[.own (aJ 5 (aM .u8)) v s.1]) (fun s v=>[(3,v),(11,.int .i64 (s.2))]) _ [(9,_),(10,_)]
  | apply Dk.loop 2 (V:=Value) (fun (s:(List Int)×Int) v=>[.own (aJ 5 (aM .u8)) v s.1]) (fun s v=>[(3,v),(17,.int .i64 (s.2))]) _ [(9,_),(10,_),(11,_),(15,_),(16,_)]
  | exact ()
theorem c91 {x0:aZ} {kY:Value}:Ct Tryz.prog 91 true (kR x0) [.agg #[.int .i64 (x0.cn),kY]] [rI kY x0.bb] (fun y (_:Unit)=>[.string y]) (fun y _=>[]):=by
 refine ct (S:=Unit) (ca fun _ _=>rfl) Tryz.func91 rfl rfl ?_
 repeat' first
  | (apply Dk.fe; repeat' first | exact rfl | (refine @id.{0} _ ?_; constructor))
  | intro _
  | exact rfl
  | (refine @id.{0} _ ?_; constructor)
  | apply afn
  | exact ()
theorem YV {x0:(List Int)} {cX:Value} {x1:(List Int)} {dX:Value}:Ct Tryz.prog 127 true (kS x0 x1) [cX,dX] [rI cX x0,rI dX x1] (fun y (v:Value)=>[v]) (fun y v=>[.own (aJ 2 (aM .i64)) v y]):=by
 refine ct (S:=Unit) (ca fun _ _=>rfl) Tryz.func127 rfl rfl ?_
 repeat' first
  | (apply Dk.fe; repeat' first | exact rfl | (refine @id.{0} _ ?_; constructor))
  | intro _
  | exact rfl
  | (refine @id.{0} _ ?_; constructor)
  | apply Dk.loop 0 (V:=Value) (fun (s:(List Int)×Int) v=>[.own (aJ 2 (aM .i64)) v s.1]) (fun s v=>[(5,v),(6,.int .i64 (s.2))]) _ [(0,_),(1,_)]
  | exact ()
theorem afo {x0:aI} {aS aV aQ aO aT aW aR aP bC bG:Value} {x1:aI} {bV cB bN bH bW cC bP bI cL cQ:Value} {x2:(List Int)} {eC:Value} {x3:Int}:Ct Tryz.prog 165 true (iU x0 x1 x2 x3) [.agg #[.int .i64 (x0.aC.aA),aS,aV,aQ,aO,.int .i64 (x0.aD.aA),aT,aW,aR,aP,bC,bG],.agg #[.int .i64 (x1.aC.aA),bV,cB,bN,bH,.int .i64 (x1.aD.aA),bW,cC,bP,bI,cL,cQ],eC,.int .i64 (x3)] [rI aS x0.aC.aE,rI aV x0.aC.To,rI aQ x0.aC.aH,rJ aO x0.aC.aB,rI aT x0.aD.aE,rI aW x0.aD.To,rI aR x0.aD.aH,rJ aP x0.aD.aB,rI bC x0.aA,rI bG x0.ab,rI bV x1.aC.aE,rI cB x1.aC.To,rI bN x1.aC.aH,rJ bH x1.aC.aB,rI bW x1.aD.aE,rI cC x1.aD.To,rI bP x1.aD.aH,rJ bI x1.aD.aB,rI cL x1.aA,rI cQ x1.ab,rI eC x2] (fun y (_:Unit)=>[.bool y]) (fun y _=>[]):=by
 refine ct (S:=Unit) (ca fun _ _=>rfl) Tryz.func165 rfl rfl ?_
 repeat' first
  | (apply Dk.fe; repeat' first | exact rfl | (refine @id.{0} _ ?_; constructor))
  | intro _
  | exact rfl
  | (refine @id.{0} _ ?_; constructor)
  | apply Dk.quiet (id:=2) (by kernel_rfl)
  | apply Dk.any (id:=1) 7 [] [[],[],[],[],[],[],[4]] [[],[0],[],[2],[],[],[4,1,0,0,1,0,4,5]] (by kernel_rfl)
  | exact ()
theorem c89 {x0:aZ} {kY:Value} {x1:aI} {bV cB bN bH bW cC bP bI cL cQ:Value}:Ct Tryz.prog 89 true (nS x0 x1) [.agg #[.int .i64 (x0.cn),kY],.agg #[.int .i64 (x1.aC.aA),bV,cB,bN,bH,.int .i64 (x1.aD.aA),bW,cC,bP,bI,cL,cQ]] [rI kY x0.bb,rI bV x1.aC.aE,rI cB x1.aC.To,rI bN x1.aC.aH,rJ bH x1.aC.aB,rI bW x1.aD.aE,rI cC x1.aD.To,rI bP x1.aD.aH,rJ bI x1.aD.aB,rI cL x1.aA,rI cQ x1.ab] (fun y (v:Value)=>[.agg #[.int .i64 y.cn,v]]) (fun y v=>[.own (aJ 2 (aM .i64)) v y.bb]):=by
 refine ct (S:=Unit) (ca fun _ _=>rfl) Tryz.func89 rfl rfl ?_
 repeat' first
  | (apply Dk.fe; repeat' first | exact rfl | (refine @id.{0} _ ?_; constructor))
  | intro _
  | exact rfl
  | (refine @id.{0} _ ?_; constructor)
  | apply Dk.any (id:=1) 11 [] [] [[],[0],[],[2],[1,0,3,2],[4,1,0,3,2],[],[6],[],[8],[7,6,9,8]] (by kernel_rfl)
  | apply YV
  | exact ()
theorem afp {x0:(List Bool)} {cX:Value}:Ct Tryz.prog 152 true (qH x0) [cX] [.rd false (bL r6) cX x0] (fun y (v:Value)=>[v]) (fun y v=>[.own (aJ 2 (aM .i64)) v y]):=by
 refine ct (S:=Unit) (ca fun _ _=>rfl) Tryz.func152 rfl rfl ?_
 repeat' first
  | (apply Dk.fe; repeat' first | exact rfl | (refine @id.{0} _ ?_; constructor))
  | intro _
  | exact rfl
  | (refine @id.{0} _ ?_; constructor)
  | apply Dk.loop 0 (V:=Value) (fun (s:(List Int)×Int) v=>[.own (aJ 2 (aM .i64)) v s.1]) (fun s v=>[(3,v),(9,.int .i64 (s.2))]) _ [(7,_),(8,_)]
  | exact ()
theorem afq {x0:Int} {x1:(List Int)} {dX:Value}:Ct Tryz.prog 130 true (qW x0 x1) [.int .i64 (x0),dX] [rI dX x1] (fun y (v:Value)=>[v]) (fun y v=>[.own (aJ 2 (aM .i64)) v y]):=by
 refine ct (S:=Unit) (ca fun _ _=>rfl) Tryz.func130 rfl rfl ?_
 repeat' first
  | (apply Dk.fe; repeat' first | exact rfl | (refine @id.{0} _ ?_; constructor))
  | intro _
  | exact rfl
  | (refine @id.{0} _ ?_; constructor)
  | apply Dk.jr 0 (V:=Unit) (A:=Value) _ (fun a (s:Int×(List Bool)) v=>[.own (aJ 4 r6) a s.2]) (fun a s v=>[(5,a),(12,.int .i64 (s.1))]) () [(10,_),(11,_)]
  | apply afp
  | exact ()
end Go.Proofs.YtgjbmjjihmfppaaGreat
