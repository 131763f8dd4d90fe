/- Walks by the calculus D. No condition beside those that each theorem names. -/
import Derived.Test.YtgjbmjjihmfppaaGreatDp
import Derived.Test.YtgjbmjjihmfppaaGreatDi
import Derived.Test.YtgjbmjjihmfppaaGreatMo
import Derived.Test.YtgjbmjjihmfppaaGreatDs
namespace Go.Proofs.YtgjbmjjihmfppaaGreat
open Go Go.Li Go.Dk
set_option linter.unusedVariables false
set_option maxHeartbeats 16000000
set_option maxRecDepth 100000
theorem c7 {x0:(List Int)} {dC:Value}:Ct Tryz.prog 7 true (rY x0) [dC] [.rd false (bJ (aM .u8)) dC x0] (fun y (_:Unit)=>[.bool y]) (fun y _=>[]):=by
 refine ct (S:=Unit) (b9 fun _ _=>rfl) Tryz.func7 rfl rfl ?_
 repeat' first
  | (apply Dk.fe; repeat' first | exact rfl | (refine @id.{0} _ ?_; constructor))
  | intro _
  | exact rfl
  | (refine @id.{0} _ ?_; constructor)
  | exact ()
theorem Al {x0:aK} {dB:Nat} {cA:Value} {x1:Int}:Ct Tryz.prog 61 true (bX x0 x1) [.pointer (some (⟨dB,0,none⟩)),.int .i64 (x1)] [.row dB [cA,.int .i64 (x0.At),.int .u64 (x0.aq)] 81,.rd false (bJ (aM .u8)) cA x0.Code] (fun y (_:Unit)=>[.int .i64 y.1]) (fun y _=>[.row dB [cA,.int .i64 y.2.At,.int .u64 y.2.aq] 81]):=by
 refine ct (S:=Unit) (b9 fun _ _=>rfl) Tryz.func61 rfl rfl ?_
 repeat' first
  | (apply Dk.fe; repeat' first | exact rfl | (refine @id.{0} _ ?_; constructor))
  | intro _
  | exact rfl
  | apply Dk.D.ug (d:=13)
  | apply Dk.AD.ug (d:=13)
  | apply Dk.D.ug (d:=14)
  | apply Dk.AD.ug (d:=14)
  | apply Dk.D.ug (d:=21)
  | apply Dk.AD.ug (d:=21)
  | apply Dk.D.ug (d:=22)
  | apply Dk.AD.ug (d:=22)
  | apply Dk.D.ug (d:=57)
  | apply Dk.AD.ug (d:=57)
  | (refine @id.{0} _ ?_; constructor)
  | apply Dk.quiet (id:=5) (by kernel_rfl)
  | apply Dk.quiet (id:=6) (by kernel_rfl)
  | exact ()
theorem aeG {x0:aK} {dB:Nat} {cA:Value} {x1:Int}:Ct Tryz.prog 153 true (jC x0 x1) [.pointer (some (⟨dB,0,none⟩)),.int .i64 (x1)] [.row dB [cA,.int .i64 (x0.At),.int .u64 (x0.aq)] 81,.rd false (bJ (aM .u8)) cA x0.Code] (fun y (v:Value)=>[v]) (fun y v=>[.own (aJ 24 (aJ 2 (aM .i64))) v y.1,.row dB [cA,.int .i64 y.2.At,.int .u64 y.2.aq] 81]):=by
 refine ct (S:=Unit) (b9 fun _ _=>rfl) Tryz.func153 rfl rfl ?_
 repeat' first
  | (apply Dk.fe; repeat' first | exact rfl | (refine @id.{0} _ ?_; constructor))
  | intro _
  | exact rfl
  | (apply Dk.Sk (t:=45); exact rfl)
  | (refine Dk.uP (t:=62) rfl ?_ ?_)
  | (refine Dk.uP (t:=67) rfl ?_ ?_)
  | (refine @id.{0} _ ?_; constructor)
  | apply Dk.loop 0 (V:=Value) (fun (s:(List (List Int))×Int×Int×Int) v=>[.row dB [cA,.int .i64 (s.2.2.1),.int .u64 (s.2.2.2)] 81,.own (aJ 24 (aJ 2 (aM .i64))) v s.1]) (fun s v=>[(5,v),(6,.int .i64 (s.2.1))]) _ [(0,_),(1,_)]
  | apply Dk.j6 2 (V:=Unit) (A:=Value) _ (fun a (s:Int×Int×Int×(List Int)) v=>[.row dB [cA,.int .i64 (s.2.1),.int .u64 (s.2.2.1)] 81,.own (aJ 2 (aM .i64)) a s.2.2.2]) (fun a s v=>[(7,a),(8,.int .i64 (s.1))]) () [(0,_),(1,_),(5,_),(6,_)]
  | apply Dk.j6 4 (V:=Unit) (A:=Value) _ (fun a (s:Int×(List (List Int))) v=>[.own (aJ 24 (aJ 2 (aM .i64))) a s.2]) (fun a s v=>[(5,a),(9,.int .i64 (s.1))]) () [(1,_)]
  | apply Dk.j6 6 (V:=Unit) (A:=Value) _ (fun a (s:Int×(List (List Int))) v=>[.own (aJ 24 (aJ 2 (aM .i64))) a s.2]) (fun a s v=>[(5,a),(10,.int .i64 (s.1))]) () [(1,_),(9,_)]
  | apply Dk.j6 8 (V:=Unit) (A:=Value) _ (fun a (s:Int×(List (List Int))) v=>[.own (aJ 24 (aJ 2 (aM .i64))) a s.2]) (fun a s v=>[(5,a),(11,.int .i64 (s.1))]) () [(1,_),(9,_),(10,_)]
  | apply Dk.xg (id:=13) [Dk.aw.row _ _ 81] 8 [] [[],[],[],[],[],[],[],[10]] [[],[],[1],[0,2,1],[3,0,2,1],[],[],[5,6]] (by kernel_rfl)
  | apply Al
  | exact ()
theorem Yh {x0:aG} {aS aY aN aL:Value}:Ct Tryz.prog 134 true (eI x0) [.agg #[.int .i64 (x0.aA),aS,aY,aN,aL]] [rI aS x0.aD,rI aY x0.To,rI aN x0.aH,rJ aL x0.aB] (fun y (_:Unit)=>[.bool y]) (fun y _=>[]):=by
 refine ct (S:=Unit) (b9 fun _ _=>rfl) Tryz.func134 rfl rfl ?_
 repeat' first
  | (apply Dk.fe; repeat' first | exact rfl | (refine @id.{0} _ ?_; constructor))
  | intro _
  | exact rfl
  | (refine @id.{0} _ ?_; constructor)
  | exact ()
theorem Yi {x0:(List Int)} {dC:Value} {x1:(List Int)} {eA:Value}:Ct Tryz.prog 99 true (eS x0 x1) [dC,eA] [rI dC x0,rI eA x1] (fun y (_:Unit)=>[.bool y]) (fun y _=>[]):=by
 refine ct (S:=Unit) (b9 fun _ _=>rfl) Tryz.func99 rfl rfl ?_
 repeat' first
  | (apply Dk.fe; repeat' first | exact rfl | (refine @id.{0} _ ?_; constructor))
  | intro _
  | exact rfl
  | (refine @id.{0} _ ?_; constructor)
  | apply Dk.loop 0 (V:=Unit) (fun (s:Int) v=>[]) (fun s v=>[(5,.int .i64 (s))]) () [(0,_),(1,_)]
  | apply Dk.quiet (id:=6) (by kernel_rfl)
  | exact ()
theorem Yj {x0:aK} {dB:Nat} {cA:Value}:Ct Tryz.prog 138 true (gK x0) [.pointer (some (⟨dB,0,none⟩))] [.row dB [cA,.int .i64 (x0.At),.int .u64 (x0.aq)] 81,.rd false (bJ (aM .u8)) cA x0.Code] (fun y (v:Value)=>[v]) (fun y v=>[.own (aJ 24 (aJ 2 (aM .i64))) v y.1,.row dB [cA,.int .i64 y.2.At,.int .u64 y.2.aq] 81]):=by
 refine ct (S:=Unit) (b9 fun _ _=>rfl) Tryz.func138 rfl rfl ?_
 repeat' first
  | (apply Dk.fe; repeat' first | exact rfl | (refine @id.{0} _ ?_; constructor))
  | intro _
  | exact rfl
  | apply Dk.D.D3 (d:=2) (x:=.tmp 8)
  | apply Dk.D.D3 (d:=2) (x:=.tmp 13)
  | apply Dk.D.D3 (d:=2) (x:=.tmp 18)
  | apply Dk.D.D3 (d:=2) (x:=.tmp 24)
  | apply Dk.D.D3 (d:=2) (x:=.tmp 30)
  | apply Dk.D.D3 (d:=2) (x:=.tmp 36)
  | apply Dk.D.D3 (d:=2) (x:=.tmp 43)
  | apply Dk.D.D3 (d:=2) (x:=.tmp 47)
  | (refine @id.{0} _ ?_; constructor)
  | apply Al
  | exact ()
theorem aeH {x0:aK} {dB:Nat} {cA:Value} {x1:(List Int)} {eA:Value}:Ct Tryz.prog 135 true (pD x0 x1) [.pointer (some (⟨dB,0,none⟩)),eA] [.row dB [cA,.int .i64 (x0.At),.int .u64 (x0.aq)] 81,.rd false (bJ (aM .u8)) cA x0.Code,rI eA x1] (fun y (_:Unit)=>[.int .i64 y.1]) (fun y _=>[.row dB [cA,.int .i64 y.2.At,.int .u64 y.2.aq] 81]):=by
 refine ct (S:=Unit) (b9 fun _ _=>rfl) Tryz.func135 rfl rfl ?_
 repeat' first
  | (apply Dk.fe; repeat' first | exact rfl | (refine @id.{0} _ ?_; constructor))
  | intro _
  | exact rfl
  | (refine @id.{0} _ ?_; constructor)
  | apply Al
  | exact ()
theorem aeI {x0:aG} {aS aY aN aL:Value}:Ct Tryz.prog 107 true (nU x0) [.agg #[.int .i64 (x0.aA),aS,aY,aN,aL]] [rI aS x0.aD,rI aY x0.To,rI aN x0.aH,rJ aL x0.aB] (fun y (_:Unit)=>[.int .i64 y.1,.int .i64 y.2.1,.int .i64 y.2.2.1,.int .i64 y.2.2.2]) (fun y _=>[]):=by
 refine ct (S:=Unit) (b9 fun _ _=>rfl) Tryz.func107 rfl rfl ?_
 repeat' first
  | (apply Dk.fe; repeat' first | exact rfl | (refine @id.{0} _ ?_; constructor))
  | intro _
  | exact rfl
  | (refine Dk.uP (t:=65) rfl ?_ ?_)
  | (refine Dk.uP (t:=81) rfl ?_ ?_)
  | (refine @id.{0} _ ?_; constructor)
  | apply Dk.loop 0 (V:=Unit) (fun (s:Int) v=>[]) (fun s v=>[(7,.int .i64 (s))]) () [(1,_),(6,_)]
  | apply Dk.loop 2 (V:=Unit) (fun (s:Int) v=>[]) (fun s v=>[(8,.int .i64 (s))]) () [(1,_),(6,_)]
  | apply Dk.loop 4 (V:=Unit) (fun (s:Int) v=>[]) (fun s v=>[(9,.int .i64 (s))]) () [(1,_),(6,_),(8,_)]
  | apply Dk.loop 6 (V:=Unit) (fun (s:Int) v=>[]) (fun s v=>[(10,.int .i64 (s))]) () [(1,_),(6,_),(8,_),(9,_)]
  | apply Dk.quiet (id:=5) (by kernel_rfl)
  | apply Dk.quiet (id:=13) (by kernel_rfl)
  | apply Dk.quiet (id:=17) (by kernel_rfl)
  | exact ()
theorem aeJ {x0:(List Int)} {dC:Value} {x1:(List Int)} {eA:Value}:Ct Tryz.prog 129 true (qT x0 x1) [dC,eA] [rI dC x0,rI eA x1] (fun y (_:Unit)=>[.int .i64 y]) (fun y _=>[]):=by
 refine ct (S:=Unit) (b9 fun _ _=>rfl) Tryz.func129 rfl rfl ?_
 repeat' first
  | (apply Dk.fe; repeat' first | exact rfl | (refine @id.{0} _ ?_; constructor))
  | intro _
  | exact rfl
  | (refine @id.{0} _ ?_; constructor)
  | apply Dk.loop 0 (V:=Unit) (fun (s:Int) v=>[]) (fun s v=>[(8,.int .i64 (s))]) () [(0,_),(1,_),(7,_)]
  | apply Dk.quiet (id:=6) (by kernel_rfl)
  | apply Dk.quiet (id:=7) (by kernel_rfl)
  | exact ()
theorem c97 {x0:(List Int)} {dC:Value} {x1:(List Int)} {eA:Value}:Ct Tryz.prog 97 true (mM x0 x1) [dC,eA] [rI dC x0,rI eA x1] (fun y (_:Unit)=>[.bool y]) (fun y _=>[]):=by
 refine ct (S:=Unit) (b9 fun _ _=>rfl) Tryz.func97 rfl rfl ?_
 repeat' first
  | (apply Dk.fe; repeat' first | exact rfl | (refine @id.{0} _ ?_; constructor))
  | intro _
  | exact rfl
  | (refine @id.{0} _ ?_; constructor)
  | apply aeJ
  | exact ()
theorem JF {x0:(List Int)} {dC:Value}:Ct Tryz.prog 112 true (eP x0) [dC] [rI dC x0] (fun y (v:Value)=>[v]) (fun y v=>[.own (aJ 2 (aM .i64)) v y]):=by
 refine ct (S:=Unit) (b9 fun _ _=>rfl) Tryz.func112 rfl rfl ?_
 repeat' first
  | (apply Dk.fe; repeat' first | exact rfl | (refine @id.{0} _ ?_; constructor))
  | intro _
  | exact rfl
  | (refine @id.{0} _ ?_; constructor)
  | exact ()
theorem aeK {x0:(List (List Int))} {dC:Value}:Ct Tryz.prog 147 true (qH x0) [dC] [rJ dC x0] (fun y (v:Value)=>[v]) (fun y v=>[.own (aJ 24 (aJ 2 (aM .i64))) v y]):=by
 refine ct (S:=Unit) (b9 fun _ _=>rfl) Tryz.func147 rfl rfl ?_
 repeat' first
  | (apply Dk.fe; repeat' first | exact rfl | (refine @id.{0} _ ?_; constructor))
  | intro _
  | exact rfl
  | (refine @id.{0} _ ?_; constructor)
  | apply Dk.loop 0 (V:=Value) (fun (s:(List (List Int))×Int) v=>[.own (aJ 24 (aJ 2 (aM .i64))) v s.1]) (fun s v=>[(3,v),(11,.int .i64 (s.2))]) _ [(9,_),(10,_)]
  | apply JF
  | exact ()
theorem aeL {x0:List Int} {v0:Value} {x1:List bG} {bo:Nat} {vo:Value} {xm:Int} {pm:Addr}:Ct Tryz.prog 117 true (eG x0 x1 xm) [v0,.pointer (some ⟨bo,0,none⟩),.pointer (some pm)] [.row bo [vo] 83,.au pm [.int .i64 xm],.own (aJ 32 rq) vo x1,rI v0 x0] (fun y (_:Value)=>[.bool y.1]) (fun y v=>[.row bo [v] 83,.own (aJ 32 rq) v y.2]):=by
 refine ct (S:=Unit) (b9 fun _ _=>rfl) Tryz.func117 rfl rfl ?_
 repeat' first
  | (apply Dk.fe; repeat' first | exact rfl | (refine @id.{0} _ ?_; constructor))
  | intro _
  | exact rfl
  | apply Dk.apO (t:=83) (S:=rq) (bG.mk _ _)
  | apply Dk.AD.ZQ (n:=2)
  | apply Dk.NJ (t:=83)
  | (refine @id.{0} _ ?_; constructor)
  | apply Dk.any (id:=1) 6 [] [] [[],[],[],[2],[1,3,2],[4,1,3,2]] (by kernel_rfl)
  | apply JF
  | exact ()
theorem aeM {x0:(List (List Int))} {dC:Value} {x1:(List (List Int))} {eA:Value}:Ct Tryz.prog 126 true (qO x0 x1) [dC,eA] [rJ dC x0,rJ eA x1] (fun y (_:Unit)=>[.bool y]) (fun y _=>[]):=by
 refine ct (S:=Unit) (b9 fun _ _=>rfl) Tryz.func126 rfl rfl ?_
 repeat' first
  | (apply Dk.fe; repeat' first | exact rfl | (refine @id.{0} _ ?_; constructor))
  | intro _
  | exact rfl
  | (refine @id.{0} _ ?_; constructor)
  | apply Dk.loop 0 (V:=Unit) (fun (s:Int) v=>[]) (fun s v=>[(5,.int .i64 (s))]) () [(0,_),(1,_)]
  | apply Dk.quiet (id:=6) (by kernel_rfl)
  | apply Yi
  | exact ()
theorem Yk {x0:(List Int)} {dC:Value} {x1:(List Int)} {eA:Value}:Ct Tryz.prog 127 true (lA x0 x1) [dC,eA] [rI dC x0,rI eA x1] (fun y (v:Value)=>[v]) (fun y v=>[.own (aJ 2 (aM .i64)) v y]):=by
 refine ct (S:=Unit) (b9 fun _ _=>rfl) Tryz.func127 rfl rfl ?_
 repeat' first
  | (apply Dk.fe; repeat' first | exact rfl | (refine @id.{0} _ ?_; constructor))
  | intro _
  | exact rfl
  | (refine @id.{0} _ ?_; constructor)
  | apply Dk.loop 0 (V:=Value) (fun (s:(List Int)×Int) v=>[.own (aJ 2 (aM .i64)) v s.1]) (fun s v=>[(5,v),(6,.int .i64 (s.2))]) _ [(0,_),(1,_)]
  | exact ()
theorem c89 {x0:bG} {lE:Value} {x1:aI} {bV cB bL bE bW cC bN bF cM cQ:Value}:Ct Tryz.prog 89 true (nY x0 x1) [.agg #[.int .i64 (x0.dy),lE],.agg #[.int .i64 (x1.aC.aA),bV,cB,bL,bE,.int .i64 (x1.aE.aA),bW,cC,bN,bF,cM,cQ]] [rI lE x0.br,rI bV x1.aC.aD,rI cB x1.aC.To,rI bL x1.aC.aH,rJ bE x1.aC.aB,rI bW x1.aE.aD,rI cC x1.aE.To,rI bN x1.aE.aH,rJ bF x1.aE.aB,rI cM x1.aA,rI cQ x1.ab] (fun y (v:Value)=>[.agg #[.int .i64 y.dy,v]]) (fun y v=>[.own (aJ 2 (aM .i64)) v y.br]):=by
 refine ct (S:=Unit) (b9 fun _ _=>rfl) Tryz.func89 rfl rfl ?_
 repeat' first
  | (apply Dk.fe; repeat' first | exact rfl | (refine @id.{0} _ ?_; constructor))
  | intro _
  | exact rfl
  | (refine @id.{0} _ ?_; constructor)
  | apply Dk.any (id:=1) 11 [] [] [[],[0],[],[2],[1,0,3,2],[4,1,0,3,2],[],[6],[],[8],[7,6,9,8]] (by kernel_rfl)
  | apply Yk
  | exact ()
end Go.Proofs.YtgjbmjjihmfppaaGreat
