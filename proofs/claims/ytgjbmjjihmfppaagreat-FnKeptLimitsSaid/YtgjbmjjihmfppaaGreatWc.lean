/- Walks by the calculus D. No condition beside those that each theorem names. -/
import Derived.Test.YtgjbmjjihmfppaaGreatDi
import Derived.Test.YtgjbmjjihmfppaaGreatMo
import Derived.Test.YtgjbmjjihmfppaaGreatDp
import Derived.Test.YtgjbmjjihmfppaaGreatDs
namespace Go.Proofs.YtgjbmjjihmfppaaGreat
open Go Go.Li Go.Dk
set_option linter.unusedVariables false
set_option maxHeartbeats 16000000
set_option maxRecDepth 100000
theorem c34 {x0:(List Int)} {cY:Value}:Ct Tryz.prog 34 true (oM x0) [cY] [.rd false (aB (aC .u8)) cY x0] (fun y (v:Nat)=>[(match y with | none=>Value.pointer none | some _=>.pointer (some (⟨v,0,none⟩)))]) (fun y v=>match y with | none=>[] | some m0=>[.row v [cY,.int .i64 (m0.At),.int .u64 (m0.ao)] 81]):=by
 refine ct (S:=Unit) (by intro _ y v; obtain _ | _:=y <;> rfl) Tryz.func34 rfl rfl ?_
 repeat' first
  | ((first | show Dk.ER _ _ _ | show Dk.ba _ _ | show Dk.EF _ _ _ | show Dk.EO _ _ _ | show Dk.EP _ _ | show Dk.aX _ _ _ _ | show Dk.aq _ _ _ _ | show Dk.Kp _ _ _ _ | show Dk.bn _ _ | show Dk.bb _ _ _ _); repeat' first | exact rfl | (refine @id.{0} _ ?_; constructor))
  | intro _
  | exact rfl
  | apply Dk.D.tE (d:=9)
  | apply Dk.AD.tE (d:=9)
  | apply Dk.D.tE (d:=27)
  | apply Dk.AD.tE (d:=27)
  | apply Dk.D.tE (d:=33)
  | apply Dk.AD.tE (d:=33)
  | apply Dk.D.tE (d:=34)
  | apply Dk.AD.tE (d:=34)
  | (refine @id.{0} _ ?_; constructor)
  | apply Dk.jr 0 (V:=Unit) (A:=Nat) _ (fun a (s:Int×Int) v=>[.row a [cY,.int .i64 ((0:Int)),.int .u64 (s.2)] 81]) (fun a s v=>[(3,.pointer (some ⟨a,0,none⟩)),(4,.int .i64 (s.1))]) () [(0,_)]
  | apply Dk.any (id:=5) 11 [0] [] [[],[],[1],[2,1],[3,2,1],[4,3,2,1],[],[],[6,7],[8,6,7],[9,8,6,7]] (by kernel_rfl)
  | exact ()
 all_goals try first | exact Value.nilFunc | exact (0:Nat)
theorem zB {x0:aK} {cV:Nat} {bW:Value} {x1:Int}:Ct Tryz.prog 61 true (bV x0 x1) [.pointer (some (⟨cV,0,none⟩)),.int .i64 (x1)] [.row cV [bW,.int .i64 (x0.At),.int .u64 (x0.ao)] 81,.rd false (aB (aC .u8)) bW x0.Code] (fun y (_:Unit)=>[.int .i64 y.1]) (fun y _=>[.row cV [bW,.int .i64 y.2.At,.int .u64 y.2.ao] 81]):=by
 refine ct (S:=Unit) (ca fun _ _=>rfl) Tryz.func61 rfl rfl ?_
 repeat' first
  | ((first | show Dk.ER _ _ _ | show Dk.ba _ _ | show Dk.EF _ _ _ | show Dk.EO _ _ _ | show Dk.EP _ _ | show Dk.aX _ _ _ _ | show Dk.aq _ _ _ _ | show Dk.Kp _ _ _ _ | show Dk.bn _ _ | show Dk.bb _ _ _ _); repeat' first | exact rfl | (refine @id.{0} _ ?_; constructor))
  | intro _
  | exact rfl
  | apply Dk.D.tE (d:=13)
  | apply Dk.AD.tE (d:=13)
  | apply Dk.D.tE (d:=14)
  | apply Dk.AD.tE (d:=14)
  | apply Dk.D.tE (d:=21)
  | apply Dk.AD.tE (d:=21)
  | apply Dk.D.tE (d:=22)
  | apply Dk.AD.tE (d:=22)
  | apply Dk.D.tE (d:=57)
  | apply Dk.AD.tE (d:=57)
  | (refine @id.{0} _ ?_; constructor)
  | apply Dk.quiet (id:=5) (by kernel_rfl)
  | apply Dk.quiet (id:=6) (by kernel_rfl)
  | exact ()
theorem ade {x0:aK} {cV:Nat} {bW:Value} {x1:Int}:Ct Tryz.prog 153 true (iM x0 x1) [.pointer (some (⟨cV,0,none⟩)),.int .i64 (x1)] [.row cV [bW,.int .i64 (x0.At),.int .u64 (x0.ao)] 81,.rd false (aB (aC .u8)) bW x0.Code] (fun y (v:Value)=>[v]) (fun y v=>[.own (aL 24 (aL 2 (aC .i64))) v y.1,.row cV [bW,.int .i64 y.2.At,.int .u64 y.2.ao] 81]):=by
 refine ct (S:=Unit) (ca fun _ _=>rfl) Tryz.func153 rfl rfl ?_
 repeat' first
  | ((first | show Dk.ER _ _ _ | show Dk.ba _ _ | show Dk.EF _ _ _ | show Dk.EO _ _ _ | show Dk.EP _ _ | show Dk.aX _ _ _ _ | show Dk.aq _ _ _ _ | show Dk.Kp _ _ _ _ | show Dk.bn _ _ | show Dk.bb _ _ _ _); repeat' first | exact rfl | (refine @id.{0} _ ?_; constructor))
  | intro _
  | exact rfl
  | (apply Dk.Rb (t:=45); exact rfl)
  | (refine Dk.ue (t:=62) rfl ?_ ?_)
  | (refine Dk.ue (t:=67) rfl ?_ ?_)
  | (refine @id.{0} _ ?_; constructor)
  | apply Dk.loop 0 (V:=Value) (fun (s:(List (List Int))×Int×Int×Int) v=>[.row cV [bW,.int .i64 (s.2.2.1),.int .u64 (s.2.2.2)] 81,.own (aL 24 (aL 2 (aC .i64))) v s.1]) (fun s v=>[(5,v),(6,.int .i64 (s.2.1))]) _ [(0,_),(1,_)]
  | apply Dk.jr 2 (V:=Unit) (A:=Value) _ (fun a (s:Int×Int×Int×(List Int)) v=>[.row cV [bW,.int .i64 (s.2.1),.int .u64 (s.2.2.1)] 81,.own (aL 2 (aC .i64)) a s.2.2.2]) (fun a s v=>[(7,a),(8,.int .i64 (s.1))]) () [(0,_),(1,_),(5,_),(6,_)]
  | apply Dk.jr 4 (V:=Unit) (A:=Value) _ (fun a (s:Int×(List (List Int))) v=>[.own (aL 24 (aL 2 (aC .i64))) a s.2]) (fun a s v=>[(5,a),(9,.int .i64 (s.1))]) () [(1,_)]
  | apply Dk.jr 6 (V:=Unit) (A:=Value) _ (fun a (s:Int×(List (List Int))) v=>[.own (aL 24 (aL 2 (aC .i64))) a s.2]) (fun a s v=>[(5,a),(10,.int .i64 (s.1))]) () [(1,_),(9,_)]
  | apply Dk.jr 8 (V:=Unit) (A:=Value) _ (fun a (s:Int×(List (List Int))) v=>[.own (aL 24 (aL 2 (aC .i64))) a s.2]) (fun a s v=>[(5,a),(11,.int .i64 (s.1))]) () [(1,_),(9,_),(10,_)]
  | apply Dk.wq (id:=13) [Dk.aw.row _ _ 81] 8 [] [[],[],[],[],[],[],[],[10]] [[],[],[1],[0,2,1],[3,0,2,1],[],[],[5,6]] (by kernel_rfl)
  | apply zB
  | exact ()
theorem WU {x0:aI} {aT:Value} {bB:Value} {aO:Value} {aN:Value}:Ct Tryz.prog 134 true (eD x0) [.agg #[.int .i64 (x0.aA),aT,bB,aO,aN]] [.rd false (aB (aC .i64)) aT x0.aF,.rd false (aB (aC .i64)) bB x0.To,.rd false (aB (aC .i64)) aO x0.aJ,.rd false (aB (aB (aC .i64))) aN x0.aD] (fun y (_:Unit)=>[.bool y]) (fun y _=>[]):=by
 refine ct (S:=Unit) (ca fun _ _=>rfl) Tryz.func134 rfl rfl ?_
 repeat' first
  | ((first | show Dk.ER _ _ _ | show Dk.ba _ _ | show Dk.EF _ _ _ | show Dk.EO _ _ _ | show Dk.EP _ _ | show Dk.aX _ _ _ _ | show Dk.aq _ _ _ _ | show Dk.Kp _ _ _ _ | show Dk.bn _ _ | show Dk.bb _ _ _ _); repeat' first | exact rfl | (refine @id.{0} _ ?_; constructor))
  | intro _
  | exact rfl
  | (refine @id.{0} _ ?_; constructor)
  | exact ()
theorem WV {x0:(List Int)} {cY:Value} {x1:(List Int)} {dP:Value}:Ct Tryz.prog 99 true (eP x0 x1) [cY,dP] [.rd false (aB (aC .i64)) cY x0,.rd false (aB (aC .i64)) dP x1] (fun y (_:Unit)=>[.bool y]) (fun y _=>[]):=by
 refine ct (S:=Unit) (ca fun _ _=>rfl) Tryz.func99 rfl rfl ?_
 repeat' first
  | ((first | show Dk.ER _ _ _ | show Dk.ba _ _ | show Dk.EF _ _ _ | show Dk.EO _ _ _ | show Dk.EP _ _ | show Dk.aX _ _ _ _ | show Dk.aq _ _ _ _ | show Dk.Kp _ _ _ _ | show Dk.bn _ _ | show Dk.bb _ _ _ _); repeat' first | exact rfl | (refine @id.{0} _ ?_; constructor))
  | intro _
  | exact rfl
  | (refine @id.{0} _ ?_; constructor)
  | apply Dk.loop 0 (V:=Unit) (fun (s:Int) v=>[]) (fun s v=>[(5,.int .i64 (s))]) () [(0,_),(1,_)]
  | apply Dk.quiet (id:=6) (by kernel_rfl)
  | exact ()
theorem WW {x0:aK} {cV:Nat} {bW:Value}:Ct Tryz.prog 138 true (gF x0) [.pointer (some (⟨cV,0,none⟩))] [.row cV [bW,.int .i64 (x0.At),.int .u64 (x0.ao)] 81,.rd false (aB (aC .u8)) bW x0.Code] (fun y (v:Value)=>[v]) (fun y v=>[.own (aL 24 (aL 2 (aC .i64))) v y.1,.row cV [bW,.int .i64 y.2.At,.int .u64 y.2.ao] 81]):=by
 refine ct (S:=Unit) (ca fun _ _=>rfl) Tryz.func138 rfl rfl ?_
 repeat' first
  | ((first | show Dk.ER _ _ _ | show Dk.ba _ _ | show Dk.EF _ _ _ | show Dk.EO _ _ _ | show Dk.EP _ _ | show Dk.aX _ _ _ _ | show Dk.aq _ _ _ _ | show Dk.Kp _ _ _ _ | show Dk.bn _ _ | show Dk.bb _ _ _ _); repeat' first | exact rfl | (refine @id.{0} _ ?_; constructor))
  | intro _
  | exact rfl
  | apply Dk.D.Dq (d:=2) (x:=.tmp 8)
  | apply Dk.D.Dq (d:=2) (x:=.tmp 13)
  | apply Dk.D.Dq (d:=2) (x:=.tmp 18)
  | apply Dk.D.Dq (d:=2) (x:=.tmp 24)
  | apply Dk.D.Dq (d:=2) (x:=.tmp 30)
  | apply Dk.D.Dq (d:=2) (x:=.tmp 36)
  | apply Dk.D.Dq (d:=2) (x:=.tmp 43)
  | apply Dk.D.Dq (d:=2) (x:=.tmp 47)
  | (refine @id.{0} _ ?_; constructor)
  | apply zB
  | exact ()
theorem adg {x0:aK} {cV:Nat} {bW:Value} {x1:(List Int)} {dP:Value}:Ct Tryz.prog 135 true (oT x0 x1) [.pointer (some (⟨cV,0,none⟩)),dP] [.row cV [bW,.int .i64 (x0.At),.int .u64 (x0.ao)] 81,.rd false (aB (aC .u8)) bW x0.Code,.rd false (aB (aC .i64)) dP x1] (fun y (_:Unit)=>[.int .i64 y.1]) (fun y _=>[.row cV [bW,.int .i64 y.2.At,.int .u64 y.2.ao] 81]):=by
 refine ct (S:=Unit) (ca fun _ _=>rfl) Tryz.func135 rfl rfl ?_
 repeat' first
  | ((first | show Dk.ER _ _ _ | show Dk.ba _ _ | show Dk.EF _ _ _ | show Dk.EO _ _ _ | show Dk.EP _ _ | show Dk.aX _ _ _ _ | show Dk.aq _ _ _ _ | show Dk.Kp _ _ _ _ | show Dk.bn _ _ | show Dk.bb _ _ _ _); repeat' first | exact rfl | (refine @id.{0} _ ?_; constructor))
  | intro _
  | exact rfl
  | (refine @id.{0} _ ?_; constructor)
  | apply zB
  | exact ()
theorem adh {x0:(List Int)} {cY:Value} {x1:(List Int)} {dP:Value}:Ct Tryz.prog 129 true (qU x0 x1) [cY,dP] [.rd false (aB (aC .i64)) cY x0,.rd false (aB (aC .i64)) dP x1] (fun y (_:Unit)=>[.int .i64 y]) (fun y _=>[]):=by
 refine ct (S:=Unit) (ca fun _ _=>rfl) Tryz.func129 rfl rfl ?_
 repeat' first
  | ((first | show Dk.ER _ _ _ | show Dk.ba _ _ | show Dk.EF _ _ _ | show Dk.EO _ _ _ | show Dk.EP _ _ | show Dk.aX _ _ _ _ | show Dk.aq _ _ _ _ | show Dk.Kp _ _ _ _ | show Dk.bn _ _ | show Dk.bb _ _ _ _); repeat' first | exact rfl | (refine @id.{0} _ ?_; constructor))
  | intro _
  | exact rfl
  | (refine @id.{0} _ ?_; constructor)
  | apply Dk.loop 0 (V:=Unit) (fun (s:Int) v=>[]) (fun s v=>[(8,.int .i64 (s))]) () [(0,_),(1,_),(7,_)]
  | apply Dk.quiet (id:=6) (by kernel_rfl)
  | apply Dk.quiet (id:=7) (by kernel_rfl)
  | exact ()
theorem c97 {x0:(List Int)} {cY:Value} {x1:(List Int)} {dP:Value}:Ct Tryz.prog 97 true (lT x0 x1) [cY,dP] [.rd false (aB (aC .i64)) cY x0,.rd false (aB (aC .i64)) dP x1] (fun y (_:Unit)=>[.bool y]) (fun y _=>[]):=by
 refine ct (S:=Unit) (ca fun _ _=>rfl) Tryz.func97 rfl rfl ?_
 repeat' first
  | ((first | show Dk.ER _ _ _ | show Dk.ba _ _ | show Dk.EF _ _ _ | show Dk.EO _ _ _ | show Dk.EP _ _ | show Dk.aX _ _ _ _ | show Dk.aq _ _ _ _ | show Dk.Kp _ _ _ _ | show Dk.bn _ _ | show Dk.bb _ _ _ _); repeat' first | exact rfl | (refine @id.{0} _ ?_; constructor))
  | intro _
  | exact rfl
  | (refine @id.{0} _ ?_; constructor)
  | apply adh
  | exact ()
theorem IL {x0:(List Int)} {cY:Value}:Ct Tryz.prog 112 true (eN x0) [cY] [.rd false (aB (aC .i64)) cY x0] (fun y (v:Value)=>[v]) (fun y v=>[.own (aL 2 (aC .i64)) v y]):=by
 refine ct (S:=Unit) (ca fun _ _=>rfl) Tryz.func112 rfl rfl ?_
 repeat' first
  | ((first | show Dk.ER _ _ _ | show Dk.ba _ _ | show Dk.EF _ _ _ | show Dk.EO _ _ _ | show Dk.EP _ _ | show Dk.aX _ _ _ _ | show Dk.aq _ _ _ _ | show Dk.Kp _ _ _ _ | show Dk.bn _ _ | show Dk.bb _ _ _ _); repeat' first | exact rfl | (refine @id.{0} _ ?_; constructor))
  | intro _
  | exact rfl
  | (refine @id.{0} _ ?_; constructor)
  | exact ()
theorem adi {x0:(List (List Int))} {cY:Value}:Ct Tryz.prog 147 true (qB x0) [cY] [.rd false (aB (aB (aC .i64))) cY x0] (fun y (v:Value)=>[v]) (fun y v=>[.own (aL 24 (aL 2 (aC .i64))) v y]):=by
 refine ct (S:=Unit) (ca fun _ _=>rfl) Tryz.func147 rfl rfl ?_
 repeat' first
  | ((first | show Dk.ER _ _ _ | show Dk.ba _ _ | show Dk.EF _ _ _ | show Dk.EO _ _ _ | show Dk.EP _ _ | show Dk.aX _ _ _ _ | show Dk.aq _ _ _ _ | show Dk.Kp _ _ _ _ | show Dk.bn _ _ | show Dk.bb _ _ _ _); repeat' first | exact rfl | (refine @id.{0} _ ?_; constructor))
  | intro _
  | exact rfl
  | (refine @id.{0} _ ?_; constructor)
  | apply Dk.loop 0 (V:=Value) (fun (s:(List (List Int))×Int) v=>[.own (aL 24 (aL 2 (aC .i64))) v s.1]) (fun s v=>[(3,v),(11,.int .i64 (s.2))]) _ [(9,_),(10,_)]
  | apply IL
  | exact ()
theorem adj {x0:List Int} {v0:Value} {x1:List bE} {bo:Nat} {vo:Value} {xm:Int} {pm:Addr}:Ct Tryz.prog 117 true (eA x0 x1 xm) [v0,.pointer (some ⟨bo,0,none⟩),.pointer (some pm)] [.row bo [vo] 83,.au pm [.int .i64 xm],.own (aL 32 qt) vo x1,.rd false (aB (aC .i64)) v0 x0] (fun y (_:Value)=>[.bool y.1]) (fun y v=>[.row bo [v] 83,.own (aL 32 qt) v y.2]):=by
 refine ct (S:=Unit) (ca fun _ _=>rfl) Tryz.func117 rfl rfl ?_
 repeat' first
  | ((first | show Dk.ER _ _ _ | show Dk.ba _ _ | show Dk.EF _ _ _ | show Dk.EO _ _ _ | show Dk.EP _ _ | show Dk.aX _ _ _ _ | show Dk.aq _ _ _ _ | show Dk.Kp _ _ _ _ | show Dk.bn _ _ | show Dk.bb _ _ _ _); repeat' first | exact rfl | (refine @id.{0} _ ?_; constructor))
  | intro _
  | exact rfl
  | apply Dk.YU (t:=83) (S:=qt) (bE.mk _ _)
  | apply Dk.AD.Yz (n:=2)
  | apply Dk.MH (t:=83)
  | (refine @id.{0} _ ?_; constructor)
  | apply Dk.any (id:=1) 6 [] [] [[],[],[],[2],[1,3,2],[4,1,3,2]] (by kernel_rfl)
  | apply IL
  | exact ()
theorem adk {x0:(List (List Int))} {cY:Value} {x1:(List (List Int))} {dP:Value}:Ct Tryz.prog 126 true (qO x0 x1) [cY,dP] [.rd false (aB (aB (aC .i64))) cY x0,.rd false (aB (aB (aC .i64))) dP x1] (fun y (_:Unit)=>[.bool y]) (fun y _=>[]):=by
 refine ct (S:=Unit) (ca fun _ _=>rfl) Tryz.func126 rfl rfl ?_
 repeat' first
  | ((first | show Dk.ER _ _ _ | show Dk.ba _ _ | show Dk.EF _ _ _ | show Dk.EO _ _ _ | show Dk.EP _ _ | show Dk.aX _ _ _ _ | show Dk.aq _ _ _ _ | show Dk.Kp _ _ _ _ | show Dk.bn _ _ | show Dk.bb _ _ _ _); repeat' first | exact rfl | (refine @id.{0} _ ?_; constructor))
  | intro _
  | exact rfl
  | (refine @id.{0} _ ?_; constructor)
  | apply Dk.loop 0 (V:=Unit) (fun (s:Int) v=>[]) (fun s v=>[(5,.int .i64 (s))]) () [(0,_),(1,_)]
  | apply Dk.quiet (id:=6) (by kernel_rfl)
  | apply WV
  | exact ()
theorem WX {x0:(List Int)} {cY:Value} {x1:(List Int)} {dP:Value}:Ct Tryz.prog 127 true (kH x0 x1) [cY,dP] [.rd false (aB (aC .i64)) cY x0,.rd false (aB (aC .i64)) dP x1] (fun y (v:Value)=>[v]) (fun y v=>[.own (aL 2 (aC .i64)) v y]):=by
 refine ct (S:=Unit) (ca fun _ _=>rfl) Tryz.func127 rfl rfl ?_
 repeat' first
  | ((first | show Dk.ER _ _ _ | show Dk.ba _ _ | show Dk.EF _ _ _ | show Dk.EO _ _ _ | show Dk.EP _ _ | show Dk.aX _ _ _ _ | show Dk.aq _ _ _ _ | show Dk.Kp _ _ _ _ | show Dk.bn _ _ | show Dk.bb _ _ _ _); repeat' first | exact rfl | (refine @id.{0} _ ?_; constructor))
  | intro _
  | exact rfl
  | (refine @id.{0} _ ?_; constructor)
  | apply Dk.loop 0 (V:=Value) (fun (s:(List Int)×Int) v=>[.own (aL 2 (aC .i64)) v s.1]) (fun s v=>[(5,v),(6,.int .i64 (s.2))]) _ [(0,_),(1,_)]
  | exact ()
theorem c89 {x0:bE} {qF:Value} {x1:aM} {bT:Value} {bZ:Value} {bI:Value} {bG:Value} {bU:Value} {cA:Value} {bJ:Value} {bH:Value} {cJ:Value} {cM:Value}:Ct Tryz.prog 89 true (nL x0 x1) [.agg #[.int .i64 (x0.fv),qF],.agg #[.int .i64 (x1.aE.aA),bT,bZ,bI,bG,.int .i64 (x1.aH.aA),bU,cA,bJ,bH,cJ,cM]] [.rd false (aB (aC .i64)) qF x0.bw,.rd false (aB (aC .i64)) bT x1.aE.aF,.rd false (aB (aC .i64)) bZ x1.aE.To,.rd false (aB (aC .i64)) bI x1.aE.aJ,.rd false (aB (aB (aC .i64))) bG x1.aE.aD,.rd false (aB (aC .i64)) bU x1.aH.aF,.rd false (aB (aC .i64)) cA x1.aH.To,.rd false (aB (aC .i64)) bJ x1.aH.aJ,.rd false (aB (aB (aC .i64))) bH x1.aH.aD,.rd false (aB (aC .i64)) cJ x1.aA,.rd false (aB (aC .i64)) cM x1.ab] (fun y (v:Value)=>[.agg #[.int .i64 y.fv,v]]) (fun y v=>[.own (aL 2 (aC .i64)) v y.bw]):=by
 refine ct (S:=Unit) (ca fun _ _=>rfl) Tryz.func89 rfl rfl ?_
 repeat' first
  | ((first | show Dk.ER _ _ _ | show Dk.ba _ _ | show Dk.EF _ _ _ | show Dk.EO _ _ _ | show Dk.EP _ _ | show Dk.aX _ _ _ _ | show Dk.aq _ _ _ _ | show Dk.Kp _ _ _ _ | show Dk.bn _ _ | show Dk.bb _ _ _ _); repeat' first | exact rfl | (refine @id.{0} _ ?_; constructor))
  | intro _
  | exact rfl
  | (refine @id.{0} _ ?_; constructor)
  | apply Dk.any (id:=1) 11 [] [] [[],[0],[],[2],[1,0,3,2],[4,1,0,3,2],[],[6],[],[8],[7,6,9,8]] (by kernel_rfl)
  | apply WX
  | exact ()
theorem anc {p:Addr}:Ct Tryz.prog 184 true rH [.agg #[.pointer (some p)]] [] (fun _ (_:Unit)=>[.pointer (some p)]) (fun _ _=>[]):=by
 refine ct (S:=Unit) (ca fun _ _=>rfl) Tryz.func184 rfl rfl ?_
 repeat' first
  | ((first | show Dk.ER _ _ _ | show Dk.ba _ _ | show Dk.EF _ _ _ | show Dk.EO _ _ _ | show Dk.EP _ _ | show Dk.aX _ _ _ _ | show Dk.aq _ _ _ _ | show Dk.Kp _ _ _ _ | show Dk.bn _ _ | show Dk.bb _ _ _ _); repeat' first | exact rfl | (refine @id.{0} _ ?_; constructor))
  | intro _
  | exact rfl
  | (refine @id.{0} _ ?_; constructor)
  | exact ()
end Go.Proofs.YtgjbmjjihmfppaaGreat
