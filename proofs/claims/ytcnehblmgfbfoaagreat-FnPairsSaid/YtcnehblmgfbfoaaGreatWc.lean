/- Walks by the calculus D. No condition beside those that each theorem names. -/
import Derived.Test.YtcnehblmgfbfoaaGreatDp
import Derived.Test.YtcnehblmgfbfoaaGreatDi
import Derived.Test.YtcnehblmgfbfoaaGreatMo
import Derived.Test.YtcnehblmgfbfoaaGreatDs
namespace Go.Proofs.YtcnehblmgfbfoaaGreat
open Go Go.Li Go.Dk
set_option linter.unusedVariables false
set_option maxHeartbeats 16000000
set_option maxRecDepth 100000
theorem WD {x0:(List Int)} {cC:Value}:Ct Tryz.prog 79 true (jK x0) [cC] [.rd false (bE (aL .u8)) cC x0] (fun y (v:Nat)=>[(match y with | none=>Value.pointer none | some _=>.pointer (some (⟨v,0,none⟩)))]) (fun y v=>match y with | none=>[] | some m0=>[.row v [cC,.int .i64 (m0.At),.int .u64 (m0.av)] 194]):=by
 refine ct (S:=Unit) (by intro _ y v; obtain _ | _:=y <;> rfl) Tryz.func79 rfl rfl ?_
 repeat' first
  | (apply Dk.fe; repeat' first | exact rfl | (refine @id.{0} _ ?_; constructor))
  | intro _
  | exact rfl
  | apply Dk.D.mj (d:=9)
  | apply Dk.AD.mj (d:=9)
  | apply Dk.D.mj (d:=27)
  | apply Dk.AD.mj (d:=27)
  | apply Dk.D.mj (d:=33)
  | apply Dk.AD.mj (d:=33)
  | apply Dk.D.mj (d:=34)
  | apply Dk.AD.mj (d:=34)
  | (refine @id.{0} _ ?_; constructor)
  | apply Dk.dg 0 (V:=Unit) (A:=Nat) _ (fun a (s:Int×Int) v=>[.row a [cC,.int .i64 ((0:Int)),.int .u64 (s.2)] 194]) (fun a s v=>[(3,.pointer (some ⟨a,0,none⟩)),(4,.int .i64 (s.1))]) () [(0,_)]
  | apply Dk.any (id:=5) 11 [0] [] [[],[],[1],[1,2],[1,2,3],[1,2,3,4],[],[],[6,7],[6,7,8],[6,7,8,9]] (by kernel_rfl)
  | exact ()
 all_goals try first | exact Value.nilFunc | exact (0:Nat)
theorem AX {x0:aM} {cJ:Nat} {bW:Value} {x1:Int}:Ct Tryz.prog 82 true (bJ x0 x1) [.pointer (some (⟨cJ,0,none⟩)),.int .i64 (x1)] [.row cJ [bW,.int .i64 (x0.At),.int .u64 (x0.av)] 194,.rd false (bE (aL .u8)) bW x0.Code] (fun y (_:Unit)=>[.int .i64 y.1]) (fun y _=>[.row cJ [bW,.int .i64 y.2.At,.int .u64 y.2.av] 194]):=by
 refine ct (S:=Unit) (cf fun _ _=>rfl) Tryz.func82 rfl rfl ?_
 repeat' first
  | (apply Dk.fe; repeat' first | exact rfl | (refine @id.{0} _ ?_; constructor))
  | intro _
  | exact rfl
  | apply Dk.D.mj (d:=13)
  | apply Dk.AD.mj (d:=13)
  | apply Dk.D.mj (d:=14)
  | apply Dk.AD.mj (d:=14)
  | apply Dk.D.mj (d:=21)
  | apply Dk.AD.mj (d:=21)
  | apply Dk.D.mj (d:=22)
  | apply Dk.AD.mj (d:=22)
  | apply Dk.D.mj (d:=57)
  | apply Dk.AD.mj (d:=57)
  | (refine @id.{0} _ ?_; constructor)
  | apply Dk.quiet (id:=5) (by kernel_rfl)
  | apply Dk.quiet (id:=6) (by kernel_rfl)
  | exact ()
theorem aac {x0:aM} {cJ:Nat} {bW:Value} {x1:Int}:Ct Tryz.prog 247 true (fZ x0 x1) [.pointer (some (⟨cJ,0,none⟩)),.int .i64 (x1)] [.row cJ [bW,.int .i64 (x0.At),.int .u64 (x0.av)] 194,.rd false (bE (aL .u8)) bW x0.Code] (fun y (v:Value)=>[v]) (fun y v=>[.own (aI 22 (aI 2 (aL .i64))) v y.1,.row cJ [bW,.int .i64 y.2.At,.int .u64 y.2.av] 194]):=by
 refine ct (S:=Unit) (cf fun _ _=>rfl) Tryz.func247 rfl rfl ?_
 repeat' first
  | (apply Dk.fe; repeat' first | exact rfl | (refine @id.{0} _ ?_; constructor))
  | intro _
  | exact rfl
  | (apply Dk.OB (t:=45); exact rfl)
  | (refine Dk.ry (t:=62) rfl ?_ ?_)
  | (refine Dk.ry (t:=67) rfl ?_ ?_)
  | (refine @id.{0} _ ?_; constructor)
  | apply Dk.loop 0 (V:=Value) (fun (s:(List (List Int))×Int×Int×Int) v=>[.row cJ [bW,.int .i64 (s.2.2.1),.int .u64 (s.2.2.2)] 194,.own (aI 22 (aI 2 (aL .i64))) v s.1]) (fun s v=>[(5,v),(6,.int .i64 (s.2.1))]) _ [(0,_),(1,_)]
  | apply Dk.dg 2 (V:=Unit) (A:=Value) _ (fun a (s:Int×Int×Int×(List Int)) v=>[.row cJ [bW,.int .i64 (s.2.1),.int .u64 (s.2.2.1)] 194,.own (aI 2 (aL .i64)) a s.2.2.2]) (fun a s v=>[(7,a),(8,.int .i64 (s.1))]) () [(0,_),(1,_),(5,_),(6,_)]
  | apply Dk.dg 4 (V:=Unit) (A:=Value) _ (fun a (s:Int×(List (List Int))) v=>[.own (aI 22 (aI 2 (aL .i64))) a s.2]) (fun a s v=>[(5,a),(9,.int .i64 (s.1))]) () [(1,_)]
  | apply Dk.dg 6 (V:=Unit) (A:=Value) _ (fun a (s:Int×(List (List Int))) v=>[.own (aI 22 (aI 2 (aL .i64))) a s.2]) (fun a s v=>[(5,a),(10,.int .i64 (s.1))]) () [(1,_),(9,_)]
  | apply Dk.dg 8 (V:=Unit) (A:=Value) _ (fun a (s:Int×(List (List Int))) v=>[.own (aI 22 (aI 2 (aL .i64))) a s.2]) (fun a s v=>[(5,a),(11,.int .i64 (s.1))]) () [(1,_),(9,_),(10,_)]
  | apply Dk.tf (id:=13) [Dk.ao.row _ _ 194] 8 [] [[],[],[],[],[],[],[],[10]] [[],[],[1],[0,1,2],[0,1,2,3],[],[],[5,6]] (by kernel_rfl)
  | apply AX
  | exact ()
theorem aad {x0:(List Int)} {cC:Value} {x1:(List Int)} {cH:Value}:Ct Tryz.prog 294 true (jL x0 x1) [cC,cH] [rI cC x0,rI cH x1] (fun y (_:Unit)=>[.bool y]) (fun y _=>[]):=by
 refine ct (S:=Unit) (cf fun _ _=>rfl) Tryz.func294 rfl rfl ?_
 repeat' first
  | (apply Dk.fe; repeat' first | exact rfl | (refine @id.{0} _ ?_; constructor))
  | intro _
  | exact rfl
  | (refine @id.{0} _ ?_; constructor)
  | apply Dk.loop 0 (V:=Unit) (fun (s:Int) v=>[]) (fun s v=>[(5,.int .i64 (s))]) () [(0,_),(1,_)]
  | apply Dk.quiet (id:=4) (by kernel_rfl)
  | apply Dk.quiet (id:=5) (by kernel_rfl)
  | exact ()
theorem aae {x0:bA} {oL:Value} {x1:bA} {oM:Value}:Ct Tryz.prog 290 true (fV x0 x1) [.agg #[.int .i64 (x0.aB),.int .i64 (x0.To),oL],.agg #[.int .i64 (x1.aB),.int .i64 (x1.To),oM]] [rI oL x0.ko,rI oM x1.ko] (fun y (_:Unit)=>[.bool y]) (fun y _=>[]):=by
 refine ct (S:=Unit) (cf fun _ _=>rfl) Tryz.func290 rfl rfl ?_
 repeat' first
  | (apply Dk.fe; repeat' first | exact rfl | (refine @id.{0} _ ?_; constructor))
  | intro _
  | exact rfl
  | (refine @id.{0} _ ?_; constructor)
  | apply aad
  | exact ()
theorem Pe {x0:aD} {aO aR aK aJ:Value}:Ct Tryz.prog 93 true (cI x0) [.agg #[.int .i64 (x0.aA),aO,aR,aK,aJ]] [rI aO x0.aB,rI aR x0.To,rI aK x0.aF,rJ aJ x0.aC] (fun y (_:Unit)=>[.bool y]) (fun y _=>[]):=by
 refine ct (S:=Unit) (cf fun _ _=>rfl) Tryz.func93 rfl rfl ?_
 repeat' first
  | (apply Dk.fe; repeat' first | exact rfl | (refine @id.{0} _ ?_; constructor))
  | intro _
  | exact rfl
  | (refine @id.{0} _ ?_; constructor)
  | exact ()
theorem aaf {x0:aM} {cJ:Nat} {bW:Value}:Ct Tryz.prog 250 true (fX x0) [.pointer (some (⟨cJ,0,none⟩))] [.row cJ [bW,.int .i64 (x0.At),.int .u64 (x0.av)] 194,.rd false (bE (aL .u8)) bW x0.Code] (fun y (v:Value)=>[v]) (fun y v=>[.own (aI 22 (aI 2 (aL .i64))) v y.1,.row cJ [bW,.int .i64 y.2.At,.int .u64 y.2.av] 194]):=by
 refine ct (S:=Unit) (cf fun _ _=>rfl) Tryz.func250 rfl rfl ?_
 repeat' first
  | (apply Dk.fe; repeat' first | exact rfl | (refine @id.{0} _ ?_; constructor))
  | intro _
  | exact rfl
  | apply Dk.D.BK (d:=2) (x:=.tmp 8)
  | apply Dk.D.BK (d:=2) (x:=.tmp 13)
  | apply Dk.D.BK (d:=2) (x:=.tmp 18)
  | apply Dk.D.BK (d:=2) (x:=.tmp 24)
  | apply Dk.D.BK (d:=2) (x:=.tmp 30)
  | apply Dk.D.BK (d:=2) (x:=.tmp 36)
  | apply Dk.D.BK (d:=2) (x:=.tmp 43)
  | apply Dk.D.BK (d:=2) (x:=.tmp 47)
  | (refine @id.{0} _ ?_; constructor)
  | apply AX
  | exact ()
theorem aag {x0:aM} {cJ:Nat} {bW:Value} {x1:(List Int)} {cH:Value}:Ct Tryz.prog 254 true (lT x0 x1) [.pointer (some (⟨cJ,0,none⟩)),cH] [.row cJ [bW,.int .i64 (x0.At),.int .u64 (x0.av)] 194,.rd false (bE (aL .u8)) bW x0.Code,rI cH x1] (fun y (_:Unit)=>[.int .i64 y.1]) (fun y _=>[.row cJ [bW,.int .i64 y.2.At,.int .u64 y.2.av] 194]):=by
 refine ct (S:=Unit) (cf fun _ _=>rfl) Tryz.func254 rfl rfl ?_
 repeat' first
  | (apply Dk.fe; repeat' first | exact rfl | (refine @id.{0} _ ?_; constructor))
  | intro _
  | exact rfl
  | (refine @id.{0} _ ?_; constructor)
  | apply AX
  | exact ()
theorem H5 {x0:(List Int)} {cC:Value}:Ct Tryz.prog 87 true (cM x0) [cC] [rI cC x0] (fun y (v:Value)=>[v]) (fun y v=>[.own (aI 2 (aL .i64)) v y]):=by
 refine ct (S:=Unit) (cf fun _ _=>rfl) Tryz.func87 rfl rfl ?_
 repeat' first
  | (apply Dk.fe; repeat' first | exact rfl | (refine @id.{0} _ ?_; constructor))
  | intro _
  | exact rfl
  | (refine @id.{0} _ ?_; constructor)
  | exact ()
theorem aah {x0:(List (List Int))} {cC:Value}:Ct Tryz.prog 198 true (mO x0) [cC] [rJ cC x0] (fun y (v:Value)=>[v]) (fun y v=>[.own (aI 22 (aI 2 (aL .i64))) v y]):=by
 refine ct (S:=Unit) (cf fun _ _=>rfl) Tryz.func198 rfl rfl ?_
 repeat' first
  | (apply Dk.fe; repeat' first | exact rfl | (refine @id.{0} _ ?_; constructor))
  | intro _
  | exact rfl
  | (refine @id.{0} _ ?_; constructor)
  | apply Dk.loop 0 (V:=Value) (fun (s:(List (List Int))×Int) v=>[.own (aI 22 (aI 2 (aL .i64))) v s.1]) (fun s v=>[(3,v),(11,.int .i64 (s.2))]) _ [(9,_),(10,_)]
  | apply H5
  | exact ()
theorem Pf {x0:(List Int)} {cC:Value} {x1:(List Int)} {cH:Value}:Ct Tryz.prog 36 true (dE x0 x1) [cC,cH] [rI cC x0,rI cH x1] (fun y (_:Unit)=>[.bool y]) (fun y _=>[]):=by
 refine ct (S:=Unit) (cf fun _ _=>rfl) Tryz.func36 rfl rfl ?_
 repeat' first
  | (apply Dk.fe; repeat' first | exact rfl | (refine @id.{0} _ ?_; constructor))
  | intro _
  | exact rfl
  | (refine @id.{0} _ ?_; constructor)
  | apply Dk.loop 0 (V:=Unit) (fun (s:Int) v=>[]) (fun s v=>[(5,.int .i64 (s))]) () [(0,_),(1,_)]
  | apply Dk.quiet (id:=6) (by kernel_rfl)
  | exact ()
theorem aai {x0:(List (List Int))} {cC:Value} {x1:(List (List Int))} {cH:Value}:Ct Tryz.prog 170 true (kA x0 x1) [cC,cH] [rJ cC x0,rJ cH x1] (fun y (_:Unit)=>[.bool y]) (fun y _=>[]):=by
 refine ct (S:=Unit) (cf fun _ _=>rfl) Tryz.func170 rfl rfl ?_
 repeat' first
  | (apply Dk.fe; repeat' first | exact rfl | (refine @id.{0} _ ?_; constructor))
  | intro _
  | exact rfl
  | (refine @id.{0} _ ?_; constructor)
  | apply Dk.loop 0 (V:=Unit) (fun (s:Int) v=>[]) (fun s v=>[(5,.int .i64 (s))]) () [(0,_),(1,_)]
  | apply Dk.quiet (id:=6) (by kernel_rfl)
  | apply Pf
  | exact ()
theorem c98 {x0:Int} {x1:Int}:Ct Tryz.prog 98 true (eK x0 x1) [.int .i64 (x0),.int .i64 (x1)] [] (fun y (_:Unit)=>[.int .i64 y]) (fun y _=>[]):=by
 refine ct (S:=Unit) (cf fun _ _=>rfl) Tryz.func98 rfl rfl ?_
 repeat' first
  | (apply Dk.fe; repeat' first | exact rfl | (refine @id.{0} _ ?_; constructor))
  | intro _
  | exact rfl
  | apply Dk.D.mj (d:=7)
  | apply Dk.AD.mj (d:=7)
  | (refine @id.{0} _ ?_; constructor)
  | exact ()
end Go.Proofs.YtcnehblmgfbfoaaGreat
