/- Walks by the calculus D. No condition beside those that each theorem names. -/
import Derived.Test.YtjdkifckhidlbaaGreatDp
import Derived.Test.YtjdkifckhidlbaaGreatDi
import Derived.Test.YtjdkifckhidlbaaGreatMo
import Derived.Test.YtjdkifckhidlbaaGreatDs
namespace Go.Proofs.YtjdkifckhidlbaaGreat
open Go Go.Li Go.Dk
set_option linter.unusedVariables false
set_option maxHeartbeats 16000000
set_option maxRecDepth 100000
theorem c10 {x0:(List Int)} {cX:Value}:Ct Tryz.prog 10 true (rZ x0) [cX] [.rd false (bY (aM .u8)) cX x0] (fun y (_:Unit)=>[.bool y]) (fun y _=>[]):=by
 refine ct (S:=Unit) (cf fun _ _=>rfl) Tryz.func10 rfl rfl ?_
 repeat' first
  | (apply Dk.fe; repeat' first | exact rfl | (refine @id.{0} _ ?_; constructor))
  | intro _
  | exact rfl
  | (refine @id.{0} _ ?_; constructor)
  | exact ()
theorem Am {x0:aL} {dM:Nat} {cQ:Value} {x1:Int}:Ct Tryz.prog 75 true (cM x0 x1) [.pointer (some (⟨dM,0,none⟩)),.int .i64 (x1)] [.row dM [cQ,.int .i64 (x0.At),.int .u64 (x0.av)] 193,.rd false (bY (aM .u8)) cQ x0.Code] (fun y (_:Unit)=>[.int .i64 y.1]) (fun y _=>[.row dM [cQ,.int .i64 y.2.At,.int .u64 y.2.av] 193]):=by
 refine ct (S:=Unit) (cf fun _ _=>rfl) Tryz.func75 rfl rfl ?_
 repeat' first
  | (apply Dk.fe; repeat' first | exact rfl | (refine @id.{0} _ ?_; constructor))
  | intro _
  | exact rfl
  | apply Dk.D.mh (d:=13)
  | apply Dk.AD.mh (d:=13)
  | apply Dk.D.mh (d:=14)
  | apply Dk.AD.mh (d:=14)
  | apply Dk.D.mh (d:=21)
  | apply Dk.AD.mh (d:=21)
  | apply Dk.D.mh (d:=22)
  | apply Dk.AD.mh (d:=22)
  | apply Dk.D.mh (d:=57)
  | apply Dk.AD.mh (d:=57)
  | (refine @id.{0} _ ?_; constructor)
  | apply Dk.quiet (id:=5) (by kernel_rfl)
  | apply Dk.quiet (id:=6) (by kernel_rfl)
  | exact ()
theorem afg {x0:aL} {dM:Nat} {cQ:Value} {x1:Int}:Ct Tryz.prog 266 true (kB x0 x1) [.pointer (some (⟨dM,0,none⟩)),.int .i64 (x1)] [.row dM [cQ,.int .i64 (x0.At),.int .u64 (x0.av)] 193,.rd false (bY (aM .u8)) cQ x0.Code] (fun y (v:Value)=>[v]) (fun y v=>[.own (aK 24 (aK 2 (aM .i64))) v y.1,.row dM [cQ,.int .i64 y.2.At,.int .u64 y.2.av] 193]):=by
 refine ct (S:=Unit) (cf fun _ _=>rfl) Tryz.func266 rfl rfl ?_
 repeat' first
  | (apply Dk.fe; repeat' first | exact rfl | (refine @id.{0} _ ?_; constructor))
  | intro _
  | exact rfl
  | (apply Dk.Sl (t:=45); exact rfl)
  | (refine Dk.va (t:=62) rfl ?_ ?_)
  | (refine Dk.va (t:=67) rfl ?_ ?_)
  | (refine @id.{0} _ ?_; constructor)
  | apply Dk.loop 0 (V:=Value) (fun (s:(List (List Int))×Int×Int×Int) v=>[.row dM [cQ,.int .i64 (s.2.2.1),.int .u64 (s.2.2.2)] 193,.own (aK 24 (aK 2 (aM .i64))) v s.1]) (fun s v=>[(5,v),(6,.int .i64 (s.2.1))]) _ [(0,_),(1,_)]
  | apply Dk.j5 2 (V:=Unit) (A:=Value) _ (fun a (s:Int×Int×Int×(List Int)) v=>[.row dM [cQ,.int .i64 (s.2.1),.int .u64 (s.2.2.1)] 193,.own (aK 2 (aM .i64)) a s.2.2.2]) (fun a s v=>[(7,a),(8,.int .i64 (s.1))]) () [(0,_),(1,_),(5,_),(6,_)]
  | apply Dk.j5 4 (V:=Unit) (A:=Value) _ (fun a (s:Int×(List (List Int))) v=>[.own (aK 24 (aK 2 (aM .i64))) a s.2]) (fun a s v=>[(5,a),(9,.int .i64 (s.1))]) () [(1,_)]
  | apply Dk.j5 6 (V:=Unit) (A:=Value) _ (fun a (s:Int×(List (List Int))) v=>[.own (aK 24 (aK 2 (aM .i64))) a s.2]) (fun a s v=>[(5,a),(10,.int .i64 (s.1))]) () [(1,_),(9,_)]
  | apply Dk.j5 8 (V:=Unit) (A:=Value) _ (fun a (s:Int×(List (List Int))) v=>[.own (aK 24 (aK 2 (aM .i64))) a s.2]) (fun a s v=>[(5,a),(11,.int .i64 (s.1))]) () [(1,_),(9,_),(10,_)]
  | apply Dk.xf (id:=13) [Dk.aX.row _ _ 193] 8 [] [[],[],[],[],[],[],[],[10]] [[],[],[1],[0,1,2],[0,1,2,3],[],[],[5,6]] (by kernel_rfl)
  | apply Am
  | exact ()
theorem afh {x0:aL} {dM:Nat} {cQ:Value}:Ct Tryz.prog 269 true (jY x0) [.pointer (some (⟨dM,0,none⟩))] [.row dM [cQ,.int .i64 (x0.At),.int .u64 (x0.av)] 193,.rd false (bY (aM .u8)) cQ x0.Code] (fun y (v:Value)=>[v]) (fun y v=>[.own (aK 24 (aK 2 (aM .i64))) v y.1,.row dM [cQ,.int .i64 y.2.At,.int .u64 y.2.av] 193]):=by
 refine ct (S:=Unit) (cf fun _ _=>rfl) Tryz.func269 rfl rfl ?_
 repeat' first
  | (apply Dk.fe; repeat' first | exact rfl | (refine @id.{0} _ ?_; constructor))
  | intro _
  | exact rfl
  | apply Dk.D.D5 (d:=2) (x:=.tmp 8)
  | apply Dk.D.D5 (d:=2) (x:=.tmp 13)
  | apply Dk.D.D5 (d:=2) (x:=.tmp 18)
  | apply Dk.D.D5 (d:=2) (x:=.tmp 24)
  | apply Dk.D.D5 (d:=2) (x:=.tmp 30)
  | apply Dk.D.D5 (d:=2) (x:=.tmp 36)
  | apply Dk.D.D5 (d:=2) (x:=.tmp 43)
  | apply Dk.D.D5 (d:=2) (x:=.tmp 47)
  | (refine @id.{0} _ ?_; constructor)
  | apply Am
  | exact ()
theorem c85 {x0:aI} {bF bV aP aN:Value} {x1:aI} {cF cR bR bI:Value}:Ct Tryz.prog 85 true (gI x0 x1) [.agg #[.int .i64 (x0.aA),bF,bV,aP,aN],.agg #[.int .i64 (x1.aA),cF,cR,bR,bI]] [rI bF x0.aH,rI bV x0.To,rI aP x0.aJ,rJ aN x0.aE,rI cF x1.aH,rI cR x1.To,rI bR x1.aJ,rJ bI x1.aE] (fun y (v:Value×Value×Value×Value)=>[.agg #[.int .i64 y.aA,v.1,v.2.1,v.2.2.1,v.2.2.2]]) (fun y v=>[.own (aK 2 (aM .i64)) v.1 y.aH,.own (aK 2 (aM .i64)) v.2.1 y.To,.own (aK 2 (aM .i64)) v.2.2.1 y.aJ,.own (aK 24 (aK 2 (aM .i64))) v.2.2.2 y.aE]):=by
 refine ct (S:=Unit) (cf fun _ _=>rfl) Tryz.func85 rfl rfl ?_
 repeat' first
  | (apply Dk.fe; repeat' first | exact rfl | (refine @id.{0} _ ?_; constructor))
  | intro _
  | exact rfl
  | (refine Dk.va (t:=114) rfl ?_ ?_)
  | (refine Dk.va (t:=121) rfl ?_ ?_)
  | (refine @id.{0} _ ?_; constructor)
  | apply Dk.j5 0 (V:=Value) (A:=Nat×Value×Value×Value) (_,_,_,_) (fun a (s:Int×(List Int)) v=>Dk.pc (fun a0=>Dk.pc (fun a1=>Dk.pc (fun a2 a3=>[.row a0 [.int .i64 (ao (x0.aA * x1.aA)),a1,a2,v,a3] 27,.own (aK 2 (aM .i64)) v s.2]))) a) (fun a s v=>Dk.pc (fun a0=>Dk.pc (fun a1=>Dk.pc (fun a2 a3=>[(7,.pointer (some ⟨a0,0,none⟩)),(8,.int .i64 (s.1))]))) a) _ [(2,_),(3,_),(4,_),(5,_),(6,_)]
  | apply Dk.j5 2 (V:=Value) (A:=Nat×Value×Value×Value) (_,_,_,_) (fun a (s:Int×(List Int)) v=>Dk.pc (fun a0=>Dk.pc (fun a1=>Dk.pc (fun a2 a3=>[.row a0 [.int .i64 (ao (x0.aA * x1.aA)),a1,a2,v,a3] 27,.own (aK 2 (aM .i64)) v s.2]))) a) (fun a s v=>Dk.pc (fun a0=>Dk.pc (fun a1=>Dk.pc (fun a2 a3=>[(7,.pointer (some ⟨a0,0,none⟩)),(9,.int .i64 (s.1))]))) a) _ [(2,_),(3,_),(4,_),(5,_),(6,_),(8,_)]
  | apply Dk.j5 4 (V:=Value×Value×Value) (A:=Nat×Value) (_,_) (fun a (s:Int×(List Int)×(List Int)×(List (List Int))) v=>Dk.pc (fun a0 a1=>[.row a0 [.int .i64 (ao (x0.aA * x1.aA)),v.1,v.2.1,a1,v.2.2] 27,.own (aK 2 (aM .i64)) v.1 s.2.1,.own (aK 2 (aM .i64)) v.2.1 s.2.2.1,.own (aK 24 (aK 2 (aM .i64))) v.2.2 s.2.2.2]) a) (fun a s v=>Dk.pc (fun a0 a1=>[(7,.pointer (some ⟨a0,0,none⟩)),(10,.int .i64 (s.1))]) a) (_,_,_) [(2,_),(3,_),(4,_),(5,_),(6,_)]
  | apply Dk.j5 6 (V:=Value×Value×Value) (A:=Nat×Value) (_,_) (fun a (s:Int×(List Int)×(List Int)×(List (List Int))) v=>Dk.pc (fun a0 a1=>[.row a0 [.int .i64 (ao (x0.aA * x1.aA)),v.1,v.2.1,a1,v.2.2] 27,.own (aK 2 (aM .i64)) v.1 s.2.1,.own (aK 2 (aM .i64)) v.2.1 s.2.2.1,.own (aK 24 (aK 2 (aM .i64))) v.2.2 s.2.2.2]) a) (fun a s v=>Dk.pc (fun a0 a1=>[(7,.pointer (some ⟨a0,0,none⟩)),(11,.int .i64 (s.1))]) a) (_,_,_) [(2,_),(3,_),(4,_),(5,_),(6,_),(10,_)]
  | apply Dk.loop 8 (V:=Value) (fun (s:(List Int)×Int) v=>[.own (aK 2 (aM .i64)) v s.1]) (fun s v=>[(12,v),(13,.int .i64 (s.2))]) _ [(2,_),(3,_),(4,_),(5,_),(6,_),(7,_),(10,_),(11,_)]
  | apply Dk.loop 10 (V:=Value) (fun (s:(List Int)×Int) v=>[.own (aK 2 (aM .i64)) v s.1]) (fun s v=>[(12,v),(14,.int .i64 (s.2))]) _ [(2,_),(3,_),(4,_),(5,_),(6,_),(7,_),(10,_),(11,_),(13,_)]
  | apply Dk.quiet (id:=1) (by kernel_rfl)
  | apply Dk.quiet (id:=27) (by kernel_rfl)
  | apply Dk.any (id:=9) 16 [] [] [[],[0],[],[2],[],[2,3,4],[2,3,4,5],[],[2,3,4,5,6,7],[],[9],[],[9,10,11],[9,10,11,12],[2,3,4,5,6,7,8,9,10,11,12,13],[2,3,4,5,6,7,8,9,10,11,12,13,14]] (by kernel_rfl)
  | apply Dk.any (id:=16) 16 [] [] [[],[0],[],[2],[],[2,3,4],[2,3,4,5],[],[2,3,4,5,6,7],[],[9],[],[9,10,11],[9,10,11,12],[2,3,4,5,6,7,8,9,10,11,12,13],[2,3,4,5,6,7,8,9,10,11,12,13,14]] (by kernel_rfl)
  | apply Dk.any (id:=17) 16 [] [] [[],[0],[],[2],[],[2,3,4],[2,3,4,5],[],[2,3,4,5,6,7],[],[9],[],[9,10,11],[9,10,11,12],[2,3,4,5,6,7,8,9,10,11,12,13],[2,3,4,5,6,7,8,9,10,11,12,13,14]] (by kernel_rfl)
  | exact ()
theorem Yi {x0:aI} {bF bV aP aN:Value} {x1:Int}:Ct Tryz.prog 200 true (gO x0 x1) [.agg #[.int .i64 (x0.aA),bF,bV,aP,aN],.int .i64 (x1)] [rI bF x0.aH,rI bV x0.To,rI aP x0.aJ,rJ aN x0.aE] (fun y (_:Unit)=>[.bool y]) (fun y _=>[]):=by
 refine ct (S:=Unit) (cf fun _ _=>rfl) Tryz.func200 rfl rfl ?_
 repeat' first
  | (apply Dk.fe; repeat' first | exact rfl | (refine @id.{0} _ ?_; constructor))
  | intro _
  | exact rfl
  | (refine @id.{0} _ ?_; constructor)
  | apply Dk.quiet (id:=1) (by kernel_rfl)
  | exact ()
theorem afi {x0:aI} {bF bV aP aN:Value}:Ct Tryz.prog 188 true (nB x0) [.agg #[.int .i64 (x0.aA),bF,bV,aP,aN]] [rI bF x0.aH,rI bV x0.To,rI aP x0.aJ,rJ aN x0.aE] (fun y (v:Value)=>[v]) (fun y v=>[.own (aK 2 (aM .i64)) v y]):=by
 refine ct (S:=Unit) (cf fun _ _=>rfl) Tryz.func188 rfl rfl ?_
 repeat' first
  | (apply Dk.fe; repeat' first | exact rfl | (refine @id.{0} _ ?_; constructor))
  | intro _
  | exact rfl
  | (refine @id.{0} _ ?_; constructor)
  | apply Dk.loop 0 (V:=Value) (fun (s:(List Int)×Int) v=>[.own (aK 2 (aM .i64)) v s.1]) (fun s v=>[(3,v),(4,.int .i64 (s.2))]) _ [(1,_)]
  | apply Yi
  | exact ()
theorem afj {x0:(List (List Int))} {cX:Value} {x1:Int}:Ct Tryz.prog 286 true (kA x0 x1) [cX,.int .i64 (x1)] [rJ cX x0] (fun y (v:Value)=>[v]) (fun y v=>[.own (aK 2 (aM .i64)) v y]):=by
 refine ct (S:=Unit) (cf fun _ _=>rfl) Tryz.func286 rfl rfl ?_
 repeat' first
  | (apply Dk.fe; repeat' first | exact rfl | (refine @id.{0} _ ?_; constructor))
  | intro _
  | exact rfl
  | (refine @id.{0} _ ?_; constructor)
  | apply Dk.loop 0 (V:=Value) (fun (s:(List Int)×Int) v=>[.own (aK 2 (aM .i64)) v s.1]) (fun s v=>[(5,v),(6,.int .i64 (s.2))]) _ [(0,_),(1,_)]
  | exact ()
theorem Yj {x0:aL} {dM:Nat} {cQ:Value} {x1:(List Int)} {fH:Value}:Ct Tryz.prog 197 true (mP x0 x1) [.pointer (some (⟨dM,0,none⟩)),fH] [.row dM [cQ,.int .i64 (x0.At),.int .u64 (x0.av)] 193,.rd false (bY (aM .u8)) cQ x0.Code,rI fH x1] (fun y (_:Unit)=>[.int .i64 y.1]) (fun y _=>[.row dM [cQ,.int .i64 y.2.At,.int .u64 y.2.av] 193]):=by
 refine ct (S:=Unit) (cf fun _ _=>rfl) Tryz.func197 rfl rfl ?_
 repeat' first
  | (apply Dk.fe; repeat' first | exact rfl | (refine @id.{0} _ ?_; constructor))
  | intro _
  | exact rfl
  | (refine @id.{0} _ ?_; constructor)
  | apply Am
  | exact ()
theorem afk {x0:(List Int)} {cX:Value} {x1:(List Int)} {fH:Value}:Ct Tryz.prog 273 true (qY x0 x1) [cX,fH] [rI cX x0,rI fH x1] (fun y (_:Unit)=>[.int .i64 y]) (fun y _=>[]):=by
 refine ct (S:=Unit) (cf fun _ _=>rfl) Tryz.func273 rfl rfl ?_
 repeat' first
  | (apply Dk.fe; repeat' first | exact rfl | (refine @id.{0} _ ?_; constructor))
  | intro _
  | exact rfl
  | (refine @id.{0} _ ?_; constructor)
  | apply Dk.loop 0 (V:=Unit) (fun (s:Int) v=>[]) (fun s v=>[(8,.int .i64 (s))]) () [(0,_),(1,_),(7,_)]
  | apply Dk.quiet (id:=6) (by kernel_rfl)
  | apply Dk.quiet (id:=7) (by kernel_rfl)
  | exact ()
theorem afl {x0:(List Int)} {cX:Value} {x1:(List Int)} {fH:Value}:Ct Tryz.prog 176 true (mU x0 x1) [cX,fH] [rI cX x0,rI fH x1] (fun y (_:Unit)=>[.bool y]) (fun y _=>[]):=by
 refine ct (S:=Unit) (cf fun _ _=>rfl) Tryz.func176 rfl rfl ?_
 repeat' first
  | (apply Dk.fe; repeat' first | exact rfl | (refine @id.{0} _ ?_; constructor))
  | intro _
  | exact rfl
  | (refine @id.{0} _ ?_; constructor)
  | apply afk
  | exact ()
theorem afm {x0:(List Int)} {cX:Value} {x1:(List Int)} {fH:Value}:Ct Tryz.prog 185 true (qL x0 x1) [cX,fH] [rI cX x0,rI fH x1] (fun y (v:Value)=>[v]) (fun y v=>[.own (aK 2 (aM .i64)) v y]):=by
 refine ct (S:=Unit) (cf fun _ _=>rfl) Tryz.func185 rfl rfl ?_
 repeat' first
  | (apply Dk.fe; repeat' first | exact rfl | (refine @id.{0} _ ?_; constructor))
  | intro _
  | exact rfl
  | (refine @id.{0} _ ?_; constructor)
  | apply Dk.j5 0 (V:=Unit) (A:=Value) _ (fun a (s:Int×(List Int)) v=>[.own (aK 2 (aM .i64)) a s.2]) (fun a s v=>[(5,a),(13,.int .i64 (s.1))]) () [(1,_),(11,_),(12,_)]
  | exact ()
theorem c46 {x0:(List Int)} {cX:Value} {x1:Int}:Ct Tryz.prog 46 true (rF x0 x1) [cX,.int .u64 (x1)] [.rd false (bY (aM .u8)) cX x0] (fun y (v:Nat)=>[(match y with | none=>Value.pointer none | some _=>.pointer (some (⟨v,0,none⟩)))]) (fun y v=>match y with | none=>[] | some m0=>[.row v [cX,.int .i64 (m0.I),.int .u64 (m0.H)] 157]):=by
 refine ct (S:=Unit) (by intro _ y v; obtain _ | _:=y <;> rfl) Tryz.func46 rfl rfl ?_
 repeat' first
  | (apply Dk.fe; repeat' first | exact rfl | (refine @id.{0} _ ?_; constructor))
  | intro _
  | exact rfl
  | apply Dk.D.mh (d:=9)
  | apply Dk.AD.mh (d:=9)
  | apply Dk.D.mh (d:=13)
  | apply Dk.AD.mh (d:=13)
  | apply Dk.D.mh (d:=27)
  | apply Dk.AD.mh (d:=27)
  | apply Dk.D.mh (d:=33)
  | apply Dk.AD.mh (d:=33)
  | apply Dk.D.mh (d:=34)
  | apply Dk.AD.mh (d:=34)
  | (refine @id.{0} _ ?_; constructor)
  | apply Dk.j5 0 (V:=Unit) (A:=Nat) _ (fun a (s:Int×Int) v=>[.row a [cX,.int .i64 ((0:Int)),.int .u64 (s.2)] 157]) (fun a s v=>[(5,.pointer (some ⟨a,0,none⟩)),(6,.int .i64 (s.1))]) () [(0,_)]
  | apply Dk.any (id:=5) 11 [0] [] [[],[],[1],[1,2],[1,2,3],[1,2,3,4],[],[],[6,7],[6,7,8],[6,7,8,9]] (by kernel_rfl)
  | exact ()
 all_goals try first | exact Value.nilFunc | exact (0:Nat)
theorem c47 {x0:um} {dM:Nat} {sK:Value} {x1:Int}:Ct Tryz.prog 47 true (kY x0 x1) [.pointer (some (⟨dM,0,none⟩)),.int .i64 (x1)] [.row dM [sK,.int .i64 (x0.I),.int .u64 (x0.H)] 157,.rd false (bY (aM .u8)) sK x0.B] (fun y (_:Unit)=>[.int .i64 y.1]) (fun y _=>[.row dM [sK,.int .i64 y.2.I,.int .u64 y.2.H] 157]):=by
 refine ct (S:=Unit) (cf fun _ _=>rfl) Tryz.func47 rfl rfl ?_
 repeat' first
  | (apply Dk.fe; repeat' first | exact rfl | (refine @id.{0} _ ?_; constructor))
  | intro _
  | exact rfl
  | apply Dk.D.mh (d:=13)
  | apply Dk.AD.mh (d:=13)
  | apply Dk.D.mh (d:=14)
  | apply Dk.AD.mh (d:=14)
  | apply Dk.D.mh (d:=21)
  | apply Dk.AD.mh (d:=21)
  | apply Dk.D.mh (d:=22)
  | apply Dk.AD.mh (d:=22)
  | apply Dk.D.mh (d:=57)
  | apply Dk.AD.mh (d:=57)
  | (refine @id.{0} _ ?_; constructor)
  | apply Dk.quiet (id:=5) (by kernel_rfl)
  | apply Dk.quiet (id:=6) (by kernel_rfl)
  | exact ()
end Go.Proofs.YtjdkifckhidlbaaGreat
