/- Walks by the calculus D. No condition beside those that each theorem names. -/
import Derived.Test.YtgjbmjjihmfppaaGreatDi
import Derived.Test.YtgjbmjjihmfppaaGreatMo
import Derived.Test.YtgjbmjjihmfppaaGreatDp
import Derived.Test.YtgjbmjjihmfppaaGreatDs
namespace Go.Proofs.YtgjbmjjihmfppaaGreat
open Go Go.Li Go.Dk
set_option linter.unusedVariables false
set_option maxHeartbeats 16000000
set_option maxRecDepth 100000
theorem Aj {x0:aL} {cH:Nat} {bK:Value} {x1:Int}:Ct Tryz.prog 61 true (bJ x0 x1) [.pointer (some (⟨cH,0,none⟩)),.int .i64 (x1)] [.row cH [bK,.int .i64 (x0.At),.int .u64 (x0.au)] 81,.rd false (aE (aC .u8)) bK x0.Code] (fun y (_:Unit)=>[.int .i64 y.1]) (fun y _=>[.row cH [bK,.int .i64 y.2.At,.int .u64 y.2.au] 81]):=by
 refine ct (S:=Unit) (db fun _ _=>rfl) Tryz.func61 rfl rfl ?_
 repeat' first
  | ((first | show Dk.ER _ _ _ | show Dk.bd _ _ | show Dk.EF _ _ _ | show Dk.EO _ _ _ | show Dk.EP _ _ | show Dk.ba _ _ _ _ | show Dk.aw _ _ _ _ | show Dk.Kp _ _ _ _ | show Dk.bp _ _ | show Dk.bg _ _ _ _); repeat' first | exact rfl | (refine @id.{0} _ ?_; constructor))
  | intro _
  | exact rfl
  | apply Dk.D.sN (d:=13)
  | apply Dk.AD.sN (d:=13)
  | apply Dk.D.sN (d:=14)
  | apply Dk.AD.sN (d:=14)
  | apply Dk.D.sN (d:=21)
  | apply Dk.AD.sN (d:=21)
  | apply Dk.D.sN (d:=22)
  | apply Dk.AD.sN (d:=22)
  | apply Dk.D.sN (d:=57)
  | apply Dk.AD.sN (d:=57)
  | (refine @id.{0} _ ?_; constructor)
  | apply Dk.quiet (id:=5) (by kernel_rfl)
  | apply Dk.quiet (id:=6) (by kernel_rfl)
  | exact ()
theorem ace {x0:aL} {cH:Nat} {bK:Value} {x1:Int}:Ct Tryz.prog 153 true (gS x0 x1) [.pointer (some (⟨cH,0,none⟩)),.int .i64 (x1)] [.row cH [bK,.int .i64 (x0.At),.int .u64 (x0.au)] 81,.rd false (aE (aC .u8)) bK x0.Code] (fun y (v:Value)=>[v]) (fun y v=>[.own (aK 24 (aK 2 (aC .i64))) v y.1,.row cH [bK,.int .i64 y.2.At,.int .u64 y.2.au] 81]):=by
 refine ct (S:=Unit) (db fun _ _=>rfl) Tryz.func153 rfl rfl ?_
 repeat' first
  | ((first | show Dk.ER _ _ _ | show Dk.bd _ _ | show Dk.EF _ _ _ | show Dk.EO _ _ _ | show Dk.EP _ _ | show Dk.ba _ _ _ _ | show Dk.aw _ _ _ _ | show Dk.Kp _ _ _ _ | show Dk.bp _ _ | show Dk.bg _ _ _ _); repeat' first | exact rfl | (refine @id.{0} _ ?_; constructor))
  | intro _
  | exact rfl
  | (apply Dk.Ub (t:=45); exact rfl)
  | (refine Dk.tu (t:=62) rfl ?_ ?_)
  | (refine Dk.tu (t:=67) rfl ?_ ?_)
  | (refine @id.{0} _ ?_; constructor)
  | apply Dk.loop 0 (V:=Value) (fun (s:(List (List Int))×Int×Int×Int) v=>[.row cH [bK,.int .i64 (s.2.2.1),.int .u64 (s.2.2.2)] 81,.own (aK 24 (aK 2 (aC .i64))) v s.1]) (fun s v=>[(5,v),(6,.int .i64 (s.2.1))]) _ [(0,_),(1,_)]
  | apply Dk.kj 2 (V:=Unit) (A:=Value) _ (fun a (s:Int×Int×Int×(List Int)) v=>[.row cH [bK,.int .i64 (s.2.1),.int .u64 (s.2.2.1)] 81,.own (aK 2 (aC .i64)) a s.2.2.2]) (fun a s v=>[(7,a),(8,.int .i64 (s.1))]) () [(0,_),(1,_),(5,_),(6,_)]
  | apply Dk.kj 4 (V:=Unit) (A:=Value) _ (fun a (s:Int×(List (List Int))) v=>[.own (aK 24 (aK 2 (aC .i64))) a s.2]) (fun a s v=>[(5,a),(9,.int .i64 (s.1))]) () [(1,_)]
  | apply Dk.kj 6 (V:=Unit) (A:=Value) _ (fun a (s:Int×(List (List Int))) v=>[.own (aK 24 (aK 2 (aC .i64))) a s.2]) (fun a s v=>[(5,a),(10,.int .i64 (s.1))]) () [(1,_),(9,_)]
  | apply Dk.kj 8 (V:=Unit) (A:=Value) _ (fun a (s:Int×(List (List Int))) v=>[.own (aK 24 (aK 2 (aC .i64))) a s.2]) (fun a s v=>[(5,a),(11,.int .i64 (s.1))]) () [(1,_),(9,_),(10,_)]
  | apply Dk.yg (id:=13) [Dk.av.row _ _ 81] 8 [] [[],[],[],[],[],[],[],[10]] [[],[],[1],[0,2,1],[3,0,2,1],[],[],[5,6]] (by kernel_rfl)
  | apply Aj
  | exact ()
theorem acf {x0:(List Int)} {cY:Value} {x1:(List Int)} {dI:Value}:Ct Tryz.prog 162 true (kN x0 x1) [cY,dI] [.rd false (aE (aC .i64)) cY x0,.rd false (aE (aC .i64)) dI x1] (fun y (_:Unit)=>[.bool y]) (fun y _=>[]):=by
 refine ct (S:=Unit) (db fun _ _=>rfl) Tryz.func162 rfl rfl ?_
 repeat' first
  | ((first | show Dk.ER _ _ _ | show Dk.bd _ _ | show Dk.EF _ _ _ | show Dk.EO _ _ _ | show Dk.EP _ _ | show Dk.ba _ _ _ _ | show Dk.aw _ _ _ _ | show Dk.Kp _ _ _ _ | show Dk.bp _ _ | show Dk.bg _ _ _ _); repeat' first | exact rfl | (refine @id.{0} _ ?_; constructor))
  | intro _
  | exact rfl
  | (refine @id.{0} _ ?_; constructor)
  | apply Dk.loop 0 (V:=Unit) (fun (s:Int) v=>[]) (fun s v=>[(5,.int .i64 (s))]) () [(0,_),(1,_)]
  | apply Dk.quiet (id:=4) (by kernel_rfl)
  | apply Dk.quiet (id:=5) (by kernel_rfl)
  | exact ()
theorem acg {x0:bG} {qH:Value} {x1:bG} {qI:Value}:Ct Tryz.prog 159 true (gO x0 x1) [.agg #[.int .i64 (x0.aD),.int .i64 (x0.To),qH],.agg #[.int .i64 (x1.aD),.int .i64 (x1.To),qI]] [.rd false (aE (aC .i64)) qH x0.l7,.rd false (aE (aC .i64)) qI x1.l7] (fun y (_:Unit)=>[.bool y]) (fun y _=>[]):=by
 refine ct (S:=Unit) (db fun _ _=>rfl) Tryz.func159 rfl rfl ?_
 repeat' first
  | ((first | show Dk.ER _ _ _ | show Dk.bd _ _ | show Dk.EF _ _ _ | show Dk.EO _ _ _ | show Dk.EP _ _ | show Dk.ba _ _ _ _ | show Dk.aw _ _ _ _ | show Dk.Kp _ _ _ _ | show Dk.bp _ _ | show Dk.bg _ _ _ _); repeat' first | exact rfl | (refine @id.{0} _ ?_; constructor))
  | intro _
  | exact rfl
  | (refine @id.{0} _ ?_; constructor)
  | apply acf
  | exact ()
theorem Wp {x0:aG} {aU:Value} {aZ:Value} {aO:Value} {aM:Value}:Ct Tryz.prog 134 true (dM x0) [.agg #[.int .i64 (x0.aA),aU,aZ,aO,aM]] [.rd false (aE (aC .i64)) aU x0.aD,.rd false (aE (aC .i64)) aZ x0.To,.rd false (aE (aC .i64)) aO x0.aJ,.rd false (aE (aE (aC .i64))) aM x0.aB] (fun y (_:Unit)=>[.bool y]) (fun y _=>[]):=by
 refine ct (S:=Unit) (db fun _ _=>rfl) Tryz.func134 rfl rfl ?_
 repeat' first
  | ((first | show Dk.ER _ _ _ | show Dk.bd _ _ | show Dk.EF _ _ _ | show Dk.EO _ _ _ | show Dk.EP _ _ | show Dk.ba _ _ _ _ | show Dk.aw _ _ _ _ | show Dk.Kp _ _ _ _ | show Dk.bp _ _ | show Dk.bg _ _ _ _); repeat' first | exact rfl | (refine @id.{0} _ ?_; constructor))
  | intro _
  | exact rfl
  | (refine @id.{0} _ ?_; constructor)
  | exact ()
theorem Wq {x0:aL} {cH:Nat} {bK:Value}:Ct Tryz.prog 138 true (fI x0) [.pointer (some (⟨cH,0,none⟩))] [.row cH [bK,.int .i64 (x0.At),.int .u64 (x0.au)] 81,.rd false (aE (aC .u8)) bK x0.Code] (fun y (v:Value)=>[v]) (fun y v=>[.own (aK 24 (aK 2 (aC .i64))) v y.1,.row cH [bK,.int .i64 y.2.At,.int .u64 y.2.au] 81]):=by
 refine ct (S:=Unit) (db fun _ _=>rfl) Tryz.func138 rfl rfl ?_
 repeat' first
  | ((first | show Dk.ER _ _ _ | show Dk.bd _ _ | show Dk.EF _ _ _ | show Dk.EO _ _ _ | show Dk.EP _ _ | show Dk.ba _ _ _ _ | show Dk.aw _ _ _ _ | show Dk.Kp _ _ _ _ | show Dk.bp _ _ | show Dk.bg _ _ _ _); repeat' first | exact rfl | (refine @id.{0} _ ?_; constructor))
  | intro _
  | exact rfl
  | apply Dk.D.Cz (d:=2) (x:=.tmp 8)
  | apply Dk.D.Cz (d:=2) (x:=.tmp 13)
  | apply Dk.D.Cz (d:=2) (x:=.tmp 18)
  | apply Dk.D.Cz (d:=2) (x:=.tmp 24)
  | apply Dk.D.Cz (d:=2) (x:=.tmp 30)
  | apply Dk.D.Cz (d:=2) (x:=.tmp 36)
  | apply Dk.D.Cz (d:=2) (x:=.tmp 43)
  | apply Dk.D.Cz (d:=2) (x:=.tmp 47)
  | (refine @id.{0} _ ?_; constructor)
  | apply Aj
  | exact ()
theorem ach {x0:aL} {cH:Nat} {bK:Value} {x1:(List Int)} {dI:Value}:Ct Tryz.prog 135 true (nK x0 x1) [.pointer (some (⟨cH,0,none⟩)),dI] [.row cH [bK,.int .i64 (x0.At),.int .u64 (x0.au)] 81,.rd false (aE (aC .u8)) bK x0.Code,.rd false (aE (aC .i64)) dI x1] (fun y (_:Unit)=>[.int .i64 y.1]) (fun y _=>[.row cH [bK,.int .i64 y.2.At,.int .u64 y.2.au] 81]):=by
 refine ct (S:=Unit) (db fun _ _=>rfl) Tryz.func135 rfl rfl ?_
 repeat' first
  | ((first | show Dk.ER _ _ _ | show Dk.bd _ _ | show Dk.EF _ _ _ | show Dk.EO _ _ _ | show Dk.EP _ _ | show Dk.ba _ _ _ _ | show Dk.aw _ _ _ _ | show Dk.Kp _ _ _ _ | show Dk.bp _ _ | show Dk.bg _ _ _ _); repeat' first | exact rfl | (refine @id.{0} _ ?_; constructor))
  | intro _
  | exact rfl
  | (refine @id.{0} _ ?_; constructor)
  | apply Aj
  | exact ()
theorem Wr {x0:Int} {x1:Int} {x2:Int}:Ct Tryz.prog 92 true (eB x0 x1 x2) [.int .i64 (x0),.int .i64 (x1),.int .i64 (x2)] [] (fun y (_:Unit)=>[.bool y]) (fun y _=>[]):=by
 refine ct (S:=Unit) (db fun _ _=>rfl) Tryz.func92 rfl rfl ?_
 repeat' first
  | ((first | show Dk.ER _ _ _ | show Dk.bd _ _ | show Dk.EF _ _ _ | show Dk.EO _ _ _ | show Dk.EP _ _ | show Dk.ba _ _ _ _ | show Dk.aw _ _ _ _ | show Dk.Kp _ _ _ _ | show Dk.bp _ _ | show Dk.bg _ _ _ _); repeat' first | exact rfl | (refine @id.{0} _ ?_; constructor))
  | intro _
  | exact rfl
  | (refine @id.{0} _ ?_; constructor)
  | exact ()
theorem Ws {x0:(List Int)} {cY:Value} {x1:Int}:Ct Tryz.prog 93 true (eE x0 x1) [cY,.int .i64 (x1)] [.rd false (aE (aC .i64)) cY x0] (fun y (_:Unit)=>[.bool y]) (fun y _=>[]):=by
 refine ct (S:=Unit) (db fun _ _=>rfl) Tryz.func93 rfl rfl ?_
 repeat' first
  | ((first | show Dk.ER _ _ _ | show Dk.bd _ _ | show Dk.EF _ _ _ | show Dk.EO _ _ _ | show Dk.EP _ _ | show Dk.ba _ _ _ _ | show Dk.aw _ _ _ _ | show Dk.Kp _ _ _ _ | show Dk.bp _ _ | show Dk.bg _ _ _ _); repeat' first | exact rfl | (refine @id.{0} _ ?_; constructor))
  | intro _
  | exact rfl
  | (refine @id.{0} _ ?_; constructor)
  | apply Dk.loop 0 (V:=Unit) (fun (s:Int) v=>[]) (fun s v=>[(9,.int .i64 (s))]) () [(1,_),(7,_),(8,_)]
  | apply Wr
  | exact ()
theorem Hr {x0:(List Int)} {cY:Value}:Ct Tryz.prog 112 true (dT x0) [cY] [.rd false (aE (aC .i64)) cY x0] (fun y (v:Value)=>[v]) (fun y v=>[.own (aK 2 (aC .i64)) v y]):=by
 refine ct (S:=Unit) (db fun _ _=>rfl) Tryz.func112 rfl rfl ?_
 repeat' first
  | ((first | show Dk.ER _ _ _ | show Dk.bd _ _ | show Dk.EF _ _ _ | show Dk.EO _ _ _ | show Dk.EP _ _ | show Dk.ba _ _ _ _ | show Dk.aw _ _ _ _ | show Dk.Kp _ _ _ _ | show Dk.bp _ _ | show Dk.bg _ _ _ _); repeat' first | exact rfl | (refine @id.{0} _ ?_; constructor))
  | intro _
  | exact rfl
  | (refine @id.{0} _ ?_; constructor)
  | exact ()
theorem aci {x0:(List (List Int))} {cY:Value}:Ct Tryz.prog 147 true (oR x0) [cY] [.rd false (aE (aE (aC .i64))) cY x0] (fun y (v:Value)=>[v]) (fun y v=>[.own (aK 24 (aK 2 (aC .i64))) v y]):=by
 refine ct (S:=Unit) (db fun _ _=>rfl) Tryz.func147 rfl rfl ?_
 repeat' first
  | ((first | show Dk.ER _ _ _ | show Dk.bd _ _ | show Dk.EF _ _ _ | show Dk.EO _ _ _ | show Dk.EP _ _ | show Dk.ba _ _ _ _ | show Dk.aw _ _ _ _ | show Dk.Kp _ _ _ _ | show Dk.bp _ _ | show Dk.bg _ _ _ _); repeat' first | exact rfl | (refine @id.{0} _ ?_; constructor))
  | intro _
  | exact rfl
  | (refine @id.{0} _ ?_; constructor)
  | apply Dk.loop 0 (V:=Value) (fun (s:(List (List Int))×Int) v=>[.own (aK 24 (aK 2 (aC .i64))) v s.1]) (fun s v=>[(3,v),(11,.int .i64 (s.2))]) _ [(9,_),(10,_)]
  | apply Hr
  | exact ()
theorem Ko {p:Addr}:Ct Tryz.prog 184 true dD [.agg #[.pointer (some p)]] [] (fun _ (_:Unit)=>[.pointer (some p)]) (fun _ _=>[]):=by
 refine ct (S:=Unit) (db fun _ _=>rfl) Tryz.func184 rfl rfl ?_
 repeat' first
  | ((first | show Dk.ER _ _ _ | show Dk.bd _ _ | show Dk.EF _ _ _ | show Dk.EO _ _ _ | show Dk.EP _ _ | show Dk.ba _ _ _ _ | show Dk.aw _ _ _ _ | show Dk.Kp _ _ _ _ | show Dk.bp _ _ | show Dk.bg _ _ _ _); repeat' first | exact rfl | (refine @id.{0} _ ?_; constructor))
  | intro _
  | exact rfl
  | (refine @id.{0} _ ?_; constructor)
  | exact ()
theorem acj {x0:List Int} {v0:Value} {x1:List bD} {bo:Nat} {vo:Value} {xm:Int} {pm:Addr}:Ct Tryz.prog 117 true (dK x0 x1 xm) [v0,.pointer (some ⟨bo,0,none⟩),.pointer (some pm)] [.row bo [vo] 83,.aq pm [.int .i64 xm],.own (aK 32 rV) vo x1,.rd false (aE (aC .i64)) v0 x0] (fun y (_:Value)=>[.bool y.1]) (fun y v=>[.row bo [v] 83,.own (aK 32 rV) v y.2]):=by
 refine ct (S:=Unit) (db fun _ _=>rfl) Tryz.func117 rfl rfl ?_
 repeat' first
  | ((first | show Dk.ER _ _ _ | show Dk.bd _ _ | show Dk.EF _ _ _ | show Dk.EO _ _ _ | show Dk.EP _ _ | show Dk.ba _ _ _ _ | show Dk.aw _ _ _ _ | show Dk.Kp _ _ _ _ | show Dk.bp _ _ | show Dk.bg _ _ _ _); repeat' first | exact rfl | (refine @id.{0} _ ?_; constructor))
  | intro _
  | exact rfl
  | apply Dk.P3 (t:=83) (S:=rV) (bD.mk _ _)
  | apply Dk.AD.XQ (n:=2)
  | apply Dk.Qe (t:=83)
  | (refine @id.{0} _ ?_; constructor)
  | apply Dk.any (id:=1) 6 [] [] [[],[],[],[2],[1,3,2],[4,1,3,2]] (by kernel_rfl)
  | apply Hr
  | exact ()
theorem ack {x0:(List Int)} {cY:Value} {x1:Int}:Ct Tryz.prog 163 true (mE x0 x1) [cY,.int .i64 (x1)] [.rd false (aE (aC .i64)) cY x0] (fun y (_:Unit)=>[.int .i64 y]) (fun y _=>[]):=by
 refine ct (S:=Unit) (db fun _ _=>rfl) Tryz.func163 rfl rfl ?_
 repeat' first
  | ((first | show Dk.ER _ _ _ | show Dk.bd _ _ | show Dk.EF _ _ _ | show Dk.EO _ _ _ | show Dk.EP _ _ | show Dk.ba _ _ _ _ | show Dk.aw _ _ _ _ | show Dk.Kp _ _ _ _ | show Dk.bp _ _ | show Dk.bg _ _ _ _); repeat' first | exact rfl | (refine @id.{0} _ ?_; constructor))
  | intro _
  | exact rfl
  | (refine @id.{0} _ ?_; constructor)
  | apply Dk.loop 0 (V:=Unit) (fun (s:Int) v=>[]) (fun s v=>[(5,.int .i64 (s))]) () [(0,_),(1,_)]
  | exact ()
theorem acm {x0:(List Int)} {cY:Value}:Ct Tryz.prog 160 true (kL x0) [cY] [.rd false (aE (aC .i64)) cY x0] (fun y (v:Value)=>[v]) (fun y v=>[.own (aK 2 (aC .i64)) v y]):=by
 refine ct (S:=Unit) (db fun _ _=>rfl) Tryz.func160 rfl rfl ?_
 repeat' first
  | ((first | show Dk.ER _ _ _ | show Dk.bd _ _ | show Dk.EF _ _ _ | show Dk.EO _ _ _ | show Dk.EP _ _ | show Dk.ba _ _ _ _ | show Dk.aw _ _ _ _ | show Dk.Kp _ _ _ _ | show Dk.bp _ _ | show Dk.bg _ _ _ _); repeat' first | exact rfl | (refine @id.{0} _ ?_; constructor))
  | intro _
  | exact rfl
  | (refine @id.{0} _ ?_; constructor)
  | apply Dk.loop 0 (V:=Value×Value) (fun (s:(List Int)×(List Int)×Int) v=>[.own (aK 2 (aC .i64)) v.1 s.1,.own (aK 2 (aC .i64)) v.2 s.2.1]) (fun s v=>[(3,v.1),(4,v.2),(5,.int .i64 (s.2.2))]) (_,_) [(0,_)]
  | apply ack
  | exact ()
end Go.Proofs.YtgjbmjjihmfppaaGreat
