/- Walks by the calculus D. No condition beside those that each theorem names. -/
import Derived.Test.YtcnehblmgfbfoaaGreatDp
import Derived.Test.YtcnehblmgfbfoaaGreatDi
import Derived.Test.YtcnehblmgfbfoaaGreatMo
import Derived.Test.YtcnehblmgfbfoaaGreatDs
namespace Go.Proofs.YtcnehblmgfbfoaaGreat
open Go Go.Li Go.Dk
set_option linter.unusedVariables false
set_option maxHeartbeats 16000000
set_option maxRecDepth 100000
theorem MN {x0:(List Int)} {cA:Value}:Ct Tryz.prog 61 true (eB x0) [cA] [rI cA x0] (fun y (v:Value)=>[v]) (fun y v=>[.own (aI 2 (aJ .i64)) v y]):=by
 refine ct (S:=Unit) (bp fun _ _=>rfl) Tryz.func61 rfl rfl ?_
 repeat' first
  | (apply Dk.fe; repeat' first | exact rfl | (refine @id.{0} _ ?_; constructor))
  | intro _
  | exact rfl
  | (refine @id.{0} _ ?_; constructor)
  | apply Dk.mb 0 (V:=Unit) (A:=Value) _ (fun a (s:Int×(List Int)) v=>[.own (aI 2 (aJ .i64)) a s.2]) (fun a s v=>[(3,a),(4,.int .i64 (s.1))]) () [(0,_)]
  | exact ()
theorem XS {x0:(List (List Int))} {cA:Value}:Ct Tryz.prog 225 true (lM x0) [cA] [rJ cA x0] (fun y (v:Value)=>[v]) (fun y v=>[.own (aI 22 (aI 2 (aJ .i64))) v y]):=by
 refine ct (S:=Unit) (bp fun _ _=>rfl) Tryz.func225 rfl rfl ?_
 repeat' first
  | (apply Dk.fe; repeat' first | exact rfl | (refine @id.{0} _ ?_; constructor))
  | intro _
  | exact rfl
  | (refine @id.{0} _ ?_; constructor)
  | apply Dk.mb 0 (V:=Unit) (A:=Value) _ (fun a (s:Int×(List (List Int))) v=>[.own (aI 22 (aI 2 (aJ .i64))) a s.2]) (fun a s v=>[(3,a),(4,.int .i64 (s.1))]) () [(0,_)]
  | apply MN
  | exact ()
theorem Ls {x0:(List Int)} {cA:Value} {x1:(List Int)} {eL:Value}:Ct Tryz.prog 137 true (iJ x0 x1) [cA,eL] [rI cA x0,rI eL x1] (fun y (_:Unit)=>[.bool y]) (fun y _=>[]):=by
 refine ct (S:=Unit) (bp fun _ _=>rfl) Tryz.func137 rfl rfl ?_
 repeat' first
  | (apply Dk.fe; repeat' first | exact rfl | (refine @id.{0} _ ?_; constructor))
  | intro _
  | exact rfl
  | (refine @id.{0} _ ?_; constructor)
  | apply Dk.loop 0 (V:=Unit) (fun (s:Int) v=>[]) (fun s v=>[(5,.int .i64 (s))]) () [(0,_),(1,_)]
  | apply Dk.quiet (id:=6) (by kernel_rfl)
  | exact ()
theorem XT {x0:(List (List Int))} {cA:Value} {x1:(List (List Int))} {eL:Value}:Ct Tryz.prog 169 true (nM x0 x1) [cA,eL] [rJ cA x0,rJ eL x1] (fun y (_:Unit)=>[.bool y]) (fun y _=>[]):=by
 refine ct (S:=Unit) (bp fun _ _=>rfl) Tryz.func169 rfl rfl ?_
 repeat' first
  | (apply Dk.fe; repeat' first | exact rfl | (refine @id.{0} _ ?_; constructor))
  | intro _
  | exact rfl
  | (refine @id.{0} _ ?_; constructor)
  | apply Dk.loop 0 (V:=Unit) (fun (s:Int) v=>[]) (fun s v=>[(5,.int .i64 (s))]) () [(0,_),(1,_)]
  | apply Dk.quiet (id:=6) (by kernel_rfl)
  | apply Ls
  | exact ()
theorem Lt {x0:(List Int)} {cA:Value}:Ct Tryz.prog 106 true (fX x0) [cA] [rI cA x0] (fun y (v:Value)=>[v]) (fun y v=>[.own (aI 2 (aJ .i64)) v y]):=by
 refine ct (S:=Unit) (bp fun _ _=>rfl) Tryz.func106 rfl rfl ?_
 repeat' first
  | (apply Dk.fe; repeat' first | exact rfl | (refine @id.{0} _ ?_; constructor))
  | intro _
  | exact rfl
  | (refine @id.{0} _ ?_; constructor)
  | exact ()
theorem XU {x0:(List (List Int))} {cA:Value}:Ct Tryz.prog 211 true (mS x0) [cA] [rJ cA x0] (fun y (v:Value)=>[v]) (fun y v=>[.own (aI 22 (aI 2 (aJ .i64))) v y]):=by
 refine ct (S:=Unit) (bp fun _ _=>rfl) Tryz.func211 rfl rfl ?_
 repeat' first
  | (apply Dk.fe; repeat' first | exact rfl | (refine @id.{0} _ ?_; constructor))
  | intro _
  | exact rfl
  | (refine @id.{0} _ ?_; constructor)
  | apply Dk.loop 0 (V:=Value) (fun (s:(List (List Int))×Int) v=>[.own (aI 22 (aI 2 (aJ .i64))) v s.1]) (fun s v=>[(3,v),(4,.int .i64 (s.2))]) _ [(0,_)]
  | apply Lt
  | exact ()
theorem RR {x0:(List (List Int))} {cA:Value} {x1:Int}:Ct Tryz.prog 223 true (fU x0 x1) [cA,.int .i64 (x1)] [rJ cA x0] (fun y (v:Value)=>[v]) (fun y v=>[.own (aI 2 (aJ .i64)) v y]):=by
 refine ct (S:=Unit) (bp fun _ _=>rfl) Tryz.func223 rfl rfl ?_
 repeat' first
  | (apply Dk.fe; repeat' first | exact rfl | (refine @id.{0} _ ?_; constructor))
  | intro _
  | exact rfl
  | (refine @id.{0} _ ?_; constructor)
  | apply Dk.loop 0 (V:=Value) (fun (s:(List Int)×Int) v=>[.own (aI 2 (aJ .i64)) v s.1]) (fun s v=>[(5,v),(6,.int .i64 (s.2))]) _ [(0,_),(1,_)]
  | exact ()
theorem RS {x0:(List (List Int))} {cA:Value} {x1:(List Int)} {eL:Value}:Ct Tryz.prog 57 true (dD x0 x1) [cA,eL] [rJ cA x0,rI eL x1] (fun y (_:Unit)=>[.int .i64 y]) (fun y _=>[]):=by
 refine ct (S:=Unit) (bp fun _ _=>rfl) Tryz.func57 rfl rfl ?_
 repeat' first
  | (apply Dk.fe; repeat' first | exact rfl | (refine @id.{0} _ ?_; constructor))
  | intro _
  | exact rfl
  | (refine @id.{0} _ ?_; constructor)
  | apply Dk.loop 0 (V:=Unit) (fun (s:Int) v=>[]) (fun s v=>[(5,.int .i64 (s))]) () [(0,_),(1,_)]
  | apply Ls
  | exact ()
theorem RU {x0:Int} {x1:Int} {x2:Int}:Ct Tryz.prog 179 true (jV x0 x1 x2) [.int .i64 (x0),.int .i64 (x1),.int .i64 (x2)] [] (fun y (_:Unit)=>[.bool y]) (fun y _=>[]):=by
 refine ct (S:=Unit) (bp fun _ _=>rfl) Tryz.func179 rfl rfl ?_
 repeat' first
  | (apply Dk.fe; repeat' first | exact rfl | (refine @id.{0} _ ?_; constructor))
  | intro _
  | exact rfl
  | (refine @id.{0} _ ?_; constructor)
  | exact ()
theorem Lu {x0:(List Int)} {cA:Value} {x1:Int}:Ct Tryz.prog 123 true (fY x0 x1) [cA,.int .i64 (x1)] [rI cA x0] (fun y (_:Unit)=>[.bool y]) (fun y _=>[]):=by
 refine ct (S:=Unit) (bp fun _ _=>rfl) Tryz.func123 rfl rfl ?_
 repeat' first
  | (apply Dk.fe; repeat' first | exact rfl | (refine @id.{0} _ ?_; constructor))
  | intro _
  | exact rfl
  | (refine @id.{0} _ ?_; constructor)
  | apply Dk.loop 0 (V:=Unit) (fun (s:Int) v=>[]) (fun s v=>[(9,.int .i64 (s))]) () [(1,_),(7,_),(8,_)]
  | apply RU
  | exact ()
theorem XV {x0:(List Int)} {cA:Value} {x1:(List Int)} {eL:Value}:Ct Tryz.prog 255 true (nW x0 x1) [cA,eL] [rI cA x0,rI eL x1] (fun y (_:Unit)=>[.int .i64 y]) (fun y _=>[]):=by
 refine ct (S:=Unit) (bp fun _ _=>rfl) Tryz.func255 rfl rfl ?_
 repeat' first
  | (apply Dk.fe; repeat' first | exact rfl | (refine @id.{0} _ ?_; constructor))
  | intro _
  | exact rfl
  | (refine @id.{0} _ ?_; constructor)
  | apply Dk.loop 0 (V:=Unit) (fun (s:Int) v=>[]) (fun s v=>[(8,.int .i64 (s))]) () [(0,_),(1,_),(7,_)]
  | apply Dk.quiet (id:=6) (by kernel_rfl)
  | apply Dk.quiet (id:=7) (by kernel_rfl)
  | exact ()
theorem XW {x0:(List Int)} {cA:Value} {x1:(List Int)} {eL:Value}:Ct Tryz.prog 165 true (lB x0 x1) [cA,eL] [rI cA x0,rI eL x1] (fun y (_:Unit)=>[.bool y]) (fun y _=>[]):=by
 refine ct (S:=Unit) (bp fun _ _=>rfl) Tryz.func165 rfl rfl ?_
 repeat' first
  | (apply Dk.fe; repeat' first | exact rfl | (refine @id.{0} _ ?_; constructor))
  | intro _
  | exact rfl
  | (refine @id.{0} _ ?_; constructor)
  | apply XV
  | exact ()
theorem XX {x0:(List Int)} {cA:Value} {x1:(List Int)} {eL:Value}:Ct Tryz.prog 173 true (nH x0 x1) [cA,eL] [rI cA x0,rI eL x1] (fun y (v:Value)=>[v]) (fun y v=>[.own (aI 2 (aJ .i64)) v y]):=by
 refine ct (S:=Unit) (bp fun _ _=>rfl) Tryz.func173 rfl rfl ?_
 repeat' first
  | (apply Dk.fe; repeat' first | exact rfl | (refine @id.{0} _ ?_; constructor))
  | intro _
  | exact rfl
  | (refine @id.{0} _ ?_; constructor)
  | apply Dk.mb 0 (V:=Unit) (A:=Value) _ (fun a (s:Int×(List Int)) v=>[.own (aI 2 (aJ .i64)) a s.2]) (fun a s v=>[(5,a),(13,.int .i64 (s.1))]) () [(1,_),(11,_),(12,_)]
  | exact ()
theorem XY {p:Addr}:Ct Tryz.prog 229 true lX [.pointer (some p)] [] (fun _ (v:Nat×Nat)=>[.agg #[.pointer (some p),.pointer (some p),.func (.func 276) #[] #[.pointer (some ⟨v.1,0,none⟩),.pointer (some ⟨v.2,0,none⟩)]]]) (fun _ v=>[.row v.1 [.pointer (some p)] 103,.row v.2 [.pointer (some p)] 99]):=by
 refine ct (S:=Unit) (bp fun _ _=>rfl) Tryz.func229 rfl rfl ?_
 repeat' first
  | (apply Dk.fe; repeat' first | exact rfl | (refine @id.{0} _ ?_; constructor))
  | intro _
  | exact rfl
  | (refine @id.{0} _ ?_; constructor)
  | exact ()
theorem MO {x0:(List Int)} {cA:Value} {x1:Int}:Ct Tryz.prog 71 true (dK x0 x1) [cA,.int .i64 (x1)] [.own (aI 2 (aJ .i64)) cA x0] (fun y (_:Unit)=>[.int .i64 y.1]) (fun y _=>[.own (aI 2 (aJ .i64)) cA y.2]):=by
 refine ct (S:=Unit) (bp fun _ _=>rfl) Tryz.func71 rfl rfl ?_
 repeat' first
  | (apply Dk.fe; repeat' first | exact rfl | (refine @id.{0} _ ?_; constructor))
  | intro _
  | exact rfl
  | (refine @id.{0} _ ?_; constructor)
  | apply Dk.loop 0 (V:=Unit) (fun (s:Int×Int×(List Int)) v=>[.own (aI 2 (aJ .i64)) cA s.2.2]) (fun s v=>[(1,.int .i64 (s.1)),(5,.int .i64 (s.2.1))]) () [(0,_)]
  | exact ()
theorem XZ {x0:(List (List Int))} {cA:Value} {x1:Int}:Ct Tryz.prog 147 true (mJ x0 x1) [cA,.int .i64 (x1)] [.own (aI 22 (aI 2 (aJ .i64))) cA x0] (fun y (_:Unit)=>[.int .i64 y.1]) (fun y _=>[.own (aI 22 (aI 2 (aJ .i64))) cA y.2]):=by
 refine ct (S:=Unit) (bp fun _ _=>rfl) Tryz.func147 rfl rfl ?_
 repeat' first
  | (apply Dk.fe; repeat' first | exact rfl | (refine @id.{0} _ ?_; constructor))
  | intro _
  | exact rfl
  | (refine @id.{0} _ ?_; constructor)
  | apply Dk.loop 0 (V:=Unit) (fun (s:Int×Int×(List (List Int))) v=>[.own (aI 22 (aI 2 (aJ .i64))) cA s.2.2]) (fun s v=>[(1,.int .i64 (s.1)),(5,.int .i64 (s.2.1))]) () [(0,_)]
  | apply MO
  | exact ()
end Go.Proofs.YtcnehblmgfbfoaaGreat
