/- Walks by the calculus D. No condition beside those that each theorem names. -/
import Derived.Test.YtbhhmalgcnhniaaGreatDi
import Derived.Test.YtbhhmalgcnhniaaGreatMo
import Derived.Test.YtbhhmalgcnhniaaGreatDp
import Derived.Test.YtbhhmalgcnhniaaGreatDs
namespace Go.Proofs.YtbhhmalgcnhniaaGreat
open Go Go.Li Go.Dk
set_option linter.unusedVariables false
set_option maxHeartbeats 16000000
set_option maxRecDepth 100000
theorem AM {x0:aI} {bW:Nat} {bK:Value} {x1:Int}:Ct Tryz.prog 81 true (bE x0 x1) [.pointer (some (⟨bW,0,none⟩)),.int .i64 (x1)] [.row bW [bK,.int .i64 (x0.At),.int .u64 (x0.au)] 162,.rd false (bF (aM .u8)) bK x0.Code] (fun y (_:Unit)=>[.int .i64 y.1]) (fun y _=>[.row bW [bK,.int .i64 y.2.At,.int .u64 y.2.au] 162]):=by
 refine ct (S:=Unit) (ca fun _ _=>rfl) Tryz.func81 rfl rfl ?_
 repeat' first
  | (apply Dk.fe; repeat' first | exact rfl | (refine @id.{0} _ ?_; constructor))
  | intro _
  | exact rfl
  | apply Dk.D.ry (d:=13)
  | apply Dk.AD.ry (d:=13)
  | apply Dk.D.ry (d:=14)
  | apply Dk.AD.ry (d:=14)
  | apply Dk.D.ry (d:=21)
  | apply Dk.AD.ry (d:=21)
  | apply Dk.D.ry (d:=22)
  | apply Dk.AD.ry (d:=22)
  | apply Dk.D.ry (d:=57)
  | apply Dk.AD.ry (d:=57)
  | (refine @id.{0} _ ?_; constructor)
  | apply Dk.quiet (id:=5) (by kernel_rfl)
  | apply Dk.quiet (id:=6) (by kernel_rfl)
  | exact ()
theorem acq {x0:aC} {aN aP aK aG:Value} {x1:Int}:Ct Tryz.prog 175 true (lZ x0 x1) [.agg #[.int .i64 (x0.aD),aN,aP,aK,aG],.int .i64 (x1)] [rI aN x0.aA,rI aP x0.To,rI aK x0.aF,rJ aG x0.aB] (fun y (_:Unit)=>[.bool y]) (fun y _=>[]):=by
 refine ct (S:=Unit) (ca fun _ _=>rfl) Tryz.func175 rfl rfl ?_
 repeat' first
  | (apply Dk.fe; repeat' first | exact rfl | (refine @id.{0} _ ?_; constructor))
  | intro _
  | exact rfl
  | (refine @id.{0} _ ?_; constructor)
  | exact ()
theorem Hr {x0:aC} {cA:Addr} {aN aP aK aG:Value} {x1:Int} {x2:Int}:Ct Tryz.prog 147 true (bN x0 x1 x2) [.pointer (some (cA)),.int .i64 (x1),.int .i64 (x2)] [.bn cA [.int .i64 (x0.aD),aN,aP,aK,aG],rI aN x0.aA,rI aP x0.To,rI aK x0.aF,rJ aG x0.aB] (fun y (_:Unit)=>[.int .i64 y]) (fun y _=>[]):=by
 refine ct (S:=Unit) (ca fun _ _=>rfl) Tryz.func147 rfl rfl ?_
 repeat' first
  | (apply Dk.fe; repeat' first | exact rfl | (refine @id.{0} _ ?_; constructor))
  | intro _
  | exact rfl
  | (refine @id.{0} _ ?_; constructor)
  | exact ()
theorem acr {x0:(List Int)} {bQ:Value}:Ct Tryz.prog 223 true (dG x0) [bQ] [rI bQ x0] (fun y (_:Unit)=>[.int .i64 y]) (fun y _=>[]):=by
 refine ct (S:=Unit) (ca fun _ _=>rfl) Tryz.func223 rfl rfl ?_
 repeat' first
  | (apply Dk.fe; repeat' first | exact rfl | (refine @id.{0} _ ?_; constructor))
  | intro _
  | exact rfl
  | (refine @id.{0} _ ?_; constructor)
  | apply Dk.loop 0 (V:=Unit) (fun (s:Int×Int) v=>[]) (fun s v=>[(3,.int .i64 (s.1)),(8,.int .i64 (s.2))]) () [(6,_),(7,_)]
  | exact ()
theorem Wm {x0:(List Int)} {bQ:Value} {x1:(List Int)} {bV:Value}:Ct Tryz.prog 142 true (mU x0 x1) [bQ,bV] [rI bQ x0,rI bV x1] (fun y (v:Value)=>[v]) (fun y v=>[.own (aJ 2 (aM .i64)) v y]):=by
 refine ct (S:=Unit) (ca fun _ _=>rfl) Tryz.func142 rfl rfl ?_
 repeat' first
  | (apply Dk.fe; repeat' first | exact rfl | (refine @id.{0} _ ?_; constructor))
  | intro _
  | exact rfl
  | (refine @id.{0} _ ?_; constructor)
  | apply Dk.fq 0 (V:=Unit) (A:=Value) _ (fun a (s:Int×(List Int)) v=>[.own (aJ 2 (aM .i64)) a s.2]) (fun a s v=>[(5,a),(13,.int .i64 (s.1))]) () [(1,_),(11,_),(12,_)]
  | exact ()
theorem Wn {x0:(List Int)} {bQ:Value}:Ct Tryz.prog 85 true (fB x0) [bQ] [rI bQ x0] (fun y (v:Value)=>[v]) (fun y v=>[.own (aJ 2 (aM .i64)) v y]):=by
 refine ct (S:=Unit) (ca fun _ _=>rfl) Tryz.func85 rfl rfl ?_
 repeat' first
  | (apply Dk.fe; repeat' first | exact rfl | (refine @id.{0} _ ?_; constructor))
  | intro _
  | exact rfl
  | (refine @id.{0} _ ?_; constructor)
  | exact ()
theorem acs {x0:(List Int)} {bQ:Value} {x1:Int}:Ct Tryz.prog 188 true (oL x0 x1) [bQ,.int .i64 (x1)] [rI bQ x0] (fun y (_:Unit)=>[.bool y]) (fun y _=>[]):=by
 refine ct (S:=Unit) (ca fun _ _=>rfl) Tryz.func188 rfl rfl ?_
 repeat' first
  | (apply Dk.fe; repeat' first | exact rfl | (refine @id.{0} _ ?_; constructor))
  | intro _
  | exact rfl
  | (refine @id.{0} _ ?_; constructor)
  | apply Dk.loop 0 (V:=Unit) (fun (s:Int) v=>[]) (fun s v=>[(9,.int .i64 (s))]) () [(1,_),(7,_),(8,_)]
  | exact ()
theorem Wo {x0:aC} {aN aP aK aG:Value} {x1:Int} {x2:Int}:Ct Tryz.prog 137 true (lV x0 x1 x2) [.agg #[.int .i64 (x0.aD),aN,aP,aK,aG],.int .i64 (x1),.int .i64 (x2)] [rI aN x0.aA,rI aP x0.To,rI aK x0.aF,rJ aG x0.aB] (fun y (v:Value)=>[v]) (fun y v=>[.own (aJ 2 (aM .i64)) v y]):=by
 refine ct (S:=Unit) (ca fun _ _=>rfl) Tryz.func137 rfl rfl ?_
 repeat' first
  | (apply Dk.fe; repeat' first | exact rfl | (refine @id.{0} _ ?_; constructor))
  | intro _
  | exact rfl
  | (refine @id.{0} _ ?_; constructor)
  | apply Dk.loop 0 (V:=Value) (fun (s:(List Int)×Int) v=>[.own (aJ 2 (aM .i64)) v s.1]) (fun s v=>[(7,v),(8,.int .i64 (s.2))]) _ [(1,_),(2,_),(3,_)]
  | exact ()
theorem acu {x0:aC} {aN aP aK aG:Value} {x1:aC} {bD bJ aS aQ:Value} {x2:(List Int)} {cG:Value}:Ct Tryz.prog 237 true (mE x0 x1 x2) [.agg #[.int .i64 (x0.aD),aN,aP,aK,aG],.agg #[.int .i64 (x1.aD),bD,bJ,aS,aQ],cG] [rI aN x0.aA,rI aP x0.To,rI aK x0.aF,rJ aG x0.aB,rI bD x1.aA,rI bJ x1.To,rI aS x1.aF,rJ aQ x1.aB,.own (aJ 2 (aM .i64)) cG x2] (fun y (_:Unit)=>[.bool y.1]) (fun y _=>[.own (aJ 2 (aM .i64)) cG y.2]):=by
 refine ct (S:=Unit) (ca fun _ _=>rfl) Tryz.func237 rfl rfl ?_
 repeat' first
  | (apply Dk.fe; repeat' first | exact rfl | (refine @id.{0} _ ?_; constructor))
  | intro _
  | exact rfl
  | (refine Dk.rX (t:=22) rfl ?_ ?_)
  | (refine @id.{0} _ ?_; constructor)
  | apply Dk.loop 0 (V:=Unit) (fun (s:Bool×(List Int)) v=>[.own (aJ 2 (aM .i64)) cG s.2]) (fun s v=>[(7,.bool (s.1))]) () [(2,_),(3,_),(4,_)]
  | apply Dk.loop 2 (V:=Unit) (fun (s:Bool×Int×(List Int)) v=>[.own (aJ 2 (aM .i64)) cG s.2.2]) (fun s v=>[(7,.bool (s.1)),(8,.int .i64 (s.2.1))]) () [(2,_),(3,_),(4,_)]
  | apply Dk.loop 4 (V:=Unit) (fun (s:Bool×Int×(List Int)) v=>[.own (aJ 2 (aM .i64)) cG s.2.2]) (fun s v=>[(7,.bool (s.1)),(9,.int .i64 (s.2.1))]) () [(2,_),(3,_),(4,_),(8,_)]
  | apply Dk.quiet (id:=12) (by kernel_rfl)
  | exact ()
end Go.Proofs.YtbhhmalgcnhniaaGreat
