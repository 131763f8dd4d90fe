/- Walks by the calculus D. No condition beside those that each theorem names. -/
import Derived.Test.YtbhhmalgcnhniaaGreatDi
import Derived.Test.YtbhhmalgcnhniaaGreatMo
import Derived.Test.YtbhhmalgcnhniaaGreatDp
import Derived.Test.YtbhhmalgcnhniaaGreatDs
import Derived.Test.YtbhhmalgcnhniaaGreatWd
import Derived.Test.YtbhhmalgcnhniaaGreatWf
import Derived.Test.YtbhhmalgcnhniaaGreatWg
namespace Go.Proofs.YtbhhmalgcnhniaaGreat
open Go Go.Li Go.Dk
set_option linter.unusedVariables false
set_option maxHeartbeats 16000000
set_option maxRecDepth 100000
theorem QU {x0:aC} {aN aP aK aG:Value} {x1:aC} {bD bJ aS aQ:Value} {x2:(List Int)} {cG:Value} {x3:(List Int)} {eE:Value}:Ct Tryz.prog 91 true (gX x0 x1 x2 x3) [.agg #[.int .i64 (x0.aD),aN,aP,aK,aG],.agg #[.int .i64 (x1.aD),bD,bJ,aS,aQ],cG,eE] [rI aN x0.aA,rI aP x0.To,rI aK x0.aF,rJ aG x0.aB,rI bD x1.aA,rI bJ x1.To,rI aS x1.aF,rJ aQ x1.aB,rI cG x2,rI eE x3] (fun y (v:Value×Value×Value×Value×Value×Value×Value×Value×Value×Value)=>[.agg #[.int .i64 y.aH.aD,v.1,v.2.1,v.2.2.1,v.2.2.2.1,.int .i64 y.aL.aD,v.2.2.2.2.1,v.2.2.2.2.2.1,v.2.2.2.2.2.2.1,v.2.2.2.2.2.2.2.1,v.2.2.2.2.2.2.2.2.1,v.2.2.2.2.2.2.2.2.2]]) (fun y v=>[.own (aJ 2 (aM .i64)) v.1 y.aH.aA,.own (aJ 2 (aM .i64)) v.2.1 y.aH.To,.own (aJ 2 (aM .i64)) v.2.2.1 y.aH.aF,.own (aJ 22 (aJ 2 (aM .i64))) v.2.2.2.1 y.aH.aB,.own (aJ 2 (aM .i64)) v.2.2.2.2.1 y.aL.aA,.own (aJ 2 (aM .i64)) v.2.2.2.2.2.1 y.aL.To,.own (aJ 2 (aM .i64)) v.2.2.2.2.2.2.1 y.aL.aF,.own (aJ 22 (aJ 2 (aM .i64))) v.2.2.2.2.2.2.2.1 y.aL.aB,.own (aJ 2 (aM .i64)) v.2.2.2.2.2.2.2.2.1 y.aD,.own (aJ 2 (aM .i64)) v.2.2.2.2.2.2.2.2.2 y.an]):=by
 refine ct (S:=Unit) (ca fun _ _=>rfl) Tryz.func91 rfl rfl ?_
 repeat' first
  | (apply Dk.fe; repeat' first | exact rfl | (refine @id.{0} _ ?_; constructor))
  | intro _
  | exact rfl
  | (refine @id.{0} _ ?_; constructor)
  | apply Dk.any (id:=1) 7 [] [] [[],[0],[],[0,1,2],[],[0,1,2,3,4],[]] (by kernel_rfl)
  | apply PM
  | apply AN
  | exact ()
theorem Y0 {x0:aC} {aN aP aK aG:Value}:Ct Tryz.prog 56 true (dK x0) [.agg #[.int .i64 (x0.aD),aN,aP,aK,aG]] [rI aN x0.aA,rI aP x0.To,rI aK x0.aF,rJ aG x0.aB] (fun y (v:Value×Value×Value×Value×Value×Value×Value×Value×Value×Value)=>[.agg #[.int .i64 y.aH.aD,v.1,v.2.1,v.2.2.1,v.2.2.2.1,.int .i64 y.aL.aD,v.2.2.2.2.1,v.2.2.2.2.2.1,v.2.2.2.2.2.2.1,v.2.2.2.2.2.2.2.1,v.2.2.2.2.2.2.2.2.1,v.2.2.2.2.2.2.2.2.2]]) (fun y v=>[.own (aJ 2 (aM .i64)) v.1 y.aH.aA,.own (aJ 2 (aM .i64)) v.2.1 y.aH.To,.own (aJ 2 (aM .i64)) v.2.2.1 y.aH.aF,.own (aJ 22 (aJ 2 (aM .i64))) v.2.2.2.1 y.aH.aB,.own (aJ 2 (aM .i64)) v.2.2.2.2.1 y.aL.aA,.own (aJ 2 (aM .i64)) v.2.2.2.2.2.1 y.aL.To,.own (aJ 2 (aM .i64)) v.2.2.2.2.2.2.1 y.aL.aF,.own (aJ 22 (aJ 2 (aM .i64))) v.2.2.2.2.2.2.2.1 y.aL.aB,.own (aJ 2 (aM .i64)) v.2.2.2.2.2.2.2.2.1 y.aD,.own (aJ 2 (aM .i64)) v.2.2.2.2.2.2.2.2.2 y.an]):=by
 refine ct (S:=Unit) (ca fun _ _=>rfl) Tryz.func56 rfl rfl ?_
 repeat' first
  | (apply Dk.fe; repeat' first | exact rfl | (refine @id.{0} _ ?_; constructor))
  | intro _
  | exact rfl
  | (refine @id.{0} _ ?_; constructor)
  | apply Dk.loop 0 (V:=Value) (fun (s:(List Int)×Int) v=>[.own (aJ 2 (aM .i64)) v s.1]) (fun s v=>[(3,v),(5,.int .i64 (s.2))]) _ [(1,_),(2,_),(4,_)]
  | apply Dk.loop 2 (V:=Value) (fun (s:(List Int)×Int) v=>[.own (aJ 2 (aM .i64)) v s.1]) (fun s v=>[(4,v),(6,.int .i64 (s.2))]) _ [(1,_),(2,_),(3,_)]
  | apply QU
  | exact ()
theorem WA {rc:aC→aC→(List Int)→(List aO)→Option ((List aO))} (ih:∀ {x0:aC} {aN aP aK aG:Value} {x1:aC} {bD bJ aS aQ:Value} {x2:(List Int)} {cG:Value} {x3:(List aO)} {eE:Value},Ct Tryz.prog 167 true (rc x0 x1 x2 x3) [.agg #[.int .i64 (x0.aD),aN,aP,aK,aG],.agg #[.int .i64 (x1.aD),bD,bJ,aS,aQ],cG,eE] [rI aN x0.aA,rI aP x0.To,rI aK x0.aF,rJ aG x0.aB,rI bD x1.aA,rI bJ x1.To,rI aS x1.aF,rJ aQ x1.aB,rI cG x2,.own (aJ 34 rZ) eE x3] (fun y (v:Value)=>[v]) (fun y v=>[.own (aJ 34 rZ) v y])) {x0:aC} {aN aP aK aG:Value} {x1:aC} {bD bJ aS aQ:Value} {x2:(List Int)} {cG:Value} {x3:(List aO)} {eE:Value}:Ct Tryz.prog 167 true (jM rc x0 x1 x2 x3) [.agg #[.int .i64 (x0.aD),aN,aP,aK,aG],.agg #[.int .i64 (x1.aD),bD,bJ,aS,aQ],cG,eE] [rI aN x0.aA,rI aP x0.To,rI aK x0.aF,rJ aG x0.aB,rI bD x1.aA,rI bJ x1.To,rI aS x1.aF,rJ aQ x1.aB,rI cG x2,.own (aJ 34 rZ) eE x3] (fun y (v:Value)=>[v]) (fun y v=>[.own (aJ 34 rZ) v y]):=by
 refine ct (S:=Unit) (ca fun _ _=>rfl) Tryz.func167 rfl rfl ?_
 repeat' first
  | (apply Dk.fe; repeat' first | exact rfl | (refine @id.{0} _ ?_; constructor))
  | intro _
  | exact rfl
  | apply Dk.Yh (t:=116)
  | apply ih
  | apply Dk.apO (t:=116) (S:=rZ) (aO.mk (aC.mk _ _ _ _ _) (aC.mk _ _ _ _ _) _ _)
  | (refine @id.{0} _ ?_; constructor)
  | apply Dk.loop 0 (V:=Value) (fun (s:(List Int)×Int) v=>[.own (aJ 2 (aM .i64)) v s.1]) (fun s v=>[(9,v),(10,.int .i64 (s.2))]) _ [(2,_),(3,_),(4,_),(5,_)]
  | apply Dk.fq 2 (V:=Unit) (A:=Value) _ (fun a (s:Int×(List Int)) v=>[.own (aJ 2 (aM .i64)) a s.2]) (fun a s v=>[(9,a),(11,.int .i64 (s.1))]) () [(2,_),(3,_),(4,_),(5,_)]
  | apply Dk.loop 4 (V:=Value) (fun (s:(List aO)×Int) v=>[.own (aJ 34 rZ) v s.1]) (fun s v=>[(3,v),(13,.int .i64 (s.2))]) _ [(2,_),(4,_),(5,_),(12,_)]
  | apply Dk.loop 6 (V:=Value) (fun (s:(List aO)×Int) v=>[.own (aJ 34 rZ) v s.1]) (fun s v=>[(3,v),(14,.int .i64 (s.2))]) _ [(2,_),(4,_),(5,_)]
  | apply Dk.any (id:=12) 14 [] [] [[],[],[1],[],[1,2,3],[1,2,3,4],[],[6],[],[],[8,9],[8,9,10],[6,7,8,9,10,11],[6,7,8,9,10,11,12]] (by kernel_rfl)
  | apply Dk.any (id:=22) 8 [] [[],[],[],[],[],[],[3],[]] [[],[],[],[2],[],[4],[2,3,4,5],[]] (by kernel_rfl)
  | apply Dk.Xk (id:=17) [(0,8)] 8 rfl (by kernel_rfl)
  | apply acM
  | apply acR
  | apply QU
  | apply AN
  | exact ()
theorem WB (n:Nat):∀ {x0:aC} {aN aP aK aG:Value} {x1:aC} {bD bJ aS aQ:Value} {x2:(List Int)} {cG:Value} {x3:(List aO)} {eE:Value},Ct Tryz.prog 167 true (eY n x0 x1 x2 x3) [.agg #[.int .i64 (x0.aD),aN,aP,aK,aG],.agg #[.int .i64 (x1.aD),bD,bJ,aS,aQ],cG,eE] [rI aN x0.aA,rI aP x0.To,rI aK x0.aF,rJ aG x0.aB,rI bD x1.aA,rI bJ x1.To,rI aS x1.aF,rJ aQ x1.aB,rI cG x2,.own (aJ 34 rZ) eE x3] (fun y (v:Value)=>[v]) (fun y v=>[.own (aJ 34 rZ) v y]):=by
 induction n with
 | zero=>intros; rw [se]; exact ⟨(ca fun _ _=>rfl),fun _ _ _ _ _ _ _ y hy=>nomatch (show none=some y from hy)⟩
 | succ n ih=>exact WA ih
theorem WC {x0:aC} {aN aP aK aG:Value} {x1:aC} {bD bJ aS aQ:Value} {x2:(List Int)} {cG:Value} {x3:(List aO)} {eE:Value}:Ct Tryz.prog 167 true (eY 64 x0 x1 x2 x3) [.agg #[.int .i64 (x0.aD),aN,aP,aK,aG],.agg #[.int .i64 (x1.aD),bD,bJ,aS,aQ],cG,eE] [rI aN x0.aA,rI aP x0.To,rI aK x0.aF,rJ aG x0.aB,rI bD x1.aA,rI bJ x1.To,rI aS x1.aF,rJ aQ x1.aB,rI cG x2,.own (aJ 34 rZ) eE x3] (fun y (v:Value)=>[v]) (fun y v=>[.own (aJ 34 rZ) v y]):=by
 exact WB 64
theorem c99 {x0:aC} {aN aP aK aG:Value} {x1:aC} {bD bJ aS aQ:Value}:Ct Tryz.prog 99 true (jR x0 x1) [.agg #[.int .i64 (x0.aD),aN,aP,aK,aG],.agg #[.int .i64 (x1.aD),bD,bJ,aS,aQ]] [rI aN x0.aA,rI aP x0.To,rI aK x0.aF,rJ aG x0.aB,rI bD x1.aA,rI bJ x1.To,rI aS x1.aF,rJ aQ x1.aB] (fun y (v:Value)=>[v]) (fun y v=>[.own (aJ 34 rZ) v y]):=by
 refine ct (S:=Unit) (ca fun _ _=>rfl) Tryz.func99 rfl rfl ?_
 repeat' first
  | (apply Dk.fe; repeat' first | exact rfl | (refine @id.{0} _ ?_; constructor))
  | intro _
  | exact rfl
  | apply Dk.Yg (t:=116) rZ
  | (refine @id.{0} _ ?_; constructor)
  | apply WC
  | exact ()
theorem akt {x0:aC} {aN aP aK aG:Value} {x1:aC} {bD bJ aS aQ:Value}:Ct Tryz.prog 99 false (jR x0 x1) [.agg #[.int .i64 (x0.aD),aN,aP,aK,aG],.agg #[.int .i64 (x1.aD),bD,bJ,aS,aQ]] [rI aN x0.aA,rI aP x0.To,rI aK x0.aF,rJ aG x0.aB,rI bD x1.aA,rI bJ x1.To,rI aS x1.aF,rJ aQ x1.aB] (fun y (v:Value)=>[v]) (fun y v=>[.rd false (bF (qx JL)) v y]):=by
 refine ct (S:=Unit) Fy Tryz.func99 rfl rfl ?_
 repeat' first
  | (apply Dk.fe; repeat' first | exact rfl | (refine @id.{0} _ ?_; constructor))
  | intro _
  | exact rfl
  | apply Dk.Yg (t:=116) rZ
  | (refine @id.{0} _ ?_; constructor)
  | apply WC
  | exact ()
theorem ac6 {x0:aC} {aN aP aK aG:Value} {x1:aC} {bD bJ aS aQ:Value} {x2:Int}:Ct Tryz.prog 151 true (gZ x0 x1 x2) [.agg #[.int .i64 (x0.aD),aN,aP,aK,aG],.agg #[.int .i64 (x1.aD),bD,bJ,aS,aQ],.int .i64 (x2)] [rI aN x0.aA,rI aP x0.To,rI aK x0.aF,rJ aG x0.aB,rI bD x1.aA,rI bJ x1.To,rI aS x1.aF,rJ aQ x1.aB] (fun y (v:Value×Value×Value×Value×Value×Value×Value×Value×Value×Value)=>[.agg #[.int .i64 y.aH.aD,v.1,v.2.1,v.2.2.1,v.2.2.2.1,.int .i64 y.aL.aD,v.2.2.2.2.1,v.2.2.2.2.2.1,v.2.2.2.2.2.2.1,v.2.2.2.2.2.2.2.1,v.2.2.2.2.2.2.2.2.1,v.2.2.2.2.2.2.2.2.2]]) (fun y v=>[.own (aJ 2 (aM .i64)) v.1 y.aH.aA,.own (aJ 2 (aM .i64)) v.2.1 y.aH.To,.own (aJ 2 (aM .i64)) v.2.2.1 y.aH.aF,.own (aJ 22 (aJ 2 (aM .i64))) v.2.2.2.1 y.aH.aB,.own (aJ 2 (aM .i64)) v.2.2.2.2.1 y.aL.aA,.own (aJ 2 (aM .i64)) v.2.2.2.2.2.1 y.aL.To,.own (aJ 2 (aM .i64)) v.2.2.2.2.2.2.1 y.aL.aF,.own (aJ 22 (aJ 2 (aM .i64))) v.2.2.2.2.2.2.2.1 y.aL.aB,.own (aJ 2 (aM .i64)) v.2.2.2.2.2.2.2.2.1 y.aD,.own (aJ 2 (aM .i64)) v.2.2.2.2.2.2.2.2.2 y.an]):=by
 refine ct (S:=Unit) (ca fun _ _=>rfl) Tryz.func151 rfl rfl ?_
 repeat' first
  | (apply Dk.fe; repeat' first | exact rfl | (refine @id.{0} _ ?_; constructor))
  | intro _
  | exact rfl
  | (refine @id.{0} _ ?_; constructor)
  | apply Dk.loop 0 (V:=Value) (fun (s:(List Int)×Int) v=>[.own (aJ 2 (aM .i64)) v s.1]) (fun s v=>[(7,v),(9,.int .i64 (s.2))]) _ [(2,_),(3,_),(4,_),(6,_),(8,_)]
  | apply Dk.loop 2 (V:=Value) (fun (s:(List Int)×Int) v=>[.own (aJ 2 (aM .i64)) v s.1]) (fun s v=>[(8,v),(10,.int .i64 (s.2))]) _ [(2,_),(3,_),(4,_),(6,_),(7,_)]
  | apply QU
  | exact ()
end Go.Proofs.YtbhhmalgcnhniaaGreat
