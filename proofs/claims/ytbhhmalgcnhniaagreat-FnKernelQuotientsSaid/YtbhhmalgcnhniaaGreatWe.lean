/- Walks by the calculus D. No condition beside those that each theorem names. -/
import Derived.Test.YtbhhmalgcnhniaaGreatDi
import Derived.Test.YtbhhmalgcnhniaaGreatMo
import Derived.Test.YtbhhmalgcnhniaaGreatDp
import Derived.Test.YtbhhmalgcnhniaaGreatDs
import Derived.Test.YtbhhmalgcnhniaaGreatWa
import Derived.Test.YtbhhmalgcnhniaaGreatWb
import Derived.Test.YtbhhmalgcnhniaaGreatWc
import Derived.Test.YtbhhmalgcnhniaaGreatWd
namespace Go.Proofs.YtbhhmalgcnhniaaGreat
open Go Go.Li Go.Dk
set_option linter.unusedVariables false
set_option maxHeartbeats 16000000
set_option maxRecDepth 100000
theorem acw {x0:(List Int)} {bQ:Value} {x1:Int} {x2:Int}:Ct Tryz.prog 219 true (kP x0 x1 x2) [bQ,.int .i64 (x1),.int .i64 (x2)] [rI bQ x0] (fun y (_:Unit)=>[.bool y]) (fun y _=>[]):=by
 refine ct (S:=Unit) (ca fun _ _=>rfl) Tryz.func219 rfl rfl ?_
 repeat' first
  | (apply Dk.fe; repeat' first | exact rfl | (refine @id.{0} _ ?_; constructor))
  | intro _
  | exact rfl
  | (refine @id.{0} _ ?_; constructor)
  | apply KG
  | exact ()
theorem acx {x0:aC} {aN aP aK aG:Value}:Ct Tryz.prog 164 true (mX x0) [.agg #[.int .i64 (x0.aD),aN,aP,aK,aG]] [rI aN x0.aA,rI aP x0.To,rI aK x0.aF,rJ aG x0.aB] (fun y (_:Unit)=>[.bool y]) (fun y _=>[]):=by
 refine ct (S:=Unit) (ca fun _ _=>rfl) Tryz.func164 rfl rfl ?_
 repeat' first
  | (apply Dk.fe; repeat' first | exact rfl | (refine @id.{0} _ ?_; constructor))
  | intro _
  | exact rfl
  | (refine Dk.rX (t:=102) rfl ?_ ?_)
  | (refine @id.{0} _ ?_; constructor)
  | apply Dk.loop 0 (V:=Unit) (fun (s:Int) v=>[]) (fun s v=>[(4,.int .i64 (s))]) () [(1,_),(3,_)]
  | apply Dk.loop 2 (V:=Unit) (fun (s:Int) v=>[]) (fun s v=>[(5,.int .i64 (s))]) () [(1,_),(3,_)]
  | apply Dk.loop 4 (V:=Unit) (fun (s:Int) v=>[]) (fun s v=>[(6,.int .i64 (s))]) () [(1,_),(3,_),(5,_)]
  | apply Dk.quiet (id:=9) (by kernel_rfl)
  | apply Dk.quiet (id:=20) (by kernel_rfl)
  | apply Dk.quiet (id:=23) (by kernel_rfl)
  | apply acn
  | apply acw
  | apply KG
  | exact ()
theorem acy {x0:aC} {cA:Addr} {aN aP aK aG:Value}:Ct Tryz.prog 177 true (iC x0) [.pointer (some (cA))] [.bn cA [.int .i64 (x0.aD),aN,aP,aK,aG],rI aN x0.aA,rI aP x0.To,rI aK x0.aF,rJ aG x0.aB] (fun y (_:Unit)=>[.int .i64 y.1,.int .i64 y.2.1,.int .i64 y.2.2.1,.int .i64 y.2.2.2]) (fun y _=>[]):=by
 refine ct (S:=Unit) (ca fun _ _=>rfl) Tryz.func177 rfl rfl ?_
 repeat' first
  | (apply Dk.fe; repeat' first | exact rfl | (refine @id.{0} _ ?_; constructor))
  | intro _
  | exact rfl
  | (refine Dk.rX (t:=64) rfl ?_ ?_)
  | (refine Dk.rX (t:=74) rfl ?_ ?_)
  | (refine @id.{0} _ ?_; constructor)
  | apply Dk.loop 0 (V:=Unit) (fun (s:Int) v=>[]) (fun s v=>[(7,.int .i64 (s))]) () [(0,_),(6,_)]
  | apply Dk.loop 2 (V:=Unit) (fun (s:Int) v=>[]) (fun s v=>[(8,.int .i64 (s))]) () [(0,_),(6,_)]
  | apply Dk.loop 4 (V:=Unit) (fun (s:Int) v=>[]) (fun s v=>[(9,.int .i64 (s))]) () [(0,_),(6,_),(8,_)]
  | apply Dk.loop 6 (V:=Unit) (fun (s:Int) v=>[]) (fun s v=>[(10,.int .i64 (s))]) () [(0,_),(6,_),(8,_),(9,_)]
  | apply Dk.quiet (id:=5) (by kernel_rfl)
  | apply Hs
  | apply Hr
  | exact ()
theorem acz {x0:Int}:Ct Tryz.prog 178 true (mB x0) [.int .i64 (x0)] [] (fun y (v:Value)=>[v]) (fun y v=>[.own (aJ 2 (aM .i64)) v y]):=by
 refine ct (S:=Unit) (ca fun _ _=>rfl) Tryz.func178 rfl rfl ?_
 repeat' first
  | (apply Dk.fe; repeat' first | exact rfl | (refine @id.{0} _ ?_; constructor))
  | intro _
  | exact rfl
  | (refine @id.{0} _ ?_; constructor)
  | apply Wp
  | exact ()
theorem acA {x0:(List Int)} {bQ:Value} {x1:Int} {x2:Int}:Ct Tryz.prog 179 true (cK x0 x1 x2) [bQ,.int .i64 (x1),.int .i64 (x2)] [.own (aJ 2 (aM .i64)) bQ x0] (fun y (_:Unit)=>[.bool y.1]) (fun y _=>[.own (aJ 2 (aM .i64)) bQ y.2]):=by
 refine ct (S:=Unit) (ca fun _ _=>rfl) Tryz.func179 rfl rfl ?_
 repeat' first
  | (apply Dk.fe; repeat' first | exact rfl | (refine @id.{0} _ ?_; constructor))
  | intro _
  | exact rfl
  | (refine @id.{0} _ ?_; constructor)
  | apply PH
  | exact ()
theorem acB {x0:(List Int)} {bQ:Value}:Ct Tryz.prog 181 true (fM x0) [bQ] [.own (aJ 2 (aM .i64)) bQ x0] (fun y (v:Value)=>[v]) (fun y v=>[.own (aJ 2 (aM .i64)) v y.1,.own (aJ 2 (aM .i64)) bQ y.2]):=by
 refine ct (S:=Unit) (ca fun _ _=>rfl) Tryz.func181 rfl rfl ?_
 repeat' first
  | (apply Dk.fe; repeat' first | exact rfl | (refine @id.{0} _ ?_; constructor))
  | intro _
  | exact rfl
  | (refine @id.{0} _ ?_; constructor)
  | apply Dk.fq 0 (V:=Unit) (A:=Value) _ (fun a (s:Int×(List Int)×(List Int)) v=>[.own (aJ 2 (aM .i64)) bQ s.2.1,.own (aJ 2 (aM .i64)) a s.2.2]) (fun a s v=>[(3,a),(10,.int .i64 (s.1))]) () [(0,_),(9,_)]
  | apply PH
  | apply Wl
  | exact ()
theorem acC {x0:aC} {cA:Addr} {aN aP aK aG:Value} {x1:(List (List Int))} {bV:Value}:Ct Tryz.prog 111 true (dY x0 x1) [.pointer (some (cA)),bV] [.bn cA [.int .i64 (x0.aD),aN,aP,aK,aG],rI aN x0.aA,rI aP x0.To,rI aK x0.aF,rJ aG x0.aB,rJ bV x1] (fun y (v:Value)=>[v]) (fun y v=>[.own (aJ 2 (aM .i64)) v y]):=by
 refine ct (S:=Unit) (ca fun _ _=>rfl) Tryz.func111 rfl rfl ?_
 repeat' first
  | (apply Dk.fe; repeat' first | exact rfl | (refine @id.{0} _ ?_; constructor))
  | intro _
  | exact rfl
  | (apply Dk.Eo (t:=67); exact rfl)
  | (apply Dk.Eo (t:=82); exact rfl)
  | (refine @id.{0} _ ?_; constructor)
  | apply Dk.fq 0 (V:=Unit) (A:=Value) _ (fun a (s:Int×(List Int)) v=>[.own (aJ 2 (aM .i64)) a s.2]) (fun a s v=>[(6,a),(21,.int .i64 (s.1))]) () [(0,_),(5,_),(19,_),(20,_)]
  | apply Dk.fq 2 (V:=Unit) (A:=Value) _ (fun a (s:Bool×(List Int)) v=>[.own (aJ 2 (aM .i64)) a s.2]) (fun a s v=>[(6,a),(9,.bool (s.1))]) () [(0,_),(5,_)]
  | apply Dk.fq 4 (V:=Unit) (A:=Value) _ (fun a (s:Bool×Int×(List Int)) v=>[.own (aJ 2 (aM .i64)) a s.2.2]) (fun a s v=>[(6,a),(9,.bool (s.1)),(10,.int .i64 (s.2.1))]) () [(0,_),(5,_)]
  | apply Dk.fq 6 (V:=Unit) (A:=Value) _ (fun a (s:Bool×Int×(List Int)) v=>[.own (aJ 2 (aM .i64)) a s.2.2]) (fun a s v=>[(6,a),(9,.bool (s.1)),(12,.int .i64 (s.2.1))]) () [(0,_),(5,_),(10,_),(11,_)]
  | apply Dk.any (id:=6) 7 [] [] [[],[],[1],[1,2],[],[4],[4,5]] (by kernel_rfl)
  | apply Hs
  | apply acz
  | apply acA
  | apply PH
  | apply Hr
  | apply acB
  | exact ()
theorem acD {x0:(List Int)} {bQ:Value}:Ct Tryz.prog 184 true (cO x0) [bQ] [rI bQ x0] (fun y (_:Unit)=>[.bool y]) (fun y _=>[]):=by
 refine ct (S:=Unit) (ca fun _ _=>rfl) Tryz.func184 rfl rfl ?_
 repeat' first
  | (apply Dk.fe; repeat' first | exact rfl | (refine @id.{0} _ ?_; constructor))
  | intro _
  | exact rfl
  | (refine @id.{0} _ ?_; constructor)
  | apply Dk.loop 0 (V:=Unit) (fun (s:Int×Int) v=>[]) (fun s v=>[(3,.int .i64 (s.1)),(8,.int .i64 (s.2))]) () [(6,_),(7,_)]
  | apply PG
  | exact ()
theorem Wq {x0:aC} {cA:Addr} {aN aP aK aG:Value} {x1:(List Int)} {bV:Value}:Ct Tryz.prog 115 true (cJ x0 x1) [.pointer (some (cA)),bV] [.bn cA [.int .i64 (x0.aD),aN,aP,aK,aG],rI aN x0.aA,rI aP x0.To,rI aK x0.aF,rJ aG x0.aB,rI bV x1] (fun y (_:Unit)=>[.bool y]) (fun y _=>[]):=by
 refine ct (S:=Unit) (ca fun _ _=>rfl) Tryz.func115 rfl rfl ?_
 repeat' first
  | (apply Dk.fe; repeat' first | exact rfl | (refine @id.{0} _ ?_; constructor))
  | intro _
  | exact rfl
  | apply Dk.lkq (t:=187)
  | (refine @id.{0} _ ?_; constructor)
  | apply Dk.fq 0 (V:=Unit) (A:=Value) _ (fun a (s:Int×(List (Int×Int))) v=>[.own (vH (Value.int .i64) (Value.int .i64)) a s.2]) (fun a s v=>[(5,a),(27,.int .i64 (s.1))]) () [(0,_),(1,_),(25,_),(26,_)]
  | apply Dk.loop 2 (V:=Unit) (fun (s:Int) v=>[]) (fun s v=>[(58,.int .i64 (s))]) () [(0,_),(1,_),(5,_),(56,_),(57,_)]
  | apply Dk.loop 4 (V:=Unit) (fun (s:Int) v=>[]) (fun s v=>[(65,.int .i64 (s))]) () [(0,_),(1,_),(5,_),(10,_),(56,_),(57,_),(58,_),(63,_),(64,_)]
  | apply Dk.quiet (id:=10) (by kernel_rfl)
  | apply Dk.quiet (id:=19) (by kernel_rfl)
  | apply Hs
  | apply acD
  | apply KJ
  | apply Hr
  | exact ()
theorem acE {x0:aO} {cA:Addr} {bB bG aV aT bC bH aW aU bL bP:Value}:Ct Tryz.prog 121 true (eM x0) [.pointer (some (cA))] [.bn cA [.int .i64 (x0.aH.aD),bB,bG,aV,aT,.int .i64 (x0.aL.aD),bC,bH,aW,aU,bL,bP],rI bB x0.aH.aA,rI bG x0.aH.To,rI aV x0.aH.aF,rJ aT x0.aH.aB,rI bC x0.aL.aA,rI bH x0.aL.To,rI aW x0.aL.aF,rJ aU x0.aL.aB,rI bL x0.aD,rI bP x0.an] (fun y (_:Unit)=>[.bool y]) (fun y _=>[]):=by
 refine ct (S:=Unit) (ca fun _ _=>rfl) Tryz.func121 rfl rfl ?_
 repeat' first
  | (apply Dk.fe; repeat' first | exact rfl | (refine @id.{0} _ ?_; constructor))
  | intro _
  | exact rfl
  | (refine Dk.rX (t:=25) rfl ?_ ?_)
  | (refine @id.{0} _ ?_; constructor)
  | apply Dk.loop 0 (V:=Unit) (fun (s:Int) v=>[]) (fun s v=>[(4,.int .i64 (s))]) () [(0,_),(3,_)]
  | apply Dk.loop 2 (V:=Unit) (fun (s:Int) v=>[]) (fun s v=>[(5,.int .i64 (s))]) () [(0,_),(3,_),(4,_)]
  | apply Dk.loop 4 (V:=Unit) (fun (s:Int) v=>[]) (fun s v=>[(56,.int .i64 (s))]) () [(0,_),(3,_),(4,_),(5,_),(6,_),(54,_),(55,_)]
  | apply Dk.any (id:=8) 8 [] [] [[],[],[],[0,1,2],[],[4],[4,5],[4,5,6]] (by kernel_rfl)
  | apply Dk.any (id:=9) 20 [] [] [[],[0],[0,1],[],[3],[3,4],[3,4,5],[],[3,4,5,6,7],[3,4,5,6,7,8],[],[10],[10,11],[10,11,12],[],[10,11,12,13,14],[10,11,12,13,14,15],[0,1,2,3,4,5,6,7,8,9,10,11,12,13,14,15,16],[0,1,2,3,4,5,6,7,8,9,10,11,12,13,14,15,16,17],[]] (by kernel_rfl)
  | apply acp
  | apply Wm
  | apply acs
  | exact ()
end Go.Proofs.YtbhhmalgcnhniaaGreat
