/- Walks by the calculus D. No condition beside those that each theorem names. -/
import Derived.Test.YtbhhmalgcnhniaaGreatDi
import Derived.Test.YtbhhmalgcnhniaaGreatMo
import Derived.Test.YtbhhmalgcnhniaaGreatDp
import Derived.Test.YtbhhmalgcnhniaaGreatDs
import Derived.Test.YtbhhmalgcnhniaaGreatWb
import Derived.Test.YtbhhmalgcnhniaaGreatWc
import Derived.Test.YtbhhmalgcnhniaaGreatWd
import Derived.Test.YtbhhmalgcnhniaaGreatWe
import Derived.Test.YtbhhmalgcnhniaaGreatWf
import Derived.Test.YtbhhmalgcnhniaaGreatWg
import Derived.Test.YtbhhmalgcnhniaaGreatWh
namespace Go.Proofs.YtbhhmalgcnhniaaGreat
open Go Go.Li Go.Dk
set_option linter.unusedVariables false
set_option maxHeartbeats 16000000
set_option maxRecDepth 100000
theorem Ni {x0:aC} {aN aP aK aG:Value}:Ct Tryz.prog 97 true (fZ x0) [.agg #[.int .i64 (x0.aD),aN,aP,aK,aG]] [rI aN x0.aA,rI aP x0.To,rI aK x0.aF,rJ aG x0.aB] (fun y (_:Unit)=>[.bool y]) (fun y _=>[]):=by
 refine ct (S:=Unit) (ca fun _ _=>rfl) Tryz.func97 rfl rfl ?_
 repeat' first
  | (apply Dk.fe; repeat' first | exact rfl | (refine @id.{0} _ ?_; constructor))
  | intro _
  | exact rfl
  | (refine @id.{0} _ ?_; constructor)
  | apply acx
  | apply acv
  | exact ()
theorem acY {x0:aI} {bW:Nat} {bK:Value} {x1:aC} {bD bJ aS aQ:Value}:Ct Tryz.prog 107 true (mA x0 x1) [.pointer (some (⟨bW,0,none⟩)),.agg #[.int .i64 (x1.aD),bD,bJ,aS,aQ]] [.row bW [bK,.int .i64 (x0.At),.int .u64 (x0.au)] 162,.rd false (bF (aM .u8)) bK x0.Code,rI bD x1.aA,rI bJ x1.To,rI aS x1.aF,rJ aQ x1.aB] (fun y (v:Value)=>[v]) (fun y v=>[.own (aJ 22 (aJ 2 (aM .i64))) v y.1,.row bW [bK,.int .i64 y.2.At,.int .u64 y.2.au] 162]):=by
 refine ct (S:=Unit) (ca fun _ _=>rfl) Tryz.func107 rfl rfl ?_
 repeat' first
  | (apply Dk.fe; repeat' first | exact rfl | (refine @id.{0} _ ?_; constructor))
  | intro _
  | exact rfl
  | apply Dk.D.ry (d:=55)
  | apply Dk.AD.ry (d:=55)
  | apply Dk.sq (d:=59)
  | (apply Dk.Eo (t:=68); exact rfl)
  | apply Dk.sq (d:=76)
  | apply Dk.sq (d:=83)
  | (refine @id.{0} _ ?_; constructor)
  | apply Dk.loop 0 (V:=Value) (fun (s:(List (List Int))×Int×Int×Int) v=>[.row bW [bK,.int .i64 (s.2.2.1),.int .u64 (s.2.2.2)] 162,.own (aJ 22 (aJ 2 (aM .i64))) v s.1]) (fun s v=>[(6,v),(7,.int .i64 (s.2.1))]) _ [(0,_),(3,_),(5,_)]
  | apply Dk.loop 2 (V:=Unit) (fun (s:Int×Int) v=>[]) (fun s v=>[(9,.int .i64 (s.1)),(10,.int .i64 (s.2))]) () [(0,_),(3,_),(5,_),(6,_),(7,_),(8,_)]
  | apply AM
  | apply acP
  | apply Ni
  | apply acq
  | apply KH
  | exact ()
theorem acZ {x0:aC} {aN aP aK aG:Value} {x1:(List Int)} {bV:Value}:Ct Tryz.prog 112 true (lD x0 x1) [.agg #[.int .i64 (x0.aD),aN,aP,aK,aG],bV] [rI aN x0.aA,rI aP x0.To,rI aK x0.aF,rJ aG x0.aB,rI bV x1] (fun y (_:Unit)=>[.int .i64 y]) (fun y _=>[]):=by
 refine ct (S:=Unit) (ca fun _ _=>rfl) Tryz.func112 rfl rfl ?_
 repeat' first
  | (apply Dk.fe; repeat' first | exact rfl | (refine @id.{0} _ ?_; constructor))
  | intro _
  | exact rfl
  | (refine @id.{0} _ ?_; constructor)
  | apply Ni
  | apply KG
  | exact ()
theorem Wz {x0:aC} {aN aP aK aG:Value} {x1:(List (List Int))} {bV:Value}:Ct Tryz.prog 114 true (jB x0 x1) [.agg #[.int .i64 (x0.aD),aN,aP,aK,aG],bV] [rI aN x0.aA,rI aP x0.To,rI aK x0.aF,rJ aG x0.aB,rJ bV x1] (fun y (v:Value)=>[v]) (fun y v=>[.own (aJ 2 (aM .i64)) v y]):=by
 refine ct (S:=Unit) (ca fun _ _=>rfl) Tryz.func114 rfl rfl ?_
 repeat' first
  | (apply Dk.fe; repeat' first | exact rfl | (refine @id.{0} _ ?_; constructor))
  | intro _
  | exact rfl
  | (refine Dk.rX (t:=42) rfl ?_ ?_)
  | apply Dk.sq (d:=84)
  | (refine @id.{0} _ ?_; constructor)
  | apply Dk.loop 0 (V:=Value) (fun (s:(List (List Int))×Int) v=>[.own (aJ 22 (aJ 2 (aM .i64))) v s.1]) (fun s v=>[(6,v),(7,.int .i64 (s.2))]) _ [(1,_),(2,_),(5,_)]
  | apply Dk.loop 2 (V:=Value) (fun (s:(List (List Int))×Int) v=>[.own (aJ 22 (aJ 2 (aM .i64))) v s.1]) (fun s v=>[(6,v),(10,.int .i64 (s.2))]) _ [(1,_),(2,_),(5,_),(7,_),(8,_),(9,_)]
  | apply Dk.loop 4 (V:=Value) (fun (s:(List (List Int))×Int) v=>[.own (aJ 22 (aJ 2 (aM .i64))) v s.1]) (fun s v=>[(6,v),(11,.int .i64 (s.2))]) _ [(1,_),(2,_),(5,_),(7,_),(8,_),(9,_),(10,_)]
  | apply Dk.quiet (id:=6) (by kernel_rfl)
  | apply Dk.quiet (id:=13) (by kernel_rfl)
  | apply Dk.any (id:=14) 14 [0] [] [[],[],[],[],[],[2,3,4],[],[1,2,3,4,5,6],[],[],[],[],[1,2,3,4,5,6,7,9,10,11],[]] (by kernel_rfl)
  | apply PL
  | apply aco
  | apply Wv
  | exact ()
theorem c33 {x0:aC} {aN aP aK aG:Value} {x1:(List (List Int))} {bV:Value}:Ct Tryz.prog 33 true (iU x0 x1) [.agg #[.int .i64 (x0.aD),aN,aP,aK,aG],bV] [rI aN x0.aA,rI aP x0.To,rI aK x0.aF,rJ aG x0.aB,rJ bV x1] (fun y (v:Value)=>[v,.int .i64 y.2]) (fun y v=>[.own (aJ 2 (aM .i64)) v y.1]):=by
 refine ct (S:=Unit) (ca fun _ _=>rfl) Tryz.func33 rfl rfl ?_
 repeat' first
  | (apply Dk.fe; repeat' first | exact rfl | (refine @id.{0} _ ?_; constructor))
  | intro _
  | exact rfl
  | (refine @id.{0} _ ?_; constructor)
  | apply Dk.loop 0 (V:=Unit) (fun (s:Int) v=>[]) (fun s v=>[(6,.int .i64 (s))]) () [(1,_),(2,_)]
  | apply Dk.loop 2 (V:=Unit) (fun (s:Int) v=>[]) (fun s v=>[(8,.int .i64 (s))]) () [(1,_),(2,_)]
  | apply Dk.quiet (id:=4) (by kernel_rfl)
  | apply Dk.quiet (id:=12) (by kernel_rfl)
  | apply acZ
  | apply Ni
  | apply KH
  | apply Wz
  | exact ()
theorem ac0 {x0:aC} {aN aP aK aG:Value} {x1:(List Int)} {bV:Value}:Ct Tryz.prog 186 true (fJ x0 x1) [.agg #[.int .i64 (x0.aD),aN,aP,aK,aG],bV] [rI aN x0.aA,rI aP x0.To,rI aK x0.aF,rJ aG x0.aB,rI bV x1] (fun y (_:Unit)=>[.bool y]) (fun y _=>[]):=by
 refine ct (S:=Unit) (ca fun _ _=>rfl) Tryz.func186 rfl rfl ?_
 repeat' first
  | (apply Dk.fe; repeat' first | exact rfl | (refine @id.{0} _ ?_; constructor))
  | intro _
  | exact rfl
  | (refine @id.{0} _ ?_; constructor)
  | apply Dk.loop 0 (V:=Unit) (fun (s:Int) v=>[]) (fun s v=>[(6,.int .i64 (s))]) () [(1,_),(2,_),(5,_)]
  | apply Dk.quiet (id:=7) (by kernel_rfl)
  | apply acW
  | apply acJ
  | apply KH
  | apply Wz
  | apply PJ
  | exact ()
theorem ac1 {x0:aC} {aN aP aK aG:Value} {x1:(List Int)} {bV:Value}:Ct Tryz.prog 118 true (fP x0 x1) [.agg #[.int .i64 (x0.aD),aN,aP,aK,aG],bV] [rI aN x0.aA,rI aP x0.To,rI aK x0.aF,rJ aG x0.aB,rI bV x1] (fun y (v:Value×Value×Value×Value)=>[.agg #[.int .i64 y.1.aD,v.1,v.2.1,v.2.2.1,v.2.2.2],.int .i64 y.2]) (fun y v=>[.own (aJ 2 (aM .i64)) v.1 y.1.aA,.own (aJ 2 (aM .i64)) v.2.1 y.1.To,.own (aJ 2 (aM .i64)) v.2.2.1 y.1.aF,.own (aJ 22 (aJ 2 (aM .i64))) v.2.2.2 y.1.aB]):=by
 refine ct (S:=Unit) (ca fun _ _=>rfl) Tryz.func118 rfl rfl ?_
 repeat' first
  | (apply Dk.fe; repeat' first | exact rfl | (refine @id.{0} _ ?_; constructor))
  | intro _
  | exact rfl
  | (refine @id.{0} _ ?_; constructor)
  | apply Ni
  | apply ac0
  | apply acX
  | exact ()
theorem ac2 {x0:aO} {bB bG aV aT bC bH aW aU bL bP:Value}:Ct Tryz.prog 122 true (oA x0) [.agg #[.int .i64 (x0.aH.aD),bB,bG,aV,aT,.int .i64 (x0.aL.aD),bC,bH,aW,aU,bL,bP]] [rI bB x0.aH.aA,rI bG x0.aH.To,rI aV x0.aH.aF,rJ aT x0.aH.aB,rI bC x0.aL.aA,rI bH x0.aL.To,rI aW x0.aL.aF,rJ aU x0.aL.aB,rI bL x0.aD,rI bP x0.an] (fun y (_:Unit)=>[.bool y]) (fun y _=>[]):=by
 refine ct (S:=Unit) (ca fun _ _=>rfl) Tryz.func122 rfl rfl ?_
 repeat' first
  | (apply Dk.fe; repeat' first | exact rfl | (refine @id.{0} _ ?_; constructor))
  | intro _
  | exact rfl
  | (refine Dk.rX (t:=136) rfl ?_ ?_)
  | (refine @id.{0} _ ?_; constructor)
  | apply Dk.loop 0 (V:=Unit) (fun (s:Int) v=>[]) (fun s v=>[(5,.int .i64 (s))]) () [(1,_),(3,_),(4,_)]
  | apply Dk.loop 2 (V:=Unit) (fun (s:Int) v=>[]) (fun s v=>[(6,.int .i64 (s))]) () [(1,_),(3,_),(4,_)]
  | apply Dk.loop 4 (V:=Unit) (fun (s:Int) v=>[]) (fun s v=>[(7,.int .i64 (s))]) () [(1,_),(3,_),(4,_)]
  | apply Dk.loop 6 (V:=Unit) (fun (s:Int) v=>[]) (fun s v=>[(8,.int .i64 (s))]) () [(1,_),(3,_),(4,_),(7,_)]
  | apply Dk.quiet (id:=9) (by kernel_rfl)
  | apply Dk.quiet (id:=14) (by kernel_rfl)
  | apply Dk.quiet (id:=22) (by kernel_rfl)
  | apply Dk.any (id:=1) 7 [] [[],[],[],[],[],[],[4]] [[],[0],[],[2],[],[],[0,1,4,5]] (by kernel_rfl)
  | apply Ni
  | apply KG
  | exact ()
theorem c40 {x0:aO} {bB bG aV aT bC bH aW aU bL bP:Value}:Ct Tryz.prog 40 true (cI x0) [.agg #[.int .i64 (x0.aH.aD),bB,bG,aV,aT,.int .i64 (x0.aL.aD),bC,bH,aW,aU,bL,bP]] [rI bB x0.aH.aA,rI bG x0.aH.To,rI aV x0.aH.aF,rJ aT x0.aH.aB,rI bC x0.aL.aA,rI bH x0.aL.To,rI aW x0.aL.aF,rJ aU x0.aL.aB,rI bL x0.aD,rI bP x0.an] (fun y (v:Value)=>[v,.int .i64 y.2]) (fun y v=>[.own (aJ 2 (aM .i64)) v y.1]):=by
 refine ct (S:=Unit) (ca fun _ _=>rfl) Tryz.func40 rfl rfl ?_
 repeat' first
  | (apply Dk.fe; repeat' first | exact rfl | (refine @id.{0} _ ?_; constructor))
  | intro _
  | exact rfl
  | apply Dk.sq (d:=44)
  | (refine @id.{0} _ ?_; constructor)
  | apply Dk.loop 0 (V:=Value) (fun (s:(List (List Int))×Int) v=>[.own (aJ 22 (aJ 2 (aM .i64))) v s.1]) (fun s v=>[(4,v),(5,.int .i64 (s.2))]) _ [(1,_)]
  | apply Dk.loop 2 (V:=Value) (fun (s:(List (List Int))×Int) v=>[.own (aJ 22 (aJ 2 (aM .i64))) v s.1]) (fun s v=>[(4,v),(6,.int .i64 (s.2))]) _ [(1,_),(5,_)]
  | apply Dk.quiet (id:=10) (by kernel_rfl)
  | apply ac2
  | apply KH
  | apply Wv
  | exact ()
end Go.Proofs.YtbhhmalgcnhniaaGreat
