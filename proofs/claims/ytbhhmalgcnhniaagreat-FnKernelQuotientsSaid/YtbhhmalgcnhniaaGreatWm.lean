/- Walks by the calculus D. No condition beside those that each theorem names. -/
import Derived.Test.YtbhhmalgcnhniaaGreatDi
import Derived.Test.YtbhhmalgcnhniaaGreatMo
import Derived.Test.YtbhhmalgcnhniaaGreatDp
import Derived.Test.YtbhhmalgcnhniaaGreatDs
import Derived.Test.YtbhhmalgcnhniaaGreatWa
import Derived.Test.YtbhhmalgcnhniaaGreatWb
import Derived.Test.YtbhhmalgcnhniaaGreatWc
import Derived.Test.YtbhhmalgcnhniaaGreatWd
import Derived.Test.YtbhhmalgcnhniaaGreatWe
import Derived.Test.YtbhhmalgcnhniaaGreatWg
import Derived.Test.YtbhhmalgcnhniaaGreatWi
import Derived.Test.YtbhhmalgcnhniaaGreatWj
import Derived.Test.YtbhhmalgcnhniaaGreatWk
import Derived.Test.YtbhhmalgcnhniaaGreatWl
namespace Go.Proofs.YtbhhmalgcnhniaaGreat
open Go Go.Li Go.Dk
set_option linter.unusedVariables false
set_option maxHeartbeats 16000000
set_option maxRecDepth 100000
theorem WG {x0:aI} {bW:Nat} {bK:Value} {x1:Int} {x2:Int}:Ct Tryz.prog 80 true (fE x0 x1 x2) [.pointer (some (⟨bW,0,none⟩)),.int .i64 (x1),.int .i64 (x2)] [.row bW [bK,.int .i64 (x0.At),.int .u64 (x0.au)] 162,.rd false (bF (aM .u8)) bK x0.Code] (fun y (v:Value×Value×Value×Value)=>[.agg #[.int .i64 y.1.aD,v.1,v.2.1,v.2.2.1,v.2.2.2]]) (fun y v=>[.own (aJ 2 (aM .i64)) v.1 y.1.aA,.own (aJ 2 (aM .i64)) v.2.1 y.1.To,.own (aJ 2 (aM .i64)) v.2.2.1 y.1.aF,.own (aJ 22 (aJ 2 (aM .i64))) v.2.2.2 y.1.aB,.row bW [bK,.int .i64 y.2.At,.int .u64 y.2.au] 162]):=by
 refine ct (S:=Unit) (ca fun _ _=>rfl) Tryz.func80 rfl rfl ?_
 repeat' first
  | (apply Dk.fe; repeat' first | exact rfl | (refine @id.{0} _ ?_; constructor))
  | intro _
  | exact rfl
  | (refine @id.{0} _ ?_; constructor)
  | apply Dk.loop 0 (V:=Unit) (fun (s:Int×Int×Int) v=>[.row bW [bK,.int .i64 (s.2.1),.int .u64 (s.2.2)] 162]) (fun s v=>[(7,.int .i64 (s.1))]) () [(0,_),(1,_),(2,_),(6,_)]
  | apply Dk.vN (id:=6) [Dk.ay.row _ _ 162] 3 [] [[],[],[5]] [[],[],[1]] (by kernel_rfl)
  | apply Dk.vN (id:=8) [Dk.ay.row _ _ 162] 3 [] [[],[],[5]] [[],[],[1]] (by kernel_rfl)
  | apply ac9
  | apply AM
  | apply WD
  | apply c89
  | apply YY
  | apply Wj
  | exact ()
theorem ada {x0:aI} {bW:Nat} {bK:Value} {x1:Int} {x2:Int}:Ct Tryz.prog 106 false (kO x0 x1 x2) [.pointer (some (⟨bW,0,none⟩)),.int .i64 (x1),.int .i64 (x2)] [.row bW [bK,.int .i64 (x0.At),.int .u64 (x0.au)] 162,.rd false (bF (aM .u8)) bK x0.Code] (fun y (v:Value×Value×Value×Value)=>[.agg #[.int .i64 y.1.aD,v.1,v.2.1,v.2.2.1,v.2.2.2]]) (fun y v=>[rI v.1 y.1.aA,rI v.2.1 y.1.To,rI v.2.2.1 y.1.aF,rJ v.2.2.2 y.1.aB,.row bW [bK,.int .i64 y.2.At,.int .u64 y.2.au] 162]):=by
 refine ct (S:=Unit) Fy Tryz.func106 rfl rfl ?_
 repeat' first
  | (apply Dk.fe; repeat' first | exact rfl | (refine @id.{0} _ ?_; constructor))
  | intro _
  | exact rfl
  | (refine @id.{0} _ ?_; constructor)
  | apply WG
  | apply AM
  | apply WE
  | exact ()
theorem c31 {x0:(List Int)} {bQ:Value}:Ct Tryz.prog 31 false (fK x0) [bQ] [.rd false (bF (aM .u8)) bQ x0] (fun y (v:Value×Value×Value×Value×Value)=>[.agg #[.int .i64 y.1.aD,v.1,v.2.1,v.2.2.1,v.2.2.2.1],v.2.2.2.2]) (fun y v=>[rI v.1 y.1.aA,rI v.2.1 y.1.To,rI v.2.2.1 y.1.aF,rJ v.2.2.2.1 y.1.aB,rJ v.2.2.2.2 y.2]):=by
 refine ct (S:=Unit) Fy Tryz.func31 rfl rfl ?_
 repeat' first
  | (apply Dk.fe; repeat' first | exact rfl | (refine @id.{0} _ ?_; constructor))
  | intro _
  | exact rfl
  | (refine @id.{0} _ ?_; constructor)
  | apply Dk.vN (id:=3) [Dk.ay.row _ _ 162] 4 [] [[],[],[],[6]] [[],[],[],[1,2]] (by kernel_rfl)
  | apply YZ
  | apply ada
  | apply acY
  | exact ()
theorem c36 {x0:aC} {aN aP aK aG:Value} {x1:(List Int)} {bV:Value}:Ct Tryz.prog 36 true (gC x0 x1) [.agg #[.int .i64 (x0.aD),aN,aP,aK,aG],bV] [rI aN x0.aA,rI aP x0.To,rI aK x0.aF,rJ aG x0.aB,rI bV x1] (fun y (v:Value×Value×Value×Value×Value×Value×Value×Value×Value×Value)=>[.agg #[.int .i64 y.1.aH.aD,v.1,v.2.1,v.2.2.1,v.2.2.2.1,.int .i64 y.1.aL.aD,v.2.2.2.2.1,v.2.2.2.2.2.1,v.2.2.2.2.2.2.1,v.2.2.2.2.2.2.2.1,v.2.2.2.2.2.2.2.2.1,v.2.2.2.2.2.2.2.2.2],.int .i64 y.2]) (fun y v=>[.own (aJ 2 (aM .i64)) v.1 y.1.aH.aA,.own (aJ 2 (aM .i64)) v.2.1 y.1.aH.To,.own (aJ 2 (aM .i64)) v.2.2.1 y.1.aH.aF,.own (aJ 22 (aJ 2 (aM .i64))) v.2.2.2.1 y.1.aH.aB,.own (aJ 2 (aM .i64)) v.2.2.2.2.1 y.1.aL.aA,.own (aJ 2 (aM .i64)) v.2.2.2.2.2.1 y.1.aL.To,.own (aJ 2 (aM .i64)) v.2.2.2.2.2.2.1 y.1.aL.aF,.own (aJ 22 (aJ 2 (aM .i64))) v.2.2.2.2.2.2.2.1 y.1.aL.aB,.own (aJ 2 (aM .i64)) v.2.2.2.2.2.2.2.2.1 y.1.aD,.own (aJ 2 (aM .i64)) v.2.2.2.2.2.2.2.2.2 y.1.an]):=by
 refine ct (S:=Unit) (ca fun _ _=>rfl) Tryz.func36 rfl rfl ?_
 repeat' first
  | (apply Dk.fe; repeat' first | exact rfl | (refine @id.{0} _ ?_; constructor))
  | intro _
  | exact rfl
  | (refine @id.{0} _ ?_; constructor)
  | apply Dk.any (id:=4) 6 [] [] [[],[],[],[2],[2,3],[]] (by kernel_rfl)
  | apply ac1
  | apply Y0
  | apply QU
  | exact ()
theorem c29 {x0:aO} {bB bG aV aT bC bH aW aU bL bP:Value}:Ct Tryz.prog 29 true (eW x0) [.agg #[.int .i64 (x0.aH.aD),bB,bG,aV,aT,.int .i64 (x0.aL.aD),bC,bH,aW,aU,bL,bP]] [rI bB x0.aH.aA,rI bG x0.aH.To,rI aV x0.aH.aF,rJ aT x0.aH.aB,rI bC x0.aL.aA,rI bH x0.aL.To,rI aW x0.aL.aF,rJ aU x0.aL.aB,rI bL x0.aD,rI bP x0.an] (fun y (_:Unit)=>[.bool y]) (fun y _=>[]):=by
 refine ct (S:=Unit) (ca fun _ _=>rfl) Tryz.func29 rfl rfl ?_
 repeat' first
  | (apply Dk.fe; repeat' first | exact rfl | (refine @id.{0} _ ?_; constructor))
  | intro _
  | exact rfl
  | (refine @id.{0} _ ?_; constructor)
  | apply KL
  | exact ()
theorem c37 {x0:aO} {bB bG aV aT bC bH aW aU bL bP:Value}:Ct Tryz.prog 37 true (cB x0) [.agg #[.int .i64 (x0.aH.aD),bB,bG,aV,aT,.int .i64 (x0.aL.aD),bC,bH,aW,aU,bL,bP]] [rI bB x0.aH.aA,rI bG x0.aH.To,rI aV x0.aH.aF,rJ aT x0.aH.aB,rI bC x0.aL.aA,rI bH x0.aL.To,rI aW x0.aL.aF,rJ aU x0.aL.aB,rI bL x0.aD,rI bP x0.an] (fun y (v:Value)=>[v,.int .i64 y.2]) (fun y v=>[.own (aJ 2 (aM .i64)) v y.1]):=by
 refine ct (S:=Unit) (ca fun _ _=>rfl) Tryz.func37 rfl rfl ?_
 repeat' first
  | (apply Dk.fe; repeat' first | exact rfl | (refine @id.{0} _ ?_; constructor))
  | intro _
  | exact rfl
  | (refine @id.{0} _ ?_; constructor)
  | apply Dk.fq 0 (V:=Unit) (A:=Value) _ (fun a (s:Int×(List Int)) v=>[.own (aJ 2 (aM .i64)) a s.2]) (fun a s v=>[(4,a),(16,.int .i64 (s.1))]) () [(1,_),(14,_),(15,_)]
  | apply Dk.any (id:=7) 18 [0,1] [] [[],[],[],[2],[2,3],[],[2,3,4,5],[2,3,4,5,6],[2,3,4,5,6,7],[],[9],[9,10],[],[9,10,11,12],[9,10,11,12,13],[2,3,4,5,6,7,8,9,10,11,12,13,14],[2,3,4,5,6,7,8,9,10,11,12,13,14,15],[]] (by kernel_rfl)
  | apply KL
  | apply Wl
  | exact ()
theorem Nj {x0:aO} {cA:Addr} {bB bG aV aT bC bH aW aU bL bP:Value}:Ct Tryz.prog 120 true (lF x0 (fun a0=>eM a0)) [.pointer (some (cA)),.func (.func 121) #[] #[]] [.bn cA [.int .i64 (x0.aH.aD),bB,bG,aV,aT,.int .i64 (x0.aL.aD),bC,bH,aW,aU,bL,bP],rI bB x0.aH.aA,rI bG x0.aH.To,rI aV x0.aH.aF,rJ aT x0.aH.aB,rI bC x0.aL.aA,rI bH x0.aL.To,rI aW x0.aL.aF,rJ aU x0.aL.aB,rI bL x0.aD,rI bP x0.an] (fun y (_:Unit)=>[.bool y.1,.int .i64 y.2]) (fun y _=>[]):=by
 refine ct (S:=Unit) (ca fun _ _=>rfl) Tryz.func120 rfl rfl ?_
 repeat' first
  | (apply Dk.fe; repeat' first | exact rfl | (refine @id.{0} _ ?_; constructor))
  | intro _
  | exact rfl
  | (refine @id.{0} _ ?_; constructor)
  | apply KL
  | apply acE
  | exact ()
theorem c38 {x0:aO} {bB bG aV aT bC bH aW aU bL bP:Value}:Ct Tryz.prog 38 true (nS x0) [.agg #[.int .i64 (x0.aH.aD),bB,bG,aV,aT,.int .i64 (x0.aL.aD),bC,bH,aW,aU,bL,bP]] [rI bB x0.aH.aA,rI bG x0.aH.To,rI aV x0.aH.aF,rJ aT x0.aH.aB,rI bC x0.aL.aA,rI bH x0.aL.To,rI aW x0.aL.aF,rJ aU x0.aL.aB,rI bL x0.aD,rI bP x0.an] (fun y (_:Unit)=>[.bool y.1,.int .i64 y.2]) (fun y _=>[]):=by
 refine ct (S:=Unit) (ca fun _ _=>rfl) Tryz.func38 rfl rfl ?_
 repeat' first
  | (apply Dk.fe; repeat' first | exact rfl | (refine @id.{0} _ ?_; constructor))
  | intro _
  | exact rfl
  | (refine @id.{0} _ ?_; constructor)
  | apply Nj
  | exact ()
theorem c79 {x0:aI} {bW:Nat} {bK:Value} {x1:aC} {bD bJ aS aQ:Value} {x2:Int} {x3:Int}:Ct Tryz.prog 79 true (nG x0 x1 x2 x3) [.pointer (some (⟨bW,0,none⟩)),.agg #[.int .i64 (x1.aD),bD,bJ,aS,aQ],.int .i64 (x2),.int .i64 (x3)] [.row bW [bK,.int .i64 (x0.At),.int .u64 (x0.au)] 162,.rd false (bF (aM .u8)) bK x0.Code,rI bD x1.aA,rI bJ x1.To,rI aS x1.aF,rJ aQ x1.aB] (fun y (v:Value×Value×Value×Value×Value×Value×Value×Value×Value×Value)=>[.agg #[.int .i64 y.1.aH.aD,v.1,v.2.1,v.2.2.1,v.2.2.2.1,.int .i64 y.1.aL.aD,v.2.2.2.2.1,v.2.2.2.2.2.1,v.2.2.2.2.2.2.1,v.2.2.2.2.2.2.2.1,v.2.2.2.2.2.2.2.2.1,v.2.2.2.2.2.2.2.2.2]]) (fun y v=>[.own (aJ 2 (aM .i64)) v.1 y.1.aH.aA,.own (aJ 2 (aM .i64)) v.2.1 y.1.aH.To,.own (aJ 2 (aM .i64)) v.2.2.1 y.1.aH.aF,.own (aJ 22 (aJ 2 (aM .i64))) v.2.2.2.1 y.1.aH.aB,.own (aJ 2 (aM .i64)) v.2.2.2.2.1 y.1.aL.aA,.own (aJ 2 (aM .i64)) v.2.2.2.2.2.1 y.1.aL.To,.own (aJ 2 (aM .i64)) v.2.2.2.2.2.2.1 y.1.aL.aF,.own (aJ 22 (aJ 2 (aM .i64))) v.2.2.2.2.2.2.2.1 y.1.aL.aB,.own (aJ 2 (aM .i64)) v.2.2.2.2.2.2.2.2.1 y.1.aD,.own (aJ 2 (aM .i64)) v.2.2.2.2.2.2.2.2.2 y.1.an,.row bW [bK,.int .i64 y.2.At,.int .u64 y.2.au] 162]):=by
 refine ct (S:=Unit) (ca fun _ _=>rfl) Tryz.func79 rfl rfl ?_
 repeat' first
  | (apply Dk.fe; repeat' first | exact rfl | (refine @id.{0} _ ?_; constructor))
  | intro _
  | exact rfl
  | apply Dk.Yh (t:=116)
  | apply Dk.ixO (t:=116)
  | apply Dk.Ya (n:=12)
  | apply Dk.TL (n:=12)
  | apply Dk.TM (n:=12)
  | (apply Dk.Eo (t:=38); exact rfl)
  | (refine @id.{0} _ ?_; constructor)
  | apply Dk.vN (id:=7) [Dk.ay.row _ _ 162] 6 [] [[],[],[],[],[],[8]] [[],[],[],[],[3],[2,3,4]] (by kernel_rfl)
  | apply WG
  | apply c98
  | apply c99
  | apply AM
  | apply ac6
  | apply Y0
  | exact ()
theorem c82 {x0:aI} {bW:Nat} {bK:Value}:Ct Tryz.prog 82 false (kU x0) [.pointer (some (⟨bW,0,none⟩))] [.row bW [bK,.int .i64 (x0.At),.int .u64 (x0.au)] 162,.rd false (bF (aM .u8)) bK x0.Code] (fun y (v:Value×Value×Value×Value×Value×Value×Value×Value×Value×Value)=>[.agg #[.int .i64 y.1.aH.aD,v.1,v.2.1,v.2.2.1,v.2.2.2.1,.int .i64 y.1.aL.aD,v.2.2.2.2.1,v.2.2.2.2.2.1,v.2.2.2.2.2.2.1,v.2.2.2.2.2.2.2.1,v.2.2.2.2.2.2.2.2.1,v.2.2.2.2.2.2.2.2.2]]) (fun y v=>[rI v.1 y.1.aH.aA,rI v.2.1 y.1.aH.To,rI v.2.2.1 y.1.aH.aF,rJ v.2.2.2.1 y.1.aH.aB,rI v.2.2.2.2.1 y.1.aL.aA,rI v.2.2.2.2.2.1 y.1.aL.To,rI v.2.2.2.2.2.2.1 y.1.aL.aF,rJ v.2.2.2.2.2.2.2.1 y.1.aL.aB,rI v.2.2.2.2.2.2.2.2.1 y.1.aD,rI v.2.2.2.2.2.2.2.2.2 y.1.an,.row bW [bK,.int .i64 y.2.At,.int .u64 y.2.au] 162]):=by
 refine ct (S:=Unit) Fy Tryz.func82 rfl rfl ?_
 repeat' first
  | (apply Dk.fe; repeat' first | exact rfl | (refine @id.{0} _ ?_; constructor))
  | (intro (v:Value×Value×Value×Value×Value×Value×Value×Value×Value×Value); obtain ⟨_,_,_,_,_,_,_,_,_,_⟩:=v; dsimp only)
  | intro _
  | exact rfl
  | (refine @id.{0} _ ?_; constructor)
  | apply Dk.vN (id:=8) [Dk.ay.row _ _ 162] 12 [] [[],[],[],[],[14],[],[],[],[],[],[],[4]] [[],[0],[],[],[2,3],[],[],[6],[6,7],[6,7,8],[6,7,8,9],[2,3,4,5,6,7,8,9,10]] (by kernel_rfl)
  | apply WG
  | apply c79
  | apply AM
  | apply WE
  | exact ()
theorem c39 {x0:(List Int)} {bQ:Value}:Ct Tryz.prog 39 false (cM x0) [bQ] [.rd false (bF (aM .u8)) bQ x0] (fun y (v:Value×Value×Value×Value×Value×Value×Value×Value×Value×Value)=>[.agg #[.int .i64 y.aH.aD,v.1,v.2.1,v.2.2.1,v.2.2.2.1,.int .i64 y.aL.aD,v.2.2.2.2.1,v.2.2.2.2.2.1,v.2.2.2.2.2.2.1,v.2.2.2.2.2.2.2.1,v.2.2.2.2.2.2.2.2.1,v.2.2.2.2.2.2.2.2.2]]) (fun y v=>[rI v.1 y.aH.aA,rI v.2.1 y.aH.To,rI v.2.2.1 y.aH.aF,rJ v.2.2.2.1 y.aH.aB,rI v.2.2.2.2.1 y.aL.aA,rI v.2.2.2.2.2.1 y.aL.To,rI v.2.2.2.2.2.2.1 y.aL.aF,rJ v.2.2.2.2.2.2.2.1 y.aL.aB,rI v.2.2.2.2.2.2.2.2.1 y.aD,rI v.2.2.2.2.2.2.2.2.2 y.an]):=by
 refine ct (S:=Unit) Fy Tryz.func39 rfl rfl ?_
 repeat' first
  | (apply Dk.fe; repeat' first | exact rfl | (refine @id.{0} _ ?_; constructor))
  | intro _
  | exact rfl
  | (refine @id.{0} _ ?_; constructor)
  | apply YZ
  | apply c82
  | exact ()
theorem Nl {x0:aO} {cA:Addr} {bB bG aV aT bC bH aW aU bL bP:Value}:Ct Tryz.prog 120 true (lF x0 (fun a0=>dA a0)) [.pointer (some (cA)),.func (.func 124) #[] #[]] [.bn cA [.int .i64 (x0.aH.aD),bB,bG,aV,aT,.int .i64 (x0.aL.aD),bC,bH,aW,aU,bL,bP],rI bB x0.aH.aA,rI bG x0.aH.To,rI aV x0.aH.aF,rJ aT x0.aH.aB,rI bC x0.aL.aA,rI bH x0.aL.To,rI aW x0.aL.aF,rJ aU x0.aL.aB,rI bL x0.aD,rI bP x0.an] (fun y (_:Unit)=>[.bool y.1,.int .i64 y.2]) (fun y _=>[]):=by
 refine ct (S:=Unit) (ca fun _ _=>rfl) Tryz.func120 rfl rfl ?_
 repeat' first
  | (apply Dk.fe; repeat' first | exact rfl | (refine @id.{0} _ ?_; constructor))
  | intro _
  | exact rfl
  | (refine @id.{0} _ ?_; constructor)
  | apply KL
  | apply acS
  | exact ()
theorem c41 {x0:aO} {bB bG aV aT bC bH aW aU bL bP:Value}:Ct Tryz.prog 41 true (fR x0) [.agg #[.int .i64 (x0.aH.aD),bB,bG,aV,aT,.int .i64 (x0.aL.aD),bC,bH,aW,aU,bL,bP]] [rI bB x0.aH.aA,rI bG x0.aH.To,rI aV x0.aH.aF,rJ aT x0.aH.aB,rI bC x0.aL.aA,rI bH x0.aL.To,rI aW x0.aL.aF,rJ aU x0.aL.aB,rI bL x0.aD,rI bP x0.an] (fun y (_:Unit)=>[.bool y.1,.int .i64 y.2]) (fun y _=>[]):=by
 refine ct (S:=Unit) (ca fun _ _=>rfl) Tryz.func41 rfl rfl ?_
 repeat' first
  | (apply Dk.fe; repeat' first | exact rfl | (refine @id.{0} _ ?_; constructor))
  | intro _
  | exact rfl
  | (refine @id.{0} _ ?_; constructor)
  | apply Nl
  | exact ()
theorem c5 {x0:(List Int)} {bQ:Value}:Ct Tryz.prog 5 true (dL x0) [bQ] [.rd false (bF (aM .u8)) bQ x0] (fun y (_:Unit)=>[.bool y]) (fun y _=>[]):=by
 refine ct (S:=Unit) (ca fun _ _=>rfl) Tryz.func5 rfl rfl ?_
 repeat' first
  | (apply Dk.fe; repeat' first | exact rfl | (refine @id.{0} _ ?_; constructor))
  | intro _
  | exact rfl
  | (apply Dk.Eo (t:=2); exact rfl)
  | (refine @id.{0} _ ?_; constructor)
  | apply Dk.loop 0 (V:=Unit) (fun (s:Int) v=>[]) (fun s v=>[(19,.int .i64 (s))]) () [(0,_),(4,_),(7,_)]
  | apply Dk.quiet (id:=21) (by kernel_rfl)
  | apply c16
  | apply c31
  | apply c32
  | apply c33
  | apply QT
  | apply c34
  | apply c35
  | apply c36
  | apply c20
  | apply c29
  | apply c37
  | apply c38
  | apply c39
  | apply c40
  | apply c41
  | apply c27
  | exact ()
theorem nM {w:World} {x0:(List Int)} {bQ:Value} {adb:List Nat} (ade:(bF (aM .u8)).rep w.heap [bQ] x0 adb) {y:(Bool)} (hm:dL x0=some y):Calls Tryz.prog 5 #[bQ] w (fun e w'=>e = .returned (.bool y)∧ao [] w w'):=
 Rw c5 (.fact (Rx ade) (.nil)) hm
end Go.Proofs.YtbhhmalgcnhniaaGreat
