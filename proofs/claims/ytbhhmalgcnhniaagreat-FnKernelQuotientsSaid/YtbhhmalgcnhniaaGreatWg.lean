/- Walks by the calculus D. No condition beside those that each theorem names. -/
import Derived.Test.YtbhhmalgcnhniaaGreatDi
import Derived.Test.YtbhhmalgcnhniaaGreatMo
import Derived.Test.YtbhhmalgcnhniaaGreatDp
import Derived.Test.YtbhhmalgcnhniaaGreatDs
import Derived.Test.YtbhhmalgcnhniaaGreatWa
import Derived.Test.YtbhhmalgcnhniaaGreatWc
import Derived.Test.YtbhhmalgcnhniaaGreatWd
namespace Go.Proofs.YtbhhmalgcnhniaaGreat
open Go Go.Li Go.Dk
set_option linter.unusedVariables false
set_option maxHeartbeats 16000000
set_option maxRecDepth 100000
theorem acN {x0:aI} {bW:Nat} {bK:Value}:Ct Tryz.prog 211 true (dN x0) [.pointer (some (⟨bW,0,none⟩))] [.row bW [bK,.int .i64 (x0.At),.int .u64 (x0.au)] 162,.rd false (bF (aM .u8)) bK x0.Code] (fun y (v:Value)=>[v]) (fun y v=>[.own (aJ 22 (aJ 2 (aM .i64))) v y.1,.row bW [bK,.int .i64 y.2.At,.int .u64 y.2.au] 162]):=by
 refine ct (S:=Unit) (ca fun _ _=>rfl) Tryz.func211 rfl rfl ?_
 repeat' first
  | (apply Dk.fe; repeat' first | exact rfl | (refine @id.{0} _ ?_; constructor))
  | intro _
  | exact rfl
  | apply Dk.D.Cw (d:=2) (x:=.tmp 8)
  | apply Dk.D.Cw (d:=2) (x:=.tmp 13)
  | apply Dk.D.Cw (d:=2) (x:=.tmp 18)
  | apply Dk.D.Cw (d:=2) (x:=.tmp 24)
  | apply Dk.D.Cw (d:=2) (x:=.tmp 30)
  | apply Dk.D.Cw (d:=2) (x:=.tmp 36)
  | apply Dk.D.Cw (d:=2) (x:=.tmp 43)
  | apply Dk.D.Cw (d:=2) (x:=.tmp 47)
  | (refine @id.{0} _ ?_; constructor)
  | apply AM
  | exact ()
theorem PL {x0:(List (List Int))} {bQ:Value}:Ct Tryz.prog 183 true (jA x0) [bQ] [rJ bQ x0] (fun y (v:Value)=>[v]) (fun y v=>[.own (aJ 22 (aJ 2 (aM .i64))) v y]):=by
 refine ct (S:=Unit) (ca fun _ _=>rfl) Tryz.func183 rfl rfl ?_
 repeat' first
  | (apply Dk.fe; repeat' first | exact rfl | (refine @id.{0} _ ?_; constructor))
  | intro _
  | exact rfl
  | (refine @id.{0} _ ?_; constructor)
  | apply Dk.loop 0 (V:=Value) (fun (s:(List (List Int))×Int) v=>[.own (aJ 22 (aJ 2 (aM .i64))) v s.1]) (fun s v=>[(3,v),(4,.int .i64 (s.2))]) _ [(0,_)]
  | apply AN
  | exact ()
theorem acO {x0:(List (List Int))} {bQ:Value}:Ct Tryz.prog 210 true (dP x0) [bQ] [rJ bQ x0] (fun y (v:Value×Value×Value×Value)=>[.agg #[.int .i64 y.aD,v.1,v.2.1,v.2.2.1,v.2.2.2]]) (fun y v=>[.own (aJ 2 (aM .i64)) v.1 y.aA,.own (aJ 2 (aM .i64)) v.2.1 y.To,.own (aJ 2 (aM .i64)) v.2.2.1 y.aF,.own (aJ 22 (aJ 2 (aM .i64))) v.2.2.2 y.aB]):=by
 refine ct (S:=Unit) (ca fun _ _=>rfl) Tryz.func210 rfl rfl ?_
 repeat' first
  | (apply Dk.fe; repeat' first | exact rfl | (refine @id.{0} _ ?_; constructor))
  | intro _
  | exact rfl
  | (refine @id.{0} _ ?_; constructor)
  | apply Dk.any (id:=2) 7 [] [] [[],[0],[],[2],[],[],[5]] (by kernel_rfl)
  | apply PL
  | exact ()
theorem PM {x0:aC} {aN aP aK aG:Value}:Ct Tryz.prog 161 true (iN x0) [.agg #[.int .i64 (x0.aD),aN,aP,aK,aG]] [rI aN x0.aA,rI aP x0.To,rI aK x0.aF,rJ aG x0.aB] (fun y (v:Value×Value×Value×Value)=>[.agg #[.int .i64 y.aD,v.1,v.2.1,v.2.2.1,v.2.2.2]]) (fun y v=>[.own (aJ 2 (aM .i64)) v.1 y.aA,.own (aJ 2 (aM .i64)) v.2.1 y.To,.own (aJ 2 (aM .i64)) v.2.2.1 y.aF,.own (aJ 22 (aJ 2 (aM .i64))) v.2.2.2 y.aB]):=by
 refine ct (S:=Unit) (ca fun _ _=>rfl) Tryz.func161 rfl rfl ?_
 repeat' first
  | (apply Dk.fe; repeat' first | exact rfl | (refine @id.{0} _ ?_; constructor))
  | intro _
  | exact rfl
  | (refine @id.{0} _ ?_; constructor)
  | apply Dk.any (id:=1) 14 [] [] [[],[0],[],[2],[2,3],[],[5],[2,3,4,5,6],[],[8],[2,3,4,5,6,7,8,9],[],[11],[2,3,4,5,6,7,8,9,10,11,12]] (by kernel_rfl)
  | apply AN
  | apply PL
  | exact ()
theorem Wr {x0:aI} {bW:Nat} {bK:Value} {x1:(List Int)} {bV:Value}:Ct Tryz.prog 215 true (kM x0 x1) [.pointer (some (⟨bW,0,none⟩)),bV] [.row bW [bK,.int .i64 (x0.At),.int .u64 (x0.au)] 162,.rd false (bF (aM .u8)) bK x0.Code,rI bV x1] (fun y (_:Unit)=>[.int .i64 y.1]) (fun y _=>[.row bW [bK,.int .i64 y.2.At,.int .u64 y.2.au] 162]):=by
 refine ct (S:=Unit) (ca fun _ _=>rfl) Tryz.func215 rfl rfl ?_
 repeat' first
  | (apply Dk.fe; repeat' first | exact rfl | (refine @id.{0} _ ?_; constructor))
  | intro _
  | exact rfl
  | (refine @id.{0} _ ?_; constructor)
  | apply AM
  | exact ()
theorem acP {x0:aI} {bW:Nat} {bK:Value} {x1:Int}:Ct Tryz.prog 174 true (lA x0 x1) [.pointer (some (⟨bW,0,none⟩)),.int .i64 (x1)] [.row bW [bK,.int .i64 (x0.At),.int .u64 (x0.au)] 162,.rd false (bF (aM .u8)) bK x0.Code] (fun y (_:Unit)=>[.int .i64 y.1]) (fun y _=>[.row bW [bK,.int .i64 y.2.At,.int .u64 y.2.au] 162]):=by
 refine ct (S:=Unit) (ca fun _ _=>rfl) Tryz.func174 rfl rfl ?_
 repeat' first
  | (apply Dk.fe; repeat' first | exact rfl | (refine @id.{0} _ ?_; constructor))
  | intro _
  | exact rfl
  | (refine @id.{0} _ ?_; constructor)
  | apply AM
  | apply Wr
  | exact ()
theorem acQ {x0:aC} {aN aP aK aG:Value}:Ct Tryz.prog 166 true (lG x0) [.agg #[.int .i64 (x0.aD),aN,aP,aK,aG]] [rI aN x0.aA,rI aP x0.To,rI aK x0.aF,rJ aG x0.aB] (fun y (v:Value)=>[v]) (fun y v=>[.own (aJ 2 (aM .i64)) v y]):=by
 refine ct (S:=Unit) (ca fun _ _=>rfl) Tryz.func166 rfl rfl ?_
 repeat' first
  | (apply Dk.fe; repeat' first | exact rfl | (refine @id.{0} _ ?_; constructor))
  | intro _
  | exact rfl
  | (refine @id.{0} _ ?_; constructor)
  | apply Dk.loop 0 (V:=Value) (fun (s:(List Int)×Int) v=>[.own (aJ 2 (aM .i64)) v s.1]) (fun s v=>[(3,v),(4,.int .i64 (s.2))]) _ [(1,_)]
  | apply acm
  | exact ()
theorem c98 {x0:aC} {aN aP aK aG:Value} {x1:aC} {bD bJ aS aQ:Value}:Ct Tryz.prog 98 true (jP x0 x1) [.agg #[.int .i64 (x0.aD),aN,aP,aK,aG],.agg #[.int .i64 (x1.aD),bD,bJ,aS,aQ]] [rI aN x0.aA,rI aP x0.To,rI aK x0.aF,rJ aG x0.aB,rI bD x1.aA,rI bJ x1.To,rI aS x1.aF,rJ aQ x1.aB] (fun y (_:Unit)=>[.bool y]) (fun y _=>[]):=by
 refine ct (S:=Unit) (ca fun _ _=>rfl) Tryz.func98 rfl rfl ?_
 repeat' first
  | (apply Dk.fe; repeat' first | exact rfl | (refine @id.{0} _ ?_; constructor))
  | intro _
  | exact rfl
  | (apply Dk.Eo (t:=4); exact rfl)
  | (refine @id.{0} _ ?_; constructor)
  | apply acQ
  | exact ()
theorem Ws {rc:aC→aC→(List Int)→(List Int)→Int→(List (List Int))→Option ((List (List Int)))} (ih:∀ {x0:aC} {aN aP aK aG:Value} {x1:aC} {bD bJ aS aQ:Value} {x2:(List Int)} {cG:Value} {x3:(List Int)} {eE:Value} {x4:Int} {x5:(List (List Int))} {oD:Value},Ct Tryz.prog 221 true (rc x0 x1 x2 x3 x4 x5) [.agg #[.int .i64 (x0.aD),aN,aP,aK,aG],.agg #[.int .i64 (x1.aD),bD,bJ,aS,aQ],cG,eE,.int .i64 (x4),oD] [rI aN x0.aA,rI aP x0.To,rI aK x0.aF,rJ aG x0.aB,rI bD x1.aA,rI bJ x1.To,rI aS x1.aF,rJ aQ x1.aB,rI cG x2,rI eE x3,.own (aJ 22 (aJ 2 (aM .i64))) oD x5] (fun y (v:Value)=>[v]) (fun y v=>[.own (aJ 22 (aJ 2 (aM .i64))) v y])) {x0:aC} {aN aP aK aG:Value} {x1:aC} {bD bJ aS aQ:Value} {x2:(List Int)} {cG:Value} {x3:(List Int)} {eE:Value} {x4:Int} {x5:(List (List Int))} {oD:Value}:Ct Tryz.prog 221 true (jL rc x0 x1 x2 x3 x4 x5) [.agg #[.int .i64 (x0.aD),aN,aP,aK,aG],.agg #[.int .i64 (x1.aD),bD,bJ,aS,aQ],cG,eE,.int .i64 (x4),oD] [rI aN x0.aA,rI aP x0.To,rI aK x0.aF,rJ aG x0.aB,rI bD x1.aA,rI bJ x1.To,rI aS x1.aF,rJ aQ x1.aB,rI cG x2,rI eE x3,.own (aJ 22 (aJ 2 (aM .i64))) oD x5] (fun y (v:Value)=>[v]) (fun y v=>[.own (aJ 22 (aJ 2 (aM .i64))) v y]):=by
 refine ct (S:=Unit) (ca fun _ _=>rfl) Tryz.func221 rfl rfl ?_
 repeat' first
  | (apply Dk.fe; repeat' first | exact rfl | (refine @id.{0} _ ?_; constructor))
  | intro _
  | exact rfl
  | (refine @id.{0} _ ?_; constructor)
  | apply ih
  | apply Dk.loop 0 (V:=Unit) (fun (s:Int) v=>[]) (fun s v=>[(4,.int .i64 (s))]) () [(2,_),(3,_),(5,_),(6,_),(7,_)]
  | apply Dk.loop 2 (V:=Value) (fun (s:(List (List Int))×Int) v=>[.own (aJ 22 (aJ 2 (aM .i64))) v s.1]) (fun s v=>[(5,v),(14,.int .i64 (s.2))]) _ [(2,_),(3,_),(4,_),(6,_),(7,_),(13,_)]
  | apply Dk.any (id:=5) 17 [] [] [[],[],[],[2],[],[2,3,4],[2,3,4,5],[1,2,3,4,5,6],[1,2,3,4,5,6,7],[],[],[10],[],[10,11,12],[10,11,12,13],[9,10,11,12,13,14],[9,10,11,12,13,14,15]] (by kernel_rfl)
  | apply AN
  | apply Wo
  | apply acu
  | exact ()
theorem Wt (n:Nat):∀ {x0:aC} {aN aP aK aG:Value} {x1:aC} {bD bJ aS aQ:Value} {x2:(List Int)} {cG:Value} {x3:(List Int)} {eE:Value} {x4:Int} {x5:(List (List Int))} {oD:Value},Ct Tryz.prog 221 true (eX n x0 x1 x2 x3 x4 x5) [.agg #[.int .i64 (x0.aD),aN,aP,aK,aG],.agg #[.int .i64 (x1.aD),bD,bJ,aS,aQ],cG,eE,.int .i64 (x4),oD] [rI aN x0.aA,rI aP x0.To,rI aK x0.aF,rJ aG x0.aB,rI bD x1.aA,rI bJ x1.To,rI aS x1.aF,rJ aQ x1.aB,rI cG x2,rI eE x3,.own (aJ 22 (aJ 2 (aM .i64))) oD x5] (fun y (v:Value)=>[v]) (fun y v=>[.own (aJ 22 (aJ 2 (aM .i64))) v y]):=by
 induction n with
 | zero=>intros; rw [se]; exact ⟨(ca fun _ _=>rfl),fun _ _ _ _ _ _ _ y hy=>nomatch (show none=some y from hy)⟩
 | succ n ih=>exact Ws ih
theorem acR {x0:aC} {aN aP aK aG:Value} {x1:aC} {bD bJ aS aQ:Value} {x2:(List Int)} {cG:Value} {x3:(List Int)} {eE:Value} {x4:Int} {x5:(List (List Int))} {oD:Value}:Ct Tryz.prog 221 true (eX 64 x0 x1 x2 x3 x4 x5) [.agg #[.int .i64 (x0.aD),aN,aP,aK,aG],.agg #[.int .i64 (x1.aD),bD,bJ,aS,aQ],cG,eE,.int .i64 (x4),oD] [rI aN x0.aA,rI aP x0.To,rI aK x0.aF,rJ aG x0.aB,rI bD x1.aA,rI bJ x1.To,rI aS x1.aF,rJ aQ x1.aB,rI cG x2,rI eE x3,.own (aJ 22 (aJ 2 (aM .i64))) oD x5] (fun y (v:Value)=>[v]) (fun y v=>[.own (aJ 22 (aJ 2 (aM .i64))) v y]):=by
 exact Wt 64
theorem acS {x0:aO} {cA:Addr} {bB bG aV aT bC bH aW aU bL bP:Value}:Ct Tryz.prog 124 true (dA x0) [.pointer (some (cA))] [.bn cA [.int .i64 (x0.aH.aD),bB,bG,aV,aT,.int .i64 (x0.aL.aD),bC,bH,aW,aU,bL,bP],rI bB x0.aH.aA,rI bG x0.aH.To,rI aV x0.aH.aF,rJ aT x0.aH.aB,rI bC x0.aL.aA,rI bH x0.aL.To,rI aW x0.aL.aF,rJ aU x0.aL.aB,rI bL x0.aD,rI bP x0.an] (fun y (_:Unit)=>[.bool y]) (fun y _=>[]):=by
 refine ct (S:=Unit) (ca fun _ _=>rfl) Tryz.func124 rfl rfl ?_
 repeat' first
  | (apply Dk.fe; repeat' first | exact rfl | (refine @id.{0} _ ?_; constructor))
  | intro _
  | exact rfl
  | apply Dk.slX (t:=22)
  | (refine @id.{0} _ ?_; constructor)
  | apply Dk.loop 0 (V:=Unit) (fun (s:Int) v=>[]) (fun s v=>[(10,.int .i64 (s))]) () [(0,_),(9,_)]
  | apply Dk.loop 2 (V:=Unit) (fun (s:Int) v=>[]) (fun s v=>[(20,.int .i64 (s))]) () [(0,_),(3,_),(9,_),(10,_),(19,_)]
  | apply Dk.quiet (id:=7) (by kernel_rfl)
  | apply KJ
  | exact ()
end Go.Proofs.YtbhhmalgcnhniaaGreat
