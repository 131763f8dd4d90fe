/- Walks by the calculus D. No condition beside those that each theorem names. -/
import Derived.Test.YtbmchcnkbonmkaaGreatDi
import Derived.Test.YtbmchcnkbonmkaaGreatMo
import Derived.Test.YtbmchcnkbonmkaaGreatDp
import Derived.Test.YtbmchcnkbonmkaaGreatDs
namespace Go.Proofs.YtbmchcnkbonmkaaGreat
open Go Go.Li Go.Dk
set_option linter.unusedVariables false
set_option maxHeartbeats 16000000
set_option maxRecDepth 100000
theorem DE {x0:(List Int)} {cA:Value}:Ct Tryz.prog 96 true (cW x0) [cA] [rI cA x0] (fun y (v:Value)=>[v]) (fun y v=>[.own (aI 2 (aL .i64)) v y]):=by
 refine ct (S:=Unit) (bw fun _ _=>rfl) Tryz.func96 rfl rfl ?_
 repeat' first
  | (apply Dk.fe; repeat' first | exact rfl | (refine @id.{0} _ ?_; constructor))
  | intro _
  | exact rfl
  | (refine @id.{0} _ ?_; constructor)
  | exact ()
theorem YN {x0:(List (List Int))} {cA:Value}:Ct Tryz.prog 109 true (lZ x0) [cA] [rJ cA x0] (fun y (v:Value)=>[v]) (fun y v=>[.own (aI 24 (aI 2 (aL .i64))) v y]):=by
 refine ct (S:=Unit) (bw fun _ _=>rfl) Tryz.func109 rfl rfl ?_
 repeat' first
  | (apply Dk.fe; repeat' first | exact rfl | (refine @id.{0} _ ?_; constructor))
  | intro _
  | exact rfl
  | (refine @id.{0} _ ?_; constructor)
  | apply Dk.loop 0 (V:=Value) (fun (s:(List (List Int))×Int) v=>[.own (aI 24 (aI 2 (aL .i64))) v s.1]) (fun s v=>[(3,v),(4,.int .i64 (s.2))]) _ [(0,_)]
  | apply DE
  | exact ()
theorem c63 {x0:aG} {aU aZ aN aK:Value}:Ct Tryz.prog 63 true (iA x0) [.agg #[.int .i64 (x0.aA),aU,aZ,aN,aK]] [rI aU x0.aC,rI aZ x0.To,rI aN x0.aH,rJ aK x0.aB] (fun y (v:Value×Value×Value×Value)=>[.agg #[.int .i64 y.aA,v.1,v.2.1,v.2.2.1,v.2.2.2]]) (fun y v=>[.own (aI 2 (aL .i64)) v.1 y.aC,.own (aI 2 (aL .i64)) v.2.1 y.To,.own (aI 2 (aL .i64)) v.2.2.1 y.aH,.own (aI 24 (aI 2 (aL .i64))) v.2.2.2 y.aB]):=by
 refine ct (S:=Unit) (bw fun _ _=>rfl) Tryz.func63 rfl rfl ?_
 repeat' first
  | (apply Dk.fe; repeat' first | exact rfl | (refine @id.{0} _ ?_; constructor))
  | intro _
  | exact rfl
  | (refine Dk.uH (t:=32) rfl ?_ ?_)
  | (refine @id.{0} _ ?_; constructor)
  | apply Dk.je 0 (V:=Value) (A:=Nat×Value×Value×Value) (_,_,_,_) (fun a (s:Int×(List (List Int))) v=>Dk.pc (fun a0=>Dk.pc (fun a1=>Dk.pc (fun a2 a3=>[.row a0 [.int .i64 (x0.aA),a1,a2,a3,v] 27,.own (aI 24 (aI 2 (aL .i64))) v s.2]))) a) (fun a s v=>Dk.pc (fun a0=>Dk.pc (fun a1=>Dk.pc (fun a2 a3=>[(3,.pointer (some ⟨a0,0,none⟩)),(4,.int .i64 (s.1))]))) a) _ [(1,_),(2,_)]
  | apply Dk.loop 2 (V:=Value) (fun (s:(List Int)×Int) v=>[.own (aI 2 (aL .i64)) v s.1]) (fun s v=>[(5,v),(6,.int .i64 (s.2))]) _ [(1,_),(2,_),(3,_),(4,_)]
  | apply Dk.Wr (id:=1) [13,0,1,2,3,4,5,6,7,8,9,10,11,12,14] [1,2,3,4,5,6,7,8,9,10,11,12,13,0,14] [] 14 [] [] [[],[],[1],[],[3],[4,3],[],[6],[7,6,5,4,3],[],[9],[10,9,8,7,6,5,4,3],[],[2,1,5,4,3,8,7,6,5,4,3,11,10,9,8,7,6,5,4,3,12]] (by kernel_rfl)
  | apply DE
  | exact ()
theorem Lv {x0:aG} {aU aZ aN aK:Value} {x1:Int} {x2:Int}:Ct Tryz.prog 84 true (dX x0 x1 x2) [.agg #[.int .i64 (x0.aA),aU,aZ,aN,aK],.int .i64 (x1),.int .i64 (x2)] [rI aU x0.aC,rI aZ x0.To,rI aN x0.aH,rJ aK x0.aB] (fun y (v:Value)=>[v]) (fun y v=>[.own (aI 2 (aL .i64)) v y]):=by
 refine ct (S:=Unit) (bw fun _ _=>rfl) Tryz.func84 rfl rfl ?_
 repeat' first
  | (apply Dk.fe; repeat' first | exact rfl | (refine @id.{0} _ ?_; constructor))
  | intro _
  | exact rfl
  | (refine @id.{0} _ ?_; constructor)
  | apply Dk.loop 0 (V:=Value) (fun (s:(List Int)×Int) v=>[.own (aI 2 (aL .i64)) v s.1]) (fun s v=>[(7,v),(8,.int .i64 (s.2))]) _ [(1,_),(2,_),(3,_)]
  | exact ()
theorem ae4 {x0:aG} {aU aZ aN aK:Value} {x1:aG} {bK bY bE bB:Value} {x2:(List Int)} {dC:Value}:Ct Tryz.prog 117 true (nS x0 x1 x2) [.agg #[.int .i64 (x0.aA),aU,aZ,aN,aK],.agg #[.int .i64 (x1.aA),bK,bY,bE,bB],dC] [rI aU x0.aC,rI aZ x0.To,rI aN x0.aH,rJ aK x0.aB,rI bK x1.aC,rI bY x1.To,rI bE x1.aH,rJ bB x1.aB,rI dC x2] (fun y (_:Unit)=>[.bool y]) (fun y _=>[]):=by
 refine ct (S:=Unit) (bw fun _ _=>rfl) Tryz.func117 rfl rfl ?_
 repeat' first
  | (apply Dk.fe; repeat' first | exact rfl | (refine @id.{0} _ ?_; constructor))
  | intro _
  | exact rfl
  | (refine @id.{0} _ ?_; constructor)
  | apply Dk.loop 0 (V:=Unit) (fun (s:Int) v=>[]) (fun s v=>[(7,.int .i64 (s))]) () [(2,_),(3,_),(4,_)]
  | apply Dk.quiet (id:=4) (by kernel_rfl)
  | apply Dk.tail (id:=5) 20 (by kernel_rfl)
  | apply Lv
  | exact ()
theorem ae5 {x0:aG} {aU aZ aN aK:Value} {x1:aG} {bK bY bE bB:Value} {x2:(List Int)} {dC:Value}:Ct Tryz.prog 122 true (nT x0 x1 x2) [.agg #[.int .i64 (x0.aA),aU,aZ,aN,aK],.agg #[.int .i64 (x1.aA),bK,bY,bE,bB],dC] [rI aU x0.aC,rI aZ x0.To,rI aN x0.aH,rJ aK x0.aB,rI bK x1.aC,rI bY x1.To,rI bE x1.aH,rJ bB x1.aB,.own (aI 2 (aL .i64)) dC x2] (fun y (_:Unit)=>[.bool y.1]) (fun y _=>[.own (aI 2 (aL .i64)) dC y.2]):=by
 refine ct (S:=Unit) (bw fun _ _=>rfl) Tryz.func122 rfl rfl ?_
 repeat' first
  | (apply Dk.fe; repeat' first | exact rfl | (refine @id.{0} _ ?_; constructor))
  | intro _
  | exact rfl
  | (refine Dk.uH (t:=22) rfl ?_ ?_)
  | (refine @id.{0} _ ?_; constructor)
  | apply Dk.loop 0 (V:=Unit) (fun (s:Bool×(List Int)) v=>[.own (aI 2 (aL .i64)) dC s.2]) (fun s v=>[(7,.bool (s.1))]) () [(2,_),(3,_),(4,_)]
  | apply Dk.loop 2 (V:=Unit) (fun (s:Bool×Int×(List Int)) v=>[.own (aI 2 (aL .i64)) dC s.2.2]) (fun s v=>[(7,.bool (s.1)),(8,.int .i64 (s.2.1))]) () [(2,_),(3,_),(4,_)]
  | apply Dk.loop 4 (V:=Unit) (fun (s:Bool×Int×(List Int)) v=>[.own (aI 2 (aL .i64)) dC s.2.2]) (fun s v=>[(7,.bool (s.1)),(9,.int .i64 (s.2.1))]) () [(2,_),(3,_),(4,_),(8,_)]
  | apply Dk.quiet (id:=12) (by kernel_rfl)
  | exact ()
theorem YO {rc:aG→aG→(List Int)→(List Int)→Int→(List (List Int))→Option ((List (List Int)))} (ih:∀ {x0:aG} {aU aZ aN aK:Value} {x1:aG} {bK bY bE bB:Value} {x2:(List Int)} {dC:Value} {x3:(List Int)} {fN:Value} {x4:Int} {x5:(List (List Int))} {qY:Value},Ct Tryz.prog 118 true (rc x0 x1 x2 x3 x4 x5) [.agg #[.int .i64 (x0.aA),aU,aZ,aN,aK],.agg #[.int .i64 (x1.aA),bK,bY,bE,bB],dC,fN,.int .i64 (x4),qY] [rI aU x0.aC,rI aZ x0.To,rI aN x0.aH,rJ aK x0.aB,rI bK x1.aC,rI bY x1.To,rI bE x1.aH,rJ bB x1.aB,rI dC x2,rI fN x3,.own (aI 24 (aI 2 (aL .i64))) qY x5] (fun y (v:Value)=>[v]) (fun y v=>[.own (aI 24 (aI 2 (aL .i64))) v y])) {x0:aG} {aU aZ aN aK:Value} {x1:aG} {bK bY bE bB:Value} {x2:(List Int)} {dC:Value} {x3:(List Int)} {fN:Value} {x4:Int} {x5:(List (List Int))} {qY:Value}:Ct Tryz.prog 118 true (kU rc x0 x1 x2 x3 x4 x5) [.agg #[.int .i64 (x0.aA),aU,aZ,aN,aK],.agg #[.int .i64 (x1.aA),bK,bY,bE,bB],dC,fN,.int .i64 (x4),qY] [rI aU x0.aC,rI aZ x0.To,rI aN x0.aH,rJ aK x0.aB,rI bK x1.aC,rI bY x1.To,rI bE x1.aH,rJ bB x1.aB,rI dC x2,rI fN x3,.own (aI 24 (aI 2 (aL .i64))) qY x5] (fun y (v:Value)=>[v]) (fun y v=>[.own (aI 24 (aI 2 (aL .i64))) v y]):=by
 refine ct (S:=Unit) (bw fun _ _=>rfl) Tryz.func118 rfl rfl ?_
 repeat' first
  | (apply Dk.fe; repeat' first | exact rfl | (refine @id.{0} _ ?_; constructor))
  | intro _
  | exact rfl
  | (refine @id.{0} _ ?_; constructor)
  | apply ih
  | apply Dk.loop 0 (V:=Unit) (fun (s:Int) v=>[]) (fun s v=>[(4,.int .i64 (s))]) () [(2,_),(3,_),(5,_),(6,_),(7,_)]
  | apply Dk.loop 2 (V:=Value) (fun (s:(List (List Int))×Int) v=>[.own (aI 24 (aI 2 (aL .i64))) v s.1]) (fun s v=>[(5,v),(14,.int .i64 (s.2))]) _ [(2,_),(3,_),(4,_),(6,_),(7,_),(13,_)]
  | apply Dk.any (id:=5) 17 [] [] [[],[],[],[2],[],[3,2,4],[5,3,2,4],[1,6,5,3,2,4],[7,1,6,5,3,2,4],[],[],[10],[],[11,10,12],[13,11,10,12],[9,14,13,11,10,12],[15,9,14,13,11,10,12]] (by kernel_rfl)
  | apply DE
  | apply Lv
  | apply ae5
  | exact ()
theorem YP (n:Nat):∀ {x0:aG} {aU aZ aN aK:Value} {x1:aG} {bK bY bE bB:Value} {x2:(List Int)} {dC:Value} {x3:(List Int)} {fN:Value} {x4:Int} {x5:(List (List Int))} {qY:Value},Ct Tryz.prog 118 true (gF n x0 x1 x2 x3 x4 x5) [.agg #[.int .i64 (x0.aA),aU,aZ,aN,aK],.agg #[.int .i64 (x1.aA),bK,bY,bE,bB],dC,fN,.int .i64 (x4),qY] [rI aU x0.aC,rI aZ x0.To,rI aN x0.aH,rJ aK x0.aB,rI bK x1.aC,rI bY x1.To,rI bE x1.aH,rJ bB x1.aB,rI dC x2,rI fN x3,.own (aI 24 (aI 2 (aL .i64))) qY x5] (fun y (v:Value)=>[v]) (fun y v=>[.own (aI 24 (aI 2 (aL .i64))) v y]):=by
 induction n with
 | zero=>intros; rw [tI]; exact ⟨(bw fun _ _=>rfl),fun _ _ _ _ _ _ _ y hy=>nomatch (show none=some y from hy)⟩
 | succ n ih=>exact YO ih
theorem ae6 {x0:aG} {aU aZ aN aK:Value} {x1:aG} {bK bY bE bB:Value} {x2:(List Int)} {dC:Value} {x3:(List Int)} {fN:Value} {x4:Int} {x5:(List (List Int))} {qY:Value}:Ct Tryz.prog 118 true (gF 64 x0 x1 x2 x3 x4 x5) [.agg #[.int .i64 (x0.aA),aU,aZ,aN,aK],.agg #[.int .i64 (x1.aA),bK,bY,bE,bB],dC,fN,.int .i64 (x4),qY] [rI aU x0.aC,rI aZ x0.To,rI aN x0.aH,rJ aK x0.aB,rI bK x1.aC,rI bY x1.To,rI bE x1.aH,rJ bB x1.aB,rI dC x2,rI fN x3,.own (aI 24 (aI 2 (aL .i64))) qY x5] (fun y (v:Value)=>[v]) (fun y v=>[.own (aI 24 (aI 2 (aL .i64))) v y]):=by
 exact YP 64
theorem c44 {x0:(List Int)} {cA:Value}:Ct Tryz.prog 44 true (dY x0) [cA] [rI cA x0] (fun y (_:Unit)=>[.int .i64 y]) (fun y _=>[]):=by
 refine ct (S:=Unit) (bw fun _ _=>rfl) Tryz.func44 rfl rfl ?_
 repeat' first
  | (apply Dk.fe; repeat' first | exact rfl | (refine @id.{0} _ ?_; constructor))
  | intro _
  | exact rfl
  | (refine @id.{0} _ ?_; constructor)
  | apply Dk.loop 0 (V:=Unit) (fun (s:Int×Int) v=>[]) (fun s v=>[(3,.int .i64 (s.1)),(8,.int .i64 (s.2))]) () [(6,_),(7,_)]
  | exact ()
theorem c48 {x0:aJ} {aS aV aQ aO aT aW aR aP bA bC:Value} {x1:aJ} {dG dR cY cQ dH dS cZ cR eP fD:Value}:Ct Tryz.prog 48 true (lV x0 x1) [.agg #[.int .i64 (x0.aE.aA),aS,aV,aQ,aO,.int .i64 (x0.aF.aA),aT,aW,aR,aP,bA,bC],.agg #[.int .i64 (x1.aE.aA),dG,dR,cY,cQ,.int .i64 (x1.aF.aA),dH,dS,cZ,cR,eP,fD]] [rI aS x0.aE.aC,rI aV x0.aE.To,rI aQ x0.aE.aH,rJ aO x0.aE.aB,rI aT x0.aF.aC,rI aW x0.aF.To,rI aR x0.aF.aH,rJ aP x0.aF.aB,rI bA x0.aA,rI bC x0.ah,rI dG x1.aE.aC,rI dR x1.aE.To,rI cY x1.aE.aH,rJ cQ x1.aE.aB,rI dH x1.aF.aC,rI dS x1.aF.To,rI cZ x1.aF.aH,rJ cR x1.aF.aB,rI eP x1.aA,rI fD x1.ah] (fun y (v:Value)=>[v]) (fun y v=>[.own (aI 24 (aI 2 (aL .i64))) v y]):=by
 refine ct (S:=Unit) (bw fun _ _=>rfl) Tryz.func48 rfl rfl ?_
 repeat' first
  | (apply Dk.fe; repeat' first | exact rfl | (refine @id.{0} _ ?_; constructor))
  | intro _
  | exact rfl
  | apply Dk.wu (d:=51)
  | (refine @id.{0} _ ?_; constructor)
  | apply Dk.loop 0 (V:=Value) (fun (s:(List (List Int))×Int) v=>[.own (aI 24 (aI 2 (aL .i64))) v s.1]) (fun s v=>[(5,v),(6,.int .i64 (s.2))]) _ [(2,_),(3,_)]
  | apply Dk.loop 2 (V:=Value) (fun (s:(List (List Int))×Int) v=>[.own (aI 24 (aI 2 (aL .i64))) v s.1]) (fun s v=>[(5,v),(7,.int .i64 (s.2))]) _ [(2,_),(3,_),(6,_)]
  | apply Dk.loop 4 (V:=Value) (fun (s:(List (List Int))×Int) v=>[.own (aI 24 (aI 2 (aL .i64))) v s.1]) (fun s v=>[(5,v),(9,.int .i64 (s.2))]) _ [(2,_),(3,_),(6,_),(7,_),(8,_)]
  | apply Dk.any (id:=8) 12 [] [] [[],[0],[],[2],[],[3,2,4],[5,3,2,4],[],[7],[],[8,7,9],[10,8,7,9]] (by kernel_rfl)
  | apply Lv
  | exact ()
theorem c85 {x0:aG} {aU aZ aN aK:Value} {x1:Int} {x2:Int}:Ct Tryz.prog 85 true (gO x0 x1 x2) [.agg #[.int .i64 (x0.aA),aU,aZ,aN,aK],.int .i64 (x1),.int .i64 (x2)] [rI aU x0.aC,rI aZ x0.To,rI aN x0.aH,rJ aK x0.aB] (fun y (_:Unit)=>[.int .i64 y]) (fun y _=>[]):=by
 refine ct (S:=Unit) (bw fun _ _=>rfl) Tryz.func85 rfl rfl ?_
 repeat' first
  | (apply Dk.fe; repeat' first | exact rfl | (refine @id.{0} _ ?_; constructor))
  | intro _
  | exact rfl
  | (refine @id.{0} _ ?_; constructor)
  | exact ()
theorem c49 {x0:aJ} {aS aV aQ aO aT aW aR aP bA bC:Value} {x1:aJ} {dG dR cY cQ dH dS cZ cR eP fD:Value} {x2:(List (List Int))} {dC:Value}:Ct Tryz.prog 49 true (mS x0 x1 x2) [.agg #[.int .i64 (x0.aE.aA),aS,aV,aQ,aO,.int .i64 (x0.aF.aA),aT,aW,aR,aP,bA,bC],.agg #[.int .i64 (x1.aE.aA),dG,dR,cY,cQ,.int .i64 (x1.aF.aA),dH,dS,cZ,cR,eP,fD],dC] [rI aS x0.aE.aC,rI aV x0.aE.To,rI aQ x0.aE.aH,rJ aO x0.aE.aB,rI aT x0.aF.aC,rI aW x0.aF.To,rI aR x0.aF.aH,rJ aP x0.aF.aB,rI bA x0.aA,rI bC x0.ah,rI dG x1.aE.aC,rI dR x1.aE.To,rI cY x1.aE.aH,rJ cQ x1.aE.aB,rI dH x1.aF.aC,rI dS x1.aF.To,rI cZ x1.aF.aH,rJ cR x1.aF.aB,rI eP x1.aA,rI fD x1.ah,rJ dC x2] (fun y (v:Value)=>[v]) (fun y v=>[.own (aI 24 (aI 2 (aL .i64))) v y]):=by
 refine ct (S:=Unit) (bw fun _ _=>rfl) Tryz.func49 rfl rfl ?_
 repeat' first
  | (apply Dk.fe; repeat' first | exact rfl | (refine @id.{0} _ ?_; constructor))
  | intro _
  | exact rfl
  | (refine Dk.uH (t:=26) rfl ?_ ?_)
  | apply Dk.wu (d:=107)
  | (refine @id.{0} _ ?_; constructor)
  | apply Dk.loop 0 (V:=Value) (fun (s:(List (List Int))×Int) v=>[.own (aI 24 (aI 2 (aL .i64))) v s.1]) (fun s v=>[(7,v),(8,.int .i64 (s.2))]) _ [(2,_),(3,_),(4,_)]
  | apply Dk.loop 2 (V:=Value) (fun (s:(List (List Int))×Int) v=>[.own (aI 24 (aI 2 (aL .i64))) v s.1]) (fun s v=>[(7,v),(9,.int .i64 (s.2))]) _ [(2,_),(3,_),(4,_),(8,_)]
  | apply Dk.loop 4 (V:=Value) (fun (s:(List (List Int))×Int) v=>[.own (aI 24 (aI 2 (aL .i64))) v s.1]) (fun s v=>[(7,v),(14,.int .i64 (s.2))]) _ [(2,_),(3,_),(4,_),(8,_),(9,_),(10,_),(11,_),(12,_),(13,_)]
  | apply Dk.loop 6 (V:=Value) (fun (s:(List (List Int))×Int) v=>[.own (aI 24 (aI 2 (aL .i64))) v s.1]) (fun s v=>[(7,v),(15,.int .i64 (s.2))]) _ [(2,_),(3,_),(4,_),(8,_),(9,_),(10,_),(11,_),(12,_),(13,_),(14,_)]
  | apply Dk.quiet (id:=8) (by kernel_rfl)
  | apply Dk.quiet (id:=16) (by kernel_rfl)
  | apply Dk.any (id:=9) 17 [] [] [[],[0],[],[2],[3,2],[],[5],[6,5],[1,0,4,3,2,7,6,5],[],[9],[],[11],[12,11],[],[14],[15,14]] (by kernel_rfl)
  | apply Dk.Hq (id:=17) [(0,11)] 11 rfl (by kernel_rfl)
  | apply Lv
  | apply c85
  | exact ()
theorem c95 {x0:aJ} {aS aV aQ aO aT aW aR aP bA bC:Value} {x1:bD} {gT:Value} {x2:bD} {kS:Value}:Ct Tryz.prog 95 true (pP x0 x1 x2) [.agg #[.int .i64 (x0.aE.aA),aS,aV,aQ,aO,.int .i64 (x0.aF.aA),aT,aW,aR,aP,bA,bC],.agg #[.int .i64 (x1.da),gT],.agg #[.int .i64 (x2.da),kS]] [rI aS x0.aE.aC,rI aV x0.aE.To,rI aQ x0.aE.aH,rJ aO x0.aE.aB,rI aT x0.aF.aC,rI aW x0.aF.To,rI aR x0.aF.aH,rJ aP x0.aF.aB,rI bA x0.aA,rI bC x0.ah,rI gT x1.ay,rI kS x2.ay] (fun y (v:Value)=>[v]) (fun y v=>[.own (aI 2 (aL .i64)) v y]):=by
 refine ct (S:=Unit) (bw fun _ _=>rfl) Tryz.func95 rfl rfl ?_
 repeat' first
  | (apply Dk.fe; repeat' first | exact rfl | (refine @id.{0} _ ?_; constructor))
  | intro _
  | exact rfl
  | (refine @id.{0} _ ?_; constructor)
  | apply Dk.loop 0 (V:=Value) (fun (s:(List Int)×Int) v=>[.own (aI 2 (aL .i64)) v s.1]) (fun s v=>[(8,v),(9,.int .i64 (s.2))]) _ [(3,_),(4,_),(5,_),(7,_)]
  | apply Dk.loop 2 (V:=Unit) (fun (s:Bool×Int) v=>[]) (fun s v=>[(10,.bool (s.1)),(11,.int .i64 (s.2))]) () [(3,_),(4,_),(5,_),(7,_),(8,_),(9,_)]
  | apply Dk.quiet (id:=10) (by kernel_rfl)
  | apply Lv
  | apply c85
  | exact ()
theorem c15 {x0:(List Int)} {cA:Value} {x1:(List Int)} {dD:Value}:Ct Tryz.prog 15 true (pQ x0 x1) [cA,dD] [rI cA x0,rI dD x1] (fun y (v:Value)=>[v]) (fun y v=>[.own (aI 2 (aL .i64)) v y]):=by
 refine ct (S:=Unit) (bw fun _ _=>rfl) Tryz.func15 rfl rfl ?_
 repeat' first
  | (apply Dk.fe; repeat' first | exact rfl | (refine @id.{0} _ ?_; constructor))
  | intro _
  | exact rfl
  | (refine @id.{0} _ ?_; constructor)
  | apply Dk.loop 0 (V:=Value) (fun (s:(List Int)×Int) v=>[.own (aI 2 (aL .i64)) v s.1]) (fun s v=>[(5,v),(6,.int .i64 (s.2))]) _ [(0,_),(1,_)]
  | exact ()
end Go.Proofs.YtbmchcnkbonmkaaGreat
