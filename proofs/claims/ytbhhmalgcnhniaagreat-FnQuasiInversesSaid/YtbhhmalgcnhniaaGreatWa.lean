/- Walks by the calculus D. No condition beside those that each theorem names. -/
import Derived.Test.YtbhhmalgcnhniaaGreatDi
import Derived.Test.YtbhhmalgcnhniaaGreatMo
import Derived.Test.YtbhhmalgcnhniaaGreatDp
import Derived.Test.YtbhhmalgcnhniaaGreatDs
namespace Go.Proofs.YtbhhmalgcnhniaaGreat
open Go Go.Li Go.Dk
set_option linter.unusedVariables false
set_option maxHeartbeats 16000000
set_option maxRecDepth 100000
theorem Br {x0:(List Int)} {cO:Value}:Ct Tryz.prog 102 true (dS x0) [cO] [rI cO x0] (fun y (v:Value)=>[v]) (fun y v=>[.own (aI 2 (aK .i64)) v y]):=by
 refine ct (S:=Unit) (bo fun _ _=>rfl) Tryz.func102 rfl rfl ?_
 repeat' first
  | (apply Dk.fe; repeat' first | exact rfl | (refine @id.{0} _ ?_; constructor))
  | intro _
  | exact rfl
  | (refine @id.{0} _ ?_; constructor)
  | exact ()
theorem V5 {x0:(List (List Int))} {cO:Value}:Ct Tryz.prog 183 true (mV x0) [cO] [rJ cO x0] (fun y (v:Value)=>[v]) (fun y v=>[.own (aI 22 (aI 2 (aK .i64))) v y]):=by
 refine ct (S:=Unit) (bo fun _ _=>rfl) Tryz.func183 rfl rfl ?_
 repeat' first
  | (apply Dk.fe; repeat' first | exact rfl | (refine @id.{0} _ ?_; constructor))
  | intro _
  | exact rfl
  | (refine @id.{0} _ ?_; constructor)
  | apply Dk.loop 0 (V:=Value) (fun (s:(List (List Int))×Int) v=>[.own (aI 22 (aI 2 (aK .i64))) v s.1]) (fun s v=>[(3,v),(4,.int .i64 (s.2))]) _ [(0,_)]
  | apply Br
  | exact ()
theorem acJ {x0:aG} {aU bA aP aL:Value}:Ct Tryz.prog 213 true (rN x0) [.agg #[.int .i64 (x0.aA),aU,bA,aP,aL]] [rI aU x0.aF,rI bA x0.To,rI aP x0.aH,rJ aL x0.aC] (fun y (v:Value×Value×Value×Value)=>[.agg #[.int .i64 y.aA,v.1,v.2.1,v.2.2.1,v.2.2.2]]) (fun y v=>[.own (aI 2 (aK .i64)) v.1 y.aF,.own (aI 2 (aK .i64)) v.2.1 y.To,.own (aI 2 (aK .i64)) v.2.2.1 y.aH,.own (aI 22 (aI 2 (aK .i64))) v.2.2.2 y.aC]):=by
 refine ct (S:=Unit) (bo fun _ _=>rfl) Tryz.func213 rfl rfl ?_
 repeat' first
  | (apply Dk.fe; repeat' first | exact rfl | (refine @id.{0} _ ?_; constructor))
  | intro _
  | exact rfl
  | (refine Dk.te (t:=32) rfl ?_ ?_)
  | (refine @id.{0} _ ?_; constructor)
  | apply Dk.iH 0 (V:=Value) (A:=Nat×Value×Value×Value) (_,_,_,_) (fun a (s:Int×(List (List Int))) v=>Dk.pc (fun a0=>Dk.pc (fun a1=>Dk.pc (fun a2 a3=>[.row a0 [.int .i64 (x0.aA),a1,a2,a3,v] 32,.own (aI 22 (aI 2 (aK .i64))) v s.2]))) a) (fun a s v=>Dk.pc (fun a0=>Dk.pc (fun a1=>Dk.pc (fun a2 a3=>[(3,.pointer (some ⟨a0,0,none⟩)),(4,.int .i64 (s.1))]))) a) _ [(1,_),(2,_)]
  | apply Dk.loop 2 (V:=Value) (fun (s:(List Int)×Int) v=>[.own (aI 2 (aK .i64)) v s.1]) (fun s v=>[(5,v),(6,.int .i64 (s.2))]) _ [(1,_),(2,_),(3,_),(4,_)]
  | apply Dk.Zs (id:=1) [13,0,1,2,3,4,5,6,7,8,9,10,11,12,14] [1,2,3,4,5,6,7,8,9,10,11,12,13,0,14] [] 14 [] [] [[],[],[1],[],[3],[3,4],[],[6],[3,4,5,6,7],[],[9],[3,4,5,6,7,8,9,10],[],[1,2,3,4,5,6,7,8,9,10,11,12]] (by kernel_rfl)
  | apply Br
  | exact ()
theorem V6 {x0:aG} {aU bA aP aL:Value} {x1:Int}:Ct Tryz.prog 138 true (iQ x0 x1) [.agg #[.int .i64 (x0.aA),aU,bA,aP,aL],.int .i64 (x1)] [rI aU x0.aF,rI bA x0.To,rI aP x0.aH,rJ aL x0.aC] (fun y (_:Unit)=>[.bool y]) (fun y _=>[]):=by
 refine ct (S:=Unit) (bo fun _ _=>rfl) Tryz.func138 rfl rfl ?_
 repeat' first
  | (apply Dk.fe; repeat' first | exact rfl | (refine @id.{0} _ ?_; constructor))
  | intro _
  | exact rfl
  | (refine @id.{0} _ ?_; constructor)
  | apply Dk.quiet (id:=1) (by kernel_rfl)
  | exact ()
theorem acK {x0:aG} {aU bA aP aL:Value}:Ct Tryz.prog 166 true (nI x0) [.agg #[.int .i64 (x0.aA),aU,bA,aP,aL]] [rI aU x0.aF,rI bA x0.To,rI aP x0.aH,rJ aL x0.aC] (fun y (v:Value)=>[v]) (fun y v=>[.own (aI 2 (aK .i64)) v y]):=by
 refine ct (S:=Unit) (bo fun _ _=>rfl) Tryz.func166 rfl rfl ?_
 repeat' first
  | (apply Dk.fe; repeat' first | exact rfl | (refine @id.{0} _ ?_; constructor))
  | intro _
  | exact rfl
  | (refine @id.{0} _ ?_; constructor)
  | apply Dk.loop 0 (V:=Value) (fun (s:(List Int)×Int) v=>[.own (aI 2 (aK .i64)) v s.1]) (fun s v=>[(3,v),(4,.int .i64 (s.2))]) _ [(1,_)]
  | apply V6
  | exact ()
theorem Bt {x0:aG} {aU bA aP aL:Value} {x1:Int} {x2:Int}:Ct Tryz.prog 137 true (eU x0 x1 x2) [.agg #[.int .i64 (x0.aA),aU,bA,aP,aL],.int .i64 (x1),.int .i64 (x2)] [rI aU x0.aF,rI bA x0.To,rI aP x0.aH,rJ aL x0.aC] (fun y (v:Value)=>[v]) (fun y v=>[.own (aI 2 (aK .i64)) v y]):=by
 refine ct (S:=Unit) (bo fun _ _=>rfl) Tryz.func137 rfl rfl ?_
 repeat' first
  | (apply Dk.fe; repeat' first | exact rfl | (refine @id.{0} _ ?_; constructor))
  | intro _
  | exact rfl
  | (refine @id.{0} _ ?_; constructor)
  | apply Dk.loop 0 (V:=Value) (fun (s:(List Int)×Int) v=>[.own (aI 2 (aK .i64)) v s.1]) (fun s v=>[(7,v),(8,.int .i64 (s.2))]) _ [(1,_),(2,_),(3,_)]
  | exact ()
theorem acL {x0:aG} {aU bA aP aL:Value} {x1:aG} {bI bS bD aY:Value} {x2:(List Int)} {dU:Value}:Ct Tryz.prog 220 true (oE x0 x1 x2) [.agg #[.int .i64 (x0.aA),aU,bA,aP,aL],.agg #[.int .i64 (x1.aA),bI,bS,bD,aY],dU] [rI aU x0.aF,rI bA x0.To,rI aP x0.aH,rJ aL x0.aC,rI bI x1.aF,rI bS x1.To,rI bD x1.aH,rJ aY x1.aC,rI dU x2] (fun y (_:Unit)=>[.bool y]) (fun y _=>[]):=by
 refine ct (S:=Unit) (bo fun _ _=>rfl) Tryz.func220 rfl rfl ?_
 repeat' first
  | (apply Dk.fe; repeat' first | exact rfl | (refine @id.{0} _ ?_; constructor))
  | intro _
  | exact rfl
  | (refine @id.{0} _ ?_; constructor)
  | apply Dk.loop 0 (V:=Unit) (fun (s:Int) v=>[]) (fun s v=>[(7,.int .i64 (s))]) () [(2,_),(3,_),(4,_)]
  | apply Dk.quiet (id:=4) (by kernel_rfl)
  | apply Dk.tail (id:=5) 20 (by kernel_rfl)
  | apply Bt
  | exact ()
theorem acM {x0:aG} {aU bA aP aL:Value} {x1:aG} {bI bS bD aY:Value} {x2:(List Int)} {dU:Value}:Ct Tryz.prog 237 true (oF x0 x1 x2) [.agg #[.int .i64 (x0.aA),aU,bA,aP,aL],.agg #[.int .i64 (x1.aA),bI,bS,bD,aY],dU] [rI aU x0.aF,rI bA x0.To,rI aP x0.aH,rJ aL x0.aC,rI bI x1.aF,rI bS x1.To,rI bD x1.aH,rJ aY x1.aC,.own (aI 2 (aK .i64)) dU x2] (fun y (_:Unit)=>[.bool y.1]) (fun y _=>[.own (aI 2 (aK .i64)) dU y.2]):=by
 refine ct (S:=Unit) (bo fun _ _=>rfl) Tryz.func237 rfl rfl ?_
 repeat' first
  | (apply Dk.fe; repeat' first | exact rfl | (refine @id.{0} _ ?_; constructor))
  | intro _
  | exact rfl
  | (refine Dk.te (t:=22) rfl ?_ ?_)
  | (refine @id.{0} _ ?_; constructor)
  | apply Dk.loop 0 (V:=Unit) (fun (s:Bool×(List Int)) v=>[.own (aI 2 (aK .i64)) dU s.2]) (fun s v=>[(7,.bool (s.1))]) () [(2,_),(3,_),(4,_)]
  | apply Dk.loop 2 (V:=Unit) (fun (s:Bool×Int×(List Int)) v=>[.own (aI 2 (aK .i64)) dU s.2.2]) (fun s v=>[(7,.bool (s.1)),(8,.int .i64 (s.2.1))]) () [(2,_),(3,_),(4,_)]
  | apply Dk.loop 4 (V:=Unit) (fun (s:Bool×Int×(List Int)) v=>[.own (aI 2 (aK .i64)) dU s.2.2]) (fun s v=>[(7,.bool (s.1)),(9,.int .i64 (s.2.1))]) () [(2,_),(3,_),(4,_),(8,_)]
  | apply Dk.quiet (id:=12) (by kernel_rfl)
  | exact ()
theorem V7 {rc:aG→aG→(List Int)→(List Int)→Int→(List (List Int))→Option ((List (List Int)))} (ih:∀ {x0:aG} {aU bA aP aL:Value} {x1:aG} {bI bS bD aY:Value} {x2:(List Int)} {dU:Value} {x3:(List Int)} {gC:Value} {x4:Int} {x5:(List (List Int))} {rV:Value},Ct Tryz.prog 221 true (rc x0 x1 x2 x3 x4 x5) [.agg #[.int .i64 (x0.aA),aU,bA,aP,aL],.agg #[.int .i64 (x1.aA),bI,bS,bD,aY],dU,gC,.int .i64 (x4),rV] [rI aU x0.aF,rI bA x0.To,rI aP x0.aH,rJ aL x0.aC,rI bI x1.aF,rI bS x1.To,rI bD x1.aH,rJ aY x1.aC,rI dU x2,rI gC x3,.own (aI 22 (aI 2 (aK .i64))) rV x5] (fun y (v:Value)=>[v]) (fun y v=>[.own (aI 22 (aI 2 (aK .i64))) v y])) {x0:aG} {aU bA aP aL:Value} {x1:aG} {bI bS bD aY:Value} {x2:(List Int)} {dU:Value} {x3:(List Int)} {gC:Value} {x4:Int} {x5:(List (List Int))} {rV:Value}:Ct Tryz.prog 221 true (lS rc x0 x1 x2 x3 x4 x5) [.agg #[.int .i64 (x0.aA),aU,bA,aP,aL],.agg #[.int .i64 (x1.aA),bI,bS,bD,aY],dU,gC,.int .i64 (x4),rV] [rI aU x0.aF,rI bA x0.To,rI aP x0.aH,rJ aL x0.aC,rI bI x1.aF,rI bS x1.To,rI bD x1.aH,rJ aY x1.aC,rI dU x2,rI gC x3,.own (aI 22 (aI 2 (aK .i64))) rV x5] (fun y (v:Value)=>[v]) (fun y v=>[.own (aI 22 (aI 2 (aK .i64))) v y]):=by
 refine ct (S:=Unit) (bo fun _ _=>rfl) Tryz.func221 rfl rfl ?_
 repeat' first
  | (apply Dk.fe; repeat' first | exact rfl | (refine @id.{0} _ ?_; constructor))
  | intro _
  | exact rfl
  | (refine @id.{0} _ ?_; constructor)
  | apply ih
  | apply Dk.loop 0 (V:=Unit) (fun (s:Int) v=>[]) (fun s v=>[(4,.int .i64 (s))]) () [(2,_),(3,_),(5,_),(6,_),(7,_)]
  | apply Dk.loop 2 (V:=Value) (fun (s:(List (List Int))×Int) v=>[.own (aI 22 (aI 2 (aK .i64))) v s.1]) (fun s v=>[(5,v),(14,.int .i64 (s.2))]) _ [(2,_),(3,_),(4,_),(6,_),(7,_),(13,_)]
  | apply Dk.any (id:=5) 17 [] [] [[],[],[],[2],[],[2,3,4],[2,3,4,5],[1,2,3,4,5,6],[1,2,3,4,5,6,7],[],[],[10],[],[10,11,12],[10,11,12,13],[9,10,11,12,13,14],[9,10,11,12,13,14,15]] (by kernel_rfl)
  | apply Br
  | apply Bt
  | apply acM
  | exact ()
theorem V8 (n:Nat):∀ {x0:aG} {aU bA aP aL:Value} {x1:aG} {bI bS bD aY:Value} {x2:(List Int)} {dU:Value} {x3:(List Int)} {gC:Value} {x4:Int} {x5:(List (List Int))} {rV:Value},Ct Tryz.prog 221 true (iI n x0 x1 x2 x3 x4 x5) [.agg #[.int .i64 (x0.aA),aU,bA,aP,aL],.agg #[.int .i64 (x1.aA),bI,bS,bD,aY],dU,gC,.int .i64 (x4),rV] [rI aU x0.aF,rI bA x0.To,rI aP x0.aH,rJ aL x0.aC,rI bI x1.aF,rI bS x1.To,rI bD x1.aH,rJ aY x1.aC,rI dU x2,rI gC x3,.own (aI 22 (aI 2 (aK .i64))) rV x5] (fun y (v:Value)=>[v]) (fun y v=>[.own (aI 22 (aI 2 (aK .i64))) v y]):=by
 induction n with
 | zero=>intros; rw [vu]; exact ⟨(bo fun _ _=>rfl),fun _ _ _ _ _ _ _ y hy=>nomatch (show none=some y from hy)⟩
 | succ n ih=>exact V7 ih
theorem acN {x0:aG} {aU bA aP aL:Value} {x1:aG} {bI bS bD aY:Value} {x2:(List Int)} {dU:Value} {x3:(List Int)} {gC:Value} {x4:Int} {x5:(List (List Int))} {rV:Value}:Ct Tryz.prog 221 true (iI 64 x0 x1 x2 x3 x4 x5) [.agg #[.int .i64 (x0.aA),aU,bA,aP,aL],.agg #[.int .i64 (x1.aA),bI,bS,bD,aY],dU,gC,.int .i64 (x4),rV] [rI aU x0.aF,rI bA x0.To,rI aP x0.aH,rJ aL x0.aC,rI bI x1.aF,rI bS x1.To,rI bD x1.aH,rJ aY x1.aC,rI dU x2,rI gC x3,.own (aI 22 (aI 2 (aK .i64))) rV x5] (fun y (v:Value)=>[v]) (fun y v=>[.own (aI 22 (aI 2 (aK .i64))) v y]):=by
 exact V8 64
theorem PM {x0:aG} {aU bA aP aL:Value} {x1:Int} {x2:Int}:Ct Tryz.prog 139 true (fY x0 x1 x2) [.agg #[.int .i64 (x0.aA),aU,bA,aP,aL],.int .i64 (x1),.int .i64 (x2)] [rI aU x0.aF,rI bA x0.To,rI aP x0.aH,rJ aL x0.aC] (fun y (_:Unit)=>[.int .i64 y]) (fun y _=>[]):=by
 refine ct (S:=Unit) (bo fun _ _=>rfl) Tryz.func139 rfl rfl ?_
 repeat' first
  | (apply Dk.fe; repeat' first | exact rfl | (refine @id.{0} _ ?_; constructor))
  | intro _
  | exact rfl
  | (refine @id.{0} _ ?_; constructor)
  | exact ()
theorem acO {x0:(List Int)} {cO:Value} {x1:(List Int)} {fA:Value}:Ct Tryz.prog 136 true (mW x0 x1) [cO,fA] [rI cO x0,rI fA x1] (fun y (v:Value)=>[v]) (fun y v=>[.own (aI 2 (aK .i64)) v y]):=by
 refine ct (S:=Unit) (bo fun _ _=>rfl) Tryz.func136 rfl rfl ?_
 repeat' first
  | (apply Dk.fe; repeat' first | exact rfl | (refine @id.{0} _ ?_; constructor))
  | intro _
  | exact rfl
  | (refine @id.{0} _ ?_; constructor)
  | apply Dk.loop 0 (V:=Value) (fun (s:(List Int)×Int) v=>[.own (aI 2 (aK .i64)) v s.1]) (fun s v=>[(5,v),(6,.int .i64 (s.2))]) _ [(0,_),(1,_)]
  | exact ()
theorem acP {x0:(List Int)} {cO:Value} {x1:Int}:Ct Tryz.prog 230 true (qX x0 x1) [cO,.int .i64 (x1)] [rI cO x0] (fun y (_:Unit)=>[.bool y]) (fun y _=>[]):=by
 refine ct (S:=Unit) (bo fun _ _=>rfl) Tryz.func230 rfl rfl ?_
 repeat' first
  | (apply Dk.fe; repeat' first | exact rfl | (refine @id.{0} _ ?_; constructor))
  | intro _
  | exact rfl
  | (refine @id.{0} _ ?_; constructor)
  | apply Dk.loop 0 (V:=Unit) (fun (s:Int) v=>[]) (fun s v=>[(5,.int .i64 (s))]) () [(0,_),(1,_)]
  | exact ()
theorem acQ {x0:aJ} {aS aV aQ aN aT aW aR aO aZ bB:Value}:Ct Tryz.prog 194 true (pN x0) [.agg #[.int .i64 (x0.aD.aA),aS,aV,aQ,aN,.int .i64 (x0.aB.aA),aT,aW,aR,aO,aZ,bB]] [rI aS x0.aD.aF,rI aV x0.aD.To,rI aQ x0.aD.aH,rJ aN x0.aD.aC,rI aT x0.aB.aF,rI aW x0.aB.To,rI aR x0.aB.aH,rJ aO x0.aB.aC,rI aZ x0.aA,rI bB x0.ab] (fun y (_:Unit)=>[.bool y]) (fun y _=>[]):=by
 refine ct (S:=Unit) (bo fun _ _=>rfl) Tryz.func194 rfl rfl ?_
 repeat' first
  | (apply Dk.fe; repeat' first | exact rfl | (refine @id.{0} _ ?_; constructor))
  | intro _
  | exact rfl
  | (refine Dk.te (t:=19) rfl ?_ ?_)
  | (refine @id.{0} _ ?_; constructor)
  | apply Dk.loop 0 (V:=Unit) (fun (s:Int) v=>[]) (fun s v=>[(3,.int .i64 (s))]) () [(1,_)]
  | apply Dk.loop 2 (V:=Unit) (fun (s:Int) v=>[]) (fun s v=>[(4,.int .i64 (s))]) () [(1,_),(3,_)]
  | apply Dk.loop 4 (V:=Unit) (fun (s:Int) v=>[]) (fun s v=>[(7,.int .i64 (s))]) () [(1,_),(3,_),(4,_),(5,_),(6,_)]
  | apply Dk.any (id:=7) 7 [] [] [[],[0],[],[],[0,1,2,3],[],[5]] (by kernel_rfl)
  | apply Dk.any (id:=8) 12 [] [] [[],[0],[],[2],[],[2,3,4],[2,3,4,5],[],[7],[],[7,8,9],[7,8,9,10]] (by kernel_rfl)
  | apply Bt
  | apply acO
  | apply acP
  | exact ()
theorem PN {x0:aG} {aU bA aP aL:Value} {x1:Int}:Ct Tryz.prog 198 true (iY x0 x1) [.agg #[.int .i64 (x0.aA),aU,bA,aP,aL],.int .i64 (x1)] [rI aU x0.aF,rI bA x0.To,rI aP x0.aH,rJ aL x0.aC] (fun y (_:Unit)=>[.int .i64 y]) (fun y _=>[]):=by
 refine ct (S:=Unit) (bo fun _ _=>rfl) Tryz.func198 rfl rfl ?_
 repeat' first
  | (apply Dk.fe; repeat' first | exact rfl | (refine @id.{0} _ ?_; constructor))
  | intro _
  | exact rfl
  | (refine @id.{0} _ ?_; constructor)
  | apply Dk.loop 0 (V:=Unit) (fun (s:Int) v=>[]) (fun s v=>[(6,.int .i64 (s))]) () [(1,_),(2,_),(5,_)]
  | apply Dk.quiet (id:=5) (by kernel_rfl)
  | apply Dk.any (id:=1) 11 [] [] [[],[],[1],[],[1,2,3],[1,2,3,4],[],[6],[],[6,7,8],[6,7,8,9]] (by kernel_rfl)
  | apply Bt
  | apply PM
  | apply V6
  | exact ()
theorem acR {x0:aJ} {aS aV aQ aN aT aW aR aO aZ bB:Value} {x1:Int} {x2:Int} {x3:Int}:Ct Tryz.prog 199 true (lL x0 x1 x2 x3) [.agg #[.int .i64 (x0.aD.aA),aS,aV,aQ,aN,.int .i64 (x0.aB.aA),aT,aW,aR,aO,aZ,bB],.int .i64 (x1),.int .i64 (x2),.int .i64 (x3)] [rI aS x0.aD.aF,rI aV x0.aD.To,rI aQ x0.aD.aH,rJ aN x0.aD.aC,rI aT x0.aB.aF,rI aW x0.aB.To,rI aR x0.aB.aH,rJ aO x0.aB.aC,rI aZ x0.aA,rI bB x0.ab] (fun y (_:Unit)=>[.int .i64 y]) (fun y _=>[]):=by
 refine ct (S:=Unit) (bo fun _ _=>rfl) Tryz.func199 rfl rfl ?_
 repeat' first
  | (apply Dk.fe; repeat' first | exact rfl | (refine @id.{0} _ ?_; constructor))
  | intro _
  | exact rfl
  | (refine @id.{0} _ ?_; constructor)
  | apply Dk.loop 0 (V:=Unit) (fun (s:Int) v=>[]) (fun s v=>[(10,.int .i64 (s))]) () [(3,_),(4,_),(9,_)]
  | apply Dk.quiet (id:=5) (by kernel_rfl)
  | apply Bt
  | exact ()
end Go.Proofs.YtbhhmalgcnhniaaGreat
