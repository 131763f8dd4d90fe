/- Walks by the calculus D. No condition beside those that each theorem names. -/
import Derived.Test.YtcnehblmgfbfoaaGreatDp
import Derived.Test.YtcnehblmgfbfoaaGreatDi
import Derived.Test.YtcnehblmgfbfoaaGreatMo
import Derived.Test.YtcnehblmgfbfoaaGreatDs
namespace Go.Proofs.YtcnehblmgfbfoaaGreat
open Go Go.Li Go.Dk
set_option linter.unusedVariables false
set_option maxHeartbeats 16000000
set_option maxRecDepth 100000
theorem yz {x0:(List Int)} {cC:Value}:Ct Tryz.prog 106 true (cF x0) [cC] [rI cC x0] (fun y (v:Value)=>[v]) (fun y v=>[.own (aI 2 (aL .i64)) v y]):=by
 refine ct (S:=Unit) (cf fun _ _=>rfl) Tryz.func106 rfl rfl ?_
 repeat' first
  | (apply Dk.fe; repeat' first | exact rfl | (refine @id.{0} _ ?_; constructor))
  | intro _
  | exact rfl
  | (refine @id.{0} _ ?_; constructor)
  | exact ()
theorem T2 {x0:(List (List Int))} {cC:Value}:Ct Tryz.prog 211 true (jM x0) [cC] [rJ cC x0] (fun y (v:Value)=>[v]) (fun y v=>[.own (aI 22 (aI 2 (aL .i64))) v y]):=by
 refine ct (S:=Unit) (cf fun _ _=>rfl) Tryz.func211 rfl rfl ?_
 repeat' first
  | (apply Dk.fe; repeat' first | exact rfl | (refine @id.{0} _ ?_; constructor))
  | intro _
  | exact rfl
  | (refine @id.{0} _ ?_; constructor)
  | apply Dk.loop 0 (V:=Value) (fun (s:(List (List Int))×Int) v=>[.own (aI 22 (aI 2 (aL .i64))) v s.1]) (fun s v=>[(3,v),(4,.int .i64 (s.2))]) _ [(0,_)]
  | apply yz
  | exact ()
theorem Z1  : Ct Tryz.prog 251 true (kR) [] [] (fun y (v:Value×Value×Value×Value)=>[.agg #[.int .i64 y.aA,v.1,v.2.1,v.2.2.1,v.2.2.2]]) (fun y v=>[.own (aI 2 (aL .i64)) v.1 y.aB,.own (aI 2 (aL .i64)) v.2.1 y.To,.own (aI 2 (aL .i64)) v.2.2.1 y.aF,.own (aI 22 (aI 2 (aL .i64))) v.2.2.2 y.aC]):=by
 refine ct (S:=Unit) (cf fun _ _=>rfl) Tryz.func251 rfl rfl ?_
 repeat' first
  | (apply Dk.fe; repeat' first | exact rfl | (refine @id.{0} _ ?_; constructor))
  | intro _
  | exact rfl
  | apply Dk.xX (d:=1)
  | apply Dk.xX (d:=2)
  | apply Dk.xX (d:=3)
  | apply Dk.xX (d:=4)
  | apply Dk.xX (d:=5)
  | apply Dk.xX (d:=6)
  | apply Dk.xX (d:=7)
  | apply Dk.xX (d:=8)
  | apply Dk.xX (d:=9)
  | (refine @id.{0} _ ?_; constructor)
  | exact ()
theorem Z4 {x0:aD} {aO aR aK aJ:Value}:Ct Tryz.prog 252 true (nA x0) [.agg #[.int .i64 (x0.aA),aO,aR,aK,aJ]] [rI aO x0.aB,rI aR x0.To,rI aK x0.aF,rJ aJ x0.aC] (fun y (v:Value×Value×Value×Value)=>[.agg #[.int .i64 y.aA,v.1,v.2.1,v.2.2.1,v.2.2.2]]) (fun y v=>[.own (aI 2 (aL .i64)) v.1 y.aB,.own (aI 2 (aL .i64)) v.2.1 y.To,.own (aI 2 (aL .i64)) v.2.2.1 y.aF,.own (aI 22 (aI 2 (aL .i64))) v.2.2.2 y.aC]):=by
 refine ct (S:=Unit) (cf fun _ _=>rfl) Tryz.func252 rfl rfl ?_
 repeat' first
  | (apply Dk.fe; repeat' first | exact rfl | (refine @id.{0} _ ?_; constructor))
  | intro _
  | exact rfl
  | (refine Dk.ry (t:=32) rfl ?_ ?_)
  | (refine @id.{0} _ ?_; constructor)
  | apply Dk.dg 0 (V:=Value) (A:=Nat×Value×Value×Value) (_,_,_,_) (fun a (s:Int×(List (List Int))) v=>Dk.pc (fun a0=>Dk.pc (fun a1=>Dk.pc (fun a2 a3=>[.row a0 [.int .i64 (x0.aA),a1,a2,a3,v] 31,.own (aI 22 (aI 2 (aL .i64))) v s.2]))) a) (fun a s v=>Dk.pc (fun a0=>Dk.pc (fun a1=>Dk.pc (fun a2 a3=>[(3,.pointer (some ⟨a0,0,none⟩)),(4,.int .i64 (s.1))]))) a) _ [(1,_),(2,_)]
  | apply Dk.loop 2 (V:=Value) (fun (s:(List Int)×Int) v=>[.own (aI 2 (aL .i64)) v s.1]) (fun s v=>[(5,v),(6,.int .i64 (s.2))]) _ [(1,_),(2,_),(3,_),(4,_)]
  | apply Dk.Rs (id:=1) [13,0,1,2,3,4,5,6,7,8,9,10,11,12,14] [1,2,3,4,5,6,7,8,9,10,11,12,13,0,14] [] 14 [] [] [[],[],[1],[],[3],[3,4],[],[6],[3,4,5,6,7],[],[9],[3,4,5,6,7,8,9,10],[],[1,2,3,4,5,6,7,8,9,10,11,12]] (by kernel_rfl)
  | apply yz
  | exact ()
theorem T3 {x0:aD} {aO aR aK aJ:Value} {x1:Int} {x2:Int}:Ct Tryz.prog 196 true (kQ x0 x1 x2) [.agg #[.int .i64 (x0.aA),aO,aR,aK,aJ],.int .i64 (x1),.int .i64 (x2)] [rI aO x0.aB,rI aR x0.To,rI aK x0.aF,rJ aJ x0.aC] (fun y (v:Value)=>[v]) (fun y v=>[.own (aI 2 (aL .i64)) v y]):=by
 refine ct (S:=Unit) (cf fun _ _=>rfl) Tryz.func196 rfl rfl ?_
 repeat' first
  | (apply Dk.fe; repeat' first | exact rfl | (refine @id.{0} _ ?_; constructor))
  | intro _
  | exact rfl
  | (refine @id.{0} _ ?_; constructor)
  | apply Dk.loop 0 (V:=Value) (fun (s:(List Int)×Int) v=>[.own (aI 2 (aL .i64)) v s.1]) (fun s v=>[(7,v),(8,.int .i64 (s.2))]) _ [(1,_),(2,_),(3,_)]
  | exact ()
theorem Z5 {x0:aD} {aO aR aK aJ:Value} {x1:aD} {aT bC aQ aP:Value} {x2:(List Int)} {cL:Value}:Ct Tryz.prog 259 true (kS x0 x1 x2) [.agg #[.int .i64 (x0.aA),aO,aR,aK,aJ],.agg #[.int .i64 (x1.aA),aT,bC,aQ,aP],cL] [rI aO x0.aB,rI aR x0.To,rI aK x0.aF,rJ aJ x0.aC,rI aT x1.aB,rI bC x1.To,rI aQ x1.aF,rJ aP x1.aC,rI cL x2] (fun y (_:Unit)=>[.bool y]) (fun y _=>[]):=by
 refine ct (S:=Unit) (cf fun _ _=>rfl) Tryz.func259 rfl rfl ?_
 repeat' first
  | (apply Dk.fe; repeat' first | exact rfl | (refine @id.{0} _ ?_; constructor))
  | intro _
  | exact rfl
  | (refine @id.{0} _ ?_; constructor)
  | apply Dk.loop 0 (V:=Unit) (fun (s:Int) v=>[]) (fun s v=>[(7,.int .i64 (s))]) () [(2,_),(3,_),(4,_)]
  | apply Dk.quiet (id:=4) (by kernel_rfl)
  | apply Dk.tail (id:=5) 20 (by kernel_rfl)
  | apply T3
  | exact ()
theorem Z6 {x0:aD} {aO aR aK aJ:Value} {x1:aD} {aT bC aQ aP:Value} {x2:(List Int)} {cL:Value}:Ct Tryz.prog 282 true (kT x0 x1 x2) [.agg #[.int .i64 (x0.aA),aO,aR,aK,aJ],.agg #[.int .i64 (x1.aA),aT,bC,aQ,aP],cL] [rI aO x0.aB,rI aR x0.To,rI aK x0.aF,rJ aJ x0.aC,rI aT x1.aB,rI bC x1.To,rI aQ x1.aF,rJ aP x1.aC,.own (aI 2 (aL .i64)) cL x2] (fun y (_:Unit)=>[.bool y.1]) (fun y _=>[.own (aI 2 (aL .i64)) cL y.2]):=by
 refine ct (S:=Unit) (cf fun _ _=>rfl) Tryz.func282 rfl rfl ?_
 repeat' first
  | (apply Dk.fe; repeat' first | exact rfl | (refine @id.{0} _ ?_; constructor))
  | intro _
  | exact rfl
  | (refine Dk.ry (t:=22) rfl ?_ ?_)
  | (refine @id.{0} _ ?_; constructor)
  | apply Dk.loop 0 (V:=Unit) (fun (s:Bool×(List Int)) v=>[.own (aI 2 (aL .i64)) cL s.2]) (fun s v=>[(7,.bool (s.1))]) () [(2,_),(3,_),(4,_)]
  | apply Dk.loop 2 (V:=Unit) (fun (s:Bool×Int×(List Int)) v=>[.own (aI 2 (aL .i64)) cL s.2.2]) (fun s v=>[(7,.bool (s.1)),(8,.int .i64 (s.2.1))]) () [(2,_),(3,_),(4,_)]
  | apply Dk.loop 4 (V:=Unit) (fun (s:Bool×Int×(List Int)) v=>[.own (aI 2 (aL .i64)) cL s.2.2]) (fun s v=>[(7,.bool (s.1)),(9,.int .i64 (s.2.1))]) () [(2,_),(3,_),(4,_),(8,_)]
  | apply Dk.quiet (id:=12) (by kernel_rfl)
  | exact ()
theorem T4 {rc:aD→aD→(List Int)→(List Int)→Int→(List (List Int))→Option ((List (List Int)))} (ih:∀ {x0:aD} {aO aR aK aJ:Value} {x1:aD} {aT bC aQ aP:Value} {x2:(List Int)} {cL:Value} {x3:(List Int)} {eG:Value} {x4:Int} {x5:(List (List Int))} {nE:Value},Ct Tryz.prog 260 true (rc x0 x1 x2 x3 x4 x5) [.agg #[.int .i64 (x0.aA),aO,aR,aK,aJ],.agg #[.int .i64 (x1.aA),aT,bC,aQ,aP],cL,eG,.int .i64 (x4),nE] [rI aO x0.aB,rI aR x0.To,rI aK x0.aF,rJ aJ x0.aC,rI aT x1.aB,rI bC x1.To,rI aQ x1.aF,rJ aP x1.aC,rI cL x2,rI eG x3,.own (aI 22 (aI 2 (aL .i64))) nE x5] (fun y (v:Value)=>[v]) (fun y v=>[.own (aI 22 (aI 2 (aL .i64))) v y])) {x0:aD} {aO aR aK aJ:Value} {x1:aD} {aT bC aQ aP:Value} {x2:(List Int)} {cL:Value} {x3:(List Int)} {eG:Value} {x4:Int} {x5:(List (List Int))} {nE:Value}:Ct Tryz.prog 260 true (iO rc x0 x1 x2 x3 x4 x5) [.agg #[.int .i64 (x0.aA),aO,aR,aK,aJ],.agg #[.int .i64 (x1.aA),aT,bC,aQ,aP],cL,eG,.int .i64 (x4),nE] [rI aO x0.aB,rI aR x0.To,rI aK x0.aF,rJ aJ x0.aC,rI aT x1.aB,rI bC x1.To,rI aQ x1.aF,rJ aP x1.aC,rI cL x2,rI eG x3,.own (aI 22 (aI 2 (aL .i64))) nE x5] (fun y (v:Value)=>[v]) (fun y v=>[.own (aI 22 (aI 2 (aL .i64))) v y]):=by
 refine ct (S:=Unit) (cf fun _ _=>rfl) Tryz.func260 rfl rfl ?_
 repeat' first
  | (apply Dk.fe; repeat' first | exact rfl | (refine @id.{0} _ ?_; constructor))
  | intro _
  | exact rfl
  | (refine @id.{0} _ ?_; constructor)
  | apply ih
  | apply Dk.loop 0 (V:=Unit) (fun (s:Int) v=>[]) (fun s v=>[(4,.int .i64 (s))]) () [(2,_),(3,_),(5,_),(6,_),(7,_)]
  | apply Dk.loop 2 (V:=Value) (fun (s:(List (List Int))×Int) v=>[.own (aI 22 (aI 2 (aL .i64))) v s.1]) (fun s v=>[(5,v),(14,.int .i64 (s.2))]) _ [(2,_),(3,_),(4,_),(6,_),(7,_),(13,_)]
  | apply Dk.any (id:=5) 17 [] [] [[],[],[],[2],[],[2,3,4],[2,3,4,5],[1,2,3,4,5,6],[1,2,3,4,5,6,7],[],[],[10],[],[10,11,12],[10,11,12,13],[9,10,11,12,13,14],[9,10,11,12,13,14,15]] (by kernel_rfl)
  | apply yz
  | apply T3
  | apply Z6
  | exact ()
theorem T5 (n:Nat):∀ {x0:aD} {aO aR aK aJ:Value} {x1:aD} {aT bC aQ aP:Value} {x2:(List Int)} {cL:Value} {x3:(List Int)} {eG:Value} {x4:Int} {x5:(List (List Int))} {nE:Value},Ct Tryz.prog 260 true (eX n x0 x1 x2 x3 x4 x5) [.agg #[.int .i64 (x0.aA),aO,aR,aK,aJ],.agg #[.int .i64 (x1.aA),aT,bC,aQ,aP],cL,eG,.int .i64 (x4),nE] [rI aO x0.aB,rI aR x0.To,rI aK x0.aF,rJ aJ x0.aC,rI aT x1.aB,rI bC x1.To,rI aQ x1.aF,rJ aP x1.aC,rI cL x2,rI eG x3,.own (aI 22 (aI 2 (aL .i64))) nE x5] (fun y (v:Value)=>[v]) (fun y v=>[.own (aI 22 (aI 2 (aL .i64))) v y]):=by
 induction n with
 | zero=>intros; rw [qf]; exact ⟨(cf fun _ _=>rfl),fun _ _ _ _ _ _ _ y hy=>nomatch (show none=some y from hy)⟩
 | succ n ih=>exact T4 ih
theorem Z7 {x0:aD} {aO aR aK aJ:Value} {x1:aD} {aT bC aQ aP:Value} {x2:(List Int)} {cL:Value} {x3:(List Int)} {eG:Value} {x4:Int} {x5:(List (List Int))} {nE:Value}:Ct Tryz.prog 260 true (eX 64 x0 x1 x2 x3 x4 x5) [.agg #[.int .i64 (x0.aA),aO,aR,aK,aJ],.agg #[.int .i64 (x1.aA),aT,bC,aQ,aP],cL,eG,.int .i64 (x4),nE] [rI aO x0.aB,rI aR x0.To,rI aK x0.aF,rJ aJ x0.aC,rI aT x1.aB,rI bC x1.To,rI aQ x1.aF,rJ aP x1.aC,rI cL x2,rI eG x3,.own (aI 22 (aI 2 (aL .i64))) nE x5] (fun y (v:Value)=>[v]) (fun y v=>[.own (aI 22 (aI 2 (aL .i64))) v y]):=by
 exact T5 64
theorem Z8 {x0:Int} {x1:Int} {x2:Int}:Ct Tryz.prog 257 true (nB x0 x1 x2) [.int .i64 (x0),.int .i64 (x1),.int .i64 (x2)] [] (fun y (_:Unit)=>[.bool y]) (fun y _=>[]):=by
 refine ct (S:=Unit) (cf fun _ _=>rfl) Tryz.func257 rfl rfl ?_
 repeat' first
  | (apply Dk.fe; repeat' first | exact rfl | (refine @id.{0} _ ?_; constructor))
  | intro _
  | exact rfl
  | (refine @id.{0} _ ?_; constructor)
  | exact ()
theorem Z9 {x0:aD} {aO aR aK aJ:Value}:Ct Tryz.prog 175 true (kU x0) [.agg #[.int .i64 (x0.aA),aO,aR,aK,aJ]] [rI aO x0.aB,rI aR x0.To,rI aK x0.aF,rJ aJ x0.aC] (fun y (_:Unit)=>[.int .i64 y.1,.int .i64 y.2.1,.int .i64 y.2.2.1,.int .i64 y.2.2.2]) (fun y _=>[]):=by
 refine ct (S:=Unit) (cf fun _ _=>rfl) Tryz.func175 rfl rfl ?_
 repeat' first
  | (apply Dk.fe; repeat' first | exact rfl | (refine @id.{0} _ ?_; constructor))
  | intro _
  | exact rfl
  | (refine Dk.ry (t:=65) rfl ?_ ?_)
  | (refine Dk.ry (t:=81) rfl ?_ ?_)
  | (refine @id.{0} _ ?_; constructor)
  | apply Dk.loop 0 (V:=Unit) (fun (s:Int) v=>[]) (fun s v=>[(7,.int .i64 (s))]) () [(1,_),(6,_)]
  | apply Dk.loop 2 (V:=Unit) (fun (s:Int) v=>[]) (fun s v=>[(8,.int .i64 (s))]) () [(1,_),(6,_)]
  | apply Dk.loop 4 (V:=Unit) (fun (s:Int) v=>[]) (fun s v=>[(9,.int .i64 (s))]) () [(1,_),(6,_),(8,_)]
  | apply Dk.loop 6 (V:=Unit) (fun (s:Int) v=>[]) (fun s v=>[(10,.int .i64 (s))]) () [(1,_),(6,_),(8,_),(9,_)]
  | apply Dk.quiet (id:=5) (by kernel_rfl)
  | apply Dk.quiet (id:=13) (by kernel_rfl)
  | apply Dk.quiet (id:=17) (by kernel_rfl)
  | exact ()
theorem c33 {x0:Int}:Ct Tryz.prog 33 true (mN x0) [.int .i64 (x0)] [] (fun y (v:Value)=>[v]) (fun y v=>[.own (aI 2 (aL .i64)) v y]):=by
 refine ct (S:=Unit) (cf fun _ _=>rfl) Tryz.func33 rfl rfl ?_
 repeat' first
  | (apply Dk.fe; repeat' first | exact rfl | (refine @id.{0} _ ?_; constructor))
  | intro _
  | exact rfl
  | (refine @id.{0} _ ?_; constructor)
  | apply Dk.loop 0 (V:=Value) (fun (s:(List Int)×Int) v=>[.own (aI 2 (aL .i64)) v s.1]) (fun s v=>[(3,v),(4,.int .i64 (s.2))]) _ [(0,_)]
  | exact ()
end Go.Proofs.YtcnehblmgfbfoaaGreat
