/- Walks by the calculus D. No condition beside those that each theorem names. -/
import Derived.Test.YtbhhmalgcnhniaaGreatDi
import Derived.Test.YtbhhmalgcnhniaaGreatMo
import Derived.Test.YtbhhmalgcnhniaaGreatDp
import Derived.Test.YtbhhmalgcnhniaaGreatDs
namespace Go.Proofs.YtbhhmalgcnhniaaGreat
open Go Go.Li Go.Dk
set_option linter.unusedVariables false
set_option maxHeartbeats 16000000
set_option maxRecDepth 100000
theorem c16 {x0:(List Int)} {cO:Value}:Ct Tryz.prog 16 true (sO x0) [cO] [.rd false (bG (aK .u8)) cO x0] (fun y (_:Unit)=>[.bool y]) (fun y _=>[]):=by
 refine ct (S:=Unit) (bo fun _ _=>rfl) Tryz.func16 rfl rfl ?_
 repeat' first
  | (apply Dk.fe; repeat' first | exact rfl | (refine @id.{0} _ ?_; constructor))
  | intro _
  | exact rfl
  | (refine @id.{0} _ ?_; constructor)
  | exact ()
theorem c78 {x0:(List Int)} {cO:Value}:Ct Tryz.prog 78 true (pC x0) [cO] [.rd false (bG (aK .u8)) cO x0] (fun y (v:Nat)=>[(match y with | none=>Value.pointer none | some _=>.pointer (some (⟨v,0,none⟩)))]) (fun y v=>match y with | none=>[] | some m0=>[.row v [cO,.int .i64 (m0.At),.int .u64 (m0.aw)] 162]):=by
 refine ct (S:=Unit) (by intro _ y v; obtain _ | _:=y <;> rfl) Tryz.func78 rfl rfl ?_
 repeat' first
  | (apply Dk.fe; repeat' first | exact rfl | (refine @id.{0} _ ?_; constructor))
  | intro _
  | exact rfl
  | apply Dk.D.tv (d:=9)
  | apply Dk.AD.tv (d:=9)
  | apply Dk.D.tv (d:=27)
  | apply Dk.AD.tv (d:=27)
  | apply Dk.D.tv (d:=33)
  | apply Dk.AD.tv (d:=33)
  | apply Dk.D.tv (d:=34)
  | apply Dk.AD.tv (d:=34)
  | (refine @id.{0} _ ?_; constructor)
  | apply Dk.iH 0 (V:=Unit) (A:=Nat) _ (fun a (s:Int×Int) v=>[.row a [cO,.int .i64 ((0:Int)),.int .u64 (s.2)] 162]) (fun a s v=>[(3,.pointer (some ⟨a,0,none⟩)),(4,.int .i64 (s.1))]) () [(0,_)]
  | apply Dk.any (id:=5) 11 [0] [] [[],[],[1],[1,2],[1,2,3],[1,2,3,4],[],[],[6,7],[6,7,8],[6,7,8,9]] (by kernel_rfl)
  | exact ()
 all_goals try first | exact Value.nilFunc | exact (0:Nat)
theorem V9 {x0:aG} {aU bA aP aL:Value}:Ct Tryz.prog 90 true (dT x0) [.agg #[.int .i64 (x0.aA),aU,bA,aP,aL]] [rI aU x0.aF,rI bA x0.To,rI aP x0.aH,rJ aL x0.aC] (fun y (_:Unit)=>[.bool y]) (fun y _=>[]):=by
 refine ct (S:=Unit) (bo fun _ _=>rfl) Tryz.func90 rfl rfl ?_
 repeat' first
  | (apply Dk.fe; repeat' first | exact rfl | (refine @id.{0} _ ?_; constructor))
  | intro _
  | exact rfl
  | (refine @id.{0} _ ?_; constructor)
  | exact ()
theorem Ng {x0:aG} {cB:Addr} {aU bA aP aL:Value}:Ct Tryz.prog 86 true (cX x0) [.pointer (some (cB))] [.bg cB [.int .i64 (x0.aA),aU,bA,aP,aL],rI aU x0.aF,rI bA x0.To,rI aP x0.aH,rJ aL x0.aC] (fun y (_:Unit)=>[.int .i64 y]) (fun y _=>[]):=by
 refine ct (S:=Unit) (bo fun _ _=>rfl) Tryz.func86 rfl rfl ?_
 repeat' first
  | (apply Dk.fe; repeat' first | exact rfl | (refine @id.{0} _ ?_; constructor))
  | intro _
  | exact rfl
  | (refine @id.{0} _ ?_; constructor)
  | exact ()
theorem zZ {x0:aG} {cB:Addr} {aU bA aP aL:Value} {x1:Int} {x2:Int}:Ct Tryz.prog 147 true (cA x0 x1 x2) [.pointer (some (cB)),.int .i64 (x1),.int .i64 (x2)] [.bg cB [.int .i64 (x0.aA),aU,bA,aP,aL],rI aU x0.aF,rI bA x0.To,rI aP x0.aH,rJ aL x0.aC] (fun y (_:Unit)=>[.int .i64 y]) (fun y _=>[]):=by
 refine ct (S:=Unit) (bo fun _ _=>rfl) Tryz.func147 rfl rfl ?_
 repeat' first
  | (apply Dk.fe; repeat' first | exact rfl | (refine @id.{0} _ ?_; constructor))
  | intro _
  | exact rfl
  | (refine @id.{0} _ ?_; constructor)
  | exact ()
theorem acS {x0:aG} {cB:Addr} {aU bA aP aL:Value}:Ct Tryz.prog 177 true (kE x0) [.pointer (some (cB))] [.bg cB [.int .i64 (x0.aA),aU,bA,aP,aL],rI aU x0.aF,rI bA x0.To,rI aP x0.aH,rJ aL x0.aC] (fun y (_:Unit)=>[.int .i64 y.1,.int .i64 y.2.1,.int .i64 y.2.2.1,.int .i64 y.2.2.2]) (fun y _=>[]):=by
 refine ct (S:=Unit) (bo fun _ _=>rfl) Tryz.func177 rfl rfl ?_
 repeat' first
  | (apply Dk.fe; repeat' first | exact rfl | (refine @id.{0} _ ?_; constructor))
  | intro _
  | exact rfl
  | (refine Dk.te (t:=64) rfl ?_ ?_)
  | (refine Dk.te (t:=74) rfl ?_ ?_)
  | (refine @id.{0} _ ?_; constructor)
  | apply Dk.loop 0 (V:=Unit) (fun (s:Int) v=>[]) (fun s v=>[(7,.int .i64 (s))]) () [(0,_),(6,_)]
  | apply Dk.loop 2 (V:=Unit) (fun (s:Int) v=>[]) (fun s v=>[(8,.int .i64 (s))]) () [(0,_),(6,_)]
  | apply Dk.loop 4 (V:=Unit) (fun (s:Int) v=>[]) (fun s v=>[(9,.int .i64 (s))]) () [(0,_),(6,_),(8,_)]
  | apply Dk.loop 6 (V:=Unit) (fun (s:Int) v=>[]) (fun s v=>[(10,.int .i64 (s))]) () [(0,_),(6,_),(8,_),(9,_)]
  | apply Dk.quiet (id:=5) (by kernel_rfl)
  | apply Ng
  | apply zZ
  | exact ()
theorem CM {x0:aG} {cB:Addr} {aU bA aP aL:Value} {x1:Int} {x2:Int}:Ct Tryz.prog 146 true (dR x0 x1 x2) [.pointer (some (cB)),.int .i64 (x1),.int .i64 (x2)] [.bg cB [.int .i64 (x0.aA),aU,bA,aP,aL],rI aU x0.aF,rI bA x0.To,rI aP x0.aH,rJ aL x0.aC] (fun y (v:Value)=>[v]) (fun y v=>[.own (aI 2 (aK .i64)) v y]):=by
 refine ct (S:=Unit) (bo fun _ _=>rfl) Tryz.func146 rfl rfl ?_
 repeat' first
  | (apply Dk.fe; repeat' first | exact rfl | (refine @id.{0} _ ?_; constructor))
  | intro _
  | exact rfl
  | (refine @id.{0} _ ?_; constructor)
  | apply Dk.loop 0 (V:=Value) (fun (s:(List Int)×Int) v=>[.own (aI 2 (aK .i64)) v s.1]) (fun s v=>[(7,v),(15,.int .i64 (s.2))]) _ [(0,_),(1,_),(2,_),(14,_)]
  | exact ()
theorem Wd {x0:(List Int)} {cO:Value} {x1:(List Int)} {fA:Value}:Ct Tryz.prog 142 true (mY x0 x1) [cO,fA] [rI cO x0,rI fA x1] (fun y (v:Value)=>[v]) (fun y v=>[.own (aI 2 (aK .i64)) v y]):=by
 refine ct (S:=Unit) (bo fun _ _=>rfl) Tryz.func142 rfl rfl ?_
 repeat' first
  | (apply Dk.fe; repeat' first | exact rfl | (refine @id.{0} _ ?_; constructor))
  | intro _
  | exact rfl
  | (refine @id.{0} _ ?_; constructor)
  | apply Dk.iH 0 (V:=Unit) (A:=Value) _ (fun a (s:Int×(List Int)) v=>[.own (aI 2 (aK .i64)) a s.2]) (fun a s v=>[(5,a),(13,.int .i64 (s.1))]) () [(1,_),(11,_),(12,_)]
  | exact ()
theorem acT {x0:(List Int)} {cO:Value} {x1:Int}:Ct Tryz.prog 188 true (rY x0 x1) [cO,.int .i64 (x1)] [rI cO x0] (fun y (_:Unit)=>[.bool y]) (fun y _=>[]):=by
 refine ct (S:=Unit) (bo fun _ _=>rfl) Tryz.func188 rfl rfl ?_
 repeat' first
  | (apply Dk.fe; repeat' first | exact rfl | (refine @id.{0} _ ?_; constructor))
  | intro _
  | exact rfl
  | (refine @id.{0} _ ?_; constructor)
  | apply Dk.loop 0 (V:=Unit) (fun (s:Int) v=>[]) (fun s v=>[(9,.int .i64 (s))]) () [(1,_),(7,_),(8,_)]
  | exact ()
theorem acU {x0:aJ} {cB:Addr} {aS aV aQ aN aT aW aR aO aZ bB:Value}:Ct Tryz.prog 121 true (kF x0) [.pointer (some (cB))] [.bg cB [.int .i64 (x0.aD.aA),aS,aV,aQ,aN,.int .i64 (x0.aB.aA),aT,aW,aR,aO,aZ,bB],rI aS x0.aD.aF,rI aV x0.aD.To,rI aQ x0.aD.aH,rJ aN x0.aD.aC,rI aT x0.aB.aF,rI aW x0.aB.To,rI aR x0.aB.aH,rJ aO x0.aB.aC,rI aZ x0.aA,rI bB x0.ab] (fun y (_:Unit)=>[.bool y]) (fun y _=>[]):=by
 refine ct (S:=Unit) (bo fun _ _=>rfl) Tryz.func121 rfl rfl ?_
 repeat' first
  | (apply Dk.fe; repeat' first | exact rfl | (refine @id.{0} _ ?_; constructor))
  | intro _
  | exact rfl
  | (refine Dk.te (t:=25) rfl ?_ ?_)
  | (refine @id.{0} _ ?_; constructor)
  | apply Dk.loop 0 (V:=Unit) (fun (s:Int) v=>[]) (fun s v=>[(4,.int .i64 (s))]) () [(0,_),(3,_)]
  | apply Dk.loop 2 (V:=Unit) (fun (s:Int) v=>[]) (fun s v=>[(5,.int .i64 (s))]) () [(0,_),(3,_),(4,_)]
  | apply Dk.loop 4 (V:=Unit) (fun (s:Int) v=>[]) (fun s v=>[(56,.int .i64 (s))]) () [(0,_),(3,_),(4,_),(5,_),(6,_),(54,_),(55,_)]
  | apply Dk.any (id:=8) 8 [] [] [[],[],[],[0,1,2],[],[4],[4,5],[4,5,6]] (by kernel_rfl)
  | apply Dk.any (id:=9) 20 [] [] [[],[0],[0,1],[],[3],[3,4],[3,4,5],[],[3,4,5,6,7],[3,4,5,6,7,8],[],[10],[10,11],[10,11,12],[],[10,11,12,13,14],[10,11,12,13,14,15],[0,1,2,3,4,5,6,7,8,9,10,11,12,13,14,15,16],[0,1,2,3,4,5,6,7,8,9,10,11,12,13,14,15,16,17],[]] (by kernel_rfl)
  | apply CM
  | apply Wd
  | apply acT
  | exact ()
theorem PO {x0:aG} {cB:Addr} {aU bA aP aL:Value} {x1:Int}:Ct Tryz.prog 193 true (dZ x0 x1) [.pointer (some (cB)),.int .i64 (x1)] [.bg cB [.int .i64 (x0.aA),aU,bA,aP,aL],rI aU x0.aF,rI bA x0.To,rI aP x0.aH,rJ aL x0.aC] (fun y (_:Unit)=>[.int .i64 y]) (fun y _=>[]):=by
 refine ct (S:=Unit) (bo fun _ _=>rfl) Tryz.func193 rfl rfl ?_
 repeat' first
  | (apply Dk.fe; repeat' first | exact rfl | (refine @id.{0} _ ?_; constructor))
  | intro _
  | exact rfl
  | (refine @id.{0} _ ?_; constructor)
  | apply Dk.loop 0 (V:=Unit) (fun (s:Int) v=>[]) (fun s v=>[(28,.int .i64 (s))]) () [(0,_),(1,_),(5,_),(6,_),(26,_),(27,_)]
  | apply Dk.quiet (id:=1) (by kernel_rfl)
  | apply Dk.quiet (id:=5) (by kernel_rfl)
  | apply CM
  | apply zZ
  | exact ()
theorem acV {x0:aJ} {cB:Addr} {aS aV aQ aN aT aW aR aO aZ bB:Value} {x1:aJ} {lO:Addr} {cR cV cC bY cS cW cD bZ dA dL:Value} {x2:(List Int)} {dU:Value} {x3:Int}:Ct Tryz.prog 202 true (jG x0 x1 x2 x3) [.pointer (some (cB)),.pointer (some (lO)),dU,.int .i64 (x3)] [.bg lO [.int .i64 (x1.aD.aA),cR,cV,cC,bY,.int .i64 (x1.aB.aA),cS,cW,cD,bZ,dA,dL],.bg cB [.int .i64 (x0.aD.aA),aS,aV,aQ,aN,.int .i64 (x0.aB.aA),aT,aW,aR,aO,aZ,bB],rI aS x0.aD.aF,rI aV x0.aD.To,rI aQ x0.aD.aH,rJ aN x0.aD.aC,rI aT x0.aB.aF,rI aW x0.aB.To,rI aR x0.aB.aH,rJ aO x0.aB.aC,rI aZ x0.aA,rI bB x0.ab,rI cR x1.aD.aF,rI cV x1.aD.To,rI cC x1.aD.aH,rJ bY x1.aD.aC,rI cS x1.aB.aF,rI cW x1.aB.To,rI cD x1.aB.aH,rJ bZ x1.aB.aC,rI dA x1.aA,rI dL x1.ab,rI dU x2] (fun y (_:Unit)=>[.bool y]) (fun y _=>[]):=by
 refine ct (S:=Unit) (bo fun _ _=>rfl) Tryz.func202 rfl rfl ?_
 repeat' first
  | (apply Dk.fe; repeat' first | exact rfl | (refine @id.{0} _ ?_; constructor))
  | intro _
  | exact rfl
  | (refine @id.{0} _ ?_; constructor)
  | apply Dk.quiet (id:=1) (by kernel_rfl)
  | apply Dk.quiet (id:=2) (by kernel_rfl)
  | apply zZ
  | exact ()
theorem acW {x0:aJ} {cB:Addr} {aS aV aQ aN aT aW aR aO aZ bB:Value} {x1:Int} {x2:Int}:Ct Tryz.prog 234 true (fG x0 x1 x2) [.pointer (some (cB)),.int .i64 (x1),.int .i64 (x2)] [.bg cB [.int .i64 (x0.aD.aA),aS,aV,aQ,aN,.int .i64 (x0.aB.aA),aT,aW,aR,aO,aZ,bB],rI aS x0.aD.aF,rI aV x0.aD.To,rI aQ x0.aD.aH,rJ aN x0.aD.aC,rI aT x0.aB.aF,rI aW x0.aB.To,rI aR x0.aB.aH,rJ aO x0.aB.aC,rI aZ x0.aA,rI bB x0.ab] (fun y (_:Unit)=>[.bool y]) (fun y _=>[]):=by
 refine ct (S:=Unit) (bo fun _ _=>rfl) Tryz.func234 rfl rfl ?_
 repeat' first
  | (apply Dk.fe; repeat' first | exact rfl | (refine @id.{0} _ ?_; constructor))
  | intro _
  | exact rfl
  | (apply Dk.LS (t:=74); exact rfl)
  | (refine @id.{0} _ ?_; constructor)
  | apply Dk.loop 0 (V:=Unit) (fun (s:Int) v=>[]) (fun s v=>[(26,.int .i64 (s))]) () [(0,_),(1,_),(2,_),(7,_),(8,_),(24,_),(25,_)]
  | apply Dk.iH 2 (V:=Unit) (A:=Value) _ (fun a (s:Int×(List (Int×Bool))) v=>[.own (yA (Value.int .i64) Value.bool) a s.2]) (fun a s v=>[(12,a),(38,.int .i64 (s.1))]) () [(0,_),(1,_),(2,_),(7,_),(8,_),(10,_),(11,_),(24,_),(25,_),(26,_),(36,_),(37,_)]
  | apply Dk.quiet (id:=1) (by kernel_rfl)
  | apply CM
  | apply zZ
  | exact ()
theorem acX {x0:aJ} {cB:Addr} {aS aV aQ aN aT aW aR aO aZ bB:Value} {x1:Int} {x2:Int} {x3:Int} {x4:Int}:Ct Tryz.prog 204 true (gV x0 x1 x2 x3 x4) [.pointer (some (cB)),.int .i64 (x1),.int .i64 (x2),.int .i64 (x3),.int .i64 (x4)] [.bg cB [.int .i64 (x0.aD.aA),aS,aV,aQ,aN,.int .i64 (x0.aB.aA),aT,aW,aR,aO,aZ,bB],rI aS x0.aD.aF,rI aV x0.aD.To,rI aQ x0.aD.aH,rJ aN x0.aD.aC,rI aT x0.aB.aF,rI aW x0.aB.To,rI aR x0.aB.aH,rJ aO x0.aB.aC,rI aZ x0.aA,rI bB x0.ab] (fun y (_:Unit)=>[.int .i64 y]) (fun y _=>[]):=by
 refine ct (S:=Unit) (bo fun _ _=>rfl) Tryz.func204 rfl rfl ?_
 repeat' first
  | (apply Dk.fe; repeat' first | exact rfl | (refine @id.{0} _ ?_; constructor))
  | intro _
  | exact rfl
  | (refine @id.{0} _ ?_; constructor)
  | apply Dk.loop 0 (V:=Unit) (fun (s:Int) v=>[]) (fun s v=>[(20,.int .i64 (s))]) () [(0,_),(3,_),(4,_),(18,_),(19,_)]
  | apply Dk.quiet (id:=4) (by kernel_rfl)
  | apply CM
  | apply zZ
  | exact ()
end Go.Proofs.YtbhhmalgcnhniaaGreat
