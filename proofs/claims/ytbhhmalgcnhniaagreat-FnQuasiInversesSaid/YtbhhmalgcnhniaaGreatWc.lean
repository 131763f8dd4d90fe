/- Walks by the calculus D. No condition beside those that each theorem names. -/
import Derived.Test.YtbhhmalgcnhniaaGreatDi
import Derived.Test.YtbhhmalgcnhniaaGreatMo
import Derived.Test.YtbhhmalgcnhniaaGreatDp
import Derived.Test.YtbhhmalgcnhniaaGreatDs
namespace Go.Proofs.YtbhhmalgcnhniaaGreat
open Go Go.Li Go.Dk
set_option linter.unusedVariables false
set_option maxHeartbeats 16000000
set_option maxRecDepth 100000
theorem Cn {x0:aM} {eH:Nat} {cI:Value} {x1:Int}:Ct Tryz.prog 81 true (bK x0 x1) [.pointer (some (⟨eH,0,none⟩)),.int .i64 (x1)] [.row eH [cI,.int .i64 (x0.At),.int .u64 (x0.aw)] 162,.rd false (bG (aK .u8)) cI x0.Code] (fun y (_:Unit)=>[.int .i64 y.1]) (fun y _=>[.row eH [cI,.int .i64 y.2.At,.int .u64 y.2.aw] 162]):=by
 refine ct (S:=Unit) (bo fun _ _=>rfl) Tryz.func81 rfl rfl ?_
 repeat' first
  | (apply Dk.fe; repeat' first | exact rfl | (refine @id.{0} _ ?_; constructor))
  | intro _
  | exact rfl
  | apply Dk.D.tv (d:=13)
  | apply Dk.AD.tv (d:=13)
  | apply Dk.D.tv (d:=14)
  | apply Dk.AD.tv (d:=14)
  | apply Dk.D.tv (d:=21)
  | apply Dk.AD.tv (d:=21)
  | apply Dk.D.tv (d:=22)
  | apply Dk.AD.tv (d:=22)
  | apply Dk.D.tv (d:=57)
  | apply Dk.AD.tv (d:=57)
  | (refine @id.{0} _ ?_; constructor)
  | apply Dk.quiet (id:=5) (by kernel_rfl)
  | apply Dk.quiet (id:=6) (by kernel_rfl)
  | exact ()
theorem acY {x0:aM} {eH:Nat} {cI:Value} {x1:Int}:Ct Tryz.prog 208 true (jS x0 x1) [.pointer (some (⟨eH,0,none⟩)),.int .i64 (x1)] [.row eH [cI,.int .i64 (x0.At),.int .u64 (x0.aw)] 162,.rd false (bG (aK .u8)) cI x0.Code] (fun y (v:Value)=>[v]) (fun y v=>[.own (aI 22 (aI 2 (aK .i64))) v y.1,.row eH [cI,.int .i64 y.2.At,.int .u64 y.2.aw] 162]):=by
 refine ct (S:=Unit) (bo fun _ _=>rfl) Tryz.func208 rfl rfl ?_
 repeat' first
  | (apply Dk.fe; repeat' first | exact rfl | (refine @id.{0} _ ?_; constructor))
  | intro _
  | exact rfl
  | (apply Dk.LS (t:=45); exact rfl)
  | (refine Dk.te (t:=62) rfl ?_ ?_)
  | (refine Dk.te (t:=67) rfl ?_ ?_)
  | (refine @id.{0} _ ?_; constructor)
  | apply Dk.loop 0 (V:=Value) (fun (s:(List (List Int))×Int×Int×Int) v=>[.row eH [cI,.int .i64 (s.2.2.1),.int .u64 (s.2.2.2)] 162,.own (aI 22 (aI 2 (aK .i64))) v s.1]) (fun s v=>[(5,v),(6,.int .i64 (s.2.1))]) _ [(0,_),(1,_)]
  | apply Dk.iH 2 (V:=Unit) (A:=Value) _ (fun a (s:Int×Int×Int×(List Int)) v=>[.row eH [cI,.int .i64 (s.2.1),.int .u64 (s.2.2.1)] 162,.own (aI 2 (aK .i64)) a s.2.2.2]) (fun a s v=>[(7,a),(8,.int .i64 (s.1))]) () [(0,_),(1,_),(5,_),(6,_)]
  | apply Dk.iH 4 (V:=Unit) (A:=Value) _ (fun a (s:Int×(List (List Int))) v=>[.own (aI 22 (aI 2 (aK .i64))) a s.2]) (fun a s v=>[(5,a),(9,.int .i64 (s.1))]) () [(1,_)]
  | apply Dk.iH 6 (V:=Unit) (A:=Value) _ (fun a (s:Int×(List (List Int))) v=>[.own (aI 22 (aI 2 (aK .i64))) a s.2]) (fun a s v=>[(5,a),(10,.int .i64 (s.1))]) () [(1,_),(9,_)]
  | apply Dk.iH 8 (V:=Unit) (A:=Value) _ (fun a (s:Int×(List (List Int))) v=>[.own (aI 22 (aI 2 (aK .i64))) a s.2]) (fun a s v=>[(5,a),(11,.int .i64 (s.1))]) () [(1,_),(9,_),(10,_)]
  | apply Dk.ym (id:=13) [Dk.aq.row _ _ 162] 8 [] [[],[],[],[],[],[],[],[10]] [[],[],[1],[0,1,2],[0,1,2,3],[],[],[5,6]] (by kernel_rfl)
  | apply Cn
  | exact ()
theorem acZ {x0:(List Int)} {cO:Value} {x1:(List Int)} {fA:Value}:Ct Tryz.prog 243 true (mU x0 x1) [cO,fA] [rI cO x0,rI fA x1] (fun y (_:Unit)=>[.bool y]) (fun y _=>[]):=by
 refine ct (S:=Unit) (bo fun _ _=>rfl) Tryz.func243 rfl rfl ?_
 repeat' first
  | (apply Dk.fe; repeat' first | exact rfl | (refine @id.{0} _ ?_; constructor))
  | intro _
  | exact rfl
  | (refine @id.{0} _ ?_; constructor)
  | apply Dk.loop 0 (V:=Unit) (fun (s:Int) v=>[]) (fun s v=>[(5,.int .i64 (s))]) () [(0,_),(1,_)]
  | apply Dk.quiet (id:=4) (by kernel_rfl)
  | apply Dk.quiet (id:=5) (by kernel_rfl)
  | exact ()
theorem ac0 {x0:bH} {sU:Value} {x1:bH} {sW:Value}:Ct Tryz.prog 240 true (jN x0 x1) [.agg #[.int .i64 (x0.aF),.int .i64 (x0.To),sU],.agg #[.int .i64 (x1.aF),.int .i64 (x1.To),sW]] [rI sU x0.kq,rI sW x1.kq] (fun y (_:Unit)=>[.bool y]) (fun y _=>[]):=by
 refine ct (S:=Unit) (bo fun _ _=>rfl) Tryz.func240 rfl rfl ?_
 repeat' first
  | (apply Dk.fe; repeat' first | exact rfl | (refine @id.{0} _ ?_; constructor))
  | intro _
  | exact rfl
  | (refine @id.{0} _ ?_; constructor)
  | apply acZ
  | exact ()
theorem We {x0:(List Int)} {cO:Value} {x1:(List Int)} {fA:Value}:Ct Tryz.prog 159 true (iO x0 x1) [cO,fA] [rI cO x0,rI fA x1] (fun y (_:Unit)=>[.bool y]) (fun y _=>[]):=by
 refine ct (S:=Unit) (bo fun _ _=>rfl) Tryz.func159 rfl rfl ?_
 repeat' first
  | (apply Dk.fe; repeat' first | exact rfl | (refine @id.{0} _ ?_; constructor))
  | intro _
  | exact rfl
  | (refine @id.{0} _ ?_; constructor)
  | apply Dk.loop 0 (V:=Unit) (fun (s:Int) v=>[]) (fun s v=>[(5,.int .i64 (s))]) () [(0,_),(1,_)]
  | apply Dk.quiet (id:=6) (by kernel_rfl)
  | exact ()
theorem ac1 {x0:aM} {eH:Nat} {cI:Value}:Ct Tryz.prog 211 true (jP x0) [.pointer (some (⟨eH,0,none⟩))] [.row eH [cI,.int .i64 (x0.At),.int .u64 (x0.aw)] 162,.rd false (bG (aK .u8)) cI x0.Code] (fun y (v:Value)=>[v]) (fun y v=>[.own (aI 22 (aI 2 (aK .i64))) v y.1,.row eH [cI,.int .i64 y.2.At,.int .u64 y.2.aw] 162]):=by
 refine ct (S:=Unit) (bo fun _ _=>rfl) Tryz.func211 rfl rfl ?_
 repeat' first
  | (apply Dk.fe; repeat' first | exact rfl | (refine @id.{0} _ ?_; constructor))
  | intro _
  | exact rfl
  | apply Dk.D.CT (d:=2) (x:=.tmp 8)
  | apply Dk.D.CT (d:=2) (x:=.tmp 13)
  | apply Dk.D.CT (d:=2) (x:=.tmp 18)
  | apply Dk.D.CT (d:=2) (x:=.tmp 24)
  | apply Dk.D.CT (d:=2) (x:=.tmp 30)
  | apply Dk.D.CT (d:=2) (x:=.tmp 36)
  | apply Dk.D.CT (d:=2) (x:=.tmp 43)
  | apply Dk.D.CT (d:=2) (x:=.tmp 47)
  | (refine @id.{0} _ ?_; constructor)
  | apply Cn
  | exact ()
theorem ac2 {x0:aM} {eH:Nat} {cI:Value} {x1:(List Int)} {fA:Value}:Ct Tryz.prog 215 true (pI x0 x1) [.pointer (some (⟨eH,0,none⟩)),fA] [.row eH [cI,.int .i64 (x0.At),.int .u64 (x0.aw)] 162,.rd false (bG (aK .u8)) cI x0.Code,rI fA x1] (fun y (_:Unit)=>[.int .i64 y.1]) (fun y _=>[.row eH [cI,.int .i64 y.2.At,.int .u64 y.2.aw] 162]):=by
 refine ct (S:=Unit) (bo fun _ _=>rfl) Tryz.func215 rfl rfl ?_
 repeat' first
  | (apply Dk.fe; repeat' first | exact rfl | (refine @id.{0} _ ?_; constructor))
  | intro _
  | exact rfl
  | (refine @id.{0} _ ?_; constructor)
  | apply Cn
  | exact ()
theorem ac3 {x0:(List (List Int))} {cO:Value} {x1:Int}:Ct Tryz.prog 228 true (jR x0 x1) [cO,.int .i64 (x1)] [rJ cO x0] (fun y (v:Value)=>[v]) (fun y v=>[.own (aI 2 (aK .i64)) v y]):=by
 refine ct (S:=Unit) (bo fun _ _=>rfl) Tryz.func228 rfl rfl ?_
 repeat' first
  | (apply Dk.fe; repeat' first | exact rfl | (refine @id.{0} _ ?_; constructor))
  | intro _
  | exact rfl
  | (refine @id.{0} _ ?_; constructor)
  | apply Dk.loop 0 (V:=Value) (fun (s:(List Int)×Int) v=>[.own (aI 2 (aK .i64)) v s.1]) (fun s v=>[(5,v),(6,.int .i64 (s.2))]) _ [(0,_),(1,_)]
  | exact ()
theorem ac4 {x0:(List (List Int))} {cO:Value} {x1:(List Int)} {fA:Value}:Ct Tryz.prog 229 true (jX x0 x1) [cO,fA] [rJ cO x0,rI fA x1] (fun y (_:Unit)=>[.int .i64 y]) (fun y _=>[]):=by
 refine ct (S:=Unit) (bo fun _ _=>rfl) Tryz.func229 rfl rfl ?_
 repeat' first
  | (apply Dk.fe; repeat' first | exact rfl | (refine @id.{0} _ ?_; constructor))
  | intro _
  | exact rfl
  | (refine @id.{0} _ ?_; constructor)
  | apply Dk.loop 0 (V:=Unit) (fun (s:Int) v=>[]) (fun s v=>[(5,.int .i64 (s))]) () [(0,_),(1,_)]
  | apply We
  | exact ()
theorem ac5 {x0:aG} {aU bA aP aL:Value} {x1:Int} {x2:Int}:Ct Tryz.prog 113 true (lU x0 x1 x2) [.agg #[.int .i64 (x0.aA),aU,bA,aP,aL],.int .i64 (x1),.int .i64 (x2)] [rI aU x0.aF,rI bA x0.To,rI aP x0.aH,rJ aL x0.aC] (fun y (_:Unit)=>[.bool y]) (fun y _=>[]):=by
 refine ct (S:=Unit) (bo fun _ _=>rfl) Tryz.func113 rfl rfl ?_
 repeat' first
  | (apply Dk.fe; repeat' first | exact rfl | (refine @id.{0} _ ?_; constructor))
  | intro _
  | exact rfl
  | (refine @id.{0} _ ?_; constructor)
  | apply Dk.quiet (id:=1) (by kernel_rfl)
  | exact ()
theorem ac6 {x0:aJ} {aS aV aQ aN aT aW aR aO aZ bB:Value}:Ct Tryz.prog 195 true (lV x0) [.agg #[.int .i64 (x0.aD.aA),aS,aV,aQ,aN,.int .i64 (x0.aB.aA),aT,aW,aR,aO,aZ,bB]] [rI aS x0.aD.aF,rI aV x0.aD.To,rI aQ x0.aD.aH,rJ aN x0.aD.aC,rI aT x0.aB.aF,rI aW x0.aB.To,rI aR x0.aB.aH,rJ aO x0.aB.aC,rI aZ x0.aA,rI bB x0.ab] (fun y (_:Unit)=>[.bool y]) (fun y _=>[]):=by
 refine ct (S:=Unit) (bo fun _ _=>rfl) Tryz.func195 rfl rfl ?_
 repeat' first
  | (apply Dk.fe; repeat' first | exact rfl | (refine @id.{0} _ ?_; constructor))
  | intro _
  | exact rfl
  | (refine @id.{0} _ ?_; constructor)
  | apply Dk.loop 0 (V:=Unit) (fun (s:Int) v=>[]) (fun s v=>[(3,.int .i64 (s))]) () [(1,_)]
  | apply Dk.loop 2 (V:=Unit) (fun (s:Int) v=>[]) (fun s v=>[(4,.int .i64 (s))]) () [(1,_),(3,_)]
  | apply Dk.quiet (id:=7) (by kernel_rfl)
  | apply ac5
  | exact ()
theorem Wh {x0:Int} {x1:Int} {x2:Int}:Ct Tryz.prog 169 true (lM x0 x1 x2) [.int .i64 (x0),.int .i64 (x1),.int .i64 (x2)] [] (fun y (_:Unit)=>[.bool y]) (fun y _=>[]):=by
 refine ct (S:=Unit) (bo fun _ _=>rfl) Tryz.func169 rfl rfl ?_
 repeat' first
  | (apply Dk.fe; repeat' first | exact rfl | (refine @id.{0} _ ?_; constructor))
  | intro _
  | exact rfl
  | (refine @id.{0} _ ?_; constructor)
  | exact ()
theorem PR {x0:(List Int)} {cO:Value} {x1:Int}:Ct Tryz.prog 109 true (iL x0 x1) [cO,.int .i64 (x1)] [rI cO x0] (fun y (_:Unit)=>[.bool y]) (fun y _=>[]):=by
 refine ct (S:=Unit) (bo fun _ _=>rfl) Tryz.func109 rfl rfl ?_
 repeat' first
  | (apply Dk.fe; repeat' first | exact rfl | (refine @id.{0} _ ?_; constructor))
  | intro _
  | exact rfl
  | (refine @id.{0} _ ?_; constructor)
  | apply Dk.loop 0 (V:=Unit) (fun (s:Int) v=>[]) (fun s v=>[(9,.int .i64 (s))]) () [(1,_),(7,_),(8,_)]
  | apply Wh
  | exact ()
theorem ac7 {x0:Int} {x1:Int} {x2:Int}:Ct Tryz.prog 218 true (rP x0 x1 x2) [.int .i64 (x0),.int .i64 (x1),.int .i64 (x2)] [] (fun y (_:Unit)=>[.bool y]) (fun y _=>[]):=by
 refine ct (S:=Unit) (bo fun _ _=>rfl) Tryz.func218 rfl rfl ?_
 repeat' first
  | (apply Dk.fe; repeat' first | exact rfl | (refine @id.{0} _ ?_; constructor))
  | intro _
  | exact rfl
  | (refine @id.{0} _ ?_; constructor)
  | exact ()
theorem PS {x0:Int} {x1:(List Int)} {fA:Value}:Ct Tryz.prog 182 true (kZ x0 x1) [.int .i64 (x0),fA] [rI fA x1] (fun y (_:Unit)=>[.bool y]) (fun y _=>[]):=by
 refine ct (S:=Unit) (bo fun _ _=>rfl) Tryz.func182 rfl rfl ?_
 repeat' first
  | (apply Dk.fe; repeat' first | exact rfl | (refine @id.{0} _ ?_; constructor))
  | intro _
  | exact rfl
  | (refine @id.{0} _ ?_; constructor)
  | apply Dk.loop 0 (V:=Unit) (fun (s:Int) v=>[]) (fun s v=>[(5,.int .i64 (s))]) () [(0,_),(1,_)]
  | exact ()
theorem ac8 {x0:(List Int)} {cO:Value} {x1:Int} {x2:Int}:Ct Tryz.prog 219 true (mZ x0 x1 x2) [cO,.int .i64 (x1),.int .i64 (x2)] [rI cO x0] (fun y (_:Unit)=>[.bool y]) (fun y _=>[]):=by
 refine ct (S:=Unit) (bo fun _ _=>rfl) Tryz.func219 rfl rfl ?_
 repeat' first
  | (apply Dk.fe; repeat' first | exact rfl | (refine @id.{0} _ ?_; constructor))
  | intro _
  | exact rfl
  | (refine @id.{0} _ ?_; constructor)
  | apply PS
  | exact ()
end Go.Proofs.YtbhhmalgcnhniaaGreat
