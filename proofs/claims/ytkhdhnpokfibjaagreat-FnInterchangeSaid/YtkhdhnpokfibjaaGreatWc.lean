/- Walks by the calculus D. No condition beside those that each theorem names. -/
import Derived.Test.YtkhdhnpokfibjaaGreatDi
import Derived.Test.YtkhdhnpokfibjaaGreatMo
import Derived.Test.YtkhdhnpokfibjaaGreatDp
import Derived.Test.YtkhdhnpokfibjaaGreatDs
namespace Go.Proofs.YtkhdhnpokfibjaaGreat
open Go Go.Li Go.Dk
set_option linter.unusedVariables false
set_option maxHeartbeats 16000000
set_option maxRecDepth 100000
theorem c28 {x0:aL} {eP:Nat} {dF:Value} {x1:Int}:Ct Tryz.prog 28 true (cH x0 x1) [.pointer (some (⟨eP,0,none⟩)),.int .i64 (x1)] [.row eP [dF,.int .i64 (x0.At),.int .u64 (x0.Hash)] 87,.rd false (aE (aC .u8)) dF x0.Code] (fun y (_:Unit)=>[.int .i64 y.1]) (fun y _=>[.row eP [dF,.int .i64 y.2.At,.int .u64 y.2.Hash] 87]):=by
 refine ct (S:=Unit) (owt fun _ _=>rfl) Tryz.func28 rfl rfl ?_
 repeat' first
  | intro _
  | exact rfl
  | apply Dk.D.ari (d:=13)
  | apply Dk.AD.ari (d:=13)
  | apply Dk.D.ari (d:=14)
  | apply Dk.AD.ari (d:=14)
  | apply Dk.D.ari (d:=21)
  | apply Dk.AD.ari (d:=21)
  | apply Dk.D.ari (d:=22)
  | apply Dk.AD.ari (d:=22)
  | apply Dk.D.ari (d:=57)
  | apply Dk.AD.ari (d:=57)
  | (refine @id.{0} _ ?_; constructor)
  | apply Dk.quiet (id:=5) (by kernel_rfl)
  | apply Dk.quiet (id:=6) (by kernel_rfl)
  | exact ()
theorem c123 {x0:aL} {eP:Nat} {dF:Value} {x1:Int}:Ct Tryz.prog 123 true (jA x0 x1) [.pointer (some (⟨eP,0,none⟩)),.int .i64 (x1)] [.row eP [dF,.int .i64 (x0.At),.int .u64 (x0.Hash)] 87,.rd false (aE (aC .u8)) dF x0.Code] (fun y (v:Value)=>[v]) (fun y v=>[.own (aK 24 (aK 2 (aC .i64))) v y.1,.row eP [dF,.int .i64 y.2.At,.int .u64 y.2.Hash] 87]):=by
 refine ct (S:=Unit) (owt fun _ _=>rfl) Tryz.func123 rfl rfl ?_
 repeat' first
  | intro _
  | exact rfl
  | (refine Dk.rwU (t:=45) rfl ?_)
  | (refine Dk.cdR (t:=62) rfl ?_ ?_)
  | (refine Dk.cdR (t:=67) rfl ?_ ?_)
  | (refine @id.{0} _ ?_; constructor)
  | apply Dk.loop 0 (V:=Value) (fun (s:(List (List Int))×Int×Int×Int) v=>[.row eP [dF,.int .i64 (s.2.2.1),.int .u64 (s.2.2.2)] 87,.own (aK 24 (aK 2 (aC .i64))) v s.1]) (fun s v=>[(5,v),(6,.int .i64 (s.2.1))]) _ [(0,_),(1,_)]
  | apply Dk.loopA 2 (V:=Unit) (A:=Value) _ (fun a (s:Int×Int×Int×(List Int)) v=>[.row eP [dF,.int .i64 (s.2.1),.int .u64 (s.2.2.1)] 87,.own (aK 2 (aC .i64)) a s.2.2.2]) (fun a s v=>[(7,a),(8,.int .i64 (s.1))]) () [(0,_),(1,_),(5,_),(6,_)]
  | apply Dk.loopA 4 (V:=Unit) (A:=Value) _ (fun a (s:Int×(List (List Int))) v=>[.own (aK 24 (aK 2 (aC .i64))) a s.2]) (fun a s v=>[(5,a),(9,.int .i64 (s.1))]) () [(1,_)]
  | apply Dk.loopA 6 (V:=Unit) (A:=Value) _ (fun a (s:Int×(List (List Int))) v=>[.own (aK 24 (aK 2 (aC .i64))) a s.2]) (fun a s v=>[(5,a),(10,.int .i64 (s.1))]) () [(1,_),(9,_)]
  | apply Dk.loopA 8 (V:=Unit) (A:=Value) _ (fun a (s:Int×(List (List Int))) v=>[.own (aK 24 (aK 2 (aC .i64))) a s.2]) (fun a s v=>[(5,a),(11,.int .i64 (s.1))]) () [(1,_),(9,_),(10,_)]
  | apply Dk.anyH (id:=13) [Dk.Ent.row _ _ 87] 8 [] [[],[],[],[],[],[],[],[10]] [[],[],[1],[0,2,1],[3,0,2,1],[],[],[5,6]] (by kernel_rfl)
  | apply c28
  | exact ()
theorem c104 {x0:aI} {aV:Value} {bK:Value} {aP:Value} {aO:Value}:Ct Tryz.prog 104 true (fH x0) [.agg #[.int .i64 (x0.aD),aV,bK,aP,aO]] [.rd false (aE (aC .i64)) aV x0.aG,.rd false (aE (aC .i64)) bK x0.To,.rd false (aE (aC .i64)) aP x0.aJ,.rd false (aE (aE (aC .i64))) aO x0.aF] (fun y (_:Unit)=>[.bool y]) (fun y _=>[]):=by
 refine ct (S:=Unit) (owt fun _ _=>rfl) Tryz.func104 rfl rfl ?_
 repeat' first
  | intro _
  | exact rfl
  | (refine @id.{0} _ ?_; constructor)
  | exact ()
theorem c126 {x0:aL} {eP:Nat} {dF:Value}:Ct Tryz.prog 126 true (iY x0) [.pointer (some (⟨eP,0,none⟩))] [.row eP [dF,.int .i64 (x0.At),.int .u64 (x0.Hash)] 87,.rd false (aE (aC .u8)) dF x0.Code] (fun y (v:Value)=>[v]) (fun y v=>[.own (aK 24 (aK 2 (aC .i64))) v y.1,.row eP [dF,.int .i64 y.2.At,.int .u64 y.2.Hash] 87]):=by
 refine ct (S:=Unit) (owt fun _ _=>rfl) Tryz.func126 rfl rfl ?_
 repeat' first
  | intro _
  | exact rfl
  | apply Dk.D.asl (d:=2) (x:=.tmp 8)
  | apply Dk.D.asl (d:=2) (x:=.tmp 13)
  | apply Dk.D.asl (d:=2) (x:=.tmp 18)
  | apply Dk.D.asl (d:=2) (x:=.tmp 24)
  | apply Dk.D.asl (d:=2) (x:=.tmp 30)
  | apply Dk.D.asl (d:=2) (x:=.tmp 36)
  | apply Dk.D.asl (d:=2) (x:=.tmp 43)
  | apply Dk.D.asl (d:=2) (x:=.tmp 47)
  | (refine @id.{0} _ ?_; constructor)
  | apply c28
  | exact ()
theorem c107 {x0:aI} {aV:Value} {bK:Value} {aP:Value} {aO:Value} {x1:Int}:Ct Tryz.prog 107 true (nX x0 x1) [.agg #[.int .i64 (x0.aD),aV,bK,aP,aO],.int .i64 (x1)] [.rd false (aE (aC .i64)) aV x0.aG,.rd false (aE (aC .i64)) bK x0.To,.rd false (aE (aC .i64)) aP x0.aJ,.rd false (aE (aE (aC .i64))) aO x0.aF] (fun y (_:Unit)=>[.bool y]) (fun y _=>[]):=by
 refine ct (S:=Unit) (owt fun _ _=>rfl) Tryz.func107 rfl rfl ?_
 repeat' first
  | intro _
  | exact rfl
  | (refine @id.{0} _ ?_; constructor)
  | apply Dk.quiet (id:=1) (by kernel_rfl)
  | exact ()
theorem c67 {x0:aI} {aV:Value} {bK:Value} {aP:Value} {aO:Value}:Ct Tryz.prog 67 true (mC x0) [.agg #[.int .i64 (x0.aD),aV,bK,aP,aO]] [.rd false (aE (aC .i64)) aV x0.aG,.rd false (aE (aC .i64)) bK x0.To,.rd false (aE (aC .i64)) aP x0.aJ,.rd false (aE (aE (aC .i64))) aO x0.aF] (fun y (v:Value)=>[v]) (fun y v=>[.own (aK 2 (aC .i64)) v y]):=by
 refine ct (S:=Unit) (owt fun _ _=>rfl) Tryz.func67 rfl rfl ?_
 repeat' first
  | intro _
  | exact rfl
  | (refine @id.{0} _ ?_; constructor)
  | apply Dk.loop 0 (V:=Value) (fun (s:(List Int)×Int) v=>[.own (aK 2 (aC .i64)) v s.1]) (fun s v=>[(3,v),(4,.int .i64 (s.2))]) _ [(1,_)]
  | apply c107
  | exact ()
theorem c98 {x0:aL} {eP:Nat} {dF:Value} {x1:(List Int)} {eV:Value}:Ct Tryz.prog 98 true (lQ x0 x1) [.pointer (some (⟨eP,0,none⟩)),eV] [.row eP [dF,.int .i64 (x0.At),.int .u64 (x0.Hash)] 87,.rd false (aE (aC .u8)) dF x0.Code,.rd false (aE (aC .i64)) eV x1] (fun y (_:Unit)=>[.int .i64 y.1]) (fun y _=>[.row eP [dF,.int .i64 y.2.At,.int .u64 y.2.Hash] 87]):=by
 refine ct (S:=Unit) (owt fun _ _=>rfl) Tryz.func98 rfl rfl ?_
 repeat' first
  | intro _
  | exact rfl
  | (refine @id.{0} _ ?_; constructor)
  | apply c28
  | exact ()
theorem c97 {x0:Int} {x1:(List Int)} {eV:Value}:Ct Tryz.prog 97 true (iU x0 x1) [.int .i64 (x0),eV] [.rd false (aE (aC .i64)) eV x1] (fun y (_:Unit)=>[.bool y]) (fun y _=>[]):=by
 refine ct (S:=Unit) (owt fun _ _=>rfl) Tryz.func97 rfl rfl ?_
 repeat' first
  | intro _
  | exact rfl
  | (refine @id.{0} _ ?_; constructor)
  | apply Dk.loop 0 (V:=Unit) (fun (s:Int) v=>[]) (fun s v=>[(5,.int .i64 (s))]) () [(0,_),(1,_)]
  | exact ()
theorem c140 {x0:(List Int)} {dZ:Value} {x1:Int} {x2:Int}:Ct Tryz.prog 140 true (lS x0 x1 x2) [dZ,.int .i64 (x1),.int .i64 (x2)] [.rd false (aE (aC .i64)) dZ x0] (fun y (_:Unit)=>[.bool y]) (fun y _=>[]):=by
 refine ct (S:=Unit) (owt fun _ _=>rfl) Tryz.func140 rfl rfl ?_
 repeat' first
  | intro _
  | exact rfl
  | (refine @id.{0} _ ?_; constructor)
  | apply c97
  | exact ()
theorem c99 {x0:aN} {aW:Value} {bC:Value} {aS:Value} {aQ:Value} {aY:Value} {bD:Value} {aT:Value} {aR:Value} {bS:Value} {bV:Value} {x1:aN} {bT:Value} {cE:Value} {bE:Value} {aZ:Value} {bU:Value} {cF:Value} {bF:Value} {bA:Value} {cN:Value} {cO:Value} {x2:(List Int)} {eL:Value}:Ct Tryz.prog 99 true (oQ x0 x1 x2) [.agg #[.int .i64 (x0.aA.aD),aW,bC,aS,aQ,.int .i64 (x0.aB.aD),aY,bD,aT,aR,bS,bV],.agg #[.int .i64 (x1.aA.aD),bT,cE,bE,aZ,.int .i64 (x1.aB.aD),bU,cF,bF,bA,cN,cO],eL] [.rd false (aE (aC .i64)) aW x0.aA.aG,.rd false (aE (aC .i64)) bC x0.aA.To,.rd false (aE (aC .i64)) aS x0.aA.aJ,.rd false (aE (aE (aC .i64))) aQ x0.aA.aF,.rd false (aE (aC .i64)) aY x0.aB.aG,.rd false (aE (aC .i64)) bD x0.aB.To,.rd false (aE (aC .i64)) aT x0.aB.aJ,.rd false (aE (aE (aC .i64))) aR x0.aB.aF,.rd false (aE (aC .i64)) bS x0.aD,.rd false (aE (aC .i64)) bV x0.Arrows,.rd false (aE (aC .i64)) bT x1.aA.aG,.rd false (aE (aC .i64)) cE x1.aA.To,.rd false (aE (aC .i64)) bE x1.aA.aJ,.rd false (aE (aE (aC .i64))) aZ x1.aA.aF,.rd false (aE (aC .i64)) bU x1.aB.aG,.rd false (aE (aC .i64)) cF x1.aB.To,.rd false (aE (aC .i64)) bF x1.aB.aJ,.rd false (aE (aE (aC .i64))) bA x1.aB.aF,.rd false (aE (aC .i64)) cN x1.aD,.rd false (aE (aC .i64)) cO x1.Arrows,.rd false (aE (aC .i64)) eL x2] (fun y (_:Unit)=>[.bool y]) (fun y _=>[]):=by
 refine ct (S:=Unit) (owt fun _ _=>rfl) Tryz.func99 rfl rfl ?_
 repeat' first
  | intro _
  | exact rfl
  | (refine @id.{0} _ ?_; constructor)
  | apply Dk.loop 0 (V:=Unit) (fun (s:Int) v=>[]) (fun s v=>[(7,.int .i64 (s))]) () [(2,_),(3,_),(4,_)]
  | apply Dk.quiet (id:=6) (by kernel_rfl)
  | apply c97
  | exact ()
theorem c115 {x0:aI} {eR:Addr} {aV:Value} {bK:Value} {aP:Value} {aO:Value} {x1:Int}:Ct Tryz.prog 115 true (fI x0 x1) [.pointer (some (eR)),.int .i64 (x1)] [.ats eR [.int .i64 (x0.aD),aV,bK,aP,aO],.rd false (aE (aC .i64)) aV x0.aG,.rd false (aE (aC .i64)) bK x0.To,.rd false (aE (aC .i64)) aP x0.aJ,.rd false (aE (aE (aC .i64))) aO x0.aF] (fun y (_:Unit)=>[.agg #[.int .i64 y.aG,.int .i64 y.To]]) (fun y _=>[]):=by
 refine ct (S:=Unit) (owt fun _ _=>rfl) Tryz.func115 rfl rfl ?_
 repeat' first
  | intro _
  | exact rfl
  | (refine @id.{0} _ ?_; constructor)
  | apply Dk.any (id:=1) 14 [] [] [[],[0],[1,0],[2,1,0],[],[3,2,1,0,4],[5,3,2,1,0,4],[],[7],[8,7],[9,8,7],[],[10,9,8,7,11],[12,10,9,8,7,11]] (by kernel_rfl)
  | exact ()
theorem c74 {x0:(List Int)} {dZ:Value}:Ct Tryz.prog 74 true (gP x0) [dZ] [.rd false (aE (aC .i64)) dZ x0] (fun y (v:Value)=>[v]) (fun y v=>[.own (aK 2 (aC .i64)) v y]):=by
 refine ct (S:=Unit) (owt fun _ _=>rfl) Tryz.func74 rfl rfl ?_
 repeat' first
  | intro _
  | exact rfl
  | (refine @id.{0} _ ?_; constructor)
  | exact ()
theorem c133 {x0:(List (List Int))} {dZ:Value}:Ct Tryz.prog 133 true (pF x0) [dZ] [.rd false (aE (aE (aC .i64))) dZ x0] (fun y (v:Value)=>[v]) (fun y v=>[.own (aK 24 (aK 2 (aC .i64))) v y]):=by
 refine ct (S:=Unit) (owt fun _ _=>rfl) Tryz.func133 rfl rfl ?_
 repeat' first
  | intro _
  | exact rfl
  | (refine @id.{0} _ ?_; constructor)
  | apply Dk.loop 0 (V:=Value) (fun (s:(List (List Int))×Int) v=>[.own (aK 24 (aK 2 (aC .i64))) v s.1]) (fun s v=>[(3,v),(11,.int .i64 (s.2))]) _ [(9,_),(10,_)]
  | apply c74
  | exact ()
theorem c18 {x0:(List Int)} {dZ:Value} {x1:(List Int)} {eV:Value}:Ct Tryz.prog 18 true (gF x0 x1) [dZ,eV] [.rd false (aE (aC .i64)) dZ x0,.rd false (aE (aC .i64)) eV x1] (fun y (_:Unit)=>[.bool y]) (fun y _=>[]):=by
 refine ct (S:=Unit) (owt fun _ _=>rfl) Tryz.func18 rfl rfl ?_
 repeat' first
  | intro _
  | exact rfl
  | (refine @id.{0} _ ?_; constructor)
  | apply Dk.loop 0 (V:=Unit) (fun (s:Int) v=>[]) (fun s v=>[(5,.int .i64 (s))]) () [(0,_),(1,_)]
  | apply Dk.quiet (id:=6) (by kernel_rfl)
  | exact ()
theorem c112 {x0:(List (List Int))} {dZ:Value} {x1:(List (List Int))} {eV:Value}:Ct Tryz.prog 112 true (qB x0 x1) [dZ,eV] [.rd false (aE (aE (aC .i64))) dZ x0,.rd false (aE (aE (aC .i64))) eV x1] (fun y (_:Unit)=>[.bool y]) (fun y _=>[]):=by
 refine ct (S:=Unit) (owt fun _ _=>rfl) Tryz.func112 rfl rfl ?_
 repeat' first
  | intro _
  | exact rfl
  | (refine @id.{0} _ ?_; constructor)
  | apply Dk.loop 0 (V:=Unit) (fun (s:Int) v=>[]) (fun s v=>[(5,.int .i64 (s))]) () [(0,_),(1,_)]
  | apply Dk.quiet (id:=6) (by kernel_rfl)
  | apply c18
  | exact ()
end Go.Proofs.YtkhdhnpokfibjaaGreat
