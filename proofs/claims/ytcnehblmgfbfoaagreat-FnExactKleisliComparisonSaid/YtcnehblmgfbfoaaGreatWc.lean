/- Walks by the calculus D. No condition beside those that each theorem names. -/
import Derived.Test.YtcnehblmgfbfoaaGreatDp
import Derived.Test.YtcnehblmgfbfoaaGreatDi
import Derived.Test.YtcnehblmgfbfoaaGreatMo
import Derived.Test.YtcnehblmgfbfoaaGreatDs
namespace Go.Proofs.YtcnehblmgfbfoaaGreat
open Go Go.Li Go.Dk
set_option linter.unusedVariables false
set_option maxHeartbeats 16000000
set_option maxRecDepth 100000
theorem MK {x0:(List Int)} {cA:Value} {x1:Int}:Ct Tryz.prog 54 true (eA x0 x1) [cA,.int .i64 (x1)] [rI cA x0] (fun y (_:Unit)=>[.int .i64 y]) (fun y _=>[]):=by
 refine ct (S:=Unit) (bp fun _ _=>rfl) Tryz.func54 rfl rfl ?_
 repeat' first
  | (apply Dk.fe; repeat' first | exact rfl | (refine @id.{0} _ ?_; constructor))
  | intro _
  | exact rfl
  | (refine @id.{0} _ ?_; constructor)
  | exact ()
theorem XL {x0:(List (List Int))} {cA:Value} {x1:Int}:Ct Tryz.prog 217 true (lL x0 x1) [cA,.int .i64 (x1)] [rJ cA x0] (fun y (_:Unit)=>[.int .i64 y]) (fun y _=>[]):=by
 refine ct (S:=Unit) (bp fun _ _=>rfl) Tryz.func217 rfl rfl ?_
 repeat' first
  | (apply Dk.fe; repeat' first | exact rfl | (refine @id.{0} _ ?_; constructor))
  | intro _
  | exact rfl
  | (refine @id.{0} _ ?_; constructor)
  | apply Dk.loop 0 (V:=Unit) (fun (s:Int×Int) v=>[]) (fun s v=>[(1,.int .i64 (s.1)),(5,.int .i64 (s.2))]) () [(0,_)]
  | apply MK
  | exact ()
theorem XM {x0:aH} {bH bR aW aT:Value}:Ct Tryz.prog 175 true (mD x0) [.agg #[.int .i64 (x0.aD),bH,bR,aW,aT]] [rI bH x0.aF,rI bR x0.To,rI aW x0.aG,rJ aT x0.aC] (fun y (_:Unit)=>[.int .i64 y.1,.int .i64 y.2.1,.int .i64 y.2.2.1,.int .i64 y.2.2.2]) (fun y _=>[]):=by
 refine ct (S:=Unit) (bp fun _ _=>rfl) Tryz.func175 rfl rfl ?_
 repeat' first
  | (apply Dk.fe; repeat' first | exact rfl | (refine @id.{0} _ ?_; constructor))
  | intro _
  | exact rfl
  | (refine Dk.zv (t:=65) rfl ?_ ?_)
  | (refine Dk.zv (t:=81) rfl ?_ ?_)
  | (refine @id.{0} _ ?_; constructor)
  | apply Dk.loop 0 (V:=Unit) (fun (s:Int) v=>[]) (fun s v=>[(7,.int .i64 (s))]) () [(1,_),(6,_)]
  | apply Dk.loop 2 (V:=Unit) (fun (s:Int) v=>[]) (fun s v=>[(8,.int .i64 (s))]) () [(1,_),(6,_)]
  | apply Dk.loop 4 (V:=Unit) (fun (s:Int) v=>[]) (fun s v=>[(9,.int .i64 (s))]) () [(1,_),(6,_),(8,_)]
  | apply Dk.loop 6 (V:=Unit) (fun (s:Int) v=>[]) (fun s v=>[(10,.int .i64 (s))]) () [(1,_),(6,_),(8,_),(9,_)]
  | apply Dk.quiet (id:=5) (by kernel_rfl)
  | apply Dk.quiet (id:=13) (by kernel_rfl)
  | apply Dk.quiet (id:=17) (by kernel_rfl)
  | exact ()
theorem XN {x0:Int}:Ct Tryz.prog 172 true (lC x0) [.int .i64 (x0)] [] (fun y (v:Value)=>[v]) (fun y v=>[.own (aI 2 (aJ .i64)) v y]):=by
 refine ct (S:=Unit) (bp fun _ _=>rfl) Tryz.func172 rfl rfl ?_
 repeat' first
  | (apply Dk.fe; repeat' first | exact rfl | (refine @id.{0} _ ?_; constructor))
  | intro _
  | exact rfl
  | (refine @id.{0} _ ?_; constructor)
  | apply Dk.mb 0 (V:=Unit) (A:=Value) _ (fun a (s:Int×(List Int)) v=>[.own (aI 2 (aJ .i64)) a s.2]) (fun a s v=>[(3,a),(9,.int .i64 (s.1))]) () [(8,_)]
  | exact ()
theorem RM {x0:(List Int)} {cA:Value}:Ct Tryz.prog 87 true (gB x0) [cA] [rI cA x0] (fun y (v:Value)=>[v]) (fun y v=>[.own (aI 2 (aJ .i64)) v y]):=by
 refine ct (S:=Unit) (bp fun _ _=>rfl) Tryz.func87 rfl rfl ?_
 repeat' first
  | (apply Dk.fe; repeat' first | exact rfl | (refine @id.{0} _ ?_; constructor))
  | intro _
  | exact rfl
  | (refine @id.{0} _ ?_; constructor)
  | exact ()
theorem XO {x0:(List (List Int))} {cA:Value}:Ct Tryz.prog 198 true (nG x0) [cA] [rJ cA x0] (fun y (v:Value)=>[v]) (fun y v=>[.own (aI 22 (aI 2 (aJ .i64))) v y]):=by
 refine ct (S:=Unit) (bp fun _ _=>rfl) Tryz.func198 rfl rfl ?_
 repeat' first
  | (apply Dk.fe; repeat' first | exact rfl | (refine @id.{0} _ ?_; constructor))
  | intro _
  | exact rfl
  | (refine @id.{0} _ ?_; constructor)
  | apply Dk.loop 0 (V:=Value) (fun (s:(List (List Int))×Int) v=>[.own (aI 22 (aI 2 (aJ .i64))) v s.1]) (fun s v=>[(3,v),(11,.int .i64 (s.2))]) _ [(9,_),(10,_)]
  | apply RM
  | exact ()
theorem Ha {x0:(List (List Int))} {cA:Value}:Ct Tryz.prog 129 true (mI x0) [cA] [rJ cA x0] (fun y (_:Unit)=>[.string y]) (fun y _=>[]):=by
 refine ct (S:=Unit) (bp fun _ _=>rfl) Tryz.func129 rfl rfl ?_
 repeat' first
  | (apply Dk.fe; repeat' first | exact rfl | (refine @id.{0} _ ?_; constructor))
  | intro _
  | exact rfl
  | (refine @id.{0} _ ?_; constructor)
  | apply Dk.loop 0 (V:=Value) (fun (s:(List Int)×Int) v=>[.own (aI 5 (aJ .u8)) v s.1]) (fun s v=>[(3,v),(11,.int .i64 (s.2))]) _ [(9,_),(10,_)]
  | apply Dk.loop 2 (V:=Value) (fun (s:(List Int)×Int) v=>[.own (aI 5 (aJ .u8)) v s.1]) (fun s v=>[(3,v),(17,.int .i64 (s.2))]) _ [(9,_),(10,_),(11,_),(15,_),(16,_)]
  | exact ()
theorem RN {x0:List (List Int)} {v0:Value}:Ct Tryz.prog 192 true (mB x0) [v0] [rJ v0 x0] (fun _ (v:Value)=>[v]) (fun y v=>[.own (o3 Value.string (Value.int .i64)) v y]):=by
 refine ct (S:=Unit) (bp fun _ _=>rfl) Tryz.func192 rfl rfl ?_
 repeat' first
  | (apply Dk.fe; repeat' first | exact rfl | (refine @id.{0} _ ?_; constructor))
  | intro _
  | exact rfl
  | (refine @id.{0} _ ?_; constructor)
  | apply Dk.loop 0 (V:=Value) (fun (s:List (ByteArray×Int)×Int) v=>[.own (o3 Value.string (Value.int .i64)) v s.1]) (fun s v=>[(3,v),(9,.int .i64 s.2)]) _ [(7,_),(8,_)]
  | apply Ha
  | exact ()
theorem RP {x0:(List (List Int))} {cA:Value} {x1:Int}:Ct Tryz.prog 114 true (jK x0 x1) [cA,.int .i64 (x1)] [rJ cA x0] (fun y (v:Value)=>[v]) (fun y v=>[.own (aI 2 (aJ .i64)) v y]):=by
 refine ct (S:=Unit) (bp fun _ _=>rfl) Tryz.func114 rfl rfl ?_
 repeat' first
  | (apply Dk.fe; repeat' first | exact rfl | (refine @id.{0} _ ?_; constructor))
  | intro _
  | exact rfl
  | (refine @id.{0} _ ?_; constructor)
  | apply Dk.loop 0 (V:=Value) (fun (s:(List Int)×Int) v=>[.own (aI 2 (aJ .i64)) v s.1]) (fun s v=>[(5,v),(11,.int .i64 (s.2))]) _ [(1,_),(9,_),(10,_)]
  | exact ()
theorem Lr {x1 x2 x3:Int} {mm:List (ByteArray×Int)} {p:Addr} {k0 k1 k2 k3 k4 k5 k6 k7 k8:Value}:Ct Tryz.prog 144 true (dN mm x1 x2 x3) [.pointer (some p),.int .i64 x1,.int .i64 x2,.int .i64 x3] [.aw p [k0,k1,k2,k3,k4,k5,k6,k7,k8],.rd false (o3 Value.string (Value.int .i64)) k8 mm] (fun y (_:Unit)=>[.int .i64 y]) (fun _ _=>[]):=by
 refine ct (S:=Unit) (bp fun _ _=>rfl) Tryz.func144 rfl rfl ?_
 repeat' first
  | (apply Dk.fe; repeat' first | exact rfl | (refine @id.{0} _ ?_; constructor))
  | intro _
  | exact rfl
  | apply Dk.PE (t:=144)
  | (refine @id.{0} _ ?_; constructor)
  | apply Dk.any (id:=1) 10 [] [] [[],[0],[0,1],[0,1,2],[],[],[],[4,5,6],[4,5,6,7],[4,5,6,7,8]] (by kernel_rfl)
  | apply Ha
  | exact ()
theorem XP {xs:List bW} {a:bW} {p q:Addr} {k0 k1 k2 k3 k4 k5 k6 k7 k8:Value}:Ct Tryz.prog 143 true (eN xs a) [.pointer (some p),.pointer (some q)] [.aw q [.int .i64 a.X,.int .i64 a.H],.aw p [k0,k1,k2,k3,k4,k5,k6,k7,k8],.rd false (bE (kn rq)) k6 xs] (fun y (_:Unit)=>[.int .i64 y]) (fun _ _=>[]):=by
 refine ct (S:=Unit) (bp fun _ _=>rfl) Tryz.func143 rfl rfl ?_
 repeat' first
  | (apply Dk.fe; repeat' first | exact rfl | (refine @id.{0} _ ?_; constructor))
  | intro _
  | exact rfl
  | (refine @id.{0} _ ?_; constructor)
  | apply Dk.loop 0 (V:=Unit) (fun (s:Int) _=>[]) (fun s _=>[(12,.int .i64 s)]) () [(0,_),(1,_),(10,_),(11,_)]
  | apply Dk.quiet (id:=4) (by kernel_rfl)
  | exact ()
theorem ML {x0:(List Int)} {cA:Value} {x1:(List Int)} {eL:Value}:Ct Tryz.prog 70 true (eM x0 x1) [cA,eL] [rI cA x0,rI eL x1] (fun y (_:Unit)=>[.bool y]) (fun y _=>[]):=by
 refine ct (S:=Unit) (bp fun _ _=>rfl) Tryz.func70 rfl rfl ?_
 repeat' first
  | (apply Dk.fe; repeat' first | exact rfl | (refine @id.{0} _ ?_; constructor))
  | intro _
  | exact rfl
  | (refine @id.{0} _ ?_; constructor)
  | apply Dk.loop 0 (V:=Unit) (fun (s:Int) v=>[]) (fun s v=>[(5,.int .i64 (s))]) () [(0,_),(1,_)]
  | apply Dk.quiet (id:=6) (by kernel_rfl)
  | exact ()
theorem XQ {x0:(List (List Int))} {cA:Value} {x1:(List (List Int))} {eL:Value}:Ct Tryz.prog 146 true (nE x0 x1) [cA,eL] [rJ cA x0,rJ eL x1] (fun y (_:Unit)=>[.bool y]) (fun y _=>[]):=by
 refine ct (S:=Unit) (bp fun _ _=>rfl) Tryz.func146 rfl rfl ?_
 repeat' first
  | (apply Dk.fe; repeat' first | exact rfl | (refine @id.{0} _ ?_; constructor))
  | intro _
  | exact rfl
  | (refine @id.{0} _ ?_; constructor)
  | apply Dk.loop 0 (V:=Unit) (fun (s:Int) v=>[]) (fun s v=>[(5,.int .i64 (s))]) () [(0,_),(1,_)]
  | apply Dk.quiet (id:=6) (by kernel_rfl)
  | apply ML
  | exact ()
theorem RQ {x0:(List Int)} {cA:Value} {x1:Int}:Ct Tryz.prog 74 true (eF x0 x1) [cA,.int .i64 (x1)] [rI cA x0] (fun y (_:Unit)=>[.int .i64 y]) (fun y _=>[]):=by
 refine ct (S:=Unit) (bp fun _ _=>rfl) Tryz.func74 rfl rfl ?_
 repeat' first
  | (apply Dk.fe; repeat' first | exact rfl | (refine @id.{0} _ ?_; constructor))
  | intro _
  | exact rfl
  | (refine @id.{0} _ ?_; constructor)
  | apply Dk.loop 0 (V:=Unit) (fun (s:Int×Int) v=>[]) (fun s v=>[(1,.int .i64 (s.1)),(5,.int .i64 (s.2))]) () [(0,_)]
  | exact ()
theorem XR {x0:(List (List Int))} {cA:Value} {x1:Int}:Ct Tryz.prog 148 true (mK x0 x1) [cA,.int .i64 (x1)] [rJ cA x0] (fun y (_:Unit)=>[.int .i64 y]) (fun y _=>[]):=by
 refine ct (S:=Unit) (bp fun _ _=>rfl) Tryz.func148 rfl rfl ?_
 repeat' first
  | (apply Dk.fe; repeat' first | exact rfl | (refine @id.{0} _ ?_; constructor))
  | intro _
  | exact rfl
  | (refine @id.{0} _ ?_; constructor)
  | apply Dk.loop 0 (V:=Unit) (fun (s:Int×Int) v=>[]) (fun s v=>[(1,.int .i64 (s.1)),(5,.int .i64 (s.2))]) () [(0,_)]
  | apply RQ
  | exact ()
end Go.Proofs.YtcnehblmgfbfoaaGreat
