/- Walks by the calculus D. No condition beside those that each theorem names. -/
import Derived.Test.YtcnehblmgfbfoaaGreatDp
import Derived.Test.YtcnehblmgfbfoaaGreatDi
import Derived.Test.YtcnehblmgfbfoaaGreatMo
import Derived.Test.YtcnehblmgfbfoaaGreatDs
namespace Go.Proofs.YtcnehblmgfbfoaaGreat
open Go Go.Li Go.Dk
set_option linter.unusedVariables false
set_option maxHeartbeats 16000000
set_option maxRecDepth 100000
theorem Oi {x0:(List Int)} {dC:Value}:Ct Tryz.prog 61 true (fK x0) [dC] [rI dC x0] (fun y (v:Value)=>[v]) (fun y v=>[.own (aL 2 (aK .i64)) v y]):=by
 refine ct (S:=Unit) (bn fun _ _=>rfl) Tryz.func61 rfl rfl ?_
 repeat' first
  | (apply Dk.fe; repeat' first | exact rfl | (refine @id.{0} _ ?_; constructor))
  | intro _
  | exact rfl
  | (refine @id.{0} _ ?_; constructor)
  | apply Dk.q9 0 (V:=Unit) (A:=Value) _ (fun a (s:Int×(List Int)) v=>[.own (aL 2 (aK .i64)) a s.2]) (fun a s v=>[(3,a),(4,.int .i64 (s.1))]) () [(0,_)]
  | exact ()
theorem Zm {x0:(List (List Int))} {dC:Value}:Ct Tryz.prog 225 true (nN x0) [dC] [rJ dC x0] (fun y (v:Value)=>[v]) (fun y v=>[.own (aL 22 (aL 2 (aK .i64))) v y]):=by
 refine ct (S:=Unit) (bn fun _ _=>rfl) Tryz.func225 rfl rfl ?_
 repeat' first
  | (apply Dk.fe; repeat' first | exact rfl | (refine @id.{0} _ ?_; constructor))
  | intro _
  | exact rfl
  | (refine @id.{0} _ ?_; constructor)
  | apply Dk.q9 0 (V:=Unit) (A:=Value) _ (fun a (s:Int×(List (List Int))) v=>[.own (aL 22 (aL 2 (aK .i64))) a s.2]) (fun a s v=>[(3,a),(4,.int .i64 (s.1))]) () [(0,_)]
  | apply Oi
  | exact ()
theorem MT {x0:(List Int)} {dC:Value} {x1:(List Int)} {fM:Value}:Ct Tryz.prog 137 true (kE x0 x1) [dC,fM] [rI dC x0,rI fM x1] (fun y (_:Unit)=>[.bool y]) (fun y _=>[]):=by
 refine ct (S:=Unit) (bn fun _ _=>rfl) Tryz.func137 rfl rfl ?_
 repeat' first
  | (apply Dk.fe; repeat' first | exact rfl | (refine @id.{0} _ ?_; constructor))
  | intro _
  | exact rfl
  | (refine @id.{0} _ ?_; constructor)
  | apply Dk.loop 0 (V:=Unit) (fun (s:Int) v=>[]) (fun s v=>[(5,.int .i64 (s))]) () [(0,_),(1,_)]
  | apply Dk.quiet (id:=6) (by kernel_rfl)
  | exact ()
theorem Zo {x0:(List (List Int))} {dC:Value} {x1:(List (List Int))} {fM:Value}:Ct Tryz.prog 169 true (pE x0 x1) [dC,fM] [rJ dC x0,rJ fM x1] (fun y (_:Unit)=>[.bool y]) (fun y _=>[]):=by
 refine ct (S:=Unit) (bn fun _ _=>rfl) Tryz.func169 rfl rfl ?_
 repeat' first
  | (apply Dk.fe; repeat' first | exact rfl | (refine @id.{0} _ ?_; constructor))
  | intro _
  | exact rfl
  | (refine @id.{0} _ ?_; constructor)
  | apply Dk.loop 0 (V:=Unit) (fun (s:Int) v=>[]) (fun s v=>[(5,.int .i64 (s))]) () [(0,_),(1,_)]
  | apply Dk.quiet (id:=6) (by kernel_rfl)
  | apply MT
  | exact ()
theorem Io {x0:(List Int)} {dC:Value}:Ct Tryz.prog 106 true (gQ x0) [dC] [rI dC x0] (fun y (v:Value)=>[v]) (fun y v=>[.own (aL 2 (aK .i64)) v y]):=by
 refine ct (S:=Unit) (bn fun _ _=>rfl) Tryz.func106 rfl rfl ?_
 repeat' first
  | (apply Dk.fe; repeat' first | exact rfl | (refine @id.{0} _ ?_; constructor))
  | intro _
  | exact rfl
  | (refine @id.{0} _ ?_; constructor)
  | exact ()
theorem Zp {x0:(List (List Int))} {dC:Value}:Ct Tryz.prog 211 true (oL x0) [dC] [rJ dC x0] (fun y (v:Value)=>[v]) (fun y v=>[.own (aL 22 (aL 2 (aK .i64))) v y]):=by
 refine ct (S:=Unit) (bn fun _ _=>rfl) Tryz.func211 rfl rfl ?_
 repeat' first
  | (apply Dk.fe; repeat' first | exact rfl | (refine @id.{0} _ ?_; constructor))
  | intro _
  | exact rfl
  | (refine @id.{0} _ ?_; constructor)
  | apply Dk.loop 0 (V:=Value) (fun (s:(List (List Int))×Int) v=>[.own (aL 22 (aL 2 (aK .i64))) v s.1]) (fun s v=>[(3,v),(4,.int .i64 (s.2))]) _ [(0,_)]
  | apply Io
  | exact ()
theorem We {x0:(List (List Int))} {dC:Value} {x1:(List Int)} {fM:Value}:Ct Tryz.prog 57 true (eU x0 x1) [dC,fM] [rJ dC x0,rI fM x1] (fun y (_:Unit)=>[.int .i64 y]) (fun y _=>[]):=by
 refine ct (S:=Unit) (bn fun _ _=>rfl) Tryz.func57 rfl rfl ?_
 repeat' first
  | (apply Dk.fe; repeat' first | exact rfl | (refine @id.{0} _ ?_; constructor))
  | intro _
  | exact rfl
  | (refine @id.{0} _ ?_; constructor)
  | apply Dk.loop 0 (V:=Unit) (fun (s:Int) v=>[]) (fun s v=>[(5,.int .i64 (s))]) () [(0,_),(1,_)]
  | apply MT
  | exact ()
theorem Wh {x0:aJ} {bO cF aT aS:Value}:Ct Tryz.prog 93 true (iS x0) [.agg #[.int .i64 (x0.aE),bO,cF,aT,aS]] [rI bO x0.aH,rI cF x0.To,rI aT x0.aI,rJ aS x0.aG] (fun y (_:Unit)=>[.bool y]) (fun y _=>[]):=by
 refine ct (S:=Unit) (bn fun _ _=>rfl) Tryz.func93 rfl rfl ?_
 repeat' first
  | (apply Dk.fe; repeat' first | exact rfl | (refine @id.{0} _ ?_; constructor))
  | intro _
  | exact rfl
  | (refine @id.{0} _ ?_; constructor)
  | exact ()
theorem Zq {x0:aJ} {bO cF aT aS:Value} {x1:Int} {x2:Int}:Ct Tryz.prog 239 true (mM x0 x1 x2) [.agg #[.int .i64 (x0.aE),bO,cF,aT,aS],.int .i64 (x1),.int .i64 (x2)] [rI bO x0.aH,rI cF x0.To,rI aT x0.aI,rJ aS x0.aG] (fun y (_:Unit)=>[.bool y]) (fun y _=>[]):=by
 refine ct (S:=Unit) (bn fun _ _=>rfl) Tryz.func239 rfl rfl ?_
 repeat' first
  | (apply Dk.fe; repeat' first | exact rfl | (refine @id.{0} _ ?_; constructor))
  | intro _
  | exact rfl
  | (refine @id.{0} _ ?_; constructor)
  | apply Dk.quiet (id:=1) (by kernel_rfl)
  | exact ()
theorem Zr {x0:aN} {aW bG aQ aO aY bH aR aP bN bU:Value}:Ct Tryz.prog 152 true (mN x0) [.agg #[.int .i64 (x0.aA.aE),aW,bG,aQ,aO,.int .i64 (x0.aF.aE),aY,bH,aR,aP,bN,bU]] [rI aW x0.aA.aH,rI bG x0.aA.To,rI aQ x0.aA.aI,rJ aO x0.aA.aG,rI aY x0.aF.aH,rI bH x0.aF.To,rI aR x0.aF.aI,rJ aP x0.aF.aG,rI bN x0.aE,rI bU x0.ab] (fun y (_:Unit)=>[.bool y]) (fun y _=>[]):=by
 refine ct (S:=Unit) (bn fun _ _=>rfl) Tryz.func152 rfl rfl ?_
 repeat' first
  | (apply Dk.fe; repeat' first | exact rfl | (refine @id.{0} _ ?_; constructor))
  | intro _
  | exact rfl
  | (refine @id.{0} _ ?_; constructor)
  | apply Dk.loop 0 (V:=Unit) (fun (s:Int) v=>[]) (fun s v=>[(3,.int .i64 (s))]) () [(1,_)]
  | apply Dk.loop 2 (V:=Unit) (fun (s:Int) v=>[]) (fun s v=>[(4,.int .i64 (s))]) () [(1,_),(3,_)]
  | apply Dk.quiet (id:=7) (by kernel_rfl)
  | apply Zq
  | exact ()
theorem Tf {x0:Int} {x1:Int} {x2:Int}:Ct Tryz.prog 179 true (mD x0 x1 x2) [.int .i64 (x0),.int .i64 (x1),.int .i64 (x2)] [] (fun y (_:Unit)=>[.bool y]) (fun y _=>[]):=by
 refine ct (S:=Unit) (bn fun _ _=>rfl) Tryz.func179 rfl rfl ?_
 repeat' first
  | (apply Dk.fe; repeat' first | exact rfl | (refine @id.{0} _ ?_; constructor))
  | intro _
  | exact rfl
  | (refine @id.{0} _ ?_; constructor)
  | exact ()
theorem MU {x0:(List Int)} {dC:Value} {x1:Int}:Ct Tryz.prog 123 true (iO x0 x1) [dC,.int .i64 (x1)] [rI dC x0] (fun y (_:Unit)=>[.bool y]) (fun y _=>[]):=by
 refine ct (S:=Unit) (bn fun _ _=>rfl) Tryz.func123 rfl rfl ?_
 repeat' first
  | (apply Dk.fe; repeat' first | exact rfl | (refine @id.{0} _ ?_; constructor))
  | intro _
  | exact rfl
  | (refine @id.{0} _ ?_; constructor)
  | apply Dk.loop 0 (V:=Unit) (fun (s:Int) v=>[]) (fun s v=>[(9,.int .i64 (s))]) () [(1,_),(7,_),(8,_)]
  | apply Tf
  | exact ()
theorem Zs {x0:(List Int)} {dC:Value} {x1:(List Int)} {fM:Value}:Ct Tryz.prog 255 true (pL x0 x1) [dC,fM] [rI dC x0,rI fM x1] (fun y (_:Unit)=>[.int .i64 y]) (fun y _=>[]):=by
 refine ct (S:=Unit) (bn fun _ _=>rfl) Tryz.func255 rfl rfl ?_
 repeat' first
  | (apply Dk.fe; repeat' first | exact rfl | (refine @id.{0} _ ?_; constructor))
  | intro _
  | exact rfl
  | (refine @id.{0} _ ?_; constructor)
  | apply Dk.loop 0 (V:=Unit) (fun (s:Int) v=>[]) (fun s v=>[(8,.int .i64 (s))]) () [(0,_),(1,_),(7,_)]
  | apply Dk.quiet (id:=6) (by kernel_rfl)
  | apply Dk.quiet (id:=7) (by kernel_rfl)
  | exact ()
theorem Zt {x0:(List Int)} {dC:Value} {x1:(List Int)} {fM:Value}:Ct Tryz.prog 165 true (nG x0 x1) [dC,fM] [rI dC x0,rI fM x1] (fun y (_:Unit)=>[.bool y]) (fun y _=>[]):=by
 refine ct (S:=Unit) (bn fun _ _=>rfl) Tryz.func165 rfl rfl ?_
 repeat' first
  | (apply Dk.fe; repeat' first | exact rfl | (refine @id.{0} _ ?_; constructor))
  | intro _
  | exact rfl
  | (refine @id.{0} _ ?_; constructor)
  | apply Zs
  | exact ()
theorem Zu {x0:(List (List Int))} {dC:Value} {x1:Int}:Ct Tryz.prog 114 true (nV x0 x1) [dC,.int .i64 (x1)] [rJ dC x0] (fun y (v:Value)=>[v]) (fun y v=>[.own (aL 2 (aK .i64)) v y]):=by
 refine ct (S:=Unit) (bn fun _ _=>rfl) Tryz.func114 rfl rfl ?_
 repeat' first
  | (apply Dk.fe; repeat' first | exact rfl | (refine @id.{0} _ ?_; constructor))
  | intro _
  | exact rfl
  | (refine @id.{0} _ ?_; constructor)
  | apply Dk.loop 0 (V:=Value) (fun (s:(List Int)×Int) v=>[.own (aL 2 (aK .i64)) v s.1]) (fun s v=>[(5,v),(11,.int .i64 (s.2))]) _ [(1,_),(9,_),(10,_)]
  | exact ()
theorem Zv {xs:List cQ} {a:cQ} {p q:Addr} {k0 k1 k2 k3 k4 k5 k6 k7 k8:Value}:Ct Tryz.prog 143 true (fV xs a) [.pointer (some p),.pointer (some q)] [.bb q [.int .i64 a.X,.int .i64 a.H],.bb p [k0,k1,k2,k3,k4,k5,k6,k7,k8],.rd false (bB (lv sI)) k6 xs] (fun y (_:Unit)=>[.int .i64 y]) (fun _ _=>[]):=by
 refine ct (S:=Unit) (bn fun _ _=>rfl) Tryz.func143 rfl rfl ?_
 repeat' first
  | (apply Dk.fe; repeat' first | exact rfl | (refine @id.{0} _ ?_; constructor))
  | intro _
  | exact rfl
  | (refine @id.{0} _ ?_; constructor)
  | apply Dk.loop 0 (V:=Unit) (fun (s:Int) _=>[]) (fun s _=>[(12,.int .i64 s)]) () [(0,_),(1,_),(10,_),(11,_)]
  | apply Dk.quiet (id:=4) (by kernel_rfl)
  | exact ()
end Go.Proofs.YtcnehblmgfbfoaaGreat
