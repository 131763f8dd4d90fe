/- Walks by the calculus D. No condition beside those that each theorem names. -/
import Derived.Test.YtcnehblmgfbfoaaGreatDp
import Derived.Test.YtcnehblmgfbfoaaGreatDi
import Derived.Test.YtcnehblmgfbfoaaGreatMo
import Derived.Test.YtcnehblmgfbfoaaGreatDs
namespace Go.Proofs.YtcnehblmgfbfoaaGreat
open Go Go.Li Go.Dk
set_option linter.unusedVariables false
set_option maxHeartbeats 16000000
set_option maxRecDepth 100000
theorem Of {x0:(List Int)} {dC:Value} {x1:Int}:Ct Tryz.prog 54 true (fJ x0 x1) [dC,.int .i64 (x1)] [rI dC x0] (fun y (_:Unit)=>[.int .i64 y]) (fun y _=>[]):=by
 refine ct (S:=Unit) (bn fun _ _=>rfl) Tryz.func54 rfl rfl ?_
 repeat' first
  | (apply Dk.fe; repeat' first | exact rfl | (refine @id.{0} _ ?_; constructor))
  | intro _
  | exact rfl
  | (refine @id.{0} _ ?_; constructor)
  | exact ()
theorem Zc {x0:(List (List Int))} {dC:Value} {x1:Int}:Ct Tryz.prog 217 true (nM x0 x1) [dC,.int .i64 (x1)] [rJ dC x0] (fun y (_:Unit)=>[.int .i64 y]) (fun y _=>[]):=by
 refine ct (S:=Unit) (bn fun _ _=>rfl) Tryz.func217 rfl rfl ?_
 repeat' first
  | (apply Dk.fe; repeat' first | exact rfl | (refine @id.{0} _ ?_; constructor))
  | intro _
  | exact rfl
  | (refine @id.{0} _ ?_; constructor)
  | apply Dk.loop 0 (V:=Unit) (fun (s:Int×Int) v=>[]) (fun s v=>[(1,.int .i64 (s.1)),(5,.int .i64 (s.2))]) () [(0,_)]
  | apply Of
  | exact ()
theorem Zd {x0:aJ} {bO cF aT aS:Value}:Ct Tryz.prog 175 true (nX x0) [.agg #[.int .i64 (x0.aE),bO,cF,aT,aS]] [rI bO x0.aH,rI cF x0.To,rI aT x0.aI,rJ aS x0.aG] (fun y (_:Unit)=>[.int .i64 y.1,.int .i64 y.2.1,.int .i64 y.2.2.1,.int .i64 y.2.2.2]) (fun y _=>[]):=by
 refine ct (S:=Unit) (bn fun _ _=>rfl) Tryz.func175 rfl rfl ?_
 repeat' first
  | (apply Dk.fe; repeat' first | exact rfl | (refine @id.{0} _ ?_; constructor))
  | intro _
  | exact rfl
  | (refine Dk.z7 (t:=65) rfl ?_ ?_)
  | (refine Dk.z7 (t:=81) rfl ?_ ?_)
  | (refine @id.{0} _ ?_; constructor)
  | apply Dk.loop 0 (V:=Unit) (fun (s:Int) v=>[]) (fun s v=>[(7,.int .i64 (s))]) () [(1,_),(6,_)]
  | apply Dk.loop 2 (V:=Unit) (fun (s:Int) v=>[]) (fun s v=>[(8,.int .i64 (s))]) () [(1,_),(6,_)]
  | apply Dk.loop 4 (V:=Unit) (fun (s:Int) v=>[]) (fun s v=>[(9,.int .i64 (s))]) () [(1,_),(6,_),(8,_)]
  | apply Dk.loop 6 (V:=Unit) (fun (s:Int) v=>[]) (fun s v=>[(10,.int .i64 (s))]) () [(1,_),(6,_),(8,_),(9,_)]
  | apply Dk.quiet (id:=5) (by kernel_rfl)
  | apply Dk.quiet (id:=13) (by kernel_rfl)
  | apply Dk.quiet (id:=17) (by kernel_rfl)
  | exact ()
theorem Ze {x0:(List (List Int))} {dC:Value} {x1:Int}:Ct Tryz.prog 223 true (mB x0 x1) [dC,.int .i64 (x1)] [rJ dC x0] (fun y (v:Value)=>[v]) (fun y v=>[.own (aL 2 (aK .i64)) v y]):=by
 refine ct (S:=Unit) (bn fun _ _=>rfl) Tryz.func223 rfl rfl ?_
 repeat' first
  | (apply Dk.fe; repeat' first | exact rfl | (refine @id.{0} _ ?_; constructor))
  | intro _
  | exact rfl
  | (refine @id.{0} _ ?_; constructor)
  | apply Dk.loop 0 (V:=Value) (fun (s:(List Int)×Int) v=>[.own (aL 2 (aK .i64)) v s.1]) (fun s v=>[(5,v),(6,.int .i64 (s.2))]) _ [(0,_),(1,_)]
  | exact ()
theorem Og {x0:(List Int)} {dC:Value}:Ct Tryz.prog 87 true (gM x0) [dC] [rI dC x0] (fun y (v:Value)=>[v]) (fun y v=>[.own (aL 2 (aK .i64)) v y]):=by
 refine ct (S:=Unit) (bn fun _ _=>rfl) Tryz.func87 rfl rfl ?_
 repeat' first
  | (apply Dk.fe; repeat' first | exact rfl | (refine @id.{0} _ ?_; constructor))
  | intro _
  | exact rfl
  | (refine @id.{0} _ ?_; constructor)
  | exact ()
theorem Zf {x0:(List (List Int))} {dC:Value}:Ct Tryz.prog 198 true (oW x0) [dC] [rJ dC x0] (fun y (v:Value)=>[v]) (fun y v=>[.own (aL 22 (aL 2 (aK .i64))) v y]):=by
 refine ct (S:=Unit) (bn fun _ _=>rfl) Tryz.func198 rfl rfl ?_
 repeat' first
  | (apply Dk.fe; repeat' first | exact rfl | (refine @id.{0} _ ?_; constructor))
  | intro _
  | exact rfl
  | (refine @id.{0} _ ?_; constructor)
  | apply Dk.loop 0 (V:=Value) (fun (s:(List (List Int))×Int) v=>[.own (aL 22 (aL 2 (aK .i64))) v s.1]) (fun s v=>[(3,v),(11,.int .i64 (s.2))]) _ [(9,_),(10,_)]
  | apply Og
  | exact ()
theorem Zg {x0:Int}:Ct Tryz.prog 172 true (nJ x0) [.int .i64 (x0)] [] (fun y (v:Value)=>[v]) (fun y v=>[.own (aL 2 (aK .i64)) v y]):=by
 refine ct (S:=Unit) (bn fun _ _=>rfl) Tryz.func172 rfl rfl ?_
 repeat' first
  | (apply Dk.fe; repeat' first | exact rfl | (refine @id.{0} _ ?_; constructor))
  | intro _
  | exact rfl
  | (refine @id.{0} _ ?_; constructor)
  | apply Dk.q9 0 (V:=Unit) (A:=Value) _ (fun a (s:Int×(List Int)) v=>[.own (aL 2 (aK .i64)) a s.2]) (fun a s v=>[(3,a),(9,.int .i64 (s.1))]) () [(8,_)]
  | exact ()
theorem Te {x0:(List (List Int))} {dC:Value}:Ct Tryz.prog 129 true (pM x0) [dC] [rJ dC x0] (fun y (_:Unit)=>[.string y]) (fun y _=>[]):=by
 refine ct (S:=Unit) (bn fun _ _=>rfl) Tryz.func129 rfl rfl ?_
 repeat' first
  | (apply Dk.fe; repeat' first | exact rfl | (refine @id.{0} _ ?_; constructor))
  | intro _
  | exact rfl
  | (refine @id.{0} _ ?_; constructor)
  | apply Dk.loop 0 (V:=Value) (fun (s:(List Int)×Int) v=>[.own (aL 5 (aK .u8)) v s.1]) (fun s v=>[(3,v),(11,.int .i64 (s.2))]) _ [(9,_),(10,_)]
  | apply Dk.loop 2 (V:=Value) (fun (s:(List Int)×Int) v=>[.own (aL 5 (aK .u8)) v s.1]) (fun s v=>[(3,v),(17,.int .i64 (s.2))]) _ [(9,_),(10,_),(11,_),(15,_),(16,_)]
  | exact ()
theorem Zh {x0:List (List Int)} {v0:Value}:Ct Tryz.prog 192 true (oX x0) [v0] [rJ v0 x0] (fun _ (v:Value)=>[v]) (fun y v=>[.own (qU Value.string (Value.int .i64)) v y]):=by
 refine ct (S:=Unit) (bn fun _ _=>rfl) Tryz.func192 rfl rfl ?_
 repeat' first
  | (apply Dk.fe; repeat' first | exact rfl | (refine @id.{0} _ ?_; constructor))
  | intro _
  | exact rfl
  | (refine @id.{0} _ ?_; constructor)
  | apply Dk.loop 0 (V:=Value) (fun (s:List (ByteArray×Int)×Int) v=>[.own (qU Value.string (Value.int .i64)) v s.1]) (fun s v=>[(3,v),(9,.int .i64 s.2)]) _ [(7,_),(8,_)]
  | apply Te
  | exact ()
theorem MS {x1 x2 x3:Int} {mm:List (ByteArray×Int)} {p:Addr} {k0 k1 k2 k3 k4 k5 k6 k7 k8:Value}:Ct Tryz.prog 144 true (eZ mm x1 x2 x3) [.pointer (some p),.int .i64 x1,.int .i64 x2,.int .i64 x3] [.bb p [k0,k1,k2,k3,k4,k5,k6,k7,k8],.rd false (qU Value.string (Value.int .i64)) k8 mm] (fun y (_:Unit)=>[.int .i64 y]) (fun _ _=>[]):=by
 refine ct (S:=Unit) (bn fun _ _=>rfl) Tryz.func144 rfl rfl ?_
 repeat' first
  | (apply Dk.fe; repeat' first | exact rfl | (refine @id.{0} _ ?_; constructor))
  | intro _
  | exact rfl
  | apply Dk.lkq (t:=144)
  | (refine @id.{0} _ ?_; constructor)
  | apply Dk.any (id:=1) 10 [] [] [[],[0],[0,1],[0,1,2],[],[],[],[4,5,6],[4,5,6,7],[4,5,6,7,8]] (by kernel_rfl)
  | apply Te
  | exact ()
theorem Zi {x0:Int} {x1:bI} {pU iZ:Addr} {eO fA dY dP eP fB dZ dQ fN fS eL eW dW dN eM eX dX dO fF fO mJ jY:Value}:Ct Tryz.prog 156 true (iB x0 x1) [.int .i64 (x0),.pointer (some (pU))] [.bb pU [.pointer (some (iZ))],.bb iZ [.int .i64 (x1.Left.aA.aE),eO,fA,dY,dP,.int .i64 (x1.Left.aF.aE),eP,fB,dZ,dQ,fN,fS,.int .i64 (x1.ae.aA.aE),eL,eW,dW,dN,.int .i64 (x1.ae.aF.aE),eM,eX,dX,dO,fF,fO,mJ,jY],rI eO x1.Left.aA.aH,rI fA x1.Left.aA.To,rI dY x1.Left.aA.aI,rJ dP x1.Left.aA.aG,rI eP x1.Left.aF.aH,rI fB x1.Left.aF.To,rI dZ x1.Left.aF.aI,rJ dQ x1.Left.aF.aG,rI fN x1.Left.aE,rI fS x1.Left.ab,rI eL x1.ae.aA.aH,rI eW x1.ae.aA.To,rI dW x1.ae.aA.aI,rJ dN x1.ae.aA.aG,rI eM x1.ae.aF.aH,rI eX x1.ae.aF.To,rI dX x1.ae.aF.aI,rJ dO x1.ae.aF.aG,rI fF x1.ae.aE,rI fO x1.ae.ab,rI mJ x1.Unit,rI jY x1.aw] (fun y (v:Nat)=>[(match y with | none=>Value.pointer none | some _=>.pointer (some (⟨v,0,none⟩)))]) (fun y v=>match y with | none=>[] | some m0=>[.row v [.int .i64 (m0.X),.int .i64 (m0.H)] 187]):=by
 refine ct (S:=Unit) (by intro _ y v; obtain _ | _:=y <;> rfl) Tryz.func156 rfl rfl ?_
 repeat' first
  | (apply Dk.fe; repeat' first | exact rfl | (refine @id.{0} _ ?_; constructor))
  | intro _
  | exact rfl
  | (refine @id.{0} _ ?_; constructor)
  | apply Dk.any (id:=1) 22 [] [] [[],[0],[0,1],[0,1,2],[0,1,2,3],[],[0,1,2,3,4,5],[0,1,2,3,4,5,6],[],[8],[8,9],[8,9,10],[8,9,10,11],[],[13],[13,14],[13,14,15],[],[13,14,15,16,17],[13,14,15,16,17,18],[8,9,10,11,12,13,14,15,16,17,18,19],[8,9,10,11,12,13,14,15,16,17,18,19,20]] (by kernel_rfl)
  | exact ()
 all_goals try first | exact Value.nilFunc | exact (0:Nat)
theorem Zj {x0:Int} {x1:bI} {pU iZ:Addr} {eO fA dY dP eP fB dZ dQ fN fS eL eW dW dN eM eX dX dO fF fO mJ jY:Value}:Ct Tryz.prog 157 true (iC x0 x1) [.int .i64 (x0),.pointer (some (pU))] [.bb pU [.pointer (some (iZ))],.bb iZ [.int .i64 (x1.Left.aA.aE),eO,fA,dY,dP,.int .i64 (x1.Left.aF.aE),eP,fB,dZ,dQ,fN,fS,.int .i64 (x1.ae.aA.aE),eL,eW,dW,dN,.int .i64 (x1.ae.aF.aE),eM,eX,dX,dO,fF,fO,mJ,jY],rI eO x1.Left.aA.aH,rI fA x1.Left.aA.To,rI dY x1.Left.aA.aI,rJ dP x1.Left.aA.aG,rI eP x1.Left.aF.aH,rI fB x1.Left.aF.To,rI dZ x1.Left.aF.aI,rJ dQ x1.Left.aF.aG,rI fN x1.Left.aE,rI fS x1.Left.ab,rI eL x1.ae.aA.aH,rI eW x1.ae.aA.To,rI dW x1.ae.aA.aI,rJ dN x1.ae.aA.aG,rI eM x1.ae.aF.aH,rI eX x1.ae.aF.To,rI dX x1.ae.aF.aI,rJ dO x1.ae.aF.aG,rI fF x1.ae.aE,rI fO x1.ae.ab,rI mJ x1.Unit,rI jY x1.aw] (fun y (_:Unit)=>[.int .i64 y]) (fun y _=>[]):=by
 refine ct (S:=Unit) (bn fun _ _=>rfl) Tryz.func157 rfl rfl ?_
 repeat' first
  | (apply Dk.fe; repeat' first | exact rfl | (refine @id.{0} _ ?_; constructor))
  | intro _
  | exact rfl
  | (refine @id.{0} _ ?_; constructor)
  | exact ()
theorem Oh {x0:(List Int)} {dC:Value} {x1:(List Int)} {fM:Value}:Ct Tryz.prog 70 true (fU x0 x1) [dC,fM] [rI dC x0,rI fM x1] (fun y (_:Unit)=>[.bool y]) (fun y _=>[]):=by
 refine ct (S:=Unit) (bn fun _ _=>rfl) Tryz.func70 rfl rfl ?_
 repeat' first
  | (apply Dk.fe; repeat' first | exact rfl | (refine @id.{0} _ ?_; constructor))
  | intro _
  | exact rfl
  | (refine @id.{0} _ ?_; constructor)
  | apply Dk.loop 0 (V:=Unit) (fun (s:Int) v=>[]) (fun s v=>[(5,.int .i64 (s))]) () [(0,_),(1,_)]
  | apply Dk.quiet (id:=6) (by kernel_rfl)
  | exact ()
theorem Zk {x0:(List (List Int))} {dC:Value} {x1:(List (List Int))} {fM:Value}:Ct Tryz.prog 146 true (oT x0 x1) [dC,fM] [rJ dC x0,rJ fM x1] (fun y (_:Unit)=>[.bool y]) (fun y _=>[]):=by
 refine ct (S:=Unit) (bn fun _ _=>rfl) Tryz.func146 rfl rfl ?_
 repeat' first
  | (apply Dk.fe; repeat' first | exact rfl | (refine @id.{0} _ ?_; constructor))
  | intro _
  | exact rfl
  | (refine @id.{0} _ ?_; constructor)
  | apply Dk.loop 0 (V:=Unit) (fun (s:Int) v=>[]) (fun s v=>[(5,.int .i64 (s))]) () [(0,_),(1,_)]
  | apply Dk.quiet (id:=6) (by kernel_rfl)
  | apply Oh
  | exact ()
end Go.Proofs.YtcnehblmgfbfoaaGreat
