/- Walks by the calculus D. No condition beside those that each theorem names. -/
import Derived.Test.YtcnehblmgfbfoaaGreatDp
import Derived.Test.YtcnehblmgfbfoaaGreatDi
import Derived.Test.YtcnehblmgfbfoaaGreatMo
import Derived.Test.YtcnehblmgfbfoaaGreatDs
import Derived.Test.YtcnehblmgfbfoaaGreatWe
import Derived.Test.YtcnehblmgfbfoaaGreatWg
import Derived.Test.YtcnehblmgfbfoaaGreatWh
import Derived.Test.YtcnehblmgfbfoaaGreatWi
import Derived.Test.YtcnehblmgfbfoaaGreatWj
import Derived.Test.YtcnehblmgfbfoaaGreatWk
import Derived.Test.YtcnehblmgfbfoaaGreatWl
namespace Go.Proofs.YtcnehblmgfbfoaaGreat
open Go Go.Li Go.Dk
set_option linter.unusedVariables false
set_option maxHeartbeats 16000000
set_option maxRecDepth 100000
theorem c62 {x0:bB} {cD:Addr} {aQ aU aO aL aR aV aP aN aZ bA bM bN:Value}:Ct Tryz.prog 62 true (kJ x0) [.pointer (some (cD))] [.aw cD [.int .i64 (x0.On.aB.aD),aQ,aU,aO,aL,.int .i64 (x0.On.aE.aD),aR,aV,aP,aN,aZ,bA,bM,bN],rI aQ x0.On.aB.aF,rI aU x0.On.aB.To,rI aO x0.On.aB.aG,rJ aL x0.On.aB.aC,rI aR x0.On.aE.aF,rI aV x0.On.aE.To,rI aP x0.On.aE.aG,rJ aN x0.On.aE.aC,rI aZ x0.On.aD,rI bA x0.On.ab,rI bM x0.Unit,rI bN x0.ba] (fun y (v:Value×Value×Value×Value×Value)=>[.agg #[.int .i64 y.1.aD,v.1,v.2.1,v.2.2.1,v.2.2.2.1],v.2.2.2.2,.int .i64 y.2.2]) (fun y v=>[.own (aI 2 (aJ .i64)) v.1 y.1.aF,.own (aI 2 (aJ .i64)) v.2.1 y.1.To,.own (aI 2 (aJ .i64)) v.2.2.1 y.1.aG,.own (aI 22 (aI 2 (aJ .i64))) v.2.2.2.1 y.1.aC,.own (aI 22 (aI 2 (aJ .i64))) v.2.2.2.2 y.2.1]):=by
 refine ct (S:=Unit) (bp fun _ _=>rfl) Tryz.func62 rfl rfl ?_
 repeat' first
  | (apply Dk.fe; repeat' first | exact rfl | (refine @id.{0} _ ?_; constructor))
  | intro _
  | exact rfl
  | (refine @id.{0} _ ?_; constructor)
  | apply Sj
  | apply Yp
  | exact ()
theorem c63 {x0:bB} {p:Addr} {sC sD sE sF sG sH sI sJ fo fa fu fj:Value}:Ct Tryz.prog 63 false (jL x0) [.pointer (some p)] [.aw p [.int .i64 x0.On.aB.aD,sC,sD,sE,sF,.int .i64 x0.On.aE.aD,sG,sH,sI,sJ,fo,fa,fu,fj],rI sC x0.On.aB.aF,rI sD x0.On.aB.To,rI sE x0.On.aB.aG,rJ sF x0.On.aB.aC,rI sG x0.On.aE.aF,rI sH x0.On.aE.To,rI sI x0.On.aE.aG,rJ sJ x0.On.aE.aC,rI fo x0.On.aD,rI fa x0.On.ab,rI fu x0.Unit,rI fj x0.ba] (fun y (v:Nat×Value×Value×Value×Value×Value×Value×Value)=>[(match y.1 with | none=>Value.pointer none | some _=>.pointer (some ⟨v.1,0,none⟩)),.int .i64 y.2]) (fun y v=>match y.1 with | none=>[] | some m=>[.aw ⟨v.1,0,none⟩ [.pointer (some p),.int .i64 m.1.aD,v.2.1,v.2.2.1,v.2.2.2.1,v.2.2.2.2.1,v.2.2.2.2.2.1,v.2.2.2.2.2.2.1,v.2.2.2.2.2.2.2],rI v.2.1 m.1.aF,rI v.2.2.1 m.1.To,rI v.2.2.2.1 m.1.aG,rJ v.2.2.2.2.1 m.1.aC,.rd false (bE (kn rq)) v.2.2.2.2.2.1 m.2.1,rJ v.2.2.2.2.2.2.1 m.2.2.1,.rd false (o3 Value.string (Value.int .i64)) v.2.2.2.2.2.2.2 m.2.2.2]):=by
 refine ct (S:=Unit) OG Tryz.func63 rfl rfl ?_
 repeat' first
  | (apply Dk.fe; repeat' first | exact rfl | (refine @id.{0} _ ?_; constructor))
  | intro _
  | exact rfl
  | (refine @id.{0} _ ?_; constructor)
  | apply Sj
  | apply Yq
  | exact ()
 all_goals try first | exact Value.nilFunc | exact (0:Nat)
theorem vQ {x0:bB} {sC sD sE sF sG sH sI sJ fo fa fu fj:Value}:Ct Tryz.prog 11 true (dL x0) [.agg #[.int .i64 x0.On.aB.aD,sC,sD,sE,sF,.int .i64 x0.On.aE.aD,sG,sH,sI,sJ,fo,fa,fu,fj]] [rI sC x0.On.aB.aF,rI sD x0.On.aB.To,rI sE x0.On.aB.aG,rJ sF x0.On.aB.aC,rI sG x0.On.aE.aF,rI sH x0.On.aE.To,rI sI x0.On.aE.aG,rJ sJ x0.On.aE.aC,rI fo x0.On.aD,rI fa x0.On.ab,rI fu x0.Unit,rI fj x0.ba] (fun y (v:Value×Value×Value×Value×Value×Value×Value×Value×Value×Value)=>[.agg #[.int .i64 y.1.aB.aD,v.1,v.2.1,v.2.2.1,v.2.2.2.1,.int .i64 y.1.aE.aD,v.2.2.2.2.1,v.2.2.2.2.2.1,v.2.2.2.2.2.2.1,v.2.2.2.2.2.2.2.1,v.2.2.2.2.2.2.2.2.1,v.2.2.2.2.2.2.2.2.2],.int .i64 y.2]) (fun y v=>[.own (aI 2 (aJ .i64)) v.1 y.1.aB.aF,.own (aI 2 (aJ .i64)) v.2.1 y.1.aB.To,.own (aI 2 (aJ .i64)) v.2.2.1 y.1.aB.aG,.own (aI 22 (aI 2 (aJ .i64))) v.2.2.2.1 y.1.aB.aC,.own (aI 2 (aJ .i64)) v.2.2.2.2.1 y.1.aE.aF,.own (aI 2 (aJ .i64)) v.2.2.2.2.2.1 y.1.aE.To,.own (aI 2 (aJ .i64)) v.2.2.2.2.2.2.1 y.1.aE.aG,.own (aI 22 (aI 2 (aJ .i64))) v.2.2.2.2.2.2.2.1 y.1.aE.aC,.own (aI 2 (aJ .i64)) v.2.2.2.2.2.2.2.2.1 y.1.aD,.own (aI 2 (aJ .i64)) v.2.2.2.2.2.2.2.2.2 y.1.ab]):=by
 refine ct (S:=Unit) (bp fun _ _=>rfl) Tryz.func11 rfl rfl ?_
 repeat' first
  | (apply Dk.fe; repeat' first | exact rfl | (refine @id.{0} _ ?_; constructor))
  | intro _
  | exact rfl
  | (apply Dk.PN (e:=37); · (repeat (first | exact Dk.dh.row | apply Dk.dh.there)))
  | (refine @id.{0} _ ?_; constructor)
  | apply c62
  | apply c63
  | apply N8
  | exact ()
theorem c3 {x0:bB} {aQ aU aO aL aR aV aP aN aZ bA bM bN:Value}:Ct Tryz.prog 3 true (eH x0) [.agg #[.int .i64 (x0.On.aB.aD),aQ,aU,aO,aL,.int .i64 (x0.On.aE.aD),aR,aV,aP,aN,aZ,bA,bM,bN]] [rI aQ x0.On.aB.aF,rI aU x0.On.aB.To,rI aO x0.On.aB.aG,rJ aL x0.On.aB.aC,rI aR x0.On.aE.aF,rI aV x0.On.aE.To,rI aP x0.On.aE.aG,rJ aN x0.On.aE.aC,rI aZ x0.On.aD,rI bA x0.On.ab,rI bM x0.Unit,rI bN x0.ba] (fun y (_:Unit)=>[.bool y]) (fun y _=>[]):=by
 refine ct (S:=Unit) (bp fun _ _=>rfl) Tryz.func3 rfl rfl ?_
 repeat' first
  | (apply Dk.fe; repeat' first | exact rfl | (refine @id.{0} _ ?_; constructor))
  | intro _
  | exact rfl
  | (refine @id.{0} _ ?_; constructor)
  | apply Dk.any (id:=10) 3 [] [] [[],[],[1]] (by kernel_rfl)
  | apply c8
  | apply vP
  | apply c9
  | apply vQ
  | apply BE
  | apply DR
  | apply c14
  | apply UD
  | apply c16
  | exact ()
theorem lP {w:World} {x0:bB} {aQ:Value} {w9:List Nat} {aU:Value} {yo:List Nat} {aO:Value} {ur:List Nat} {aL:Value} {tb:List Nat} {aR:Value} {xa:List Nat} {aV:Value} {yp:List Nat} {aP:Value} {uv:List Nat} {aN:Value} {tc:List Nat} {aZ:Value} {Ae:List Nat} {bA:Value} {AQ:List Nat} {bM:Value} {Jm:List Nat} {bN:Value} {Jn:List Nat} (xc:(bE (aJ .i64)).rep w.heap [aQ] x0.On.aB.aF w9) (yq:(bE (aJ .i64)).rep w.heap [aU] x0.On.aB.To yo) (uw:(bE (aJ .i64)).rep w.heap [aO] x0.On.aB.aG ur) (td:(bE (bE (aJ .i64))).rep w.heap [aL] x0.On.aB.aC tb) (xd:(bE (aJ .i64)).rep w.heap [aR] x0.On.aE.aF xa) (yr:(bE (aJ .i64)).rep w.heap [aV] x0.On.aE.To yp) (ux:(bE (aJ .i64)).rep w.heap [aP] x0.On.aE.aG uv) (te:(bE (bE (aJ .i64))).rep w.heap [aN] x0.On.aE.aC tc) (Af:(bE (aJ .i64)).rep w.heap [aZ] x0.On.aD Ae) (AR:(bE (aJ .i64)).rep w.heap [bA] x0.On.ab AQ) (Jo:(bE (aJ .i64)).rep w.heap [bM] x0.Unit Jm) (Jp:(bE (aJ .i64)).rep w.heap [bN] x0.ba Jn) {y:(Bool)} (hm:eH x0=some y):Calls Tryz.prog 3 #[.agg #[.int .i64 (x0.On.aB.aD),aQ,aU,aO,aL,.int .i64 (x0.On.aE.aD),aR,aV,aP,aN,aZ,bA,bM,bN]] w (fun e w'=>e = .returned (.bool y)∧ao [] w w'):=
 Np c3 (.fact (l8 xc) (.fact (l8 yq) (.fact (l8 uw) (.fact (l8 td) (.fact (l8 xd) (.fact (l8 yr) (.fact (l8 ux) (.fact (l8 te) (.fact (l8 Af) (.fact (l8 AR) (.fact (l8 Jo) (.fact (l8 Jp) (.nil))))))))))))) hm
end Go.Proofs.YtcnehblmgfbfoaaGreat
