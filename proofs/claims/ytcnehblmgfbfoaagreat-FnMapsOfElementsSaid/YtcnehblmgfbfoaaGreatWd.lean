/- Walks by the calculus D. No condition beside those that each theorem names. -/
import Derived.Test.YtcnehblmgfbfoaaGreatDp
import Derived.Test.YtcnehblmgfbfoaaGreatDi
import Derived.Test.YtcnehblmgfbfoaaGreatMo
import Derived.Test.YtcnehblmgfbfoaaGreatDs
namespace Go.Proofs.YtcnehblmgfbfoaaGreat
open Go Go.Li Go.Dk
set_option linter.unusedVariables false
set_option maxHeartbeats 16000000
set_option maxRecDepth 100000
theorem c79 {x0:(List Int)} {cO:Value}:Ct Tryz.prog 79 true (nU x0) [cO] [.rd false (aV (aN .u8)) cO x0] (fun y (v:Nat)=>[(match y with | none=>Value.pointer none | some _=>.pointer (some (⟨v,0,none⟩)))]) (fun y v=>match y with | none=>[] | some m0=>[.row v [cO,.int .i64 (m0.At),.int .u64 (m0.aj)] 194]):=by
 refine ct (S:=Unit) (by intro _ y v; obtain _ | _:=y <;> rfl) Tryz.func79 rfl rfl ?_
 repeat' first
  | (apply Dk.fe; repeat' first | exact rfl | (refine @id.{0} _ ?_; constructor))
  | intro _
  | exact rfl
  | apply Dk.D.rV (d:=9)
  | apply Dk.AD.rV (d:=9)
  | apply Dk.D.rV (d:=27)
  | apply Dk.AD.rV (d:=27)
  | apply Dk.D.rV (d:=33)
  | apply Dk.AD.rV (d:=33)
  | apply Dk.D.rV (d:=34)
  | apply Dk.AD.rV (d:=34)
  | (refine @id.{0} _ ?_; constructor)
  | apply Dk.de 0 (V:=Unit) (A:=Nat) _ (fun a (s:Int×Int) v=>[.row a [cO,.int .i64 ((0:Int)),.int .u64 (s.2)] 194]) (fun a s v=>[(3,.pointer (some ⟨a,0,none⟩)),(4,.int .i64 (s.1))]) () [(0,_)]
  | apply Dk.any (id:=5) 11 [0] [] [[],[],[1],[1,2],[1,2,3],[1,2,3,4],[],[],[6,7],[6,7,8],[6,7,8,9]] (by kernel_rfl)
  | exact ()
 all_goals try first | exact Value.nilFunc | exact (0:Nat)
theorem Eo {x0:(List Int)} {cO:Value}:Ct Tryz.prog 106 true (eG x0) [cO] [rI cO x0] (fun y (v:Value)=>[v]) (fun y v=>[.own (aJ 2 (aN .i64)) v y]):=by
 refine ct (S:=Unit) (bx fun _ _=>rfl) Tryz.func106 rfl rfl ?_
 repeat' first
  | (apply Dk.fe; repeat' first | exact rfl | (refine @id.{0} _ ?_; constructor))
  | intro _
  | exact rfl
  | (refine @id.{0} _ ?_; constructor)
  | exact ()
theorem Nn {x0:Int} {x1:(List Int)} {dG:Value}:Ct Tryz.prog 256 true (iM x0 x1) [.int .i64 (x0),dG] [rI dG x1] (fun y (_:Unit)=>[.bool y]) (fun y _=>[]):=by
 refine ct (S:=Unit) (bx fun _ _=>rfl) Tryz.func256 rfl rfl ?_
 repeat' first
  | (apply Dk.fe; repeat' first | exact rfl | (refine @id.{0} _ ?_; constructor))
  | intro _
  | exact rfl
  | (refine @id.{0} _ ?_; constructor)
  | apply Dk.loop 0 (V:=Unit) (fun (s:Int) v=>[]) (fun s v=>[(5,.int .i64 (s))]) () [(0,_),(1,_)]
  | exact ()
theorem PN {x0:aH} {cU:Addr} {bA bJ aT aR:Value}:Ct Tryz.prog 88 true (dE x0) [.pointer (some (cU))] [.au cU [.int .i64 (x0.aD),bA,bJ,aT,aR],rI bA x0.aG,rI bJ x0.To,rI aT x0.aI,rJ aR x0.aB] (fun y (_:Unit)=>[.int .i64 y]) (fun y _=>[]):=by
 refine ct (S:=Unit) (bx fun _ _=>rfl) Tryz.func88 rfl rfl ?_
 repeat' first
  | (apply Dk.fe; repeat' first | exact rfl | (refine @id.{0} _ ?_; constructor))
  | intro _
  | exact rfl
  | (refine @id.{0} _ ?_; constructor)
  | exact ()
theorem Y7 {x0:aH} {cU:Addr} {bA bJ aT aR:Value} {x1:Int} {x2:Int}:Ct Tryz.prog 67 true (dJ x0 x1 x2) [.pointer (some (cU)),.int .i64 (x1),.int .i64 (x2)] [.au cU [.int .i64 (x0.aD),bA,bJ,aT,aR],rI bA x0.aG,rI bJ x0.To,rI aT x0.aI,rJ aR x0.aB] (fun y (_:Unit)=>[.int .i64 y]) (fun y _=>[]):=by
 refine ct (S:=Unit) (bx fun _ _=>rfl) Tryz.func67 rfl rfl ?_
 repeat' first
  | (apply Dk.fe; repeat' first | exact rfl | (refine @id.{0} _ ?_; constructor))
  | intro _
  | exact rfl
  | (refine @id.{0} _ ?_; constructor)
  | exact ()
theorem afT {x0:aK} {cU:Addr} {aW bC aU aS bP bD:Value}:Ct Tryz.prog 188 true (iD x0) [.pointer (some (cU))] [.au cU [.int .i64 (x0.aC.aD),aW,bC,aU,aS,bP,bD],rI aW x0.aC.aG,rI bC x0.aC.To,rI aU x0.aC.aI,rJ aS x0.aC.aB,rI bP x0.aP,rJ bD x0.aO] (fun y (_:Unit)=>[.int .i64 y.1,.int .i64 y.2.1,.int .i64 y.2.2.1,.int .i64 y.2.2.2]) (fun y _=>[]):=by
 refine ct (S:=Unit) (bx fun _ _=>rfl) Tryz.func188 rfl rfl ?_
 repeat' first
  | (apply Dk.fe; repeat' first | exact rfl | (refine @id.{0} _ ?_; constructor))
  | intro _
  | exact rfl
  | (refine @id.{0} _ ?_; constructor)
  | apply Dk.loop 0 (V:=Unit) (fun (s:Int) v=>[]) (fun s v=>[(25,.int .i64 (s))]) () [(0,_),(6,_),(23,_),(24,_)]
  | apply Dk.loop 2 (V:=Unit) (fun (s:Int) v=>[]) (fun s v=>[(38,.int .i64 (s))]) () [(0,_),(6,_),(7,_),(23,_),(24,_),(25,_),(36,_),(37,_)]
  | apply Dk.loop 4 (V:=Unit) (fun (s:Int) v=>[]) (fun s v=>[(55,.int .i64 (s))]) () [(0,_),(53,_),(54,_)]
  | apply Dk.loop 6 (V:=Unit) (fun (s:Int) v=>[]) (fun s v=>[(62,.int .i64 (s))]) () [(0,_),(11,_),(53,_),(54,_),(55,_),(60,_),(61,_)]
  | apply Dk.loop 8 (V:=Unit) (fun (s:Int) v=>[]) (fun s v=>[(77,.int .i64 (s))]) () [(0,_),(11,_),(13,_),(14,_),(53,_),(54,_),(55,_),(60,_),(61,_),(62,_),(75,_),(76,_)]
  | apply Dk.quiet (id:=22) (by kernel_rfl)
  | exact ()
theorem afU {x0:aK} {cU:Addr} {aW bC aU aS bP bD:Value}:Ct Tryz.prog 189 true (fY x0) [.pointer (some (cU))] [.au cU [.int .i64 (x0.aC.aD),aW,bC,aU,aS,bP,bD],rI aW x0.aC.aG,rI bC x0.aC.To,rI aU x0.aC.aI,rJ aS x0.aC.aB,rI bP x0.aP,rJ bD x0.aO] (fun y (_:Unit)=>[.int .i64 y]) (fun y _=>[]):=by
 refine ct (S:=Unit) (bx fun _ _=>rfl) Tryz.func189 rfl rfl ?_
 repeat' first
  | (apply Dk.fe; repeat' first | exact rfl | (refine @id.{0} _ ?_; constructor))
  | intro _
  | exact rfl
  | (refine @id.{0} _ ?_; constructor)
  | apply Dk.loop 0 (V:=Unit) (fun (s:Int×Int) v=>[]) (fun s v=>[(3,.int .i64 (s.1)),(11,.int .i64 (s.2))]) () [(9,_),(10,_)]
  | exact ()
theorem afV {x0:aK} {aW bC aU aS bP bD:Value} {x1:aK} {dK dP cY cR eC dS:Value} {x2:(List (List Int))} {kJ:Value}:Ct Tryz.prog 215 true (jX x0 x1 x2) [.agg #[.int .i64 (x0.aC.aD),aW,bC,aU,aS,bP,bD],.agg #[.int .i64 (x1.aC.aD),dK,dP,cY,cR,eC,dS],kJ] [rI aW x0.aC.aG,rI bC x0.aC.To,rI aU x0.aC.aI,rJ aS x0.aC.aB,rI bP x0.aP,rJ bD x0.aO,rI dK x1.aC.aG,rI dP x1.aC.To,rI cY x1.aC.aI,rJ cR x1.aC.aB,rI eC x1.aP,rJ dS x1.aO,rJ kJ x2] (fun y (_:Unit)=>[.int .i64 y.1,.int .i64 y.2]) (fun y _=>[]):=by
 refine ct (S:=Unit) (bx fun _ _=>rfl) Tryz.func215 rfl rfl ?_
 repeat' first
  | (apply Dk.fe; repeat' first | exact rfl | (refine @id.{0} _ ?_; constructor))
  | intro _
  | exact rfl
  | (refine @id.{0} _ ?_; constructor)
  | apply Dk.loop 0 (V:=Unit) (fun (s:Int) v=>[]) (fun s v=>[(8,.int .i64 (s))]) () [(2,_),(3,_),(4,_)]
  | apply Dk.loop 2 (V:=Unit) (fun (s:Int) v=>[]) (fun s v=>[(11,.int .i64 (s))]) () [(2,_),(3,_),(4,_),(8,_),(9,_),(10,_)]
  | apply Dk.quiet (id:=4) (by kernel_rfl)
  | apply Dk.quiet (id:=8) (by kernel_rfl)
  | exact ()
theorem Y8 {x0:(List Int)} {cO:Value} {x1:(List Int)} {dG:Value}:Ct Tryz.prog 36 true (gI x0 x1) [cO,dG] [rI cO x0,rI dG x1] (fun y (_:Unit)=>[.bool y]) (fun y _=>[]):=by
 refine ct (S:=Unit) (bx fun _ _=>rfl) Tryz.func36 rfl rfl ?_
 repeat' first
  | (apply Dk.fe; repeat' first | exact rfl | (refine @id.{0} _ ?_; constructor))
  | intro _
  | exact rfl
  | (refine @id.{0} _ ?_; constructor)
  | apply Dk.loop 0 (V:=Unit) (fun (s:Int) v=>[]) (fun s v=>[(5,.int .i64 (s))]) () [(0,_),(1,_)]
  | apply Dk.quiet (id:=6) (by kernel_rfl)
  | exact ()
theorem Y9 {x0:aH} {cU:Addr} {bA bJ aT aR:Value} {x1:Int}:Ct Tryz.prog 197 true (gQ x0 x1) [.pointer (some (cU)),.int .i64 (x1)] [.au cU [.int .i64 (x0.aD),bA,bJ,aT,aR],rI bA x0.aG,rI bJ x0.To,rI aT x0.aI,rJ aR x0.aB] (fun y (v:Value)=>[v]) (fun y v=>[.own (aJ 2 (aN .i64)) v y]):=by
 refine ct (S:=Unit) (bx fun _ _=>rfl) Tryz.func197 rfl rfl ?_
 repeat' first
  | (apply Dk.fe; repeat' first | exact rfl | (refine @id.{0} _ ?_; constructor))
  | intro _
  | exact rfl
  | (refine @id.{0} _ ?_; constructor)
  | apply Dk.loop 0 (V:=Value) (fun (s:(List Int)×Int) v=>[.own (aJ 2 (aN .i64)) v s.1]) (fun s v=>[(5,v),(14,.int .i64 (s.2))]) _ [(1,_),(12,_),(13,_)]
  | exact ()
end Go.Proofs.YtcnehblmgfbfoaaGreat
