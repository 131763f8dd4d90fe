/- Walks by the calculus D. No condition beside those that each theorem names. -/
import Derived.Test.YtcnehblmgfbfoaaGreatDp
import Derived.Test.YtcnehblmgfbfoaaGreatDi
import Derived.Test.YtcnehblmgfbfoaaGreatMo
import Derived.Test.YtcnehblmgfbfoaaGreatDs
namespace Go.Proofs.YtcnehblmgfbfoaaGreat
open Go Go.Li Go.Dk
set_option linter.unusedVariables false
set_option maxHeartbeats 16000000
set_option maxRecDepth 100000
theorem c22 {x0:(List Int)} {cO:Value}:Ct Tryz.prog 22 true (rD x0) [cO] [.rd false (aV (aN .u8)) cO x0] (fun y (_:Unit)=>[.bool y]) (fun y _=>[]):=by
 refine ct (S:=Unit) (bx fun _ _=>rfl) Tryz.func22 rfl rfl ?_
 repeat' first
  | (apply Dk.fe; repeat' first | exact rfl | (refine @id.{0} _ ?_; constructor))
  | intro _
  | exact rfl
  | (refine @id.{0} _ ?_; constructor)
  | exact ()
theorem Y3 {x0:(List (List Int))} {cO:Value}:Ct Tryz.prog 163 true (eB x0) [cO] [rJ cO x0] (fun y (v:Value×Value×Value×Value)=>[.agg #[.int .i64 y.aD,v.1,v.2.1,v.2.2.1,v.2.2.2]]) (fun y v=>[.own (aJ 2 (aN .i64)) v.1 y.aG,.own (aJ 2 (aN .i64)) v.2.1 y.To,.own (aJ 2 (aN .i64)) v.2.2.1 y.aI,.own (aJ 22 (aJ 2 (aN .i64))) v.2.2.2 y.aB]):=by
 refine ct (S:=Unit) (bx fun _ _=>rfl) Tryz.func163 rfl rfl ?_
 repeat' first
  | (apply Dk.fe; repeat' first | exact rfl | (refine @id.{0} _ ?_; constructor))
  | intro _
  | exact rfl
  | (refine Dk.tV (t:=31) rfl ?_ ?_)
  | (refine Dk.tV (t:=93) rfl ?_ ?_)
  | (refine @id.{0} _ ?_; constructor)
  | apply Dk.de 0 (V:=Value×Value×Value) (A:=Nat×Value×Value) (_,_,_) (fun a (s:(List (List Int))×Int×(List Int)×(List Int)) v=>Dk.pc (fun a0=>Dk.pc (fun a1 a2=>[.row a0 [.int .i64 ((x0.length:Int)),v.2.1,v.2.2,a1,a2] 31,.own (aJ 22 (aJ 2 (aN .i64))) v.1 s.1,.own (aJ 2 (aN .i64)) v.2.1 s.2.2.1,.own (aJ 2 (aN .i64)) v.2.2 s.2.2.2])) a) (fun a s v=>Dk.pc (fun a0=>Dk.pc (fun a1 a2=>[(4,v.1),(5,.pointer (some ⟨a0,0,none⟩)),(6,.int .i64 (s.2.1))])) a) (_,_,_) [(0,_),(2,_),(3,_)]
  | apply Dk.de 2 (V:=Value×Value×Value) (A:=Nat×Value×Value) (_,_,_) (fun a (s:(List Int)×Int×(List Int)×(List Int)) v=>Dk.pc (fun a0=>Dk.pc (fun a1 a2=>[.row a0 [.int .i64 ((x0.length:Int)),v.2.1,v.2.2,a1,a2] 31,.own (aJ 2 (aN .i64)) v.1 s.1,.own (aJ 2 (aN .i64)) v.2.1 s.2.2.1,.own (aJ 2 (aN .i64)) v.2.2 s.2.2.2])) a) (fun a s v=>Dk.pc (fun a0=>Dk.pc (fun a1 a2=>[(5,.pointer (some ⟨a0,0,none⟩)),(7,v.1),(8,.int .i64 (s.2.1))])) a) (_,_,_) [(0,_),(2,_),(3,_),(4,_),(6,_)]
  | apply Dk.de 4 (V:=Value) (A:=Nat×Value×Value×Value) (_,_,_,_) (fun a (s:Int×(List Int)) v=>Dk.pc (fun a0=>Dk.pc (fun a1=>Dk.pc (fun a2 a3=>[.row a0 [.int .i64 ((x0.length:Int)),a1,a2,v,a3] 31,.own (aJ 2 (aN .i64)) v s.2]))) a) (fun a s v=>Dk.pc (fun a0=>Dk.pc (fun a1=>Dk.pc (fun a2 a3=>[(5,.pointer (some ⟨a0,0,none⟩)),(9,.int .i64 (s.1))]))) a) _ [(2,_),(3,_),(4,_)]
  | apply Dk.de 6 (V:=Value) (A:=Nat×Value×Value×Value) (_,_,_,_) (fun a (s:Int×(List (List Int))) v=>Dk.pc (fun a0=>Dk.pc (fun a1=>Dk.pc (fun a2 a3=>[.row a0 [.int .i64 ((x0.length:Int)),a1,a2,a3,v] 31,.own (aJ 22 (aJ 2 (aN .i64))) v s.2]))) a) (fun a s v=>Dk.pc (fun a0=>Dk.pc (fun a1=>Dk.pc (fun a2 a3=>[(5,.pointer (some ⟨a0,0,none⟩)),(10,.int .i64 (s.1))]))) a) _ [(2,_),(4,_)]
  | apply Dk.loop 8 (V:=Value) (fun (s:(List Int)×Int) v=>[.own (aJ 2 (aN .i64)) v s.1]) (fun s v=>[(11,v),(12,.int .i64 (s.2))]) _ [(2,_),(4,_),(5,_),(10,_)]
  | apply Dk.quiet (id:=28) (by kernel_rfl)
  | apply Dk.quiet (id:=29) (by kernel_rfl)
  | apply Dk.any (id:=19) 10 [] [] [[],[0],[],[],[2,3],[2,3,4],[],[2,3,4,5,6],[2,3,4,5,6,7],[2,3,4,5,6,7,8]] (by kernel_rfl)
  | exact ()
theorem c93 {x0:aH} {bA bJ aT aR:Value}:Ct Tryz.prog 93 true (eT x0) [.agg #[.int .i64 (x0.aD),bA,bJ,aT,aR]] [rI bA x0.aG,rI bJ x0.To,rI aT x0.aI,rJ aR x0.aB] (fun y (_:Unit)=>[.bool y]) (fun y _=>[]):=by
 refine ct (S:=Unit) (bx fun _ _=>rfl) Tryz.func93 rfl rfl ?_
 repeat' first
  | (apply Dk.fe; repeat' first | exact rfl | (refine @id.{0} _ ?_; constructor))
  | intro _
  | exact rfl
  | (refine @id.{0} _ ?_; constructor)
  | exact ()
theorem afG  : Ct Tryz.prog 251 true (nB) [] [] (fun y (v:Value×Value×Value×Value)=>[.agg #[.int .i64 y.aD,v.1,v.2.1,v.2.2.1,v.2.2.2]]) (fun y v=>[.own (aJ 2 (aN .i64)) v.1 y.aG,.own (aJ 2 (aN .i64)) v.2.1 y.To,.own (aJ 2 (aN .i64)) v.2.2.1 y.aI,.own (aJ 22 (aJ 2 (aN .i64))) v.2.2.2 y.aB]):=by
 refine ct (S:=Unit) (bx fun _ _=>rfl) Tryz.func251 rfl rfl ?_
 repeat' first
  | (apply Dk.fe; repeat' first | exact rfl | (refine @id.{0} _ ?_; constructor))
  | intro _
  | exact rfl
  | apply Dk.ui (d:=1)
  | apply Dk.ui (d:=2)
  | apply Dk.ui (d:=3)
  | apply Dk.ui (d:=4)
  | apply Dk.ui (d:=5)
  | apply Dk.ui (d:=6)
  | apply Dk.ui (d:=7)
  | apply Dk.ui (d:=8)
  | apply Dk.ui (d:=9)
  | (refine @id.{0} _ ?_; constructor)
  | exact ()
theorem afH {x0:aH} {bA bJ aT aR:Value}:Ct Tryz.prog 175 true (nC x0) [.agg #[.int .i64 (x0.aD),bA,bJ,aT,aR]] [rI bA x0.aG,rI bJ x0.To,rI aT x0.aI,rJ aR x0.aB] (fun y (_:Unit)=>[.int .i64 y.1,.int .i64 y.2.1,.int .i64 y.2.2.1,.int .i64 y.2.2.2]) (fun y _=>[]):=by
 refine ct (S:=Unit) (bx fun _ _=>rfl) Tryz.func175 rfl rfl ?_
 repeat' first
  | (apply Dk.fe; repeat' first | exact rfl | (refine @id.{0} _ ?_; constructor))
  | intro _
  | exact rfl
  | (refine Dk.tV (t:=65) rfl ?_ ?_)
  | (refine Dk.tV (t:=81) rfl ?_ ?_)
  | (refine @id.{0} _ ?_; constructor)
  | apply Dk.loop 0 (V:=Unit) (fun (s:Int) v=>[]) (fun s v=>[(7,.int .i64 (s))]) () [(1,_),(6,_)]
  | apply Dk.loop 2 (V:=Unit) (fun (s:Int) v=>[]) (fun s v=>[(8,.int .i64 (s))]) () [(1,_),(6,_)]
  | apply Dk.loop 4 (V:=Unit) (fun (s:Int) v=>[]) (fun s v=>[(9,.int .i64 (s))]) () [(1,_),(6,_),(8,_)]
  | apply Dk.loop 6 (V:=Unit) (fun (s:Int) v=>[]) (fun s v=>[(10,.int .i64 (s))]) () [(1,_),(6,_),(8,_),(9,_)]
  | apply Dk.quiet (id:=5) (by kernel_rfl)
  | apply Dk.quiet (id:=13) (by kernel_rfl)
  | apply Dk.quiet (id:=17) (by kernel_rfl)
  | exact ()
theorem afI {x0:aK} {aW bC aU aS bP bD:Value}:Ct Tryz.prog 210 true (iX x0) [.agg #[.int .i64 (x0.aC.aD),aW,bC,aU,aS,bP,bD]] [rI aW x0.aC.aG,rI bC x0.aC.To,rI aU x0.aC.aI,rJ aS x0.aC.aB,rI bP x0.aP,rJ bD x0.aO] (fun y (v:Value)=>[v]) (fun y v=>[.own (aJ 22 (aJ 2 (aN .i64))) v y]):=by
 refine ct (S:=Unit) (bx fun _ _=>rfl) Tryz.func210 rfl rfl ?_
 repeat' first
  | (apply Dk.fe; repeat' first | exact rfl | (refine @id.{0} _ ?_; constructor))
  | intro _
  | exact rfl
  | (refine @id.{0} _ ?_; constructor)
  | apply Dk.loop 0 (V:=Value) (fun (s:(List (List Int))×Int) v=>[.own (aJ 22 (aJ 2 (aN .i64))) v s.1]) (fun s v=>[(3,v),(4,.int .i64 (s.2))]) _ [(1,_)]
  | apply Dk.loop 2 (V:=Value) (fun (s:(List Int)×Int) v=>[.own (aJ 2 (aN .i64)) v s.1]) (fun s v=>[(5,v),(6,.int .i64 (s.2))]) _ [(1,_),(3,_),(4,_)]
  | exact ()
theorem Y4 {x0:Int} {x1:Int} {x2:Int}:Ct Tryz.prog 179 true (kF x0 x1 x2) [.int .i64 (x0),.int .i64 (x1),.int .i64 (x2)] [] (fun y (_:Unit)=>[.bool y]) (fun y _=>[]):=by
 refine ct (S:=Unit) (bx fun _ _=>rfl) Tryz.func179 rfl rfl ?_
 repeat' first
  | (apply Dk.fe; repeat' first | exact rfl | (refine @id.{0} _ ?_; constructor))
  | intro _
  | exact rfl
  | (refine @id.{0} _ ?_; constructor)
  | exact ()
theorem afJ {x0:(List Int)} {cO:Value} {x1:(List Int)} {dG:Value}:Ct Tryz.prog 255 true (qX x0 x1) [cO,dG] [rI cO x0,rI dG x1] (fun y (_:Unit)=>[.int .i64 y]) (fun y _=>[]):=by
 refine ct (S:=Unit) (bx fun _ _=>rfl) Tryz.func255 rfl rfl ?_
 repeat' first
  | (apply Dk.fe; repeat' first | exact rfl | (refine @id.{0} _ ?_; constructor))
  | intro _
  | exact rfl
  | (refine @id.{0} _ ?_; constructor)
  | apply Dk.loop 0 (V:=Unit) (fun (s:Int) v=>[]) (fun s v=>[(8,.int .i64 (s))]) () [(0,_),(1,_),(7,_)]
  | apply Dk.quiet (id:=6) (by kernel_rfl)
  | apply Dk.quiet (id:=7) (by kernel_rfl)
  | exact ()
theorem afK {x0:aH} {cU:Addr} {bA bJ aT aR:Value} {x1:Int} {x2:Int}:Ct Tryz.prog 191 true (iJ x0 x1 x2) [.pointer (some (cU)),.int .i64 (x1),.int .i64 (x2)] [.au cU [.int .i64 (x0.aD),bA,bJ,aT,aR],rI bA x0.aG,rI bJ x0.To,rI aT x0.aI,rJ aR x0.aB] (fun y (v:Value)=>[v]) (fun y v=>[.own (aJ 2 (aN .i64)) v y]):=by
 refine ct (S:=Unit) (bx fun _ _=>rfl) Tryz.func191 rfl rfl ?_
 repeat' first
  | (apply Dk.fe; repeat' first | exact rfl | (refine @id.{0} _ ?_; constructor))
  | intro _
  | exact rfl
  | (refine @id.{0} _ ?_; constructor)
  | apply Dk.loop 0 (V:=Value) (fun (s:(List Int)×Int) v=>[.own (aJ 2 (aN .i64)) v s.1]) (fun s v=>[(7,v),(15,.int .i64 (s.2))]) _ [(0,_),(1,_),(2,_),(14,_)]
  | exact ()
theorem Y5 {x0:(List (List Int))} {cO:Value} {x1:Int}:Ct Tryz.prog 114 true (jT x0 x1) [cO,.int .i64 (x1)] [rJ cO x0] (fun y (v:Value)=>[v]) (fun y v=>[.own (aJ 2 (aN .i64)) v y]):=by
 refine ct (S:=Unit) (bx fun _ _=>rfl) Tryz.func114 rfl rfl ?_
 repeat' first
  | (apply Dk.fe; repeat' first | exact rfl | (refine @id.{0} _ ?_; constructor))
  | intro _
  | exact rfl
  | (refine @id.{0} _ ?_; constructor)
  | apply Dk.loop 0 (V:=Value) (fun (s:(List Int)×Int) v=>[.own (aJ 2 (aN .i64)) v s.1]) (fun s v=>[(5,v),(11,.int .i64 (s.2))]) _ [(1,_),(9,_),(10,_)]
  | exact ()
end Go.Proofs.YtcnehblmgfbfoaaGreat
