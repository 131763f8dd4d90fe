/- Walks by the calculus D. No condition beside those that each theorem names. -/
import Derived.Test.YtgjbmjjihmfppaaGreatDp
import Derived.Test.YtgjbmjjihmfppaaGreatDi
import Derived.Test.YtgjbmjjihmfppaaGreatMo
import Derived.Test.YtgjbmjjihmfppaaGreatDs
namespace Go.Proofs.YtgjbmjjihmfppaaGreat
open Go Go.Li Go.Dk
set_option linter.unusedVariables false
set_option maxHeartbeats 16000000
set_option maxRecDepth 100000
theorem z8 {x0:(List Int)} {cX:Value}:Ct Tryz.prog 111 true (dV x0) [cX] [rI cX x0] (fun y (v:Value)=>[v]) (fun y v=>[.own (aJ 2 (aM .i64)) v y]):=by
 refine ct (S:=Unit) (ca fun _ _=>rfl) Tryz.func111 rfl rfl ?_
 repeat' first
  | (apply Dk.fe; repeat' first | exact rfl | (refine @id.{0} _ ?_; constructor))
  | intro _
  | exact rfl
  | (refine @id.{0} _ ?_; constructor)
  | exact ()
theorem YM {x0:(List (List Int))} {cX:Value}:Ct Tryz.prog 146 true (mA x0) [cX] [rJ cX x0] (fun y (v:Value)=>[v]) (fun y v=>[.own (aJ 24 (aJ 2 (aM .i64))) v y]):=by
 refine ct (S:=Unit) (ca fun _ _=>rfl) Tryz.func146 rfl rfl ?_
 repeat' first
  | (apply Dk.fe; repeat' first | exact rfl | (refine @id.{0} _ ?_; constructor))
  | intro _
  | exact rfl
  | (refine @id.{0} _ ?_; constructor)
  | apply Dk.loop 0 (V:=Value) (fun (s:(List (List Int))×Int) v=>[.own (aJ 24 (aJ 2 (aM .i64))) v s.1]) (fun s v=>[(3,v),(4,.int .i64 (s.2))]) _ [(0,_)]
  | apply z8
  | exact ()
theorem YN  : Ct Tryz.prog 120 true (lJ) [] [] (fun y (v:Value×Value×Value×Value)=>[.agg #[.int .i64 y.aA,v.1,v.2.1,v.2.2.1,v.2.2.2]]) (fun y v=>[.own (aJ 2 (aM .i64)) v.1 y.aE,.own (aJ 2 (aM .i64)) v.2.1 y.To,.own (aJ 2 (aM .i64)) v.2.2.1 y.aH,.own (aJ 24 (aJ 2 (aM .i64))) v.2.2.2 y.aB]):=by
 refine ct (S:=Unit) (ca fun _ _=>rfl) Tryz.func120 rfl rfl ?_
 repeat' first
  | (apply Dk.fe; repeat' first | exact rfl | (refine @id.{0} _ ?_; constructor))
  | intro _
  | exact rfl
  | apply Dk.zV (d:=1)
  | apply Dk.zV (d:=2)
  | apply Dk.zV (d:=3)
  | apply Dk.zV (d:=4)
  | apply Dk.zV (d:=5)
  | apply Dk.zV (d:=6)
  | apply Dk.zV (d:=7)
  | apply Dk.zV (d:=8)
  | apply Dk.zV (d:=9)
  | (refine @id.{0} _ ?_; constructor)
  | exact ()
theorem c72 {x0:aG} {aU bB aN aL:Value}:Ct Tryz.prog 72 true (oS x0) [.agg #[.int .i64 (x0.aA),aU,bB,aN,aL]] [rI aU x0.aE,rI bB x0.To,rI aN x0.aH,rJ aL x0.aB] (fun y (v:Value×Value×Value×Value)=>[.agg #[.int .i64 y.aA,v.1,v.2.1,v.2.2.1,v.2.2.2]]) (fun y v=>[.own (aJ 2 (aM .i64)) v.1 y.aE,.own (aJ 2 (aM .i64)) v.2.1 y.To,.own (aJ 2 (aM .i64)) v.2.2.1 y.aH,.own (aJ 24 (aJ 2 (aM .i64))) v.2.2.2 y.aB]):=by
 refine ct (S:=Unit) (ca fun _ _=>rfl) Tryz.func72 rfl rfl ?_
 repeat' first
  | (apply Dk.fe; repeat' first | exact rfl | (refine @id.{0} _ ?_; constructor))
  | intro _
  | exact rfl
  | (refine Dk.ve (t:=32) rfl ?_ ?_)
  | (refine @id.{0} _ ?_; constructor)
  | apply Dk.jr 0 (V:=Value) (A:=Nat×Value×Value×Value) (_,_,_,_) (fun a (s:Int×(List (List Int))) v=>Dk.pc (fun a0=>Dk.pc (fun a1=>Dk.pc (fun a2 a3=>[.row a0 [.int .i64 (x0.aA),a1,a2,a3,v] 27,.own (aJ 24 (aJ 2 (aM .i64))) v s.2]))) a) (fun a s v=>Dk.pc (fun a0=>Dk.pc (fun a1=>Dk.pc (fun a2 a3=>[(3,.pointer (some ⟨a0,0,none⟩)),(4,.int .i64 (s.1))]))) a) _ [(1,_),(2,_)]
  | apply Dk.loop 2 (V:=Value) (fun (s:(List Int)×Int) v=>[.own (aJ 2 (aM .i64)) v s.1]) (fun s v=>[(5,v),(6,.int .i64 (s.2))]) _ [(1,_),(2,_),(3,_),(4,_)]
  | apply Dk.Wm (id:=1) [13,0,1,2,3,4,5,6,7,8,9,10,11,12,14] [1,2,3,4,5,6,7,8,9,10,11,12,13,0,14] [] 14 [] [] [[],[],[1],[],[3],[4,3],[],[6],[7,6,5,4,3],[],[9],[10,9,8,7,6,5,4,3],[],[2,1,5,4,3,8,7,6,5,4,3,11,10,9,8,7,6,5,4,3,12]] (by kernel_rfl)
  | apply z8
  | exact ()
theorem Na {x0:aG} {aU bB aN aL:Value} {x1:Int} {x2:Int}:Ct Tryz.prog 144 true (gS x0 x1 x2) [.agg #[.int .i64 (x0.aA),aU,bB,aN,aL],.int .i64 (x1),.int .i64 (x2)] [rI aU x0.aE,rI bB x0.To,rI aN x0.aH,rJ aL x0.aB] (fun y (v:Value)=>[v]) (fun y v=>[.own (aJ 2 (aM .i64)) v y]):=by
 refine ct (S:=Unit) (ca fun _ _=>rfl) Tryz.func144 rfl rfl ?_
 repeat' first
  | (apply Dk.fe; repeat' first | exact rfl | (refine @id.{0} _ ?_; constructor))
  | intro _
  | exact rfl
  | (refine @id.{0} _ ?_; constructor)
  | apply Dk.loop 0 (V:=Value) (fun (s:(List Int)×Int) v=>[.own (aJ 2 (aM .i64)) v s.1]) (fun s v=>[(7,v),(8,.int .i64 (s.2))]) _ [(1,_),(2,_),(3,_)]
  | exact ()
theorem ae5 {x0:aG} {aU bB aN aL:Value} {x1:aG} {bU cG bD bA:Value} {x2:(List Int)} {eC:Value}:Ct Tryz.prog 150 true (nL x0 x1 x2) [.agg #[.int .i64 (x0.aA),aU,bB,aN,aL],.agg #[.int .i64 (x1.aA),bU,cG,bD,bA],eC] [rI aU x0.aE,rI bB x0.To,rI aN x0.aH,rJ aL x0.aB,rI bU x1.aE,rI cG x1.To,rI bD x1.aH,rJ bA x1.aB,rI eC x2] (fun y (_:Unit)=>[.bool y]) (fun y _=>[]):=by
 refine ct (S:=Unit) (ca fun _ _=>rfl) Tryz.func150 rfl rfl ?_
 repeat' first
  | (apply Dk.fe; repeat' first | exact rfl | (refine @id.{0} _ ?_; constructor))
  | intro _
  | exact rfl
  | (refine @id.{0} _ ?_; constructor)
  | apply Dk.loop 0 (V:=Unit) (fun (s:Int) v=>[]) (fun s v=>[(7,.int .i64 (s))]) () [(2,_),(3,_),(4,_)]
  | apply Dk.quiet (id:=4) (by kernel_rfl)
  | apply Dk.tail (id:=5) 20 (by kernel_rfl)
  | apply Na
  | exact ()
theorem ae6 {x0:aG} {aU bB aN aL:Value} {x1:aG} {bU cG bD bA:Value} {x2:(List Int)} {eC:Value}:Ct Tryz.prog 158 true (nM x0 x1 x2) [.agg #[.int .i64 (x0.aA),aU,bB,aN,aL],.agg #[.int .i64 (x1.aA),bU,cG,bD,bA],eC] [rI aU x0.aE,rI bB x0.To,rI aN x0.aH,rJ aL x0.aB,rI bU x1.aE,rI cG x1.To,rI bD x1.aH,rJ bA x1.aB,.own (aJ 2 (aM .i64)) eC x2] (fun y (_:Unit)=>[.bool y.1]) (fun y _=>[.own (aJ 2 (aM .i64)) eC y.2]):=by
 refine ct (S:=Unit) (ca fun _ _=>rfl) Tryz.func158 rfl rfl ?_
 repeat' first
  | (apply Dk.fe; repeat' first | exact rfl | (refine @id.{0} _ ?_; constructor))
  | intro _
  | exact rfl
  | (refine Dk.ve (t:=22) rfl ?_ ?_)
  | (refine @id.{0} _ ?_; constructor)
  | apply Dk.loop 0 (V:=Unit) (fun (s:Bool×(List Int)) v=>[.own (aJ 2 (aM .i64)) eC s.2]) (fun s v=>[(7,.bool (s.1))]) () [(2,_),(3,_),(4,_)]
  | apply Dk.loop 2 (V:=Unit) (fun (s:Bool×Int×(List Int)) v=>[.own (aJ 2 (aM .i64)) eC s.2.2]) (fun s v=>[(7,.bool (s.1)),(8,.int .i64 (s.2.1))]) () [(2,_),(3,_),(4,_)]
  | apply Dk.loop 4 (V:=Unit) (fun (s:Bool×Int×(List Int)) v=>[.own (aJ 2 (aM .i64)) eC s.2.2]) (fun s v=>[(7,.bool (s.1)),(9,.int .i64 (s.2.1))]) () [(2,_),(3,_),(4,_),(8,_)]
  | apply Dk.quiet (id:=12) (by kernel_rfl)
  | exact ()
theorem YO {rc:aG→aG→(List Int)→(List Int)→Int→(List (List Int))→Option ((List (List Int)))} (ih:∀ {x0:aG} {aU bB aN aL:Value} {x1:aG} {bU cG bD bA:Value} {x2:(List Int)} {eC:Value} {x3:(List Int)} {fX:Value} {x4:Int} {x5:(List (List Int))} {rC:Value},Ct Tryz.prog 151 true (rc x0 x1 x2 x3 x4 x5) [.agg #[.int .i64 (x0.aA),aU,bB,aN,aL],.agg #[.int .i64 (x1.aA),bU,cG,bD,bA],eC,fX,.int .i64 (x4),rC] [rI aU x0.aE,rI bB x0.To,rI aN x0.aH,rJ aL x0.aB,rI bU x1.aE,rI cG x1.To,rI bD x1.aH,rJ bA x1.aB,rI eC x2,rI fX x3,.own (aJ 24 (aJ 2 (aM .i64))) rC x5] (fun y (v:Value)=>[v]) (fun y v=>[.own (aJ 24 (aJ 2 (aM .i64))) v y])) {x0:aG} {aU bB aN aL:Value} {x1:aG} {bU cG bD bA:Value} {x2:(List Int)} {eC:Value} {x3:(List Int)} {fX:Value} {x4:Int} {x5:(List (List Int))} {rC:Value}:Ct Tryz.prog 151 true (kZ rc x0 x1 x2 x3 x4 x5) [.agg #[.int .i64 (x0.aA),aU,bB,aN,aL],.agg #[.int .i64 (x1.aA),bU,cG,bD,bA],eC,fX,.int .i64 (x4),rC] [rI aU x0.aE,rI bB x0.To,rI aN x0.aH,rJ aL x0.aB,rI bU x1.aE,rI cG x1.To,rI bD x1.aH,rJ bA x1.aB,rI eC x2,rI fX x3,.own (aJ 24 (aJ 2 (aM .i64))) rC x5] (fun y (v:Value)=>[v]) (fun y v=>[.own (aJ 24 (aJ 2 (aM .i64))) v y]):=by
 refine ct (S:=Unit) (ca fun _ _=>rfl) Tryz.func151 rfl rfl ?_
 repeat' first
  | (apply Dk.fe; repeat' first | exact rfl | (refine @id.{0} _ ?_; constructor))
  | intro _
  | exact rfl
  | (refine @id.{0} _ ?_; constructor)
  | apply ih
  | apply Dk.loop 0 (V:=Unit) (fun (s:Int) v=>[]) (fun s v=>[(4,.int .i64 (s))]) () [(2,_),(3,_),(5,_),(6,_),(7,_)]
  | apply Dk.loop 2 (V:=Value) (fun (s:(List (List Int))×Int) v=>[.own (aJ 24 (aJ 2 (aM .i64))) v s.1]) (fun s v=>[(5,v),(14,.int .i64 (s.2))]) _ [(2,_),(3,_),(4,_),(6,_),(7,_),(13,_)]
  | apply Dk.any (id:=5) 17 [] [] [[],[],[],[2],[],[3,2,4],[5,3,2,4],[1,6,5,3,2,4],[7,1,6,5,3,2,4],[],[],[10],[],[11,10,12],[13,11,10,12],[9,14,13,11,10,12],[15,9,14,13,11,10,12]] (by kernel_rfl)
  | apply z8
  | apply Na
  | apply ae6
  | exact ()
theorem YP (n:Nat):∀ {x0:aG} {aU bB aN aL:Value} {x1:aG} {bU cG bD bA:Value} {x2:(List Int)} {eC:Value} {x3:(List Int)} {fX:Value} {x4:Int} {x5:(List (List Int))} {rC:Value},Ct Tryz.prog 151 true (gP n x0 x1 x2 x3 x4 x5) [.agg #[.int .i64 (x0.aA),aU,bB,aN,aL],.agg #[.int .i64 (x1.aA),bU,cG,bD,bA],eC,fX,.int .i64 (x4),rC] [rI aU x0.aE,rI bB x0.To,rI aN x0.aH,rJ aL x0.aB,rI bU x1.aE,rI cG x1.To,rI bD x1.aH,rJ bA x1.aB,rI eC x2,rI fX x3,.own (aJ 24 (aJ 2 (aM .i64))) rC x5] (fun y (v:Value)=>[v]) (fun y v=>[.own (aJ 24 (aJ 2 (aM .i64))) v y]):=by
 induction n with
 | zero=>intros; rw [r7]; exact ⟨(ca fun _ _=>rfl),fun _ _ _ _ _ _ _ y hy=>nomatch (show none=some y from hy)⟩
 | succ n ih=>exact YO ih
theorem ae7 {x0:aG} {aU bB aN aL:Value} {x1:aG} {bU cG bD bA:Value} {x2:(List Int)} {eC:Value} {x3:(List Int)} {fX:Value} {x4:Int} {x5:(List (List Int))} {rC:Value}:Ct Tryz.prog 151 true (gP 64 x0 x1 x2 x3 x4 x5) [.agg #[.int .i64 (x0.aA),aU,bB,aN,aL],.agg #[.int .i64 (x1.aA),bU,cG,bD,bA],eC,fX,.int .i64 (x4),rC] [rI aU x0.aE,rI bB x0.To,rI aN x0.aH,rJ aL x0.aB,rI bU x1.aE,rI cG x1.To,rI bD x1.aH,rJ bA x1.aB,rI eC x2,rI fX x3,.own (aJ 24 (aJ 2 (aM .i64))) rC x5] (fun y (v:Value)=>[v]) (fun y v=>[.own (aJ 24 (aJ 2 (aM .i64))) v y]):=by
 exact YP 64
theorem ae8 {x0:aG} {aU bB aN aL:Value}:Ct Tryz.prog 107 true (nO x0) [.agg #[.int .i64 (x0.aA),aU,bB,aN,aL]] [rI aU x0.aE,rI bB x0.To,rI aN x0.aH,rJ aL x0.aB] (fun y (_:Unit)=>[.int .i64 y.1,.int .i64 y.2.1,.int .i64 y.2.2.1,.int .i64 y.2.2.2]) (fun y _=>[]):=by
 refine ct (S:=Unit) (ca fun _ _=>rfl) Tryz.func107 rfl rfl ?_
 repeat' first
  | (apply Dk.fe; repeat' first | exact rfl | (refine @id.{0} _ ?_; constructor))
  | intro _
  | exact rfl
  | (refine Dk.ve (t:=65) rfl ?_ ?_)
  | (refine Dk.ve (t:=81) rfl ?_ ?_)
  | (refine @id.{0} _ ?_; constructor)
  | apply Dk.loop 0 (V:=Unit) (fun (s:Int) v=>[]) (fun s v=>[(7,.int .i64 (s))]) () [(1,_),(6,_)]
  | apply Dk.loop 2 (V:=Unit) (fun (s:Int) v=>[]) (fun s v=>[(8,.int .i64 (s))]) () [(1,_),(6,_)]
  | apply Dk.loop 4 (V:=Unit) (fun (s:Int) v=>[]) (fun s v=>[(9,.int .i64 (s))]) () [(1,_),(6,_),(8,_)]
  | apply Dk.loop 6 (V:=Unit) (fun (s:Int) v=>[]) (fun s v=>[(10,.int .i64 (s))]) () [(1,_),(6,_),(8,_),(9,_)]
  | apply Dk.quiet (id:=5) (by kernel_rfl)
  | apply Dk.quiet (id:=13) (by kernel_rfl)
  | apply Dk.quiet (id:=17) (by kernel_rfl)
  | exact ()
theorem ae9 {x0:(List Int)} {cX:Value} {x1:(List Int)} {dX:Value}:Ct Tryz.prog 129 true (qZ x0 x1) [cX,dX] [rI cX x0,rI dX x1] (fun y (_:Unit)=>[.int .i64 y]) (fun y _=>[]):=by
 refine ct (S:=Unit) (ca fun _ _=>rfl) Tryz.func129 rfl rfl ?_
 repeat' first
  | (apply Dk.fe; repeat' first | exact rfl | (refine @id.{0} _ ?_; constructor))
  | intro _
  | exact rfl
  | (refine @id.{0} _ ?_; constructor)
  | apply Dk.loop 0 (V:=Unit) (fun (s:Int) v=>[]) (fun s v=>[(8,.int .i64 (s))]) () [(0,_),(1,_),(7,_)]
  | apply Dk.quiet (id:=6) (by kernel_rfl)
  | apply Dk.quiet (id:=7) (by kernel_rfl)
  | exact ()
theorem c97 {x0:(List Int)} {cX:Value} {x1:(List Int)} {dX:Value}:Ct Tryz.prog 97 true (mE x0 x1) [cX,dX] [rI cX x0,rI dX x1] (fun y (_:Unit)=>[.bool y]) (fun y _=>[]):=by
 refine ct (S:=Unit) (ca fun _ _=>rfl) Tryz.func97 rfl rfl ?_
 repeat' first
  | (apply Dk.fe; repeat' first | exact rfl | (refine @id.{0} _ ?_; constructor))
  | intro _
  | exact rfl
  | (refine @id.{0} _ ?_; constructor)
  | apply ae9
  | exact ()
theorem afa {x0:aG} {aU bB aN aL:Value} {x1:Int} {x2:Int}:Ct Tryz.prog 145 true (kU x0 x1 x2) [.agg #[.int .i64 (x0.aA),aU,bB,aN,aL],.int .i64 (x1),.int .i64 (x2)] [rI aU x0.aE,rI bB x0.To,rI aN x0.aH,rJ aL x0.aB] (fun y (_:Unit)=>[.int .i64 y]) (fun y _=>[]):=by
 refine ct (S:=Unit) (ca fun _ _=>rfl) Tryz.func145 rfl rfl ?_
 repeat' first
  | (apply Dk.fe; repeat' first | exact rfl | (refine @id.{0} _ ?_; constructor))
  | intro _
  | exact rfl
  | (refine @id.{0} _ ?_; constructor)
  | exact ()
theorem afb {x0:aI} {aS aV aQ aO aT aW aR aP bC bG:Value} {x1:aZ} {qJ:Value} {x2:aZ} {kX:Value}:Ct Tryz.prog 109 true (pO x0 x1 x2) [.agg #[.int .i64 (x0.aC.aA),aS,aV,aQ,aO,.int .i64 (x0.aD.aA),aT,aW,aR,aP,bC,bG],.agg #[.int .i64 (x1.cn),qJ],.agg #[.int .i64 (x2.cn),kX]] [rI aS x0.aC.aE,rI aV x0.aC.To,rI aQ x0.aC.aH,rJ aO x0.aC.aB,rI aT x0.aD.aE,rI aW x0.aD.To,rI aR x0.aD.aH,rJ aP x0.aD.aB,rI bC x0.aA,rI bG x0.ab,rI qJ x1.bb,rI kX x2.bb] (fun y (v:Value)=>[v]) (fun y v=>[.own (aJ 2 (aM .i64)) v y]):=by
 refine ct (S:=Unit) (ca fun _ _=>rfl) Tryz.func109 rfl rfl ?_
 repeat' first
  | (apply Dk.fe; repeat' first | exact rfl | (refine @id.{0} _ ?_; constructor))
  | intro _
  | exact rfl
  | (refine @id.{0} _ ?_; constructor)
  | apply Dk.loop 0 (V:=Value) (fun (s:(List Int)×Int) v=>[.own (aJ 2 (aM .i64)) v s.1]) (fun s v=>[(8,v),(9,.int .i64 (s.2))]) _ [(3,_),(4,_),(5,_),(7,_)]
  | apply Dk.loop 2 (V:=Unit) (fun (s:Bool×Int) v=>[]) (fun s v=>[(10,.bool (s.1)),(11,.int .i64 (s.2))]) () [(3,_),(4,_),(5,_),(7,_),(8,_),(9,_)]
  | apply Dk.quiet (id:=10) (by kernel_rfl)
  | apply Na
  | apply afa
  | exact ()
end Go.Proofs.YtgjbmjjihmfppaaGreat
