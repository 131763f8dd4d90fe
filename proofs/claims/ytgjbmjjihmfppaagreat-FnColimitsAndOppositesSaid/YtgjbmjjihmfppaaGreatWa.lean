/- Walks by the calculus D. No condition beside those that each theorem names. -/
import Derived.Test.YtgjbmjjihmfppaaGreatDp
import Derived.Test.YtgjbmjjihmfppaaGreatDi
import Derived.Test.YtgjbmjjihmfppaaGreatMo
import Derived.Test.YtgjbmjjihmfppaaGreatDs
namespace Go.Proofs.YtgjbmjjihmfppaaGreat
open Go Go.Li Go.Dk
set_option linter.unusedVariables false
set_option maxHeartbeats 16000000
set_option maxRecDepth 100000
theorem c34 {x0:(List Int)} {dC:Value}:Ct Tryz.prog 34 true (oX x0) [dC] [.rd false (bJ (aM .u8)) dC x0] (fun y (v:Nat)=>[(match y with | none=>Value.pointer none | some _=>.pointer (some (⟨v,0,none⟩)))]) (fun y v=>match y with | none=>[] | some m0=>[.row v [dC,.int .i64 (m0.At),.int .u64 (m0.aq)] 81]):=by
 refine ct (S:=Unit) (by intro _ y v; obtain _ | _:=y <;> rfl) Tryz.func34 rfl rfl ?_
 repeat' first
  | (apply Dk.fe; repeat' first | exact rfl | (refine @id.{0} _ ?_; constructor))
  | intro _
  | exact rfl
  | apply Dk.D.ug (d:=9)
  | apply Dk.AD.ug (d:=9)
  | apply Dk.D.ug (d:=27)
  | apply Dk.AD.ug (d:=27)
  | apply Dk.D.ug (d:=33)
  | apply Dk.AD.ug (d:=33)
  | apply Dk.D.ug (d:=34)
  | apply Dk.AD.ug (d:=34)
  | (refine @id.{0} _ ?_; constructor)
  | apply Dk.j6 0 (V:=Unit) (A:=Nat) _ (fun a (s:Int×Int) v=>[.row a [dC,.int .i64 ((0:Int)),.int .u64 (s.2)] 81]) (fun a s v=>[(3,.pointer (some ⟨a,0,none⟩)),(4,.int .i64 (s.1))]) () [(0,_)]
  | apply Dk.any (id:=5) 11 [0] [] [[],[],[1],[2,1],[3,2,1],[4,3,2,1],[],[],[6,7],[8,6,7],[9,8,6,7]] (by kernel_rfl)
  | exact ()
 all_goals try first | exact Value.nilFunc | exact (0:Nat)
theorem zH {x0:(List Int)} {dC:Value}:Ct Tryz.prog 111 true (dU x0) [dC] [rI dC x0] (fun y (v:Value)=>[v]) (fun y v=>[.own (aJ 2 (aM .i64)) v y]):=by
 refine ct (S:=Unit) (b9 fun _ _=>rfl) Tryz.func111 rfl rfl ?_
 repeat' first
  | (apply Dk.fe; repeat' first | exact rfl | (refine @id.{0} _ ?_; constructor))
  | intro _
  | exact rfl
  | (refine @id.{0} _ ?_; constructor)
  | exact ()
theorem X9 {x0:(List (List Int))} {dC:Value}:Ct Tryz.prog 146 true (mI x0) [dC] [rJ dC x0] (fun y (v:Value)=>[v]) (fun y v=>[.own (aJ 24 (aJ 2 (aM .i64))) v y]):=by
 refine ct (S:=Unit) (b9 fun _ _=>rfl) Tryz.func146 rfl rfl ?_
 repeat' first
  | (apply Dk.fe; repeat' first | exact rfl | (refine @id.{0} _ ?_; constructor))
  | intro _
  | exact rfl
  | (refine @id.{0} _ ?_; constructor)
  | apply Dk.loop 0 (V:=Value) (fun (s:(List (List Int))×Int) v=>[.own (aJ 24 (aJ 2 (aM .i64))) v s.1]) (fun s v=>[(3,v),(4,.int .i64 (s.2))]) _ [(0,_)]
  | apply zH
  | exact ()
theorem Ya {x0:aG} {aS aY aN aL:Value}:Ct Tryz.prog 72 true (gW x0) [.agg #[.int .i64 (x0.aA),aS,aY,aN,aL]] [rI aS x0.aD,rI aY x0.To,rI aN x0.aH,rJ aL x0.aB] (fun y (v:Value×Value×Value×Value)=>[.agg #[.int .i64 y.aA,v.1,v.2.1,v.2.2.1,v.2.2.2]]) (fun y v=>[.own (aJ 2 (aM .i64)) v.1 y.aD,.own (aJ 2 (aM .i64)) v.2.1 y.To,.own (aJ 2 (aM .i64)) v.2.2.1 y.aH,.own (aJ 24 (aJ 2 (aM .i64))) v.2.2.2 y.aB]):=by
 refine ct (S:=Unit) (b9 fun _ _=>rfl) Tryz.func72 rfl rfl ?_
 repeat' first
  | (apply Dk.fe; repeat' first | exact rfl | (refine @id.{0} _ ?_; constructor))
  | intro _
  | exact rfl
  | (refine Dk.uP (t:=32) rfl ?_ ?_)
  | (refine @id.{0} _ ?_; constructor)
  | apply Dk.j6 0 (V:=Value) (A:=Nat×Value×Value×Value) (_,_,_,_) (fun a (s:Int×(List (List Int))) v=>Dk.pc (fun a0=>Dk.pc (fun a1=>Dk.pc (fun a2 a3=>[.row a0 [.int .i64 (x0.aA),a1,a2,a3,v] 27,.own (aJ 24 (aJ 2 (aM .i64))) v s.2]))) a) (fun a s v=>Dk.pc (fun a0=>Dk.pc (fun a1=>Dk.pc (fun a2 a3=>[(3,.pointer (some ⟨a0,0,none⟩)),(4,.int .i64 (s.1))]))) a) _ [(1,_),(2,_)]
  | apply Dk.loop 2 (V:=Value) (fun (s:(List Int)×Int) v=>[.own (aJ 2 (aM .i64)) v s.1]) (fun s v=>[(5,v),(6,.int .i64 (s.2))]) _ [(1,_),(2,_),(3,_),(4,_)]
  | apply Dk.Vx (id:=1) [13,0,1,2,3,4,5,6,7,8,9,10,11,12,14] [1,2,3,4,5,6,7,8,9,10,11,12,13,0,14] [] 14 [] [] [[],[],[1],[],[3],[4,3],[],[6],[7,6,5,4,3],[],[9],[10,9,8,7,6,5,4,3],[],[2,1,5,4,3,8,7,6,5,4,3,11,10,9,8,7,6,5,4,3,12]] (by kernel_rfl)
  | apply zH
  | exact ()
theorem ML {x0:aG} {aS aY aN aL:Value} {x1:Int} {x2:Int}:Ct Tryz.prog 144 true (gX x0 x1 x2) [.agg #[.int .i64 (x0.aA),aS,aY,aN,aL],.int .i64 (x1),.int .i64 (x2)] [rI aS x0.aD,rI aY x0.To,rI aN x0.aH,rJ aL x0.aB] (fun y (v:Value)=>[v]) (fun y v=>[.own (aJ 2 (aM .i64)) v y]):=by
 refine ct (S:=Unit) (b9 fun _ _=>rfl) Tryz.func144 rfl rfl ?_
 repeat' first
  | (apply Dk.fe; repeat' first | exact rfl | (refine @id.{0} _ ?_; constructor))
  | intro _
  | exact rfl
  | (refine @id.{0} _ ?_; constructor)
  | apply Dk.loop 0 (V:=Value) (fun (s:(List Int)×Int) v=>[.own (aJ 2 (aM .i64)) v s.1]) (fun s v=>[(7,v),(8,.int .i64 (s.2))]) _ [(1,_),(2,_),(3,_)]
  | exact ()
theorem aet {x0:aG} {aS aY aN aL:Value} {x1:aG} {bU cI bB aW:Value} {x2:(List Int)} {eC:Value}:Ct Tryz.prog 150 true (nR x0 x1 x2) [.agg #[.int .i64 (x0.aA),aS,aY,aN,aL],.agg #[.int .i64 (x1.aA),bU,cI,bB,aW],eC] [rI aS x0.aD,rI aY x0.To,rI aN x0.aH,rJ aL x0.aB,rI bU x1.aD,rI cI x1.To,rI bB x1.aH,rJ aW x1.aB,rI eC x2] (fun y (_:Unit)=>[.bool y]) (fun y _=>[]):=by
 refine ct (S:=Unit) (b9 fun _ _=>rfl) Tryz.func150 rfl rfl ?_
 repeat' first
  | (apply Dk.fe; repeat' first | exact rfl | (refine @id.{0} _ ?_; constructor))
  | intro _
  | exact rfl
  | (refine @id.{0} _ ?_; constructor)
  | apply Dk.loop 0 (V:=Unit) (fun (s:Int) v=>[]) (fun s v=>[(7,.int .i64 (s))]) () [(2,_),(3,_),(4,_)]
  | apply Dk.quiet (id:=4) (by kernel_rfl)
  | apply Dk.tail (id:=5) 20 (by kernel_rfl)
  | apply ML
  | exact ()
theorem aeu {x0:aG} {aS aY aN aL:Value} {x1:aG} {bU cI bB aW:Value} {x2:(List Int)} {eC:Value}:Ct Tryz.prog 158 true (nS x0 x1 x2) [.agg #[.int .i64 (x0.aA),aS,aY,aN,aL],.agg #[.int .i64 (x1.aA),bU,cI,bB,aW],eC] [rI aS x0.aD,rI aY x0.To,rI aN x0.aH,rJ aL x0.aB,rI bU x1.aD,rI cI x1.To,rI bB x1.aH,rJ aW x1.aB,.own (aJ 2 (aM .i64)) eC x2] (fun y (_:Unit)=>[.bool y.1]) (fun y _=>[.own (aJ 2 (aM .i64)) eC y.2]):=by
 refine ct (S:=Unit) (b9 fun _ _=>rfl) Tryz.func158 rfl rfl ?_
 repeat' first
  | (apply Dk.fe; repeat' first | exact rfl | (refine @id.{0} _ ?_; constructor))
  | intro _
  | exact rfl
  | (refine Dk.uP (t:=22) rfl ?_ ?_)
  | (refine @id.{0} _ ?_; constructor)
  | apply Dk.loop 0 (V:=Unit) (fun (s:Bool×(List Int)) v=>[.own (aJ 2 (aM .i64)) eC s.2]) (fun s v=>[(7,.bool (s.1))]) () [(2,_),(3,_),(4,_)]
  | apply Dk.loop 2 (V:=Unit) (fun (s:Bool×Int×(List Int)) v=>[.own (aJ 2 (aM .i64)) eC s.2.2]) (fun s v=>[(7,.bool (s.1)),(8,.int .i64 (s.2.1))]) () [(2,_),(3,_),(4,_)]
  | apply Dk.loop 4 (V:=Unit) (fun (s:Bool×Int×(List Int)) v=>[.own (aJ 2 (aM .i64)) eC s.2.2]) (fun s v=>[(7,.bool (s.1)),(9,.int .i64 (s.2.1))]) () [(2,_),(3,_),(4,_),(8,_)]
  | apply Dk.quiet (id:=12) (by kernel_rfl)
  | exact ()
theorem Yb {rc:aG→aG→(List Int)→(List Int)→Int→(List (List Int))→Option ((List (List Int)))} (ih:∀ {x0:aG} {aS aY aN aL:Value} {x1:aG} {bU cI bB aW:Value} {x2:(List Int)} {eC:Value} {x3:(List Int)} {gD:Value} {x4:Int} {x5:(List (List Int))} {qX:Value},Ct Tryz.prog 151 true (rc x0 x1 x2 x3 x4 x5) [.agg #[.int .i64 (x0.aA),aS,aY,aN,aL],.agg #[.int .i64 (x1.aA),bU,cI,bB,aW],eC,gD,.int .i64 (x4),qX] [rI aS x0.aD,rI aY x0.To,rI aN x0.aH,rJ aL x0.aB,rI bU x1.aD,rI cI x1.To,rI bB x1.aH,rJ aW x1.aB,rI eC x2,rI gD x3,.own (aJ 24 (aJ 2 (aM .i64))) qX x5] (fun y (v:Value)=>[v]) (fun y v=>[.own (aJ 24 (aJ 2 (aM .i64))) v y])) {x0:aG} {aS aY aN aL:Value} {x1:aG} {bU cI bB aW:Value} {x2:(List Int)} {eC:Value} {x3:(List Int)} {gD:Value} {x4:Int} {x5:(List (List Int))} {qX:Value}:Ct Tryz.prog 151 true (lF rc x0 x1 x2 x3 x4 x5) [.agg #[.int .i64 (x0.aA),aS,aY,aN,aL],.agg #[.int .i64 (x1.aA),bU,cI,bB,aW],eC,gD,.int .i64 (x4),qX] [rI aS x0.aD,rI aY x0.To,rI aN x0.aH,rJ aL x0.aB,rI bU x1.aD,rI cI x1.To,rI bB x1.aH,rJ aW x1.aB,rI eC x2,rI gD x3,.own (aJ 24 (aJ 2 (aM .i64))) qX x5] (fun y (v:Value)=>[v]) (fun y v=>[.own (aJ 24 (aJ 2 (aM .i64))) v y]):=by
 refine ct (S:=Unit) (b9 fun _ _=>rfl) Tryz.func151 rfl rfl ?_
 repeat' first
  | (apply Dk.fe; repeat' first | exact rfl | (refine @id.{0} _ ?_; constructor))
  | intro _
  | exact rfl
  | (refine @id.{0} _ ?_; constructor)
  | apply ih
  | apply Dk.loop 0 (V:=Unit) (fun (s:Int) v=>[]) (fun s v=>[(4,.int .i64 (s))]) () [(2,_),(3,_),(5,_),(6,_),(7,_)]
  | apply Dk.loop 2 (V:=Value) (fun (s:(List (List Int))×Int) v=>[.own (aJ 24 (aJ 2 (aM .i64))) v s.1]) (fun s v=>[(5,v),(14,.int .i64 (s.2))]) _ [(2,_),(3,_),(4,_),(6,_),(7,_),(13,_)]
  | apply Dk.any (id:=5) 17 [] [] [[],[],[],[2],[],[3,2,4],[5,3,2,4],[1,6,5,3,2,4],[7,1,6,5,3,2,4],[],[],[10],[],[11,10,12],[13,11,10,12],[9,14,13,11,10,12],[15,9,14,13,11,10,12]] (by kernel_rfl)
  | apply zH
  | apply ML
  | apply aeu
  | exact ()
theorem Yc (n:Nat):∀ {x0:aG} {aS aY aN aL:Value} {x1:aG} {bU cI bB aW:Value} {x2:(List Int)} {eC:Value} {x3:(List Int)} {gD:Value} {x4:Int} {x5:(List (List Int))} {qX:Value},Ct Tryz.prog 151 true (gU n x0 x1 x2 x3 x4 x5) [.agg #[.int .i64 (x0.aA),aS,aY,aN,aL],.agg #[.int .i64 (x1.aA),bU,cI,bB,aW],eC,gD,.int .i64 (x4),qX] [rI aS x0.aD,rI aY x0.To,rI aN x0.aH,rJ aL x0.aB,rI bU x1.aD,rI cI x1.To,rI bB x1.aH,rJ aW x1.aB,rI eC x2,rI gD x3,.own (aJ 24 (aJ 2 (aM .i64))) qX x5] (fun y (v:Value)=>[v]) (fun y v=>[.own (aJ 24 (aJ 2 (aM .i64))) v y]):=by
 induction n with
 | zero=>intros; rw [r6]; exact ⟨(b9 fun _ _=>rfl),fun _ _ _ _ _ _ _ y hy=>nomatch (show none=some y from hy)⟩
 | succ n ih=>exact Yb ih
theorem aev {x0:aG} {aS aY aN aL:Value} {x1:aG} {bU cI bB aW:Value} {x2:(List Int)} {eC:Value} {x3:(List Int)} {gD:Value} {x4:Int} {x5:(List (List Int))} {qX:Value}:Ct Tryz.prog 151 true (gU 64 x0 x1 x2 x3 x4 x5) [.agg #[.int .i64 (x0.aA),aS,aY,aN,aL],.agg #[.int .i64 (x1.aA),bU,cI,bB,aW],eC,gD,.int .i64 (x4),qX] [rI aS x0.aD,rI aY x0.To,rI aN x0.aH,rJ aL x0.aB,rI bU x1.aD,rI cI x1.To,rI bB x1.aH,rJ aW x1.aB,rI eC x2,rI gD x3,.own (aJ 24 (aJ 2 (aM .i64))) qX x5] (fun y (v:Value)=>[v]) (fun y v=>[.own (aJ 24 (aJ 2 (aM .i64))) v y]):=by
 exact Yc 64
theorem aew {x0:Int} {x1:Int} {x2:Int}:Ct Tryz.prog 141 true (qR x0 x1 x2) [.int .i64 (x0),.int .i64 (x1),.int .i64 (x2)] [] (fun y (_:Unit)=>[.bool y]) (fun y _=>[]):=by
 refine ct (S:=Unit) (b9 fun _ _=>rfl) Tryz.func141 rfl rfl ?_
 repeat' first
  | (apply Dk.fe; repeat' first | exact rfl | (refine @id.{0} _ ?_; constructor))
  | intro _
  | exact rfl
  | (refine @id.{0} _ ?_; constructor)
  | exact ()
theorem Yd {x0:Int} {x1:(List Int)} {eA:Value}:Ct Tryz.prog 68 true (kG x0 x1) [.int .i64 (x0),eA] [rI eA x1] (fun y (_:Unit)=>[.bool y]) (fun y _=>[]):=by
 refine ct (S:=Unit) (b9 fun _ _=>rfl) Tryz.func68 rfl rfl ?_
 repeat' first
  | (apply Dk.fe; repeat' first | exact rfl | (refine @id.{0} _ ?_; constructor))
  | intro _
  | exact rfl
  | (refine @id.{0} _ ?_; constructor)
  | apply Dk.loop 0 (V:=Unit) (fun (s:Int) v=>[]) (fun s v=>[(5,.int .i64 (s))]) () [(0,_),(1,_)]
  | exact ()
theorem aex {x0:(List Int)} {dC:Value} {x1:Int} {x2:Int}:Ct Tryz.prog 142 true (mK x0 x1 x2) [dC,.int .i64 (x1),.int .i64 (x2)] [rI dC x0] (fun y (_:Unit)=>[.bool y]) (fun y _=>[]):=by
 refine ct (S:=Unit) (b9 fun _ _=>rfl) Tryz.func142 rfl rfl ?_
 repeat' first
  | (apply Dk.fe; repeat' first | exact rfl | (refine @id.{0} _ ?_; constructor))
  | intro _
  | exact rfl
  | (refine @id.{0} _ ?_; constructor)
  | apply Yd
  | exact ()
theorem aey {x0:aG} {aS aY aN aL:Value} {x1:Int} {x2:Int}:Ct Tryz.prog 145 true (lB x0 x1 x2) [.agg #[.int .i64 (x0.aA),aS,aY,aN,aL],.int .i64 (x1),.int .i64 (x2)] [rI aS x0.aD,rI aY x0.To,rI aN x0.aH,rJ aL x0.aB] (fun y (_:Unit)=>[.int .i64 y]) (fun y _=>[]):=by
 refine ct (S:=Unit) (b9 fun _ _=>rfl) Tryz.func145 rfl rfl ?_
 repeat' first
  | (apply Dk.fe; repeat' first | exact rfl | (refine @id.{0} _ ?_; constructor))
  | intro _
  | exact rfl
  | (refine @id.{0} _ ?_; constructor)
  | exact ()
theorem aez {x0:aI} {aU aZ aQ aO aV bA aR aP bK bP:Value} {x1:bG} {qJ:Value} {x2:bG} {lD:Value}:Ct Tryz.prog 109 true (pT x0 x1 x2) [.agg #[.int .i64 (x0.aC.aA),aU,aZ,aQ,aO,.int .i64 (x0.aE.aA),aV,bA,aR,aP,bK,bP],.agg #[.int .i64 (x1.dy),qJ],.agg #[.int .i64 (x2.dy),lD]] [rI aU x0.aC.aD,rI aZ x0.aC.To,rI aQ x0.aC.aH,rJ aO x0.aC.aB,rI aV x0.aE.aD,rI bA x0.aE.To,rI aR x0.aE.aH,rJ aP x0.aE.aB,rI bK x0.aA,rI bP x0.ab,rI qJ x1.br,rI lD x2.br] (fun y (v:Value)=>[v]) (fun y v=>[.own (aJ 2 (aM .i64)) v y]):=by
 refine ct (S:=Unit) (b9 fun _ _=>rfl) Tryz.func109 rfl rfl ?_
 repeat' first
  | (apply Dk.fe; repeat' first | exact rfl | (refine @id.{0} _ ?_; constructor))
  | intro _
  | exact rfl
  | (refine @id.{0} _ ?_; constructor)
  | apply Dk.loop 0 (V:=Value) (fun (s:(List Int)×Int) v=>[.own (aJ 2 (aM .i64)) v s.1]) (fun s v=>[(8,v),(9,.int .i64 (s.2))]) _ [(3,_),(4,_),(5,_),(7,_)]
  | apply Dk.loop 2 (V:=Unit) (fun (s:Bool×Int) v=>[]) (fun s v=>[(10,.bool (s.1)),(11,.int .i64 (s.2))]) () [(3,_),(4,_),(5,_),(7,_),(8,_),(9,_)]
  | apply Dk.quiet (id:=10) (by kernel_rfl)
  | apply ML
  | apply aey
  | exact ()
end Go.Proofs.YtgjbmjjihmfppaaGreat
