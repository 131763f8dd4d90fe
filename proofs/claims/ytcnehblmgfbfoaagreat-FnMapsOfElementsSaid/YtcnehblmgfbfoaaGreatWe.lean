/- Walks by the calculus D. No condition beside those that each theorem names. -/
import Derived.Test.YtcnehblmgfbfoaaGreatDp
import Derived.Test.YtcnehblmgfbfoaaGreatDi
import Derived.Test.YtcnehblmgfbfoaaGreatMo
import Derived.Test.YtcnehblmgfbfoaaGreatDs
import Derived.Test.YtcnehblmgfbfoaaGreatWa
import Derived.Test.YtcnehblmgfbfoaaGreatWc
import Derived.Test.YtcnehblmgfbfoaaGreatWd
namespace Go.Proofs.YtcnehblmgfbfoaaGreat
open Go Go.Li Go.Dk
set_option linter.unusedVariables false
set_option maxHeartbeats 16000000
set_option maxRecDepth 100000
theorem afW {x0:aL} {cX:Nat} {bN:Value} {x1:Int}:Ct Tryz.prog 247 true (iR x0 x1) [.pointer (some (⟨cX,0,none⟩)),.int .i64 (x1)] [.row cX [bN,.int .i64 (x0.At),.int .u64 (x0.aj)] 194,.rd false (aV (aN .u8)) bN x0.Code] (fun y (v:Value)=>[v]) (fun y v=>[.own (aJ 22 (aJ 2 (aN .i64))) v y.1,.row cX [bN,.int .i64 y.2.At,.int .u64 y.2.aj] 194]):=by
 refine ct (S:=Unit) (bx fun _ _=>rfl) Tryz.func247 rfl rfl ?_
 repeat' first
  | (apply Dk.fe; repeat' first | exact rfl | (refine @id.{0} _ ?_; constructor))
  | intro _
  | exact rfl
  | (apply Dk.rwU (t:=45); exact rfl)
  | (refine Dk.tV (t:=62) rfl ?_ ?_)
  | (refine Dk.tV (t:=67) rfl ?_ ?_)
  | (refine @id.{0} _ ?_; constructor)
  | apply Dk.loop 0 (V:=Value) (fun (s:(List (List Int))×Int×Int×Int) v=>[.row cX [bN,.int .i64 (s.2.2.1),.int .u64 (s.2.2.2)] 194,.own (aJ 22 (aJ 2 (aN .i64))) v s.1]) (fun s v=>[(5,v),(6,.int .i64 (s.2.1))]) _ [(0,_),(1,_)]
  | apply Dk.de 2 (V:=Unit) (A:=Value) _ (fun a (s:Int×Int×Int×(List Int)) v=>[.row cX [bN,.int .i64 (s.2.1),.int .u64 (s.2.2.1)] 194,.own (aJ 2 (aN .i64)) a s.2.2.2]) (fun a s v=>[(7,a),(8,.int .i64 (s.1))]) () [(0,_),(1,_),(5,_),(6,_)]
  | apply Dk.de 4 (V:=Unit) (A:=Value) _ (fun a (s:Int×(List (List Int))) v=>[.own (aJ 22 (aJ 2 (aN .i64))) a s.2]) (fun a s v=>[(5,a),(9,.int .i64 (s.1))]) () [(1,_)]
  | apply Dk.de 6 (V:=Unit) (A:=Value) _ (fun a (s:Int×(List (List Int))) v=>[.own (aJ 22 (aJ 2 (aN .i64))) a s.2]) (fun a s v=>[(5,a),(10,.int .i64 (s.1))]) () [(1,_),(9,_)]
  | apply Dk.de 8 (V:=Unit) (A:=Value) _ (fun a (s:Int×(List (List Int))) v=>[.own (aJ 22 (aJ 2 (aN .i64))) a s.2]) (fun a s v=>[(5,a),(11,.int .i64 (s.1))]) () [(1,_),(9,_),(10,_)]
  | apply Dk.ru (id:=13) [Dk.aq.row _ _ 194] 8 [] [[],[],[],[],[],[],[],[10]] [[],[],[1],[0,1,2],[0,1,2,3],[],[],[5,6]] (by kernel_rfl)
  | apply Al
  | exact ()
theorem Za {x0:aL} {cX:Nat} {bN:Value} {x1:(List Int)} {dG:Value}:Ct Tryz.prog 254 true (mC x0 x1) [.pointer (some (⟨cX,0,none⟩)),dG] [.row cX [bN,.int .i64 (x0.At),.int .u64 (x0.aj)] 194,.rd false (aV (aN .u8)) bN x0.Code,rI dG x1] (fun y (_:Unit)=>[.int .i64 y.1]) (fun y _=>[.row cX [bN,.int .i64 y.2.At,.int .u64 y.2.aj] 194]):=by
 refine ct (S:=Unit) (bx fun _ _=>rfl) Tryz.func254 rfl rfl ?_
 repeat' first
  | (apply Dk.fe; repeat' first | exact rfl | (refine @id.{0} _ ?_; constructor))
  | intro _
  | exact rfl
  | (refine @id.{0} _ ?_; constructor)
  | apply Al
  | exact ()
theorem afX {x0:(List Int)} {cO:Value} {x1:Int} {x2:Int}:Ct Tryz.prog 258 true (mH x0 x1 x2) [cO,.int .i64 (x1),.int .i64 (x2)] [rI cO x0] (fun y (_:Unit)=>[.bool y]) (fun y _=>[]):=by
 refine ct (S:=Unit) (bx fun _ _=>rfl) Tryz.func258 rfl rfl ?_
 repeat' first
  | (apply Dk.fe; repeat' first | exact rfl | (refine @id.{0} _ ?_; constructor))
  | intro _
  | exact rfl
  | (refine @id.{0} _ ?_; constructor)
  | apply Nn
  | exact ()
theorem afY {x0:aH} {bA bJ aT aR:Value}:Ct Tryz.prog 174 true (oE x0) [.agg #[.int .i64 (x0.aD),bA,bJ,aT,aR]] [rI bA x0.aG,rI bJ x0.To,rI aT x0.aI,rJ aR x0.aB] (fun y (_:Unit)=>[.bool y]) (fun y _=>[]):=by
 refine ct (S:=Unit) (bx fun _ _=>rfl) Tryz.func174 rfl rfl ?_
 repeat' first
  | (apply Dk.fe; repeat' first | exact rfl | (refine @id.{0} _ ?_; constructor))
  | intro _
  | exact rfl
  | (refine Dk.tV (t:=102) rfl ?_ ?_)
  | (refine @id.{0} _ ?_; constructor)
  | apply Dk.loop 0 (V:=Unit) (fun (s:Int) v=>[]) (fun s v=>[(4,.int .i64 (s))]) () [(1,_),(3,_)]
  | apply Dk.loop 2 (V:=Unit) (fun (s:Int) v=>[]) (fun s v=>[(5,.int .i64 (s))]) () [(1,_),(3,_)]
  | apply Dk.loop 4 (V:=Unit) (fun (s:Int) v=>[]) (fun s v=>[(6,.int .i64 (s))]) () [(1,_),(3,_),(5,_)]
  | apply Dk.quiet (id:=9) (by kernel_rfl)
  | apply Dk.quiet (id:=20) (by kernel_rfl)
  | apply Dk.quiet (id:=23) (by kernel_rfl)
  | apply Y1
  | apply afX
  | apply Nn
  | exact ()
theorem Sr {x0:(List (List Int))} {cO:Value} {x1:(List Int)} {dG:Value}:Ct Tryz.prog 131 true (iI x0 x1) [cO,dG] [rJ cO x0,rI dG x1] (fun y (_:Unit)=>[.int .i64 y]) (fun y _=>[]):=by
 refine ct (S:=Unit) (bx fun _ _=>rfl) Tryz.func131 rfl rfl ?_
 repeat' first
  | (apply Dk.fe; repeat' first | exact rfl | (refine @id.{0} _ ?_; constructor))
  | intro _
  | exact rfl
  | (refine @id.{0} _ ?_; constructor)
  | apply Dk.loop 0 (V:=Unit) (fun (s:Int) v=>[]) (fun s v=>[(5,.int .i64 (s))]) () [(0,_),(1,_)]
  | apply Nj
  | exact ()
theorem afZ {x0:(List (List Int))} {cO:Value}:Ct Tryz.prog 198 true (qJ x0) [cO] [rJ cO x0] (fun y (v:Value)=>[v]) (fun y v=>[.own (aJ 22 (aJ 2 (aN .i64))) v y]):=by
 refine ct (S:=Unit) (bx fun _ _=>rfl) Tryz.func198 rfl rfl ?_
 repeat' first
  | (apply Dk.fe; repeat' first | exact rfl | (refine @id.{0} _ ?_; constructor))
  | intro _
  | exact rfl
  | (refine @id.{0} _ ?_; constructor)
  | apply Dk.loop 0 (V:=Value) (fun (s:(List (List Int))×Int) v=>[.own (aJ 22 (aJ 2 (aN .i64))) v s.1]) (fun s v=>[(3,v),(11,.int .i64 (s.2))]) _ [(9,_),(10,_)]
  | apply Y6
  | exact ()
theorem af0 {x0:aH} {cU:Addr} {bA bJ aT aR:Value}:Ct Tryz.prog 119 true (gZ x0) [.pointer (some (cU))] [.au cU [.int .i64 (x0.aD),bA,bJ,aT,aR],rI bA x0.aG,rI bJ x0.To,rI aT x0.aI,rJ aR x0.aB] (fun y (v:Value×Value×Value×Value)=>[.agg #[.int .i64 y.aD,v.1,v.2.1,v.2.2.1,v.2.2.2]]) (fun y v=>[.own (aJ 2 (aN .i64)) v.1 y.aG,.own (aJ 2 (aN .i64)) v.2.1 y.To,.own (aJ 2 (aN .i64)) v.2.2.1 y.aI,.own (aJ 22 (aJ 2 (aN .i64))) v.2.2.2 y.aB]):=by
 refine ct (S:=Unit) (bx fun _ _=>rfl) Tryz.func119 rfl rfl ?_
 repeat' first
  | (apply Dk.fe; repeat' first | exact rfl | (refine @id.{0} _ ?_; constructor))
  | intro _
  | exact rfl
  | (refine @id.{0} _ ?_; constructor)
  | apply Dk.any (id:=1) 24 [] [] [[],[0],[0,1],[0,1,2],[],[4],[4,5],[4,5,6],[4,5,6,7],[],[9],[9,10],[9,10,11],[4,5,6,7,8,9,10,11,12],[],[14],[14,15],[14,15,16],[4,5,6,7,8,9,10,11,12,13,14,15,16,17],[],[19],[19,20],[19,20,21],[4,5,6,7,8,9,10,11,12,13,14,15,16,17,18,19,20,21,22]] (by kernel_rfl)
  | apply Y6
  | apply afZ
  | exact ()
theorem af1 {x0:aK} {aW bC aU aS bP bD:Value}:Ct Tryz.prog 116 true (iQ x0) [.agg #[.int .i64 (x0.aC.aD),aW,bC,aU,aS,bP,bD]] [rI aW x0.aC.aG,rI bC x0.aC.To,rI aU x0.aC.aI,rJ aS x0.aC.aB,rI bP x0.aP,rJ bD x0.aO] (fun y (v:Value×Value×Value×Value×Value×Value)=>[.agg #[.int .i64 y.1.C.aD,v.1,v.2.1,v.2.2.1,v.2.2.2.1,v.2.2.2.2.1,v.2.2.2.2.2],.bool y.2]) (fun y v=>[.own (aJ 2 (aN .i64)) v.1 y.1.C.aG,.own (aJ 2 (aN .i64)) v.2.1 y.1.C.To,.own (aJ 2 (aN .i64)) v.2.2.1 y.1.C.aI,.own (aJ 22 (aJ 2 (aN .i64))) v.2.2.2.1 y.1.C.aB,.own (aJ 22 (aJ 2 (aN .i64))) v.2.2.2.2.1 y.1.aD,.own (aJ 22 (aJ 2 (aN .i64))) v.2.2.2.2.2 y.1.bc]):=by
 refine ct (S:=Unit) (bx fun _ _=>rfl) Tryz.func116 rfl rfl ?_
 repeat' first
  | (apply Dk.fe; repeat' first | exact rfl | (refine @id.{0} _ ?_; constructor))
  | intro _
  | exact rfl
  | apply Dk.ui (d:=40)
  | (refine Dk.tV (t:=60) rfl ?_ ?_)
  | apply Dk.ui (d:=113)
  | (refine Dk.tV (t:=196) rfl ?_ ?_)
  | apply Dk.AD.VC (t:=22)
  | apply Dk.AD.VD (t:=23)
  | (refine @id.{0} _ ?_; constructor)
  | apply Dk.de 0 (V:=Value) (A:=Nat×Value×Value×Value×Value×Value) (_,_,_,_,_,_) (fun a (s:Int×(List (List Int))) v=>Dk.pc (fun a0=>Dk.pc (fun a1=>Dk.pc (fun a2=>Dk.pc (fun a3=>Dk.pc (fun a4 a5=>[.row a0 [.int .i64 ((0:Int)),a1,a2,a3,a4,v,a5] 150,.own (aJ 22 (aJ 2 (aN .i64))) v s.2]))))) a) (fun a s v=>Dk.pc (fun a0=>Dk.pc (fun a1=>Dk.pc (fun a2=>Dk.pc (fun a3=>Dk.pc (fun a4 a5=>[(4,.pointer (some ⟨a0,0,none⟩)),(5,.int .i64 (s.1))]))))) a) _ [(1,_),(2,_)]
  | apply Dk.de 2 (V:=Value) (A:=Nat×Value×Value×Value×Value×Value) (_,_,_,_,_,_) (fun a (s:Int×(List (List Int))) v=>Dk.pc (fun a0=>Dk.pc (fun a1=>Dk.pc (fun a2=>Dk.pc (fun a3=>Dk.pc (fun a4 a5=>[.row a0 [.int .i64 ((0:Int)),a1,a2,a3,a4,v,a5] 150,.own (aJ 22 (aJ 2 (aN .i64))) v s.2]))))) a) (fun a s v=>Dk.pc (fun a0=>Dk.pc (fun a1=>Dk.pc (fun a2=>Dk.pc (fun a3=>Dk.pc (fun a4 a5=>[(4,.pointer (some ⟨a0,0,none⟩)),(6,.int .i64 (s.1))]))))) a) _ [(1,_),(2,_),(5,_)]
  | apply Dk.de 4 (V:=Value) (A:=Nat×Value×Value×Value×Value×Value) (_,_,_,_,_,_) (fun a (s:Int×(List (List Int))) v=>Dk.pc (fun a0=>Dk.pc (fun a1=>Dk.pc (fun a2=>Dk.pc (fun a3=>Dk.pc (fun a4 a5=>[.row a0 [.int .i64 ((0:Int)),a1,a2,a3,a4,a5,v] 150,.own (aJ 22 (aJ 2 (aN .i64))) v s.2]))))) a) (fun a s v=>Dk.pc (fun a0=>Dk.pc (fun a1=>Dk.pc (fun a2=>Dk.pc (fun a3=>Dk.pc (fun a4 a5=>[(4,.pointer (some ⟨a0,0,none⟩)),(7,.int .i64 (s.1))]))))) a) _ [(1,_),(2,_)]
  | apply Dk.de 6 (V:=Value) (A:=Nat×Value×Value×Value×Value×Value) (_,_,_,_,_,_) (fun a (s:Int×(List (List Int))) v=>Dk.pc (fun a0=>Dk.pc (fun a1=>Dk.pc (fun a2=>Dk.pc (fun a3=>Dk.pc (fun a4 a5=>[.row a0 [.int .i64 ((0:Int)),a1,a2,a3,a4,a5,v] 150,.own (aJ 22 (aJ 2 (aN .i64))) v s.2]))))) a) (fun a s v=>Dk.pc (fun a0=>Dk.pc (fun a1=>Dk.pc (fun a2=>Dk.pc (fun a3=>Dk.pc (fun a4 a5=>[(4,.pointer (some ⟨a0,0,none⟩)),(8,.int .i64 (s.1))]))))) a) _ [(1,_),(2,_),(7,_)]
  | apply Dk.de 8 (V:=Value) (A:=Nat×Value×Value×Value×Value×Value) (_,_,_,_,_,_) (fun a (s:Int×(List (List Int))) v=>Dk.pc (fun a0=>Dk.pc (fun a1=>Dk.pc (fun a2=>Dk.pc (fun a3=>Dk.pc (fun a4 a5=>[.row a0 [.int .i64 ((0:Int)),a1,a2,a3,a4,a5,v] 150,.own (aJ 22 (aJ 2 (aN .i64))) v s.2]))))) a) (fun a s v=>Dk.pc (fun a0=>Dk.pc (fun a1=>Dk.pc (fun a2=>Dk.pc (fun a3=>Dk.pc (fun a4 a5=>[(4,.pointer (some ⟨a0,0,none⟩)),(12,.int .i64 (s.1))]))))) a) _ [(1,_),(2,_),(7,_),(8,_),(9,_),(10,_),(11,_)]
  | apply Dk.de 10 (V:=Value) (A:=Nat×Value×Value×Value×Value×Value×Value) (_,_,_,_,_,_,_) (fun a (s:Int×(List Int)) v=>Dk.pc (fun a0=>Dk.pc (fun a1=>Dk.pc (fun a2=>Dk.pc (fun a3=>Dk.pc (fun a4=>Dk.pc (fun a5 a6=>[.row a0 [a1,a2,a3,v,a4,a5,a6] 150,.own (aJ 2 (aN .i64)) v s.2])))))) a) (fun a s v=>Dk.pc (fun a0=>Dk.pc (fun a1=>Dk.pc (fun a2=>Dk.pc (fun a3=>Dk.pc (fun a4=>Dk.pc (fun a5 a6=>[(4,.pointer (some ⟨a0,0,none⟩)),(13,.int .i64 (s.1))])))))) a) _ [(1,_),(2,_)]
  | apply Dk.de 12 (V:=Value×Value×Value) (A:=Nat×Value×Value×Value×Value) (_,_,_,_,_) (fun a (s:Int×(List Int)×(List Int)×(List (List Int))) v=>Dk.pc (fun a0=>Dk.pc (fun a1=>Dk.pc (fun a2=>Dk.pc (fun a3 a4=>[.row a0 [a1,v.1,v.2.1,a2,v.2.2,a3,a4] 150,.own (aJ 2 (aN .i64)) v.1 s.2.1,.own (aJ 2 (aN .i64)) v.2.1 s.2.2.1,.own (aJ 22 (aJ 2 (aN .i64))) v.2.2 s.2.2.2])))) a) (fun a s v=>Dk.pc (fun a0=>Dk.pc (fun a1=>Dk.pc (fun a2=>Dk.pc (fun a3 a4=>[(4,.pointer (some ⟨a0,0,none⟩)),(14,.int .i64 (s.1))])))) a) (_,_,_) [(1,_),(2,_)]
  | apply Dk.loop 14 (V:=Value) (fun (s:(List Int)×Int) v=>[.own (aJ 2 (aN .i64)) v s.1]) (fun s v=>[(16,v),(17,.int .i64 (s.2))]) _ [(1,_),(2,_),(4,_),(14,_),(15,_)]
  | apply Dk.quiet (id:=17) (by kernel_rfl)
  | apply Dk.quiet (id:=22) (by kernel_rfl)
  | apply Dk.quiet (id:=42) (by kernel_rfl)
  | apply Dk.any (id:=18) 8 [] [] [[],[0],[],[2],[2,3],[],[5],[5,6]] (by kernel_rfl)
  | apply Dk.ru (id:=23) [Dk.aq.own (aJ 22 (aJ 2 (aN .i64))) _ _] 11 [] [[],[],[],[],[],[],[],[],[],[],[13,8]] [[],[0],[],[],[],[],[4,5],[4,5,6],[2,3,4,5,6,7],[2,3,4,5,6,7,8],[0,1,2,3,4,5,6,7,8,9]] (by kernel_rfl)
  | apply Dk.any (id:=30) 22 [] [] [[],[0],[0,1],[],[3],[],[],[],[7],[7,8],[],[10],[],[10,11,12],[10,11,12,13],[10,11,12,13,14],[10,11,12,13,14,15],[7,8,9,10,11,12,13,14,15,16],[7,8,9,10,11,12,13,14,15,16,17],[5,6,7,8,9,10,11,12,13,14,15,16,17,18],[3,4,5,6,7,8,9,10,11,12,13,14,15,16,17,18,19],[3,4,5,6,7,8,9,10,11,12,13,14,15,16,17,18,19,20]] (by kernel_rfl)
  | apply Dk.any (id:=35) 7 [] [] [[],[0],[0,1],[],[3],[3,4],[3,4,5]] (by kernel_rfl)
  | apply Dk.any (id:=36) 7 [] [] [[],[0],[0,1],[],[3],[3,4],[3,4,5]] (by kernel_rfl)
  | apply Dk.any (id:=43) 21 [] [] [[],[],[1],[],[3],[3,4],[],[6],[6,7],[],[9],[],[11],[11,12],[],[14],[14,15],[9,10,11,12,13,14,15,16],[3,4,5,6,7,8,9,10,11,12,13,14,15,16,17],[1,2,3,4,5,6,7,8,9,10,11,12,13,14,15,16,17,18],[1,2,3,4,5,6,7,8,9,10,11,12,13,14,15,16,17,18,19]] (by kernel_rfl)
  | apply afR
  | apply Sr
  | apply c58
  | exact ()
end Go.Proofs.YtcnehblmgfbfoaaGreat
