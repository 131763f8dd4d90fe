/- Walks by the calculus D. No condition beside those that each theorem names. -/
import Derived.Test.YtacpfhajafmigaaGreatDi
import Derived.Test.YtacpfhajafmigaaGreatMo
import Derived.Test.YtacpfhajafmigaaGreatDg
import Derived.Test.YtacpfhajafmigaaGreatDs
import Derived.Test.YtacpfhajafmigaaGreatWa
import Derived.Test.YtacpfhajafmigaaGreatWb
import Derived.Test.YtacpfhajafmigaaGreatWc
import Derived.Test.YtacpfhajafmigaaGreatWd
namespace Go.Proofs.YtacpfhajafmigaaGreat
open Go Go.Li Go.Dk
set_option linter.unusedVariables false
set_option maxHeartbeats 16000000
set_option maxRecDepth 100000
theorem c47 {x0:aI} {bR:Value} {cF:Value} {bB:Value} {aW:Value}:Ct Tryz.prog 47 true (eS x0) [.agg #[.int .i64 (x0.aH),bR,cF,bB,aW]] [.rd false (aB (aC .i64)) bR x0.aG,.rd false (aB (aC .i64)) cF x0.To,.rd false (aB (aC .i64)) bB x0.aO,.rd false (aB (aB (aC .i64))) aW x0.aE] (fun y (v:Value×Value×Value×Value)=>[.agg #[.int .i64 y.aH,v.1,v.2.1,v.2.2.1,v.2.2.2]]) (fun y v=>[.own (aJ 2 (aC .i64)) v.1 y.aG,.own (aJ 2 (aC .i64)) v.2.1 y.To,.own (aJ 2 (aC .i64)) v.2.2.1 y.aO,.own (aJ 24 (aJ 2 (aC .i64))) v.2.2.2 y.aE]):=by
 refine ct (S:=Unit) (owt fun _ _=>rfl) Tryz.func47 rfl rfl ?_
 repeat' first
  | intro _
  | exact rfl
  | (refine @id.{0} _ ?_; constructor)
  | apply Dk.any (id:=1) 14 [] [] [[],[0],[],[2],[3,2],[],[5],[6,5,4,3,2],[],[8],[9,8,7,6,5,4,3,2],[],[11],[12,11,10,9,8,7,6,5,4,3,2]] (by kernel_rfl)
  | apply c23
  | apply c49
  | exact ()
theorem c114 {x0:aI} {bR:Value} {cF:Value} {bB:Value} {aW:Value} {x1:aI} {dM:Value} {dS:Value} {cR:Value} {cL:Value}:Ct Tryz.prog 114 true (lO x0 x1) [.agg #[.int .i64 (x0.aH),bR,cF,bB,aW],.agg #[.int .i64 (x1.aH),dM,dS,cR,cL]] [.rd false (aB (aC .i64)) bR x0.aG,.rd false (aB (aC .i64)) cF x0.To,.rd false (aB (aC .i64)) bB x0.aO,.rd false (aB (aB (aC .i64))) aW x0.aE,.rd false (aB (aC .i64)) dM x1.aG,.rd false (aB (aC .i64)) dS x1.To,.rd false (aB (aC .i64)) cR x1.aO,.rd false (aB (aB (aC .i64))) cL x1.aE] (fun y (v:Value×Value×Value×Value)=>[.agg #[.int .i64 y.aH,v.1,v.2.1,v.2.2.1,v.2.2.2]]) (fun y v=>[.own (aJ 2 (aC .i64)) v.1 y.aG,.own (aJ 2 (aC .i64)) v.2.1 y.To,.own (aJ 2 (aC .i64)) v.2.2.1 y.aO,.own (aJ 24 (aJ 2 (aC .i64))) v.2.2.2 y.aE]):=by
 refine ct (S:=Unit) (owt fun _ _=>rfl) Tryz.func114 rfl rfl ?_
 repeat' first
  | intro _
  | exact rfl
  | apply Dk.apR (d:=69)
  | apply Dk.ixH (d:=70)
  | apply Dk.stR (e:=24) (t:=24)
  | (refine @id.{0} _ ?_; constructor)
  | apply Dk.loopA 0 (V:=Value) (A:=Nat×Value×Value×Value) (_,_,_,_) (fun a (s:Int×(List Int)) v=>Dk.pc (fun a0=>Dk.pc (fun a1=>Dk.pc (fun a2 a3=>[.row a0 [.int .i64 (w64 (x0.aH+x1.aH)),a1,a2,v,a3] 27,.own (aJ 2 (aC .i64)) v s.2]))) a) (fun a s v=>Dk.pc (fun a0=>Dk.pc (fun a1=>Dk.pc (fun a2 a3=>[(7,.pointer (some ⟨a0,0,none⟩)),(8,.int .i64 (s.1))]))) a) _ [(3,_),(4,_),(5,_),(6,_)]
  | apply Dk.loopA 2 (V:=Unit) (A:=Value) _ (fun a (s:Int×(List (List Int))) v=>[.own (aJ 24 (aJ 2 (aC .i64))) a s.2]) (fun a s v=>[(9,.int .i64 (s.1))]) () [(3,_),(4,_),(5,_),(6,_),(7,_)]
  | apply Dk.loopA 4 (V:=Unit) (A:=Value) _ (fun a (s:Int×(List (List Int))) v=>[.own (aJ 24 (aJ 2 (aC .i64))) a s.2]) (fun a s v=>[(10,.int .i64 (s.1))]) () [(3,_),(4,_),(5,_),(6,_),(7,_),(9,_)]
  | apply Dk.loopA 6 (V:=Value×Value×Value) (A:=Nat×Value) (_,_) (fun a (s:Int×(List Int)×(List Int)×(List (List Int))) v=>Dk.pc (fun a0 a1=>[.row a0 [.int .i64 (w64 (x0.aH+x1.aH)),v.1,v.2.1,a1,v.2.2] 27,.own (aJ 2 (aC .i64)) v.1 s.2.1,.own (aJ 2 (aC .i64)) v.2.1 s.2.2.1,.own (aJ 24 (aJ 2 (aC .i64))) v.2.2 s.2.2.2]) a) (fun a s v=>Dk.pc (fun a0 a1=>[(7,.pointer (some ⟨a0,0,none⟩)),(11,.int .i64 (s.1))]) a) (_,_,_) [(3,_),(4,_),(5,_),(6,_)]
  | apply Dk.loop 8 (V:=Value) (fun (s:(List Int)×Int) v=>[.own (aJ 2 (aC .i64)) v s.1]) (fun s v=>[(12,v),(13,.int .i64 (s.2))]) _ [(3,_),(4,_),(5,_),(6,_),(7,_),(11,_)]
  | apply Dk.loop 10 (V:=Value) (fun (s:(List Int)×Int) v=>[.own (aJ 2 (aC .i64)) v s.1]) (fun s v=>[(12,v),(14,.int .i64 (s.2))]) _ [(3,_),(4,_),(5,_),(6,_),(7,_),(11,_)]
  | apply Dk.quiet (id:=1) (by kernel_rfl)
  | apply Dk.any (id:=7) 10 [] [] [[],[0],[],[2],[],[3,2,4],[5,3,2,4],[],[6,5,3,2,4,7],[8,6,5,3,2,4,7]] (by kernel_rfl)
  | apply Dk.anyH (id:=14) [Dk.Ent.own (aJ 24 (aJ 2 (aC .i64))) _ _] 10 [] [[],[],[],[],[],[],[],[],[],[12]] [[],[0],[],[],[3],[],[4,3,5],[6,4,3,5],[],[7,6,4,3,5,8]] (by kernel_rfl)
  | apply Dk.any (id:=18) 10 [] [] [[],[0],[],[2],[],[3,2,4],[5,3,2,4],[],[6,5,3,2,4,7],[8,6,5,3,2,4,7]] (by kernel_rfl)
  | apply Dk.any (id:=19) 10 [] [] [[],[0],[],[2],[],[3,2,4],[5,3,2,4],[],[6,5,3,2,4,7],[8,6,5,3,2,4,7]] (by kernel_rfl)
  | apply c47
  | exact ()
theorem c108 {x0:aL} {cU:Nat} {bL:Value} {x1:aI} {dM:Value} {dS:Value} {cR:Value} {cL:Value}:Ct Tryz.prog 108 false (kP x0 x1) [.pointer (some (⟨cU,0,none⟩)),.agg #[.int .i64 (x1.aH),dM,dS,cR,cL]] [.row cU [bL,.int .i64 (x0.At),.int .u64 (x0.Hash)] 72,.rd false (aB (aC .u8)) bL x0.Code,.rd false (aB (aC .i64)) dM x1.aG,.rd false (aB (aC .i64)) dS x1.To,.rd false (aB (aC .i64)) cR x1.aO,.rd false (aB (aB (aC .i64))) cL x1.aE] (fun y (v:Value×Value×Value×Value)=>[.agg #[.int .i64 y.1.aH,v.1,v.2.1,v.2.2.1,v.2.2.2]]) (fun y v=>[.rd false (aB (aC .i64)) v.1 y.1.aG,.rd false (aB (aC .i64)) v.2.1 y.1.To,.rd false (aB (aC .i64)) v.2.2.1 y.1.aO,.rd false (aB (aB (aC .i64))) v.2.2.2 y.1.aE,.row cU [bL,.int .i64 y.2.At,.int .u64 y.2.Hash] 72]):=by
 refine ct (S:=Unit) owf Tryz.func108 rfl rfl ?_
 repeat' first
  | intro _
  | exact rfl
  | (refine Dk.cdR (t:=58) rfl ?_ ?_)
  | apply Dk.slT (t:=24)
  | apply Dk.stN
  | (refine @id.{0} _ ?_; constructor)
  | apply Dk.anyH (id:=13) [Dk.Ent.row _ _ 72] 6 [] [[],[],[],[],[],[8]] [[],[0],[],[],[3],[2,4,3]] (by kernel_rfl)
  | apply Dk.anyH (id:=18) [Dk.Ent.row _ _ 72] 13 [] [[],[],[],[],[],[],[],[15],[],[],[],[7],[]] [[],[0],[],[1,0,2],[3,1,0,2],[],[],[5,6],[],[],[9],[8,10,9,7,5,6],[11,8,10,9,5,6]] (by kernel_rfl)
  | apply Dk.anyH (id:=21) [Dk.Ent.row _ _ 72] 8 [] [[],[],[],[],[],[],[],[10]] [[],[0],[],[],[],[4],[5,4],[3,6,5,4]] (by kernel_rfl)
  | apply Dk.tailF (id:=6) 9 (e:=24) (e2:=2) (T:=(aC .i64)) (by kernel_rfl)
  | apply c47
  | apply c33
  | apply c111
  | exact ()
theorem c67 {x0:aI} {bR:Value} {cF:Value} {bB:Value} {aW:Value} {x1:(List Int)} {dG:Value}:Ct Tryz.prog 67 true (nF x0 x1) [.agg #[.int .i64 (x0.aH),bR,cF,bB,aW],dG] [.rd false (aB (aC .i64)) bR x0.aG,.rd false (aB (aC .i64)) cF x0.To,.rd false (aB (aC .i64)) bB x0.aO,.rd false (aB (aB (aC .i64))) aW x0.aE,.rd false (aB (aC .i64)) dG x1] (fun y (v:Value×Value×Value×Value×Value×Value)=>[.agg #[.int .i64 y.aA.aH,v.1,v.2.1,v.2.2.1,v.2.2.2.1,v.2.2.2.2.1,v.2.2.2.2.2]]) (fun y v=>[.own (aJ 2 (aC .i64)) v.1 y.aA.aG,.own (aJ 2 (aC .i64)) v.2.1 y.aA.To,.own (aJ 2 (aC .i64)) v.2.2.1 y.aA.aO,.own (aJ 24 (aJ 2 (aC .i64))) v.2.2.2.1 y.aA.aE,.own (aJ 2 (aC .i64)) v.2.2.2.2.1 y.aM,.own (aJ 24 (aJ 2 (aC .i64))) v.2.2.2.2.2 y.aN]):=by
 refine ct (S:=Unit) (owt fun _ _=>rfl) Tryz.func67 rfl rfl ?_
 repeat' first
  | intro _
  | exact rfl
  | apply Dk.ixk (d:=51)
  | apply Dk.AD.ixk (d:=51)
  | apply Dk.apR (d:=59)
  | apply Dk.ixH (d:=60)
  | apply Dk.stR (e:=25) (t:=25)
  | (refine @id.{0} _ ?_; constructor)
  | apply Dk.loopA 0 (V:=Unit) (A:=Value) _ (fun a (s:Int×(List (List (List Int)))) v=>[.own (aJ 25 (aJ 24 (aJ 2 (aC .i64)))) a s.2]) (fun a s v=>[(5,a),(6,.int .i64 (s.1))]) () [(1,_),(2,_),(4,_)]
  | apply Dk.loopA 2 (V:=Unit) (A:=Value) _ (fun a (s:Int×(List (List (List Int)))) v=>[.own (aJ 25 (aJ 24 (aJ 2 (aC .i64)))) a s.2]) (fun a s v=>[(5,a),(7,.int .i64 (s.1))]) () [(1,_),(2,_),(4,_),(6,_)]
  | apply Dk.loopA 4 (V:=Value) (A:=Nat×Value×Value×Value×Value×Value×Value) (_,_,_,_,_,_,_) (fun a (s:Int×(List Int)) v=>Dk.pc (fun a0=>Dk.pc (fun a1=>Dk.pc (fun a2=>Dk.pc (fun a3=>Dk.pc (fun a4=>Dk.pc (fun a5 a6=>[.row a0 [a1,a2,a3,a4,a5,v,a6] 29,.own (aJ 2 (aC .i64)) v s.2])))))) a) (fun a s v=>Dk.pc (fun a0=>Dk.pc (fun a1=>Dk.pc (fun a2=>Dk.pc (fun a3=>Dk.pc (fun a4=>Dk.pc (fun a5 a6=>[(8,.pointer (some ⟨a0,0,none⟩)),(9,.int .i64 (s.1))])))))) a) _ [(2,_),(4,_),(5,_)]
  | apply Dk.loopA 6 (V:=Value) (A:=Nat×Value×Value×Value×Value×Value×Value) (_,_,_,_,_,_,_) (fun a (s:Int×(List (List Int))) v=>Dk.pc (fun a0=>Dk.pc (fun a1=>Dk.pc (fun a2=>Dk.pc (fun a3=>Dk.pc (fun a4=>Dk.pc (fun a5 a6=>[.row a0 [a1,a2,a3,a4,a5,a6,v] 29,.own (aJ 24 (aJ 2 (aC .i64))) v s.2])))))) a) (fun a s v=>Dk.pc (fun a0=>Dk.pc (fun a1=>Dk.pc (fun a2=>Dk.pc (fun a3=>Dk.pc (fun a4=>Dk.pc (fun a5 a6=>[(8,.pointer (some ⟨a0,0,none⟩)),(10,.int .i64 (s.1))])))))) a) _ [(2,_),(4,_),(5,_)]
  | apply Dk.loop 8 (V:=Value) (fun (s:(List Int)×Int) v=>[.own (aJ 2 (aC .i64)) v s.1]) (fun s v=>[(11,v),(14,.int .i64 (s.2))]) _ [(2,_),(4,_),(5,_),(8,_),(10,_),(12,_),(13,_)]
  | apply Dk.quiet (id:=8) (by kernel_rfl)
  | apply Dk.quiet (id:=19) (by kernel_rfl)
  | apply Dk.anyH (id:=9) [Dk.Ent.own (aJ 25 (aJ 24 (aJ 2 (aC .i64)))) _ _] 19 [] [[],[],[],[],[],[],[],[],[],[],[],[],[],[],[],[],[],[],[21,16]] [[],[],[1],[],[2,1,3],[4,2,1,3],[],[],[7],[],[8,7,9],[10,8,7,9],[6,11,10,8,7,9],[12,6,11,10,8,7,9],[],[],[14,15],[16,14,15],[13,12,6,11,10,8,7,9,17,16,14,15]] (by kernel_rfl)
  | apply Dk.any (id:=14) 8 [] [] [[],[0],[],[],[2,3],[4,2,3],[5,4,2,3],[6,5,4,2,3]] (by kernel_rfl)
  | apply Dk.any (id:=23) 20 [] [] [[],[],[],[],[2,3],[4,2,3],[5,4,2,3],[6,5,4,2,3],[],[],[],[9,10],[11,9,10],[12,11,9,10],[13,12,11,9,10],[],[8,14,13,12,11,9,10,15],[7,6,5,4,2,3,16,8,14,13,12,11,9,10,15],[1,17,7,6,5,4,2,3,16,8,14,13,12,11,9,10,15,16,8,14,13,12,11,9,10,15],[18,1,17,7,6,5,4,2,3,16,8,14,13,12,11,9,10,15,16,8,14,13,12,11,9,10,15]] (by kernel_rfl)
  | apply c47
  | apply c89
  | apply c88
  | exact ()
theorem c90 {x0:Int} {x1:(List (List Int))} {dG:Value}:Ct Tryz.prog 90 true (gM x0 x1) [.int .i64 (x0),dG] [.rd false (aB (aB (aC .i64))) dG x1] (fun y (v:Value)=>[v]) (fun y v=>[.own (aJ 2 (aC .i64)) v y]):=by
 refine ct (S:=Unit) (owt fun _ _=>rfl) Tryz.func90 rfl rfl ?_
 repeat' first
  | intro _
  | exact rfl
  | (refine @id.{0} _ ?_; constructor)
  | apply Dk.loop 0 (V:=Value) (fun (s:(List Int)×Int) v=>[.own (aJ 2 (aC .i64)) v s.1]) (fun s v=>[(5,v),(6,.int .i64 (s.2))]) _ [(0,_),(1,_)]
  | apply Dk.loopA 2 (V:=Unit) (A:=Value) _ (fun a (s:Int×(List Int)) v=>[.own (aJ 2 (aC .i64)) a s.2]) (fun a s v=>[(5,a),(7,.int .i64 (s.1))]) () [(1,_)]
  | apply Dk.loopA 4 (V:=Unit) (A:=Value) _ (fun a (s:Int×(List Int)) v=>[.own (aJ 2 (aC .i64)) a s.2]) (fun a s v=>[(5,a),(10,.int .i64 (s.1))]) () [(1,_),(7,_),(8,_),(9,_)]
  | apply Dk.quiet (id:=9) (by kernel_rfl)
  | apply c102
  | exact ()
theorem c68 {x0:aF} {aS:Value} {aU:Value} {aR:Value} {aP:Value} {aY:Value} {aV:Value} {x1:(List (List (List Int)))} {dG:Value}:Ct Tryz.prog 68 true (nQ x0 x1) [.agg #[.int .i64 (x0.aA.aH),aS,aU,aR,aP,aY,aV],dG] [.rd false (aB (aC .i64)) aS x0.aA.aG,.rd false (aB (aC .i64)) aU x0.aA.To,.rd false (aB (aC .i64)) aR x0.aA.aO,.rd false (aB (aB (aC .i64))) aP x0.aA.aE,.rd false (aB (aC .i64)) aY x0.aM,.rd false (aB (aB (aC .i64))) aV x0.aN,.rd false (aB (aB (aB (aC .i64)))) dG x1] (fun y (v:Value×Value×Value×Value×Value×Value)=>[.agg #[.int .i64 y.aA.aH,v.1,v.2.1,v.2.2.1,v.2.2.2.1,v.2.2.2.2.1,v.2.2.2.2.2]]) (fun y v=>[.own (aJ 2 (aC .i64)) v.1 y.aA.aG,.own (aJ 2 (aC .i64)) v.2.1 y.aA.To,.own (aJ 2 (aC .i64)) v.2.2.1 y.aA.aO,.own (aJ 24 (aJ 2 (aC .i64))) v.2.2.2.1 y.aA.aE,.own (aJ 2 (aC .i64)) v.2.2.2.2.1 y.aM,.own (aJ 24 (aJ 2 (aC .i64))) v.2.2.2.2.2 y.aN]):=by
 refine ct (S:=Unit) (owt fun _ _=>rfl) Tryz.func68 rfl rfl ?_
 repeat' first
  | intro _
  | exact rfl
  | apply Dk.litO (d:=141)
  | (refine @id.{0} _ ?_; constructor)
  | apply Dk.loop 0 (V:=Value) (fun (s:(List (List Int))×Int) v=>[.own (aJ 24 (aJ 2 (aC .i64))) v s.1]) (fun s v=>[(5,v),(6,.int .i64 (s.2))]) _ [(1,_),(2,_),(4,_)]
  | apply Dk.loopA 2 (V:=Unit) (A:=Value) _ (fun a (s:Bool×(List (List Int))) v=>[.own (aJ 24 (aJ 2 (aC .i64))) a s.2]) (fun a s v=>[(5,a),(7,.bool (s.1))]) () [(2,_),(4,_)]
  | apply Dk.loopA 4 (V:=Unit) (A:=Value) _ (fun a (s:Bool×Int×(List (List Int))) v=>[.own (aJ 24 (aJ 2 (aC .i64))) a s.2.2]) (fun a s v=>[(5,a),(7,.bool (s.1)),(8,.int .i64 (s.2.1))]) () [(2,_),(4,_)]
  | apply Dk.loopA 6 (V:=Unit) (A:=Value) _ (fun a (s:Bool×Int×(List (List Int))) v=>[.own (aJ 24 (aJ 2 (aC .i64))) a s.2.2]) (fun a s v=>[(5,a),(7,.bool (s.1)),(11,.int .i64 (s.2.1))]) () [(2,_),(4,_),(8,_),(9,_),(10,_)]
  | apply Dk.loopA 8 (V:=Unit) (A:=Value) _ (fun a (s:Bool×Int×(List (List Int))) v=>[.own (aJ 24 (aJ 2 (aC .i64))) a s.2.2]) (fun a s v=>[(5,a),(7,.bool (s.1)),(12,.int .i64 (s.2.1))]) () [(2,_),(4,_),(8,_),(9,_),(10,_),(11,_)]
  | apply Dk.loopA 10 (V:=Value) (A:=Nat×Value×Value×Value×Value×Value×Value) (_,_,_,_,_,_,_) (fun a (s:Int×(List Int)) v=>Dk.pc (fun a0=>Dk.pc (fun a1=>Dk.pc (fun a2=>Dk.pc (fun a3=>Dk.pc (fun a4=>Dk.pc (fun a5 a6=>[.row a0 [a1,a2,a3,a4,a5,v,a6] 29,.own (aJ 2 (aC .i64)) v s.2])))))) a) (fun a s v=>Dk.pc (fun a0=>Dk.pc (fun a1=>Dk.pc (fun a2=>Dk.pc (fun a3=>Dk.pc (fun a4=>Dk.pc (fun a5 a6=>[(15,.pointer (some ⟨a0,0,none⟩)),(16,.int .i64 (s.1))])))))) a) _ [(2,_),(4,_),(5,_)]
  | apply Dk.loop 12 (V:=Unit) (fun (s:Int×Int) v=>[]) (fun s v=>[(17,.int .i64 (s.1)),(18,.int .i64 (s.2))]) () [(2,_),(4,_),(5,_),(15,_),(16,_)]
  | apply Dk.loopA 14 (V:=Value) (A:=Nat×Value×Value×Value×Value×Value×Value) (_,_,_,_,_,_,_) (fun a (s:Int×(List (List Int))) v=>Dk.pc (fun a0=>Dk.pc (fun a1=>Dk.pc (fun a2=>Dk.pc (fun a3=>Dk.pc (fun a4=>Dk.pc (fun a5 a6=>[.row a0 [a1,a2,a3,a4,a5,a6,v] 29,.own (aJ 24 (aJ 2 (aC .i64))) v s.2])))))) a) (fun a s v=>Dk.pc (fun a0=>Dk.pc (fun a1=>Dk.pc (fun a2=>Dk.pc (fun a3=>Dk.pc (fun a4=>Dk.pc (fun a5 a6=>[(15,.pointer (some ⟨a0,0,none⟩)),(19,.int .i64 (s.1))])))))) a) _ [(2,_),(4,_),(5,_)]
  | apply Dk.loopA 16 (V:=Unit) (A:=Value) _ (fun a (s:Int×(List Int)) v=>[.own (aJ 2 (aC .i64)) a s.2]) (fun a s v=>[(22,a),(23,.int .i64 (s.1))]) () [(2,_),(4,_),(5,_),(15,_),(19,_),(20,_),(21,_)]
  | apply Dk.quiet (id:=12) (by kernel_rfl)
  | apply Dk.quiet (id:=19) (by kernel_rfl)
  | apply Dk.quiet (id:=20) (by kernel_rfl)
  | apply Dk.quiet (id:=36) (by kernel_rfl)
  | apply Dk.any (id:=5) 12 [] [] [[],[],[1],[],[2,1,3],[4,2,1,3],[],[],[6,7],[8,6,7],[5,4,2,1,3,9,8,6,7],[10,5,4,2,1,3,9,8,6,7]] (by kernel_rfl)
  | apply Dk.any (id:=21) 17 [0,1] [[],[],[],[],[],[],[],[],[],[],[],[],[],[],[],[],[11,14]] [[],[],[],[2],[],[3,2,4],[5,3,2,4],[],[],[7,8],[9,7,8],[10,9,7,8],[],[],[12,13],[14,12,13],[11,10,9,7,8,15,14,12,13,11,10,9,7,8]] (by kernel_rfl)
  | apply Dk.any (id:=41) 22 [] [] [[],[],[],[1,2],[3,1,2],[],[4,3,1,2,5],[6,4,3,1,2,5],[],[],[8,9],[10,8,9],[],[12],[],[13,12,14],[15,13,12,14],[],[16,15,13,12,14,17],[18,16,15,13,12,14,17],[11,10,8,9,19,18,16,15,13,12,14,17],[20,11,10,8,9,19,18,16,15,13,12,14,17]] (by kernel_rfl)
  | apply c90
  | apply c91
  | apply c47
  | exact ()
theorem c69 {x0:aI} {bR:Value} {cF:Value} {bB:Value} {aW:Value} {x1:Int}:Ct Tryz.prog 69 true (jD x0 x1) [.agg #[.int .i64 (x0.aH),bR,cF,bB,aW],.int .i64 (x1)] [.rd false (aB (aC .i64)) bR x0.aG,.rd false (aB (aC .i64)) cF x0.To,.rd false (aB (aC .i64)) bB x0.aO,.rd false (aB (aB (aC .i64))) aW x0.aE] (fun y (v:Value×Value×Value×Value×Value×Value)=>[.agg #[.int .i64 y.aA.aH,v.1,v.2.1,v.2.2.1,v.2.2.2.1,v.2.2.2.2.1,v.2.2.2.2.2]]) (fun y v=>[.own (aJ 2 (aC .i64)) v.1 y.aA.aG,.own (aJ 2 (aC .i64)) v.2.1 y.aA.To,.own (aJ 2 (aC .i64)) v.2.2.1 y.aA.aO,.own (aJ 24 (aJ 2 (aC .i64))) v.2.2.2.1 y.aA.aE,.own (aJ 2 (aC .i64)) v.2.2.2.2.1 y.aM,.own (aJ 24 (aJ 2 (aC .i64))) v.2.2.2.2.2 y.aN]):=by
 refine ct (S:=Unit) (owt fun _ _=>rfl) Tryz.func69 rfl rfl ?_
 repeat' first
  | intro _
  | exact rfl
  | (refine @id.{0} _ ?_; constructor)
  | apply Dk.loopA 0 (V:=Value) (A:=Nat×Value×Value×Value×Value×Value×Value) (_,_,_,_,_,_,_) (fun a (s:Int×(List Int)) v=>Dk.pc (fun a0=>Dk.pc (fun a1=>Dk.pc (fun a2=>Dk.pc (fun a3=>Dk.pc (fun a4=>Dk.pc (fun a5 a6=>[.row a0 [a1,a2,a3,a4,a5,v,a6] 29,.own (aJ 2 (aC .i64)) v s.2])))))) a) (fun a s v=>Dk.pc (fun a0=>Dk.pc (fun a1=>Dk.pc (fun a2=>Dk.pc (fun a3=>Dk.pc (fun a4=>Dk.pc (fun a5 a6=>[(5,.pointer (some ⟨a0,0,none⟩)),(6,.int .i64 (s.1))])))))) a) _ [(1,_),(2,_),(4,_)]
  | apply Dk.loopA 2 (V:=Value) (A:=Nat×Value×Value×Value×Value×Value×Value) (_,_,_,_,_,_,_) (fun a (s:Int×(List (List Int))) v=>Dk.pc (fun a0=>Dk.pc (fun a1=>Dk.pc (fun a2=>Dk.pc (fun a3=>Dk.pc (fun a4=>Dk.pc (fun a5 a6=>[.row a0 [a1,a2,a3,a4,a5,a6,v] 29,.own (aJ 24 (aJ 2 (aC .i64))) v s.2])))))) a) (fun a s v=>Dk.pc (fun a0=>Dk.pc (fun a1=>Dk.pc (fun a2=>Dk.pc (fun a3=>Dk.pc (fun a4=>Dk.pc (fun a5 a6=>[(5,.pointer (some ⟨a0,0,none⟩)),(7,.int .i64 (s.1))])))))) a) _ [(1,_),(2,_),(4,_)]
  | apply Dk.loop 4 (V:=Value) (fun (s:(List Int)×Int) v=>[.own (aJ 2 (aC .i64)) v s.1]) (fun s v=>[(8,v),(9,.int .i64 (s.2))]) _ [(1,_),(2,_),(4,_),(5,_),(7,_)]
  | apply c47
  | exact ()
theorem c48 {x0:aF} {aS:Value} {aU:Value} {aR:Value} {aP:Value} {aY:Value} {aV:Value}:Ct Tryz.prog 48 true (jU x0) [.agg #[.int .i64 (x0.aA.aH),aS,aU,aR,aP,aY,aV]] [.rd false (aB (aC .i64)) aS x0.aA.aG,.rd false (aB (aC .i64)) aU x0.aA.To,.rd false (aB (aC .i64)) aR x0.aA.aO,.rd false (aB (aB (aC .i64))) aP x0.aA.aE,.rd false (aB (aC .i64)) aY x0.aM,.rd false (aB (aB (aC .i64))) aV x0.aN] (fun y (v:Value×Value×Value×Value×Value×Value)=>[.agg #[.int .i64 y.aA.aH,v.1,v.2.1,v.2.2.1,v.2.2.2.1,v.2.2.2.2.1,v.2.2.2.2.2]]) (fun y v=>[.own (aJ 2 (aC .i64)) v.1 y.aA.aG,.own (aJ 2 (aC .i64)) v.2.1 y.aA.To,.own (aJ 2 (aC .i64)) v.2.2.1 y.aA.aO,.own (aJ 24 (aJ 2 (aC .i64))) v.2.2.2.1 y.aA.aE,.own (aJ 2 (aC .i64)) v.2.2.2.2.1 y.aM,.own (aJ 24 (aJ 2 (aC .i64))) v.2.2.2.2.2 y.aN]):=by
 refine ct (S:=Unit) (owt fun _ _=>rfl) Tryz.func48 rfl rfl ?_
 repeat' first
  | intro _
  | exact rfl
  | (refine @id.{0} _ ?_; constructor)
  | apply Dk.any (id:=1) 8 [] [] [[],[0],[1,0],[],[3],[4,3,2,1,0],[],[6]] (by kernel_rfl)
  | apply c47
  | apply c23
  | apply c49
  | exact ()
theorem c21 {x0:aF} {aS:Value} {aU:Value} {aR:Value} {aP:Value} {aY:Value} {aV:Value} {x1:aF} {bK:Value} {bV:Value} {bE:Value} {bA:Value} {cI:Value} {cB:Value}:Ct Tryz.prog 21 true (pD x0 x1) [.agg #[.int .i64 (x0.aA.aH),aS,aU,aR,aP,aY,aV],.agg #[.int .i64 (x1.aA.aH),bK,bV,bE,bA,cI,cB]] [.rd false (aB (aC .i64)) aS x0.aA.aG,.rd false (aB (aC .i64)) aU x0.aA.To,.rd false (aB (aC .i64)) aR x0.aA.aO,.rd false (aB (aB (aC .i64))) aP x0.aA.aE,.rd false (aB (aC .i64)) aY x0.aM,.rd false (aB (aB (aC .i64))) aV x0.aN,.rd false (aB (aC .i64)) bK x1.aA.aG,.rd false (aB (aC .i64)) bV x1.aA.To,.rd false (aB (aC .i64)) bE x1.aA.aO,.rd false (aB (aB (aC .i64))) bA x1.aA.aE,.rd false (aB (aC .i64)) cI x1.aM,.rd false (aB (aB (aC .i64))) cB x1.aN] (fun y (v:Value×Value×Value×Value×Value×Value×Value×Value)=>[.agg #[.int .i64 y.1.aA.aH,v.1,v.2.1,v.2.2.1,v.2.2.2.1,v.2.2.2.2.1,v.2.2.2.2.2.1],v.2.2.2.2.2.2.1,v.2.2.2.2.2.2.2]) (fun y v=>[.own (aJ 2 (aC .i64)) v.1 y.1.aA.aG,.own (aJ 2 (aC .i64)) v.2.1 y.1.aA.To,.own (aJ 2 (aC .i64)) v.2.2.1 y.1.aA.aO,.own (aJ 24 (aJ 2 (aC .i64))) v.2.2.2.1 y.1.aA.aE,.own (aJ 2 (aC .i64)) v.2.2.2.2.1 y.1.aM,.own (aJ 24 (aJ 2 (aC .i64))) v.2.2.2.2.2.1 y.1.aN,.own (aJ 24 (aJ 2 (aC .i64))) v.2.2.2.2.2.2.1 y.2.1,.own (aJ 24 (aJ 2 (aC .i64))) v.2.2.2.2.2.2.2 y.2.2]):=by
 refine ct (S:=Unit) (owt fun _ _=>rfl) Tryz.func21 rfl rfl ?_
 repeat' first
  | intro _
  | exact rfl
  | (refine @id.{0} _ ?_; constructor)
  | apply Dk.loopA 0 (V:=Value×Value×Value) (A:=Nat×Value×Value×Value×Value×Value×Value) (_,_,_,_,_,_,_) (fun a (s:(List (List Int))×(List (List Int))×Int×(List Int)) v=>Dk.pc (fun a0=>Dk.pc (fun a1=>Dk.pc (fun a2=>Dk.pc (fun a3=>Dk.pc (fun a4=>Dk.pc (fun a5 a6=>[.row a0 [a1,a2,a3,a4,a5,v.2.2,a6] 29,.own (aJ 24 (aJ 2 (aC .i64))) v.1 s.1,.own (aJ 24 (aJ 2 (aC .i64))) v.2.1 s.2.1,.own (aJ 2 (aC .i64)) v.2.2 s.2.2.2])))))) a) (fun a s v=>Dk.pc (fun a0=>Dk.pc (fun a1=>Dk.pc (fun a2=>Dk.pc (fun a3=>Dk.pc (fun a4=>Dk.pc (fun a5 a6=>[(7,.pointer (some ⟨a0,0,none⟩)),(8,v.1),(9,v.2.1),(10,.int .i64 (s.2.2.1))])))))) a) (_,_,_) [(2,_),(3,_),(4,_)]
  | apply Dk.loop 2 (V:=Value) (fun (s:(List Int)×Int) v=>[.own (aJ 2 (aC .i64)) v s.1]) (fun s v=>[(11,v),(13,.int .i64 (s.2))]) _ [(2,_),(3,_),(4,_),(7,_),(8,_),(9,_),(10,_),(12,_)]
  | apply Dk.loop 4 (V:=Value) (fun (s:(List Int)×Int) v=>[.own (aJ 2 (aC .i64)) v s.1]) (fun s v=>[(12,v),(14,.int .i64 (s.2))]) _ [(2,_),(3,_),(4,_),(7,_),(8,_),(9,_),(10,_),(11,_)]
  | apply Dk.loopA 6 (V:=Value) (A:=Nat×Value×Value×Value×Value×Value×Value) (_,_,_,_,_,_,_) (fun a (s:Int×(List (List Int))) v=>Dk.pc (fun a0=>Dk.pc (fun a1=>Dk.pc (fun a2=>Dk.pc (fun a3=>Dk.pc (fun a4=>Dk.pc (fun a5 a6=>[.row a0 [a1,a2,a3,a4,a5,a6,v] 29,.own (aJ 24 (aJ 2 (aC .i64))) v s.2])))))) a) (fun a s v=>Dk.pc (fun a0=>Dk.pc (fun a1=>Dk.pc (fun a2=>Dk.pc (fun a3=>Dk.pc (fun a4=>Dk.pc (fun a5 a6=>[(7,.pointer (some ⟨a0,0,none⟩)),(15,.int .i64 (s.1))])))))) a) _ [(2,_),(3,_),(4,_),(8,_),(9,_)]
  | apply Dk.loop 8 (V:=Value) (fun (s:(List Int)×Int) v=>[.own (aJ 2 (aC .i64)) v s.1]) (fun s v=>[(17,v),(18,.int .i64 (s.2))]) _ [(2,_),(3,_),(4,_),(7,_),(8,_),(9,_),(15,_),(16,_)]
  | apply Dk.any (id:=14) 14 [] [] [[],[0],[],[2],[],[3,2,4],[5,3,2,4],[],[7],[],[8,7,9],[10,8,7,9],[6,5,3,2,4,11,10,8,7,9],[12,6,5,3,2,4,11,10,8,7,9]] (by kernel_rfl)
  | apply Dk.any (id:=20) 12 [] [] [[],[0],[1,0],[],[2,1,0,3],[4,2,1,0,3],[],[6],[],[7,6,8],[9,7,6,8],[10,9,7,6,8]] (by kernel_rfl)
  | apply Dk.any (id:=24) 16 [] [] [[],[],[1],[],[2,1,3],[4,2,1,3],[],[6],[],[7,6,8],[9,7,6,8],[],[10,9,7,6,8,11],[12,10,9,7,6,8,11],[5,4,2,1,3,13,12,10,9,7,6,8,11],[14,5,4,2,1,3,13,12,10,9,7,6,8,11]] (by kernel_rfl)
  | apply c47
  | apply c23
  | exact ()
end Go.Proofs.YtacpfhajafmigaaGreat
