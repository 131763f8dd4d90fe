/- Walks by the calculus D. No condition beside those that each theorem names. -/
import Derived.Test.YtacpfhajafmigaaGreatDi
import Derived.Test.YtacpfhajafmigaaGreatMo
import Derived.Test.YtacpfhajafmigaaGreatDg
import Derived.Test.YtacpfhajafmigaaGreatDs
namespace Go.Proofs.YtacpfhajafmigaaGreat
open Go Go.Li Go.Dk
set_option linter.unusedVariables false
set_option maxHeartbeats 16000000
set_option maxRecDepth 100000
theorem c33 {x0:aL} {cU:Nat} {bL:Value} {x1:Int}:Ct Tryz.prog 33 true (bF x0 x1) [.pointer (some (⟨cU,0,none⟩)),.int .i64 (x1)] [.row cU [bL,.int .i64 (x0.At),.int .u64 (x0.Hash)] 72,.rd false (aB (aC .u8)) bL x0.Code] (fun y (_:Unit)=>[.int .i64 y.1]) (fun y _=>[.row cU [bL,.int .i64 y.2.At,.int .u64 y.2.Hash] 72]):=by
 refine ct (S:=Unit) (owt fun _ _=>rfl) Tryz.func33 rfl rfl ?_
 repeat' first
  | intro _
  | exact rfl
  | apply Dk.D.ari (d:=13)
  | apply Dk.AD.ari (d:=13)
  | apply Dk.D.ari (d:=14)
  | apply Dk.AD.ari (d:=14)
  | apply Dk.D.ari (d:=21)
  | apply Dk.AD.ari (d:=21)
  | apply Dk.D.ari (d:=22)
  | apply Dk.AD.ari (d:=22)
  | apply Dk.D.ari (d:=57)
  | apply Dk.AD.ari (d:=57)
  | (refine @id.{0} _ ?_; constructor)
  | apply Dk.quiet (id:=5) (by kernel_rfl)
  | apply Dk.quiet (id:=6) (by kernel_rfl)
  | exact ()
theorem c119 {x0:aL} {cU:Nat} {bL:Value} {x1:Int}:Ct Tryz.prog 119 true (gI x0 x1) [.pointer (some (⟨cU,0,none⟩)),.int .i64 (x1)] [.row cU [bL,.int .i64 (x0.At),.int .u64 (x0.Hash)] 72,.rd false (aB (aC .u8)) bL x0.Code] (fun y (v:Value)=>[v]) (fun y v=>[.own (aJ 24 (aJ 2 (aC .i64))) v y.1,.row cU [bL,.int .i64 y.2.At,.int .u64 y.2.Hash] 72]):=by
 refine ct (S:=Unit) (owt fun _ _=>rfl) Tryz.func119 rfl rfl ?_
 repeat' first
  | intro _
  | exact rfl
  | (refine Dk.rwU (t:=45) rfl ?_)
  | (refine Dk.cdR (t:=62) rfl ?_ ?_)
  | (refine Dk.cdR (t:=67) rfl ?_ ?_)
  | (refine @id.{0} _ ?_; constructor)
  | apply Dk.loop 0 (V:=Value) (fun (s:(List (List Int))×Int×Int×Int) v=>[.row cU [bL,.int .i64 (s.2.2.1),.int .u64 (s.2.2.2)] 72,.own (aJ 24 (aJ 2 (aC .i64))) v s.1]) (fun s v=>[(5,v),(6,.int .i64 (s.2.1))]) _ [(0,_),(1,_)]
  | apply Dk.loopA 2 (V:=Unit) (A:=Value) _ (fun a (s:Int×Int×Int×(List Int)) v=>[.row cU [bL,.int .i64 (s.2.1),.int .u64 (s.2.2.1)] 72,.own (aJ 2 (aC .i64)) a s.2.2.2]) (fun a s v=>[(7,a),(8,.int .i64 (s.1))]) () [(0,_),(1,_),(5,_),(6,_)]
  | apply Dk.loopA 4 (V:=Unit) (A:=Value) _ (fun a (s:Int×(List (List Int))) v=>[.own (aJ 24 (aJ 2 (aC .i64))) a s.2]) (fun a s v=>[(5,a),(9,.int .i64 (s.1))]) () [(1,_)]
  | apply Dk.loopA 6 (V:=Unit) (A:=Value) _ (fun a (s:Int×(List (List Int))) v=>[.own (aJ 24 (aJ 2 (aC .i64))) a s.2]) (fun a s v=>[(5,a),(10,.int .i64 (s.1))]) () [(1,_),(9,_)]
  | apply Dk.loopA 8 (V:=Unit) (A:=Value) _ (fun a (s:Int×(List (List Int))) v=>[.own (aJ 24 (aJ 2 (aC .i64))) a s.2]) (fun a s v=>[(5,a),(11,.int .i64 (s.1))]) () [(1,_),(9,_),(10,_)]
  | apply Dk.anyH (id:=13) [Dk.Ent.row _ _ 72] 8 [] [[],[],[],[],[],[],[],[10]] [[],[],[1],[0,2,1],[3,0,2,1],[],[],[5,6]] (by kernel_rfl)
  | apply c33
  | exact ()
theorem c116 {x0:aI} {bR:Value} {cF:Value} {bB:Value} {aW:Value}:Ct Tryz.prog 116 true (eE x0) [.agg #[.int .i64 (x0.aH),bR,cF,bB,aW]] [.rd false (aB (aC .i64)) bR x0.aG,.rd false (aB (aC .i64)) cF x0.To,.rd false (aB (aC .i64)) bB x0.aO,.rd false (aB (aB (aC .i64))) aW x0.aE] (fun y (_:Unit)=>[.bool y]) (fun y _=>[]):=by
 refine ct (S:=Unit) (owt fun _ _=>rfl) Tryz.func116 rfl rfl ?_
 repeat' first
  | intro _
  | exact rfl
  | (refine @id.{0} _ ?_; constructor)
  | exact ()
theorem c122 {x0:aL} {cU:Nat} {bL:Value}:Ct Tryz.prog 122 true (gG x0) [.pointer (some (⟨cU,0,none⟩))] [.row cU [bL,.int .i64 (x0.At),.int .u64 (x0.Hash)] 72,.rd false (aB (aC .u8)) bL x0.Code] (fun y (v:Value)=>[v]) (fun y v=>[.own (aJ 24 (aJ 2 (aC .i64))) v y.1,.row cU [bL,.int .i64 y.2.At,.int .u64 y.2.Hash] 72]):=by
 refine ct (S:=Unit) (owt fun _ _=>rfl) Tryz.func122 rfl rfl ?_
 repeat' first
  | intro _
  | exact rfl
  | apply Dk.D.asl (d:=2) (x:=.tmp 8)
  | apply Dk.D.asl (d:=2) (x:=.tmp 13)
  | apply Dk.D.asl (d:=2) (x:=.tmp 18)
  | apply Dk.D.asl (d:=2) (x:=.tmp 24)
  | apply Dk.D.asl (d:=2) (x:=.tmp 30)
  | apply Dk.D.asl (d:=2) (x:=.tmp 36)
  | apply Dk.D.asl (d:=2) (x:=.tmp 43)
  | apply Dk.D.asl (d:=2) (x:=.tmp 47)
  | (refine @id.{0} _ ?_; constructor)
  | apply c33
  | exact ()
theorem c115 {x0:aI} {bR:Value} {cF:Value} {bB:Value} {aW:Value} {x1:aI} {dM:Value} {dS:Value} {cR:Value} {cL:Value}:Ct Tryz.prog 115 true (iA x0 x1) [.agg #[.int .i64 (x0.aH),bR,cF,bB,aW],.agg #[.int .i64 (x1.aH),dM,dS,cR,cL]] [.rd false (aB (aC .i64)) bR x0.aG,.rd false (aB (aC .i64)) cF x0.To,.rd false (aB (aC .i64)) bB x0.aO,.rd false (aB (aB (aC .i64))) aW x0.aE,.rd false (aB (aC .i64)) dM x1.aG,.rd false (aB (aC .i64)) dS x1.To,.rd false (aB (aC .i64)) cR x1.aO,.rd false (aB (aB (aC .i64))) cL x1.aE] (fun y (v:Value×Value×Value×Value)=>[.agg #[.int .i64 y.aH,v.1,v.2.1,v.2.2.1,v.2.2.2]]) (fun y v=>[.own (aJ 2 (aC .i64)) v.1 y.aG,.own (aJ 2 (aC .i64)) v.2.1 y.To,.own (aJ 2 (aC .i64)) v.2.2.1 y.aO,.own (aJ 24 (aJ 2 (aC .i64))) v.2.2.2 y.aE]):=by
 refine ct (S:=Unit) (owt fun _ _=>rfl) Tryz.func115 rfl rfl ?_
 repeat' first
  | intro _
  | exact rfl
  | (refine Dk.cdR (t:=114) rfl ?_ ?_)
  | (refine Dk.cdR (t:=121) rfl ?_ ?_)
  | (refine @id.{0} _ ?_; constructor)
  | apply Dk.loopA 0 (V:=Value) (A:=Nat×Value×Value×Value) (_,_,_,_) (fun a (s:Int×(List Int)) v=>Dk.pc (fun a0=>Dk.pc (fun a1=>Dk.pc (fun a2 a3=>[.row a0 [.int .i64 (w64 (x0.aH * x1.aH)),a1,a2,v,a3] 27,.own (aJ 2 (aC .i64)) v s.2]))) a) (fun a s v=>Dk.pc (fun a0=>Dk.pc (fun a1=>Dk.pc (fun a2 a3=>[(7,.pointer (some ⟨a0,0,none⟩)),(8,.int .i64 (s.1))]))) a) _ [(2,_),(3,_),(4,_),(5,_),(6,_)]
  | apply Dk.loopA 2 (V:=Value) (A:=Nat×Value×Value×Value) (_,_,_,_) (fun a (s:Int×(List Int)) v=>Dk.pc (fun a0=>Dk.pc (fun a1=>Dk.pc (fun a2 a3=>[.row a0 [.int .i64 (w64 (x0.aH * x1.aH)),a1,a2,v,a3] 27,.own (aJ 2 (aC .i64)) v s.2]))) a) (fun a s v=>Dk.pc (fun a0=>Dk.pc (fun a1=>Dk.pc (fun a2 a3=>[(7,.pointer (some ⟨a0,0,none⟩)),(9,.int .i64 (s.1))]))) a) _ [(2,_),(3,_),(4,_),(5,_),(6,_),(8,_)]
  | apply Dk.loopA 4 (V:=Value×Value×Value) (A:=Nat×Value) (_,_) (fun a (s:Int×(List Int)×(List Int)×(List (List Int))) v=>Dk.pc (fun a0 a1=>[.row a0 [.int .i64 (w64 (x0.aH * x1.aH)),v.1,v.2.1,a1,v.2.2] 27,.own (aJ 2 (aC .i64)) v.1 s.2.1,.own (aJ 2 (aC .i64)) v.2.1 s.2.2.1,.own (aJ 24 (aJ 2 (aC .i64))) v.2.2 s.2.2.2]) a) (fun a s v=>Dk.pc (fun a0 a1=>[(7,.pointer (some ⟨a0,0,none⟩)),(10,.int .i64 (s.1))]) a) (_,_,_) [(2,_),(3,_),(4,_),(5,_),(6,_)]
  | apply Dk.loopA 6 (V:=Value×Value×Value) (A:=Nat×Value) (_,_) (fun a (s:Int×(List Int)×(List Int)×(List (List Int))) v=>Dk.pc (fun a0 a1=>[.row a0 [.int .i64 (w64 (x0.aH * x1.aH)),v.1,v.2.1,a1,v.2.2] 27,.own (aJ 2 (aC .i64)) v.1 s.2.1,.own (aJ 2 (aC .i64)) v.2.1 s.2.2.1,.own (aJ 24 (aJ 2 (aC .i64))) v.2.2 s.2.2.2]) a) (fun a s v=>Dk.pc (fun a0 a1=>[(7,.pointer (some ⟨a0,0,none⟩)),(11,.int .i64 (s.1))]) a) (_,_,_) [(2,_),(3,_),(4,_),(5,_),(6,_),(10,_)]
  | apply Dk.loop 8 (V:=Value) (fun (s:(List Int)×Int) v=>[.own (aJ 2 (aC .i64)) v s.1]) (fun s v=>[(12,v),(13,.int .i64 (s.2))]) _ [(2,_),(3,_),(4,_),(5,_),(6,_),(7,_),(10,_),(11,_)]
  | apply Dk.loop 10 (V:=Value) (fun (s:(List Int)×Int) v=>[.own (aJ 2 (aC .i64)) v s.1]) (fun s v=>[(12,v),(14,.int .i64 (s.2))]) _ [(2,_),(3,_),(4,_),(5,_),(6,_),(7,_),(10,_),(11,_),(13,_)]
  | apply Dk.quiet (id:=1) (by kernel_rfl)
  | apply Dk.quiet (id:=27) (by kernel_rfl)
  | apply Dk.any (id:=9) 16 [] [] [[],[0],[],[2],[],[3,2,4],[5,3,2,4],[],[6,5,3,2,4,7],[],[9],[],[10,9,11],[12,10,9,11],[8,6,5,3,2,4,7,13,12,10,9,11],[14,8,6,5,3,2,4,7,13,12,10,9,11]] (by kernel_rfl)
  | apply Dk.any (id:=16) 16 [] [] [[],[0],[],[2],[],[3,2,4],[5,3,2,4],[],[6,5,3,2,4,7],[],[9],[],[10,9,11],[12,10,9,11],[8,6,5,3,2,4,7,13,12,10,9,11],[14,8,6,5,3,2,4,7,13,12,10,9,11]] (by kernel_rfl)
  | apply Dk.any (id:=17) 16 [] [] [[],[0],[],[2],[],[3,2,4],[5,3,2,4],[],[6,5,3,2,4,7],[],[9],[],[10,9,11],[12,10,9,11],[8,6,5,3,2,4,7,13,12,10,9,11],[14,8,6,5,3,2,4,7,13,12,10,9,11]] (by kernel_rfl)
  | exact ()
theorem c111 {x0:aL} {cU:Nat} {bL:Value} {x1:(List Int)} {dG:Value}:Ct Tryz.prog 111 true (kO x0 x1) [.pointer (some (⟨cU,0,none⟩)),dG] [.row cU [bL,.int .i64 (x0.At),.int .u64 (x0.Hash)] 72,.rd false (aB (aC .u8)) bL x0.Code,.rd false (aB (aC .i64)) dG x1] (fun y (_:Unit)=>[.int .i64 y.1]) (fun y _=>[.row cU [bL,.int .i64 y.2.At,.int .u64 y.2.Hash] 72]):=by
 refine ct (S:=Unit) (owt fun _ _=>rfl) Tryz.func111 rfl rfl ?_
 repeat' first
  | intro _
  | exact rfl
  | (refine @id.{0} _ ?_; constructor)
  | apply c33
  | exact ()
theorem c112 {x0:Int} {x1:Int} {x2:Int}:Ct Tryz.prog 112 true (mV x0 x1 x2) [.int .i64 (x0),.int .i64 (x1),.int .i64 (x2)] [] (fun y (_:Unit)=>[.bool y]) (fun y _=>[]):=by
 refine ct (S:=Unit) (owt fun _ _=>rfl) Tryz.func112 rfl rfl ?_
 repeat' first
  | intro _
  | exact rfl
  | (refine @id.{0} _ ?_; constructor)
  | exact ()
theorem c101 {x0:aF} {aS:Value} {aU:Value} {aR:Value} {aP:Value} {aY:Value} {aV:Value}:Ct Tryz.prog 101 true (lU x0) [.agg #[.int .i64 (x0.aA.aH),aS,aU,aR,aP,aY,aV]] [.rd false (aB (aC .i64)) aS x0.aA.aG,.rd false (aB (aC .i64)) aU x0.aA.To,.rd false (aB (aC .i64)) aR x0.aA.aO,.rd false (aB (aB (aC .i64))) aP x0.aA.aE,.rd false (aB (aC .i64)) aY x0.aM,.rd false (aB (aB (aC .i64))) aV x0.aN] (fun y (_:Unit)=>[.int .i64 y.1,.int .i64 y.2.1,.int .i64 y.2.2.1,.int .i64 y.2.2.2]) (fun y _=>[]):=by
 refine ct (S:=Unit) (owt fun _ _=>rfl) Tryz.func101 rfl rfl ?_
 repeat' first
  | intro _
  | exact rfl
  | (refine Dk.cdR (t:=56) rfl ?_ ?_)
  | (refine @id.{0} _ ?_; constructor)
  | apply Dk.loop 0 (V:=Unit) (fun (s:Int) v=>[]) (fun s v=>[(7,.int .i64 (s))]) () [(1,_),(6,_)]
  | apply Dk.loop 2 (V:=Unit) (fun (s:Int) v=>[]) (fun s v=>[(8,.int .i64 (s))]) () [(1,_),(6,_),(7,_)]
  | apply Dk.loop 4 (V:=Unit) (fun (s:Int) v=>[]) (fun s v=>[(9,.int .i64 (s))]) () [(1,_),(6,_)]
  | apply Dk.loop 6 (V:=Unit) (fun (s:Int) v=>[]) (fun s v=>[(10,.int .i64 (s))]) () [(1,_),(6,_),(9,_)]
  | apply Dk.loop 8 (V:=Unit) (fun (s:Int) v=>[]) (fun s v=>[(11,.int .i64 (s))]) () [(1,_),(6,_),(9,_),(10,_)]
  | apply Dk.quiet (id:=8) (by kernel_rfl)
  | apply Dk.quiet (id:=16) (by kernel_rfl)
  | apply Dk.quiet (id:=18) (by kernel_rfl)
  | apply Dk.quiet (id:=20) (by kernel_rfl)
  | exact ()
theorem c75 {x0:Int} {x1:Int} {x2:Int}:Ct Tryz.prog 75 true (iR x0 x1 x2) [.int .i64 (x0),.int .i64 (x1),.int .i64 (x2)] [] (fun y (_:Unit)=>[.bool y]) (fun y _=>[]):=by
 refine ct (S:=Unit) (owt fun _ _=>rfl) Tryz.func75 rfl rfl ?_
 repeat' first
  | intro _
  | exact rfl
  | (refine @id.{0} _ ?_; constructor)
  | exact ()
theorem c43 {x0:(List Int)} {cE:Value} {x1:Int}:Ct Tryz.prog 43 true (fP x0 x1) [cE,.int .i64 (x1)] [.rd false (aB (aC .i64)) cE x0] (fun y (_:Unit)=>[.bool y]) (fun y _=>[]):=by
 refine ct (S:=Unit) (owt fun _ _=>rfl) Tryz.func43 rfl rfl ?_
 repeat' first
  | intro _
  | exact rfl
  | (refine @id.{0} _ ?_; constructor)
  | apply Dk.loop 0 (V:=Unit) (fun (s:Int) v=>[]) (fun s v=>[(9,.int .i64 (s))]) () [(1,_),(7,_),(8,_)]
  | apply c75
  | exact ()
theorem c22 {x0:aF} {aS:Value} {aU:Value} {aR:Value} {aP:Value} {aY:Value} {aV:Value}:Ct Tryz.prog 22 true (oE x0) [.agg #[.int .i64 (x0.aA.aH),aS,aU,aR,aP,aY,aV]] [.rd false (aB (aC .i64)) aS x0.aA.aG,.rd false (aB (aC .i64)) aU x0.aA.To,.rd false (aB (aC .i64)) aR x0.aA.aO,.rd false (aB (aB (aC .i64))) aP x0.aA.aE,.rd false (aB (aC .i64)) aY x0.aM,.rd false (aB (aB (aC .i64))) aV x0.aN] (fun y (_:Unit)=>[.int .i64 y]) (fun y _=>[]):=by
 refine ct (S:=Unit) (owt fun _ _=>rfl) Tryz.func22 rfl rfl ?_
 repeat' first
  | intro _
  | exact rfl
  | (refine @id.{0} _ ?_; constructor)
  | apply Dk.loop 0 (V:=Unit) (fun (s:Int) v=>[]) (fun s v=>[(3,.int .i64 (s))]) () [(1,_)]
  | exact ()
theorem c51 {x0:(List Int)} {cE:Value} {x1:(List Int)} {dG:Value}:Ct Tryz.prog 51 true (gA x0 x1) [cE,dG] [.rd false (aB (aC .i64)) cE x0,.rd false (aB (aC .i64)) dG x1] (fun y (_:Unit)=>[.bool y]) (fun y _=>[]):=by
 refine ct (S:=Unit) (owt fun _ _=>rfl) Tryz.func51 rfl rfl ?_
 repeat' first
  | intro _
  | exact rfl
  | (refine @id.{0} _ ?_; constructor)
  | apply Dk.loop 0 (V:=Unit) (fun (s:Int) v=>[]) (fun s v=>[(5,.int .i64 (s))]) () [(0,_),(1,_)]
  | apply Dk.quiet (id:=6) (by kernel_rfl)
  | exact ()
theorem c26 {x0:(List (List Int))} {cE:Value} {x1:(List (List Int))} {dG:Value}:Ct Tryz.prog 26 true (lQ x0 x1) [cE,dG] [.rd false (aB (aB (aC .i64))) cE x0,.rd false (aB (aB (aC .i64))) dG x1] (fun y (_:Unit)=>[.bool y]) (fun y _=>[]):=by
 refine ct (S:=Unit) (owt fun _ _=>rfl) Tryz.func26 rfl rfl ?_
 repeat' first
  | intro _
  | exact rfl
  | (refine @id.{0} _ ?_; constructor)
  | apply Dk.loop 0 (V:=Unit) (fun (s:Int) v=>[]) (fun s v=>[(5,.int .i64 (s))]) () [(0,_),(1,_)]
  | apply Dk.quiet (id:=6) (by kernel_rfl)
  | apply c51
  | exact ()
theorem c56 {x0:aF} {cZ:Addr} {aS:Value} {aU:Value} {aR:Value} {aP:Value} {aY:Value} {aV:Value}:Ct Tryz.prog 56 true (fJ x0) [.pointer (some (cZ))] [.ats cZ [.int .i64 (x0.aA.aH),aS,aU,aR,aP,aY,aV],.rd false (aB (aC .i64)) aS x0.aA.aG,.rd false (aB (aC .i64)) aU x0.aA.To,.rd false (aB (aC .i64)) aR x0.aA.aO,.rd false (aB (aB (aC .i64))) aP x0.aA.aE,.rd false (aB (aC .i64)) aY x0.aM,.rd false (aB (aB (aC .i64))) aV x0.aN] (fun y (v:Value)=>[v]) (fun y v=>[.own (aJ 2 (aC .i64)) v y]):=by
 refine ct (S:=Unit) (owt fun _ _=>rfl) Tryz.func56 rfl rfl ?_
 repeat' first
  | intro _
  | exact rfl
  | (refine @id.{0} _ ?_; constructor)
  | apply Dk.loop 0 (V:=Value) (fun (s:(List Int)×Int×Int) v=>[.own (aJ 2 (aC .i64)) v s.1]) (fun s v=>[(3,v),(4,.int .i64 (s.2.1)),(13,.int .i64 (s.2.2))]) _ [(11,_),(12,_)]
  | exact ()
end Go.Proofs.YtacpfhajafmigaaGreat
