/- Walks by the calculus D. No condition beside those that each theorem names. -/
import Derived.Test.YtkcpiblgpnjanaaGreatDi
import Derived.Test.YtkcpiblgpnjanaaGreatMo
import Derived.Test.YtkcpiblgpnjanaaGreatDp
import Derived.Test.YtkcpiblgpnjanaaGreatDs
namespace Go.Proofs.YtkcpiblgpnjanaaGreat
open Go Go.Li Go.Dk
set_option linter.unusedVariables false
set_option maxHeartbeats 16000000
set_option maxRecDepth 100000
theorem c39 {x0:(List Int)} {dI:Value}:Ct Tryz.prog 39 true (oF x0) [dI] [.rd false (aD (aA .u8)) dI x0] (fun y (v:Nat)=>[(match y with | none=>Value.pointer none | some _=>.pointer (some (⟨v,0,none⟩)))]) (fun y v=>match y with | none=>[] | some m0=>[.row v [dI,.int .i64 (m0.At),.int .u64 (m0.ay)] 142]):=by
 refine ct (S:=Unit) (by intro _ y v; obtain _ | _:=y <;> rfl) Tryz.func39 rfl rfl ?_
 repeat' first
  | ((first | show Dk.ER _ _ _ | show Dk.bd _ _ | show Dk.EF _ _ _ | show Dk.EO _ _ _ | show Dk.EP _ _ | show Dk.bb _ _ _ _ | show Dk.av _ _ _ _ | show Dk.Kp _ _ _ _ | show Dk.bp _ _ | show Dk.bg _ _ _ _); repeat' first | exact rfl | (refine @id.{0} _ ?_; constructor))
  | intro _
  | exact rfl
  | apply Dk.D.tv (d:=9)
  | apply Dk.AD.tv (d:=9)
  | apply Dk.D.tv (d:=27)
  | apply Dk.AD.tv (d:=27)
  | apply Dk.D.tv (d:=33)
  | apply Dk.AD.tv (d:=33)
  | apply Dk.D.tv (d:=34)
  | apply Dk.AD.tv (d:=34)
  | (refine @id.{0} _ ?_; constructor)
  | apply Dk.jq 0 (V:=Unit) (A:=Nat) _ (fun a (s:Int×Int) v=>[.row a [dI,.int .i64 ((0:Int)),.int .u64 (s.2)] 142]) (fun a s v=>[(3,.pointer (some ⟨a,0,none⟩)),(4,.int .i64 (s.1))]) () [(0,_)]
  | apply Dk.any (id:=5) 11 [0] [] [[],[],[1],[2,1],[3,2,1],[4,3,2,1],[],[],[6,7],[8,6,7],[9,8,6,7]] (by kernel_rfl)
  | exact ()
 all_goals try first | exact Value.nilFunc | exact (0:Nat)
theorem Ed {x0:aN} {dX:Nat} {dC:Value} {x1:Int}:Ct Tryz.prog 56 true (cG x0 x1) [.pointer (some (⟨dX,0,none⟩)),.int .i64 (x1)] [.row dX [dC,.int .i64 (x0.At),.int .u64 (x0.ay)] 142,.rd false (aD (aA .u8)) dC x0.Code] (fun y (_:Unit)=>[.int .i64 y.1]) (fun y _=>[.row dX [dC,.int .i64 y.2.At,.int .u64 y.2.ay] 142]):=by
 refine ct (S:=Unit) (cf fun _ _=>rfl) Tryz.func56 rfl rfl ?_
 repeat' first
  | ((first | show Dk.ER _ _ _ | show Dk.bd _ _ | show Dk.EF _ _ _ | show Dk.EO _ _ _ | show Dk.EP _ _ | show Dk.bb _ _ _ _ | show Dk.av _ _ _ _ | show Dk.Kp _ _ _ _ | show Dk.bp _ _ | show Dk.bg _ _ _ _); repeat' first | exact rfl | (refine @id.{0} _ ?_; constructor))
  | intro _
  | exact rfl
  | apply Dk.D.tv (d:=13)
  | apply Dk.AD.tv (d:=13)
  | apply Dk.D.tv (d:=14)
  | apply Dk.AD.tv (d:=14)
  | apply Dk.D.tv (d:=21)
  | apply Dk.AD.tv (d:=21)
  | apply Dk.D.tv (d:=22)
  | apply Dk.AD.tv (d:=22)
  | apply Dk.D.tv (d:=57)
  | apply Dk.AD.tv (d:=57)
  | (refine @id.{0} _ ?_; constructor)
  | apply Dk.quiet (id:=5) (by kernel_rfl)
  | apply Dk.quiet (id:=6) (by kernel_rfl)
  | exact ()
theorem acU {x0:aN} {dX:Nat} {dC:Value} {x1:Int}:Ct Tryz.prog 206 true (jT x0 x1) [.pointer (some (⟨dX,0,none⟩)),.int .i64 (x1)] [.row dX [dC,.int .i64 (x0.At),.int .u64 (x0.ay)] 142,.rd false (aD (aA .u8)) dC x0.Code] (fun y (v:Value)=>[v]) (fun y v=>[.own (aK 24 (aK 2 (aA .i64))) v y.1,.row dX [dC,.int .i64 y.2.At,.int .u64 y.2.ay] 142]):=by
 refine ct (S:=Unit) (cf fun _ _=>rfl) Tryz.func206 rfl rfl ?_
 repeat' first
  | ((first | show Dk.ER _ _ _ | show Dk.bd _ _ | show Dk.EF _ _ _ | show Dk.EO _ _ _ | show Dk.EP _ _ | show Dk.bb _ _ _ _ | show Dk.av _ _ _ _ | show Dk.Kp _ _ _ _ | show Dk.bp _ _ | show Dk.bg _ _ _ _); repeat' first | exact rfl | (refine @id.{0} _ ?_; constructor))
  | intro _
  | exact rfl
  | (apply Dk.UE (t:=45); exact rfl)
  | (refine Dk.tA (t:=62) rfl ?_ ?_)
  | (refine Dk.tA (t:=67) rfl ?_ ?_)
  | (refine @id.{0} _ ?_; constructor)
  | apply Dk.loop 0 (V:=Value) (fun (s:(List (List Int))×Int×Int×Int) v=>[.row dX [dC,.int .i64 (s.2.2.1),.int .u64 (s.2.2.2)] 142,.own (aK 24 (aK 2 (aA .i64))) v s.1]) (fun s v=>[(5,v),(6,.int .i64 (s.2.1))]) _ [(0,_),(1,_)]
  | apply Dk.jq 2 (V:=Unit) (A:=Value) _ (fun a (s:Int×Int×Int×(List Int)) v=>[.row dX [dC,.int .i64 (s.2.1),.int .u64 (s.2.2.1)] 142,.own (aK 2 (aA .i64)) a s.2.2.2]) (fun a s v=>[(7,a),(8,.int .i64 (s.1))]) () [(0,_),(1,_),(5,_),(6,_)]
  | apply Dk.jq 4 (V:=Unit) (A:=Value) _ (fun a (s:Int×(List (List Int))) v=>[.own (aK 24 (aK 2 (aA .i64))) a s.2]) (fun a s v=>[(5,a),(9,.int .i64 (s.1))]) () [(1,_)]
  | apply Dk.jq 6 (V:=Unit) (A:=Value) _ (fun a (s:Int×(List (List Int))) v=>[.own (aK 24 (aK 2 (aA .i64))) a s.2]) (fun a s v=>[(5,a),(10,.int .i64 (s.1))]) () [(1,_),(9,_)]
  | apply Dk.jq 8 (V:=Unit) (A:=Value) _ (fun a (s:Int×(List (List Int))) v=>[.own (aK 24 (aK 2 (aA .i64))) a s.2]) (fun a s v=>[(5,a),(11,.int .i64 (s.1))]) () [(1,_),(9,_),(10,_)]
  | apply Dk.w9 (id:=13) [Dk.aw.row _ _ 142] 8 [] [[],[],[],[],[],[],[],[10]] [[],[],[1],[0,2,1],[3,0,2,1],[],[],[5,6]] (by kernel_rfl)
  | apply Ed
  | exact ()
theorem Qp {x0:(List Int)} {dI:Value} {x1:(List Int)} {eC:Value}:Ct Tryz.prog 122 true (fH x0 x1) [dI,eC] [.rd false (aD (aA .i64)) dI x0,.rd false (aD (aA .i64)) eC x1] (fun y (_:Unit)=>[.bool y]) (fun y _=>[]):=by
 refine ct (S:=Unit) (cf fun _ _=>rfl) Tryz.func122 rfl rfl ?_
 repeat' first
  | ((first | show Dk.ER _ _ _ | show Dk.bd _ _ | show Dk.EF _ _ _ | show Dk.EO _ _ _ | show Dk.EP _ _ | show Dk.bb _ _ _ _ | show Dk.av _ _ _ _ | show Dk.Kp _ _ _ _ | show Dk.bp _ _ | show Dk.bg _ _ _ _); repeat' first | exact rfl | (refine @id.{0} _ ?_; constructor))
  | intro _
  | exact rfl
  | (refine @id.{0} _ ?_; constructor)
  | apply Dk.loop 0 (V:=Unit) (fun (s:Int) v=>[]) (fun s v=>[(5,.int .i64 (s))]) () [(0,_),(1,_)]
  | apply Dk.quiet (id:=6) (by kernel_rfl)
  | exact ()
theorem acV {x0:aN} {dX:Nat} {dC:Value}:Ct Tryz.prog 209 true (jQ x0) [.pointer (some (⟨dX,0,none⟩))] [.row dX [dC,.int .i64 (x0.At),.int .u64 (x0.ay)] 142,.rd false (aD (aA .u8)) dC x0.Code] (fun y (v:Value)=>[v]) (fun y v=>[.own (aK 24 (aK 2 (aA .i64))) v y.1,.row dX [dC,.int .i64 y.2.At,.int .u64 y.2.ay] 142]):=by
 refine ct (S:=Unit) (cf fun _ _=>rfl) Tryz.func209 rfl rfl ?_
 repeat' first
  | ((first | show Dk.ER _ _ _ | show Dk.bd _ _ | show Dk.EF _ _ _ | show Dk.EO _ _ _ | show Dk.EP _ _ | show Dk.bb _ _ _ _ | show Dk.av _ _ _ _ | show Dk.Kp _ _ _ _ | show Dk.bp _ _ | show Dk.bg _ _ _ _); repeat' first | exact rfl | (refine @id.{0} _ ?_; constructor))
  | intro _
  | exact rfl
  | apply Dk.D.Dj (d:=2) (x:=.tmp 8)
  | apply Dk.D.Dj (d:=2) (x:=.tmp 13)
  | apply Dk.D.Dj (d:=2) (x:=.tmp 18)
  | apply Dk.D.Dj (d:=2) (x:=.tmp 24)
  | apply Dk.D.Dj (d:=2) (x:=.tmp 30)
  | apply Dk.D.Dj (d:=2) (x:=.tmp 36)
  | apply Dk.D.Dj (d:=2) (x:=.tmp 43)
  | apply Dk.D.Dj (d:=2) (x:=.tmp 47)
  | (refine @id.{0} _ ?_; constructor)
  | apply Ed
  | exact ()
theorem acW {x0:aI} {aU:Value} {bC:Value} {aO:Value} {aM:Value} {x1:aI} {bZ:Value} {cM:Value} {bF:Value} {aW:Value}:Ct Tryz.prog 196 true (fY x0 x1) [.agg #[.int .i64 (x0.aC),aU,bC,aO,aM],.agg #[.int .i64 (x1.aC),bZ,cM,bF,aW]] [.rd false (aD (aA .i64)) aU x0.aG,.rd false (aD (aA .i64)) bC x0.To,.rd false (aD (aA .i64)) aO x0.aJ,.rd false (aD (aD (aA .i64))) aM x0.aF,.rd false (aD (aA .i64)) bZ x1.aG,.rd false (aD (aA .i64)) cM x1.To,.rd false (aD (aA .i64)) bF x1.aJ,.rd false (aD (aD (aA .i64))) aW x1.aF] (fun y (v:Value×Value×Value×Value)=>[.agg #[.int .i64 y.aC,v.1,v.2.1,v.2.2.1,v.2.2.2]]) (fun y v=>[.own (aK 2 (aA .i64)) v.1 y.aG,.own (aK 2 (aA .i64)) v.2.1 y.To,.own (aK 2 (aA .i64)) v.2.2.1 y.aJ,.own (aK 24 (aK 2 (aA .i64))) v.2.2.2 y.aF]):=by
 refine ct (S:=Unit) (cf fun _ _=>rfl) Tryz.func196 rfl rfl ?_
 repeat' first
  | ((first | show Dk.ER _ _ _ | show Dk.bd _ _ | show Dk.EF _ _ _ | show Dk.EO _ _ _ | show Dk.EP _ _ | show Dk.bb _ _ _ _ | show Dk.av _ _ _ _ | show Dk.Kp _ _ _ _ | show Dk.bp _ _ | show Dk.bg _ _ _ _); repeat' first | exact rfl | (refine @id.{0} _ ?_; constructor))
  | intro _
  | exact rfl
  | (refine Dk.tA (t:=114) rfl ?_ ?_)
  | (refine Dk.tA (t:=121) rfl ?_ ?_)
  | (refine @id.{0} _ ?_; constructor)
  | apply Dk.jq 0 (V:=Value) (A:=Nat×Value×Value×Value) (_,_,_,_) (fun a (s:Int×(List Int)) v=>Dk.pc (fun a0=>Dk.pc (fun a1=>Dk.pc (fun a2 a3=>[.row a0 [.int .i64 (aj (x0.aC * x1.aC)),a1,a2,v,a3] 27,.own (aK 2 (aA .i64)) v s.2]))) a) (fun a s v=>Dk.pc (fun a0=>Dk.pc (fun a1=>Dk.pc (fun a2 a3=>[(7,.pointer (some ⟨a0,0,none⟩)),(8,.int .i64 (s.1))]))) a) _ [(2,_),(3,_),(4,_),(5,_),(6,_)]
  | apply Dk.jq 2 (V:=Value) (A:=Nat×Value×Value×Value) (_,_,_,_) (fun a (s:Int×(List Int)) v=>Dk.pc (fun a0=>Dk.pc (fun a1=>Dk.pc (fun a2 a3=>[.row a0 [.int .i64 (aj (x0.aC * x1.aC)),a1,a2,v,a3] 27,.own (aK 2 (aA .i64)) v s.2]))) a) (fun a s v=>Dk.pc (fun a0=>Dk.pc (fun a1=>Dk.pc (fun a2 a3=>[(7,.pointer (some ⟨a0,0,none⟩)),(9,.int .i64 (s.1))]))) a) _ [(2,_),(3,_),(4,_),(5,_),(6,_),(8,_)]
  | apply Dk.jq 4 (V:=Value×Value×Value) (A:=Nat×Value) (_,_) (fun a (s:Int×(List Int)×(List Int)×(List (List Int))) v=>Dk.pc (fun a0 a1=>[.row a0 [.int .i64 (aj (x0.aC * x1.aC)),v.1,v.2.1,a1,v.2.2] 27,.own (aK 2 (aA .i64)) v.1 s.2.1,.own (aK 2 (aA .i64)) v.2.1 s.2.2.1,.own (aK 24 (aK 2 (aA .i64))) v.2.2 s.2.2.2]) a) (fun a s v=>Dk.pc (fun a0 a1=>[(7,.pointer (some ⟨a0,0,none⟩)),(10,.int .i64 (s.1))]) a) (_,_,_) [(2,_),(3,_),(4,_),(5,_),(6,_)]
  | apply Dk.jq 6 (V:=Value×Value×Value) (A:=Nat×Value) (_,_) (fun a (s:Int×(List Int)×(List Int)×(List (List Int))) v=>Dk.pc (fun a0 a1=>[.row a0 [.int .i64 (aj (x0.aC * x1.aC)),v.1,v.2.1,a1,v.2.2] 27,.own (aK 2 (aA .i64)) v.1 s.2.1,.own (aK 2 (aA .i64)) v.2.1 s.2.2.1,.own (aK 24 (aK 2 (aA .i64))) v.2.2 s.2.2.2]) a) (fun a s v=>Dk.pc (fun a0 a1=>[(7,.pointer (some ⟨a0,0,none⟩)),(11,.int .i64 (s.1))]) a) (_,_,_) [(2,_),(3,_),(4,_),(5,_),(6,_),(10,_)]
  | apply Dk.loop 8 (V:=Value) (fun (s:(List Int)×Int) v=>[.own (aK 2 (aA .i64)) v s.1]) (fun s v=>[(12,v),(13,.int .i64 (s.2))]) _ [(2,_),(3,_),(4,_),(5,_),(6,_),(7,_),(10,_),(11,_)]
  | apply Dk.loop 10 (V:=Value) (fun (s:(List Int)×Int) v=>[.own (aK 2 (aA .i64)) v s.1]) (fun s v=>[(12,v),(14,.int .i64 (s.2))]) _ [(2,_),(3,_),(4,_),(5,_),(6,_),(7,_),(10,_),(11,_),(13,_)]
  | apply Dk.quiet (id:=1) (by kernel_rfl)
  | apply Dk.quiet (id:=27) (by kernel_rfl)
  | apply Dk.any (id:=9) 16 [] [] [[],[0],[],[2],[],[3,2,4],[5,3,2,4],[],[6,5,3,2,4,7],[],[9],[],[10,9,11],[12,10,9,11],[8,6,5,3,2,4,7,13,12,10,9,11],[14,8,6,5,3,2,4,7,13,12,10,9,11]] (by kernel_rfl)
  | apply Dk.any (id:=16) 16 [] [] [[],[0],[],[2],[],[3,2,4],[5,3,2,4],[],[6,5,3,2,4,7],[],[9],[],[10,9,11],[12,10,9,11],[8,6,5,3,2,4,7,13,12,10,9,11],[14,8,6,5,3,2,4,7,13,12,10,9,11]] (by kernel_rfl)
  | apply Dk.any (id:=17) 16 [] [] [[],[0],[],[2],[],[3,2,4],[5,3,2,4],[],[6,5,3,2,4,7],[],[9],[],[10,9,11],[12,10,9,11],[8,6,5,3,2,4,7,13,12,10,9,11],[14,8,6,5,3,2,4,7,13,12,10,9,11]] (by kernel_rfl)
  | exact ()
theorem acX {x0:aI} {aU:Value} {bC:Value} {aO:Value} {aM:Value} {x1:Int}:Ct Tryz.prog 173 true (oI x0 x1) [.agg #[.int .i64 (x0.aC),aU,bC,aO,aM],.int .i64 (x1)] [.rd false (aD (aA .i64)) aU x0.aG,.rd false (aD (aA .i64)) bC x0.To,.rd false (aD (aA .i64)) aO x0.aJ,.rd false (aD (aD (aA .i64))) aM x0.aF] (fun y (_:Unit)=>[.bool y]) (fun y _=>[]):=by
 refine ct (S:=Unit) (cf fun _ _=>rfl) Tryz.func173 rfl rfl ?_
 repeat' first
  | ((first | show Dk.ER _ _ _ | show Dk.bd _ _ | show Dk.EF _ _ _ | show Dk.EO _ _ _ | show Dk.EP _ _ | show Dk.bb _ _ _ _ | show Dk.av _ _ _ _ | show Dk.Kp _ _ _ _ | show Dk.bp _ _ | show Dk.bg _ _ _ _); repeat' first | exact rfl | (refine @id.{0} _ ?_; constructor))
  | intro _
  | exact rfl
  | (refine @id.{0} _ ?_; constructor)
  | apply Dk.quiet (id:=1) (by kernel_rfl)
  | exact ()
theorem acY {x0:aI} {aU:Value} {bC:Value} {aO:Value} {aM:Value}:Ct Tryz.prog 117 true (mT x0) [.agg #[.int .i64 (x0.aC),aU,bC,aO,aM]] [.rd false (aD (aA .i64)) aU x0.aG,.rd false (aD (aA .i64)) bC x0.To,.rd false (aD (aA .i64)) aO x0.aJ,.rd false (aD (aD (aA .i64))) aM x0.aF] (fun y (v:Value)=>[v]) (fun y v=>[.own (aK 2 (aA .i64)) v y]):=by
 refine ct (S:=Unit) (cf fun _ _=>rfl) Tryz.func117 rfl rfl ?_
 repeat' first
  | ((first | show Dk.ER _ _ _ | show Dk.bd _ _ | show Dk.EF _ _ _ | show Dk.EO _ _ _ | show Dk.EP _ _ | show Dk.bb _ _ _ _ | show Dk.av _ _ _ _ | show Dk.Kp _ _ _ _ | show Dk.bp _ _ | show Dk.bg _ _ _ _); repeat' first | exact rfl | (refine @id.{0} _ ?_; constructor))
  | intro _
  | exact rfl
  | (refine @id.{0} _ ?_; constructor)
  | apply Dk.loop 0 (V:=Value) (fun (s:(List Int)×Int) v=>[.own (aK 2 (aA .i64)) v s.1]) (fun s v=>[(3,v),(4,.int .i64 (s.2))]) _ [(1,_)]
  | apply acX
  | exact ()
theorem acZ {x0:aN} {dX:Nat} {dC:Value} {x1:(List Int)} {eC:Value}:Ct Tryz.prog 170 true (oN x0 x1) [.pointer (some (⟨dX,0,none⟩)),eC] [.row dX [dC,.int .i64 (x0.At),.int .u64 (x0.ay)] 142,.rd false (aD (aA .u8)) dC x0.Code,.rd false (aD (aA .i64)) eC x1] (fun y (_:Unit)=>[.int .i64 y.1]) (fun y _=>[.row dX [dC,.int .i64 y.2.At,.int .u64 y.2.ay] 142]):=by
 refine ct (S:=Unit) (cf fun _ _=>rfl) Tryz.func170 rfl rfl ?_
 repeat' first
  | ((first | show Dk.ER _ _ _ | show Dk.bd _ _ | show Dk.EF _ _ _ | show Dk.EO _ _ _ | show Dk.EP _ _ | show Dk.bb _ _ _ _ | show Dk.av _ _ _ _ | show Dk.Kp _ _ _ _ | show Dk.bp _ _ | show Dk.bg _ _ _ _); repeat' first | exact rfl | (refine @id.{0} _ ?_; constructor))
  | intro _
  | exact rfl
  | (refine @id.{0} _ ?_; constructor)
  | apply Ed
  | exact ()
theorem ac0 {x0:(List Int)} {dI:Value} {x1:(List Int)} {eC:Value}:Ct Tryz.prog 169 true (qC x0 x1) [dI,eC] [.rd false (aD (aA .i64)) dI x0,.rd false (aD (aA .i64)) eC x1] (fun y (_:Unit)=>[.int .i64 y]) (fun y _=>[]):=by
 refine ct (S:=Unit) (cf fun _ _=>rfl) Tryz.func169 rfl rfl ?_
 repeat' first
  | ((first | show Dk.ER _ _ _ | show Dk.bd _ _ | show Dk.EF _ _ _ | show Dk.EO _ _ _ | show Dk.EP _ _ | show Dk.bb _ _ _ _ | show Dk.av _ _ _ _ | show Dk.Kp _ _ _ _ | show Dk.bp _ _ | show Dk.bg _ _ _ _); repeat' first | exact rfl | (refine @id.{0} _ ?_; constructor))
  | intro _
  | exact rfl
  | (refine @id.{0} _ ?_; constructor)
  | apply Dk.loop 0 (V:=Unit) (fun (s:Int) v=>[]) (fun s v=>[(8,.int .i64 (s))]) () [(0,_),(1,_),(7,_)]
  | apply Dk.quiet (id:=6) (by kernel_rfl)
  | apply Dk.quiet (id:=7) (by kernel_rfl)
  | exact ()
theorem WT {x0:(List Int)} {dI:Value} {x1:(List Int)} {eC:Value}:Ct Tryz.prog 110 true (kJ x0 x1) [dI,eC] [.rd false (aD (aA .i64)) dI x0,.rd false (aD (aA .i64)) eC x1] (fun y (_:Unit)=>[.bool y]) (fun y _=>[]):=by
 refine ct (S:=Unit) (cf fun _ _=>rfl) Tryz.func110 rfl rfl ?_
 repeat' first
  | ((first | show Dk.ER _ _ _ | show Dk.bd _ _ | show Dk.EF _ _ _ | show Dk.EO _ _ _ | show Dk.EP _ _ | show Dk.bb _ _ _ _ | show Dk.av _ _ _ _ | show Dk.Kp _ _ _ _ | show Dk.bp _ _ | show Dk.bg _ _ _ _); repeat' first | exact rfl | (refine @id.{0} _ ?_; constructor))
  | intro _
  | exact rfl
  | (refine @id.{0} _ ?_; constructor)
  | apply ac0
  | exact ()
theorem ac1 {x0:(List (List Int))} {dI:Value} {x1:(List (List Int))} {eC:Value}:Ct Tryz.prog 176 true (pW x0 x1) [dI,eC] [.rd false (aD (aD (aA .i64))) dI x0,.rd false (aD (aD (aA .i64))) eC x1] (fun y (_:Unit)=>[.bool y]) (fun y _=>[]):=by
 refine ct (S:=Unit) (cf fun _ _=>rfl) Tryz.func176 rfl rfl ?_
 repeat' first
  | ((first | show Dk.ER _ _ _ | show Dk.bd _ _ | show Dk.EF _ _ _ | show Dk.EO _ _ _ | show Dk.EP _ _ | show Dk.bb _ _ _ _ | show Dk.av _ _ _ _ | show Dk.Kp _ _ _ _ | show Dk.bp _ _ | show Dk.bg _ _ _ _); repeat' first | exact rfl | (refine @id.{0} _ ?_; constructor))
  | intro _
  | exact rfl
  | (refine @id.{0} _ ?_; constructor)
  | apply Dk.loop 0 (V:=Unit) (fun (s:Int) v=>[]) (fun s v=>[(5,.int .i64 (s))]) () [(0,_),(1,_)]
  | apply Dk.quiet (id:=6) (by kernel_rfl)
  | apply Qp
  | exact ()
theorem c53 {x0:(List Int)} {dI:Value} {x1:(List Int)} {eC:Value}:Ct Tryz.prog 53 true (qG x0 x1) [dI,eC] [.rd false (aD (aA .i64)) dI x0,.rd false (aD (aA .i64)) eC x1] (fun y (v:Value)=>[v]) (fun y v=>[.own (aK 2 (aA .i64)) v y]):=by
 refine ct (S:=Unit) (cf fun _ _=>rfl) Tryz.func53 rfl rfl ?_
 repeat' first
  | ((first | show Dk.ER _ _ _ | show Dk.bd _ _ | show Dk.EF _ _ _ | show Dk.EO _ _ _ | show Dk.EP _ _ | show Dk.bb _ _ _ _ | show Dk.av _ _ _ _ | show Dk.Kp _ _ _ _ | show Dk.bp _ _ | show Dk.bg _ _ _ _); repeat' first | exact rfl | (refine @id.{0} _ ?_; constructor))
  | intro _
  | exact rfl
  | (refine @id.{0} _ ?_; constructor)
  | apply Dk.jq 0 (V:=Unit) (A:=Value) _ (fun a (s:Int×(List Int)) v=>[.own (aK 2 (aA .i64)) a s.2]) (fun a s v=>[(5,a),(13,.int .i64 (s.1))]) () [(1,_),(11,_),(12,_)]
  | exact ()
end Go.Proofs.YtkcpiblgpnjanaaGreat
