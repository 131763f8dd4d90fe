/- Walks by the calculus D. No condition beside those that each theorem names. -/
import Derived.Test.YtkcpiblgpnjanaaGreatDi
import Derived.Test.YtkcpiblgpnjanaaGreatMo
import Derived.Test.YtkcpiblgpnjanaaGreatDp
import Derived.Test.YtkcpiblgpnjanaaGreatDs
namespace Go.Proofs.YtkcpiblgpnjanaaGreat
open Go Go.Li Go.Dk
set_option linter.unusedVariables false
set_option maxHeartbeats 16000000
set_option maxRecDepth 100000
theorem WU {x0:(List (List Int))} {dI:Value}:Ct Tryz.prog 198 true (eU x0) [dI] [.rd false (aD (aD (aA .i64))) dI x0] (fun y (v:Value×Value×Value×Value)=>[.agg #[.int .i64 y.aC,v.1,v.2.1,v.2.2.1,v.2.2.2]]) (fun y v=>[.own (aK 2 (aA .i64)) v.1 y.aG,.own (aK 2 (aA .i64)) v.2.1 y.To,.own (aK 2 (aA .i64)) v.2.2.1 y.aJ,.own (aK 24 (aK 2 (aA .i64))) v.2.2.2 y.aF]):=by
 refine ct (S:=Unit) (cf fun _ _=>rfl) Tryz.func198 rfl rfl ?_
 repeat' first
  | ((first | show Dk.ER _ _ _ | show Dk.bd _ _ | show Dk.EF _ _ _ | show Dk.EO _ _ _ | show Dk.EP _ _ | show Dk.bb _ _ _ _ | show Dk.av _ _ _ _ | show Dk.Kp _ _ _ _ | show Dk.bp _ _ | show Dk.bg _ _ _ _); repeat' first | exact rfl | (refine @id.{0} _ ?_; constructor))
  | intro _
  | exact rfl
  | (refine Dk.tA (t:=31) rfl ?_ ?_)
  | (refine Dk.tA (t:=93) rfl ?_ ?_)
  | (refine @id.{0} _ ?_; constructor)
  | apply Dk.jq 0 (V:=Value×Value×Value) (A:=Nat×Value×Value) (_,_,_) (fun a (s:(List (List Int))×Int×(List Int)×(List Int)) v=>Dk.pc (fun a0=>Dk.pc (fun a1 a2=>[.row a0 [.int .i64 ((x0.length:Int)),v.2.1,v.2.2,a1,a2] 27,.own (aK 24 (aK 2 (aA .i64))) v.1 s.1,.own (aK 2 (aA .i64)) v.2.1 s.2.2.1,.own (aK 2 (aA .i64)) v.2.2 s.2.2.2])) a) (fun a s v=>Dk.pc (fun a0=>Dk.pc (fun a1 a2=>[(4,v.1),(5,.pointer (some ⟨a0,0,none⟩)),(6,.int .i64 (s.2.1))])) a) (_,_,_) [(0,_),(2,_),(3,_)]
  | apply Dk.jq 2 (V:=Value×Value×Value) (A:=Nat×Value×Value) (_,_,_) (fun a (s:(List Int)×Int×(List Int)×(List Int)) v=>Dk.pc (fun a0=>Dk.pc (fun a1 a2=>[.row a0 [.int .i64 ((x0.length:Int)),v.2.1,v.2.2,a1,a2] 27,.own (aK 2 (aA .i64)) v.1 s.1,.own (aK 2 (aA .i64)) v.2.1 s.2.2.1,.own (aK 2 (aA .i64)) v.2.2 s.2.2.2])) a) (fun a s v=>Dk.pc (fun a0=>Dk.pc (fun a1 a2=>[(5,.pointer (some ⟨a0,0,none⟩)),(7,v.1),(8,.int .i64 (s.2.1))])) a) (_,_,_) [(0,_),(2,_),(3,_),(4,_),(6,_)]
  | apply Dk.jq 4 (V:=Value) (A:=Nat×Value×Value×Value) (_,_,_,_) (fun a (s:Int×(List Int)) v=>Dk.pc (fun a0=>Dk.pc (fun a1=>Dk.pc (fun a2 a3=>[.row a0 [.int .i64 ((x0.length:Int)),a1,a2,v,a3] 27,.own (aK 2 (aA .i64)) v s.2]))) a) (fun a s v=>Dk.pc (fun a0=>Dk.pc (fun a1=>Dk.pc (fun a2 a3=>[(5,.pointer (some ⟨a0,0,none⟩)),(9,.int .i64 (s.1))]))) a) _ [(2,_),(3,_),(4,_)]
  | apply Dk.jq 6 (V:=Value) (A:=Nat×Value×Value×Value) (_,_,_,_) (fun a (s:Int×(List (List Int))) v=>Dk.pc (fun a0=>Dk.pc (fun a1=>Dk.pc (fun a2 a3=>[.row a0 [.int .i64 ((x0.length:Int)),a1,a2,a3,v] 27,.own (aK 24 (aK 2 (aA .i64))) v s.2]))) a) (fun a s v=>Dk.pc (fun a0=>Dk.pc (fun a1=>Dk.pc (fun a2 a3=>[(5,.pointer (some ⟨a0,0,none⟩)),(10,.int .i64 (s.1))]))) a) _ [(2,_),(4,_)]
  | apply Dk.loop 8 (V:=Value) (fun (s:(List Int)×Int) v=>[.own (aK 2 (aA .i64)) v s.1]) (fun s v=>[(11,v),(12,.int .i64 (s.2))]) _ [(2,_),(4,_),(5,_),(10,_)]
  | apply Dk.quiet (id:=28) (by kernel_rfl)
  | apply Dk.quiet (id:=29) (by kernel_rfl)
  | apply Dk.any (id:=19) 10 [] [] [[],[0],[],[],[2,3],[4,2,3],[],[5,4,2,3,6],[7,5,4,2,3,6],[8,7,5,4,2,3,6]] (by kernel_rfl)
  | exact ()
theorem ac2 {x0:Int} {x1:Int} {x2:Int}:Ct Tryz.prog 184 true (qA x0 x1 x2) [.int .i64 (x0),.int .i64 (x1),.int .i64 (x2)] [] (fun y (_:Unit)=>[.bool y]) (fun y _=>[]):=by
 refine ct (S:=Unit) (cf fun _ _=>rfl) Tryz.func184 rfl rfl ?_
 repeat' first
  | ((first | show Dk.ER _ _ _ | show Dk.bd _ _ | show Dk.EF _ _ _ | show Dk.EO _ _ _ | show Dk.EP _ _ | show Dk.bb _ _ _ _ | show Dk.av _ _ _ _ | show Dk.Kp _ _ _ _ | show Dk.bp _ _ | show Dk.bg _ _ _ _); repeat' first | exact rfl | (refine @id.{0} _ ?_; constructor))
  | intro _
  | exact rfl
  | (refine @id.{0} _ ?_; constructor)
  | exact ()
theorem Qq {x0:Int} {x1:(List Int)} {eC:Value}:Ct Tryz.prog 164 true (kP x0 x1) [.int .i64 (x0),eC] [.rd false (aD (aA .i64)) eC x1] (fun y (_:Unit)=>[.bool y]) (fun y _=>[]):=by
 refine ct (S:=Unit) (cf fun _ _=>rfl) Tryz.func164 rfl rfl ?_
 repeat' first
  | ((first | show Dk.ER _ _ _ | show Dk.bd _ _ | show Dk.EF _ _ _ | show Dk.EO _ _ _ | show Dk.EP _ _ | show Dk.bb _ _ _ _ | show Dk.av _ _ _ _ | show Dk.Kp _ _ _ _ | show Dk.bp _ _ | show Dk.bg _ _ _ _); repeat' first | exact rfl | (refine @id.{0} _ ?_; constructor))
  | intro _
  | exact rfl
  | (refine @id.{0} _ ?_; constructor)
  | apply Dk.loop 0 (V:=Unit) (fun (s:Int) v=>[]) (fun s v=>[(5,.int .i64 (s))]) () [(0,_),(1,_)]
  | exact ()
theorem ac3 {x0:(List Int)} {dI:Value} {x1:Int} {x2:Int}:Ct Tryz.prog 202 true (mJ x0 x1 x2) [dI,.int .i64 (x1),.int .i64 (x2)] [.rd false (aD (aA .i64)) dI x0] (fun y (_:Unit)=>[.bool y]) (fun y _=>[]):=by
 refine ct (S:=Unit) (cf fun _ _=>rfl) Tryz.func202 rfl rfl ?_
 repeat' first
  | ((first | show Dk.ER _ _ _ | show Dk.bd _ _ | show Dk.EF _ _ _ | show Dk.EO _ _ _ | show Dk.EP _ _ | show Dk.bb _ _ _ _ | show Dk.av _ _ _ _ | show Dk.Kp _ _ _ _ | show Dk.bp _ _ | show Dk.bg _ _ _ _); repeat' first | exact rfl | (refine @id.{0} _ ?_; constructor))
  | intro _
  | exact rfl
  | (refine @id.{0} _ ?_; constructor)
  | apply Qq
  | exact ()
theorem WV {x0:aI} {dK:Addr} {aU:Value} {bC:Value} {aO:Value} {aM:Value} {x1:Int}:Ct Tryz.prog 168 true (eX x0 x1) [.pointer (some (dK)),.int .i64 (x1)] [.ak dK [.int .i64 (x0.aC),aU,bC,aO,aM],.rd false (aD (aA .i64)) aU x0.aG,.rd false (aD (aA .i64)) bC x0.To,.rd false (aD (aA .i64)) aO x0.aJ,.rd false (aD (aD (aA .i64))) aM x0.aF] (fun y (_:Unit)=>[.agg #[.int .i64 y.aG,.int .i64 y.To]]) (fun y _=>[]):=by
 refine ct (S:=Unit) (cf fun _ _=>rfl) Tryz.func168 rfl rfl ?_
 repeat' first
  | ((first | show Dk.ER _ _ _ | show Dk.bd _ _ | show Dk.EF _ _ _ | show Dk.EO _ _ _ | show Dk.EP _ _ | show Dk.bb _ _ _ _ | show Dk.av _ _ _ _ | show Dk.Kp _ _ _ _ | show Dk.bp _ _ | show Dk.bg _ _ _ _); repeat' first | exact rfl | (refine @id.{0} _ ?_; constructor))
  | intro _
  | exact rfl
  | (refine @id.{0} _ ?_; constructor)
  | apply Dk.any (id:=1) 14 [] [] [[],[0],[1,0],[2,1,0],[],[3,2,1,0,4],[5,3,2,1,0,4],[],[7],[8,7],[9,8,7],[],[10,9,8,7,11],[12,10,9,8,7,11]] (by kernel_rfl)
  | exact ()
theorem JN {x0:(List Int)} {dI:Value}:Ct Tryz.prog 98 true (fQ x0) [dI] [.rd false (aD (aA .i64)) dI x0] (fun y (v:Value)=>[v]) (fun y v=>[.own (aK 2 (aA .i64)) v y]):=by
 refine ct (S:=Unit) (cf fun _ _=>rfl) Tryz.func98 rfl rfl ?_
 repeat' first
  | ((first | show Dk.ER _ _ _ | show Dk.bd _ _ | show Dk.EF _ _ _ | show Dk.EO _ _ _ | show Dk.EP _ _ | show Dk.bb _ _ _ _ | show Dk.av _ _ _ _ | show Dk.Kp _ _ _ _ | show Dk.bp _ _ | show Dk.bg _ _ _ _); repeat' first | exact rfl | (refine @id.{0} _ ?_; constructor))
  | intro _
  | exact rfl
  | (refine @id.{0} _ ?_; constructor)
  | exact ()
theorem Zj {x0 x1:List Int} {v0:Value} {bo:Nat} {vo:Value}:Ct Tryz.prog 97 true (eL x0 x1) [v0,.pointer (some ⟨bo,0,none⟩)] [.row bo [vo] 24,.own (aK 2 (aA .i64)) vo x1,.rd false (aD (aA .i64)) v0 x0] (fun y (_:Value)=>[.bool y.1]) (fun y v=>[.row bo [v] 24,.own (aK 2 (aA .i64)) v y.2]):=by
 refine ct (S:=Unit) (cf fun _ _=>rfl) Tryz.func97 rfl rfl ?_
 repeat' first
  | ((first | show Dk.ER _ _ _ | show Dk.bd _ _ | show Dk.EF _ _ _ | show Dk.EO _ _ _ | show Dk.EP _ _ | show Dk.bb _ _ _ _ | show Dk.av _ _ _ _ | show Dk.Kp _ _ _ _ | show Dk.bp _ _ | show Dk.bg _ _ _ _); repeat' first | exact rfl | (refine @id.{0} _ ?_; constructor))
  | intro _
  | exact rfl
  | (refine @id.{0} _ ?_; constructor)
  | apply JN
  | exact ()
theorem WW {x0:List Int} {v0:Value} {x1:List (List Int)} {bo:Nat} {vo:Value} {xm:Int} {pm:Addr}:Ct Tryz.prog 103 true (eE x0 x1 xm) [v0,.pointer (some ⟨bo,0,none⟩),.pointer (some pm)] [.row bo [vo] 25,.ak pm [.int .i64 xm],.own (aK 24 (aK 2 (aA .i64))) vo x1,.rd false (aD (aA .i64)) v0 x0] (fun y (_:Value)=>[.bool y.1]) (fun y v=>[.row bo [v] 25,.own (aK 24 (aK 2 (aA .i64))) v y.2]):=by
 refine ct (S:=Unit) (cf fun _ _=>rfl) Tryz.func103 rfl rfl ?_
 repeat' first
  | ((first | show Dk.ER _ _ _ | show Dk.bd _ _ | show Dk.EF _ _ _ | show Dk.EO _ _ _ | show Dk.EP _ _ | show Dk.bb _ _ _ _ | show Dk.av _ _ _ _ | show Dk.Kp _ _ _ _ | show Dk.bp _ _ | show Dk.bg _ _ _ _); repeat' first | exact rfl | (refine @id.{0} _ ?_; constructor))
  | intro _
  | exact rfl
  | (refine @id.{0} _ ?_; constructor)
  | apply Dk.any (id:=1) 4 [] [] [[],[],[1],[2,1]] (by kernel_rfl)
  | apply JN
  | exact ()
theorem ac4 {x0:aI} {aU:Value} {bC:Value} {aO:Value} {aM:Value} {x1:Int}:Ct Tryz.prog 213 true (kF x0 x1) [.agg #[.int .i64 (x0.aC),aU,bC,aO,aM],.int .i64 (x1)] [.rd false (aD (aA .i64)) aU x0.aG,.rd false (aD (aA .i64)) bC x0.To,.rd false (aD (aA .i64)) aO x0.aJ,.rd false (aD (aD (aA .i64))) aM x0.aF] (fun y (v:Value)=>[v]) (fun y v=>[.own (aK 2 (aA .i64)) v y]):=by
 refine ct (S:=Unit) (cf fun _ _=>rfl) Tryz.func213 rfl rfl ?_
 repeat' first
  | ((first | show Dk.ER _ _ _ | show Dk.bd _ _ | show Dk.EF _ _ _ | show Dk.EO _ _ _ | show Dk.EP _ _ | show Dk.bb _ _ _ _ | show Dk.av _ _ _ _ | show Dk.Kp _ _ _ _ | show Dk.bp _ _ | show Dk.bg _ _ _ _); repeat' first | exact rfl | (refine @id.{0} _ ?_; constructor))
  | intro _
  | exact rfl
  | (refine @id.{0} _ ?_; constructor)
  | apply Dk.loop 0 (V:=Value) (fun (s:(List Int)×Int) v=>[.own (aK 2 (aA .i64)) v s.1]) (fun s v=>[(5,v),(6,.int .i64 (s.2))]) _ [(1,_),(2,_)]
  | apply Dk.quiet (id:=5) (by kernel_rfl)
  | exact ()
theorem ac5 {x0:aI} {aU:Value} {bC:Value} {aO:Value} {aM:Value} {x1:Int}:Ct Tryz.prog 214 true (lJ x0 x1) [.agg #[.int .i64 (x0.aC),aU,bC,aO,aM],.int .i64 (x1)] [.rd false (aD (aA .i64)) aU x0.aG,.rd false (aD (aA .i64)) bC x0.To,.rd false (aD (aA .i64)) aO x0.aJ,.rd false (aD (aD (aA .i64))) aM x0.aF] (fun y (v:Value)=>[v]) (fun y v=>[.own (aK 2 (aA .i64)) v y]):=by
 refine ct (S:=Unit) (cf fun _ _=>rfl) Tryz.func214 rfl rfl ?_
 repeat' first
  | ((first | show Dk.ER _ _ _ | show Dk.bd _ _ | show Dk.EF _ _ _ | show Dk.EO _ _ _ | show Dk.EP _ _ | show Dk.bb _ _ _ _ | show Dk.av _ _ _ _ | show Dk.Kp _ _ _ _ | show Dk.bp _ _ | show Dk.bg _ _ _ _); repeat' first | exact rfl | (refine @id.{0} _ ?_; constructor))
  | intro _
  | exact rfl
  | (refine @id.{0} _ ?_; constructor)
  | apply Dk.loop 0 (V:=Value) (fun (s:(List Int)×Int) v=>[.own (aK 2 (aA .i64)) v s.1]) (fun s v=>[(5,v),(6,.int .i64 (s.2))]) _ [(1,_),(2,_)]
  | apply Dk.quiet (id:=5) (by kernel_rfl)
  | exact ()
theorem ac6 {x0:(List Int)} {dI:Value} {x1:Int}:Ct Tryz.prog 215 true (pO x0 x1) [dI,.int .i64 (x1)] [.rd false (aD (aA .i64)) dI x0] (fun y (_:Unit)=>[.bool y]) (fun y _=>[]):=by
 refine ct (S:=Unit) (cf fun _ _=>rfl) Tryz.func215 rfl rfl ?_
 repeat' first
  | ((first | show Dk.ER _ _ _ | show Dk.bd _ _ | show Dk.EF _ _ _ | show Dk.EO _ _ _ | show Dk.EP _ _ | show Dk.bb _ _ _ _ | show Dk.av _ _ _ _ | show Dk.Kp _ _ _ _ | show Dk.bp _ _ | show Dk.bg _ _ _ _); repeat' first | exact rfl | (refine @id.{0} _ ?_; constructor))
  | intro _
  | exact rfl
  | (refine @id.{0} _ ?_; constructor)
  | apply Dk.loop 0 (V:=Unit) (fun (s:Int) v=>[]) (fun s v=>[(5,.int .i64 (s))]) () [(0,_),(1,_)]
  | exact ()
theorem ac7 {x0:aI} {aU:Value} {bC:Value} {aO:Value} {aM:Value} {x1:Int}:Ct Tryz.prog 200 true (lZ x0 x1) [.agg #[.int .i64 (x0.aC),aU,bC,aO,aM],.int .i64 (x1)] [.rd false (aD (aA .i64)) aU x0.aG,.rd false (aD (aA .i64)) bC x0.To,.rd false (aD (aA .i64)) aO x0.aJ,.rd false (aD (aD (aA .i64))) aM x0.aF] (fun y (_:Unit)=>[.int .i64 y]) (fun y _=>[]):=by
 refine ct (S:=Unit) (cf fun _ _=>rfl) Tryz.func200 rfl rfl ?_
 repeat' first
  | ((first | show Dk.ER _ _ _ | show Dk.bd _ _ | show Dk.EF _ _ _ | show Dk.EO _ _ _ | show Dk.EP _ _ | show Dk.bb _ _ _ _ | show Dk.av _ _ _ _ | show Dk.Kp _ _ _ _ | show Dk.bp _ _ | show Dk.bg _ _ _ _); repeat' first | exact rfl | (refine @id.{0} _ ?_; constructor))
  | intro _
  | exact rfl
  | (refine @id.{0} _ ?_; constructor)
  | apply Dk.loop 0 (V:=Unit) (fun (s:Int) v=>[]) (fun s v=>[(7,.int .i64 (s))]) () [(5,_),(6,_)]
  | apply Dk.any (id:=1) 5 [] [] [[],[],[0,1],[],[]] (by kernel_rfl)
  | apply ac4
  | apply ac5
  | apply ac6
  | exact ()
theorem G6 {x0:(List Int)} {dI:Value} {x1:(List Int)} {eC:Value}:Ct Tryz.prog 11 true (eV x0 x1) [dI,eC] [.rd false (aD (aA .i64)) dI x0,.rd false (aD (aA .i64)) eC x1] (fun y (_:Unit)=>[.bool y]) (fun y _=>[]):=by
 refine ct (S:=Unit) (cf fun _ _=>rfl) Tryz.func11 rfl rfl ?_
 repeat' first
  | ((first | show Dk.ER _ _ _ | show Dk.bd _ _ | show Dk.EF _ _ _ | show Dk.EO _ _ _ | show Dk.EP _ _ | show Dk.bb _ _ _ _ | show Dk.av _ _ _ _ | show Dk.Kp _ _ _ _ | show Dk.bp _ _ | show Dk.bg _ _ _ _); repeat' first | exact rfl | (refine @id.{0} _ ?_; constructor))
  | intro _
  | exact rfl
  | (refine @id.{0} _ ?_; constructor)
  | apply Dk.loop 0 (V:=Unit) (fun (s:Int) v=>[]) (fun s v=>[(5,.int .i64 (s))]) () [(0,_),(1,_)]
  | apply Dk.quiet (id:=6) (by kernel_rfl)
  | exact ()
theorem ac8 {x0:(List (List Int))} {dI:Value}:Ct Tryz.prog 140 true (pP x0) [dI] [.rd false (aD (aD (aA .i64))) dI x0] (fun y (v:Value)=>[v]) (fun y v=>[.own (aK 24 (aK 2 (aA .i64))) v y]):=by
 refine ct (S:=Unit) (cf fun _ _=>rfl) Tryz.func140 rfl rfl ?_
 repeat' first
  | ((first | show Dk.ER _ _ _ | show Dk.bd _ _ | show Dk.EF _ _ _ | show Dk.EO _ _ _ | show Dk.EP _ _ | show Dk.bb _ _ _ _ | show Dk.av _ _ _ _ | show Dk.Kp _ _ _ _ | show Dk.bp _ _ | show Dk.bg _ _ _ _); repeat' first | exact rfl | (refine @id.{0} _ ?_; constructor))
  | intro _
  | exact rfl
  | (refine @id.{0} _ ?_; constructor)
  | apply Dk.loop 0 (V:=Value) (fun (s:(List (List Int))×Int) v=>[.own (aK 24 (aK 2 (aA .i64))) v s.1]) (fun s v=>[(3,v),(11,.int .i64 (s.2))]) _ [(9,_),(10,_)]
  | apply JN
  | exact ()
theorem c32 {x0:(List (List Int))} {dI:Value} {x1:(List (List Int))} {eC:Value}:Ct Tryz.prog 32 true (qH x0 x1) [dI,eC] [.rd false (aD (aD (aA .i64))) dI x0,.rd false (aD (aD (aA .i64))) eC x1] (fun y (_:Unit)=>[.bool y]) (fun y _=>[]):=by
 refine ct (S:=Unit) (cf fun _ _=>rfl) Tryz.func32 rfl rfl ?_
 repeat' first
  | ((first | show Dk.ER _ _ _ | show Dk.bd _ _ | show Dk.EF _ _ _ | show Dk.EO _ _ _ | show Dk.EP _ _ | show Dk.bb _ _ _ _ | show Dk.av _ _ _ _ | show Dk.Kp _ _ _ _ | show Dk.bp _ _ | show Dk.bg _ _ _ _); repeat' first | exact rfl | (refine @id.{0} _ ?_; constructor))
  | intro _
  | exact rfl
  | (refine @id.{0} _ ?_; constructor)
  | apply Dk.loop 0 (V:=Unit) (fun (s:Int) v=>[]) (fun s v=>[(5,.int .i64 (s))]) () [(0,_),(1,_)]
  | apply Dk.quiet (id:=6) (by kernel_rfl)
  | apply G6
  | exact ()
end Go.Proofs.YtkcpiblgpnjanaaGreat
