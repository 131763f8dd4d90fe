/- Walks by the calculus D. No condition beside those that each theorem names. -/
import Derived.Test.YtgjbmjjihmfppaaGreatDi
import Derived.Test.YtgjbmjjihmfppaaGreatMo
import Derived.Test.YtgjbmjjihmfppaaGreatDp
import Derived.Test.YtgjbmjjihmfppaaGreatDs
namespace Go.Proofs.YtgjbmjjihmfppaaGreat
open Go Go.Li Go.Dk
set_option linter.unusedVariables false
set_option maxHeartbeats 16000000
set_option maxRecDepth 100000
theorem c7 {x0:(List Int)} {cY:Value}:Ct Tryz.prog 7 true (qB x0) [cY] [.rd false (aE (aC .u8)) cY x0] (fun y (_:Unit)=>[.bool y]) (fun y _=>[]):=by
 refine ct (S:=Unit) (db fun _ _=>rfl) Tryz.func7 rfl rfl ?_
 repeat' first
  | ((first | show Dk.ER _ _ _ | show Dk.bd _ _ | show Dk.EF _ _ _ | show Dk.EO _ _ _ | show Dk.EP _ _ | show Dk.ba _ _ _ _ | show Dk.aw _ _ _ _ | show Dk.Kp _ _ _ _ | show Dk.bp _ _ | show Dk.bg _ _ _ _); repeat' first | exact rfl | (refine @id.{0} _ ?_; constructor))
  | intro _
  | exact rfl
  | (refine @id.{0} _ ?_; constructor)
  | exact ()
theorem Hs {x0:(List (List Int))} {cY:Value}:Ct Tryz.prog 119 true (cK x0) [cY] [.rd false (aE (aE (aC .i64))) cY x0] (fun y (v:Value×Value×Value×Value)=>[.agg #[.int .i64 y.aA,v.1,v.2.1,v.2.2.1,v.2.2.2]]) (fun y v=>[.own (aK 2 (aC .i64)) v.1 y.aD,.own (aK 2 (aC .i64)) v.2.1 y.To,.own (aK 2 (aC .i64)) v.2.2.1 y.aJ,.own (aK 24 (aK 2 (aC .i64))) v.2.2.2 y.aB]):=by
 refine ct (S:=Unit) (db fun _ _=>rfl) Tryz.func119 rfl rfl ?_
 repeat' first
  | ((first | show Dk.ER _ _ _ | show Dk.bd _ _ | show Dk.EF _ _ _ | show Dk.EO _ _ _ | show Dk.EP _ _ | show Dk.ba _ _ _ _ | show Dk.aw _ _ _ _ | show Dk.Kp _ _ _ _ | show Dk.bp _ _ | show Dk.bg _ _ _ _); repeat' first | exact rfl | (refine @id.{0} _ ?_; constructor))
  | intro _
  | exact rfl
  | (refine Dk.tu (t:=31) rfl ?_ ?_)
  | (refine Dk.tu (t:=93) rfl ?_ ?_)
  | (refine @id.{0} _ ?_; constructor)
  | apply Dk.kj 0 (V:=Value×Value×Value) (A:=Nat×Value×Value) (_,_,_) (fun a (s:(List (List Int))×Int×(List Int)×(List Int)) v=>Dk.pc (fun a0=>Dk.pc (fun a1 a2=>[.row a0 [.int .i64 ((x0.length:Int)),v.2.1,v.2.2,a1,a2] 27,.own (aK 24 (aK 2 (aC .i64))) v.1 s.1,.own (aK 2 (aC .i64)) v.2.1 s.2.2.1,.own (aK 2 (aC .i64)) v.2.2 s.2.2.2])) a) (fun a s v=>Dk.pc (fun a0=>Dk.pc (fun a1 a2=>[(4,v.1),(5,.pointer (some ⟨a0,0,none⟩)),(6,.int .i64 (s.2.1))])) a) (_,_,_) [(0,_),(2,_),(3,_)]
  | apply Dk.kj 2 (V:=Value×Value×Value) (A:=Nat×Value×Value) (_,_,_) (fun a (s:(List Int)×Int×(List Int)×(List Int)) v=>Dk.pc (fun a0=>Dk.pc (fun a1 a2=>[.row a0 [.int .i64 ((x0.length:Int)),v.2.1,v.2.2,a1,a2] 27,.own (aK 2 (aC .i64)) v.1 s.1,.own (aK 2 (aC .i64)) v.2.1 s.2.2.1,.own (aK 2 (aC .i64)) v.2.2 s.2.2.2])) a) (fun a s v=>Dk.pc (fun a0=>Dk.pc (fun a1 a2=>[(5,.pointer (some ⟨a0,0,none⟩)),(7,v.1),(8,.int .i64 (s.2.1))])) a) (_,_,_) [(0,_),(2,_),(3,_),(4,_),(6,_)]
  | apply Dk.kj 4 (V:=Value) (A:=Nat×Value×Value×Value) (_,_,_,_) (fun a (s:Int×(List Int)) v=>Dk.pc (fun a0=>Dk.pc (fun a1=>Dk.pc (fun a2 a3=>[.row a0 [.int .i64 ((x0.length:Int)),a1,a2,v,a3] 27,.own (aK 2 (aC .i64)) v s.2]))) a) (fun a s v=>Dk.pc (fun a0=>Dk.pc (fun a1=>Dk.pc (fun a2 a3=>[(5,.pointer (some ⟨a0,0,none⟩)),(9,.int .i64 (s.1))]))) a) _ [(2,_),(3,_),(4,_)]
  | apply Dk.kj 6 (V:=Value) (A:=Nat×Value×Value×Value) (_,_,_,_) (fun a (s:Int×(List (List Int))) v=>Dk.pc (fun a0=>Dk.pc (fun a1=>Dk.pc (fun a2 a3=>[.row a0 [.int .i64 ((x0.length:Int)),a1,a2,a3,v] 27,.own (aK 24 (aK 2 (aC .i64))) v s.2]))) a) (fun a s v=>Dk.pc (fun a0=>Dk.pc (fun a1=>Dk.pc (fun a2 a3=>[(5,.pointer (some ⟨a0,0,none⟩)),(10,.int .i64 (s.1))]))) a) _ [(2,_),(4,_)]
  | apply Dk.loop 8 (V:=Value) (fun (s:(List Int)×Int) v=>[.own (aK 2 (aC .i64)) v s.1]) (fun s v=>[(11,v),(12,.int .i64 (s.2))]) _ [(2,_),(4,_),(5,_),(10,_)]
  | apply Dk.quiet (id:=28) (by kernel_rfl)
  | apply Dk.quiet (id:=29) (by kernel_rfl)
  | apply Dk.any (id:=19) 10 [] [] [[],[0],[],[],[2,3],[4,2,3],[],[5,4,2,3,6],[7,5,4,2,3,6],[8,7,5,4,2,3,6]] (by kernel_rfl)
  | exact ()
theorem acn {x0:aG} {aU:Value} {aZ:Value} {aO:Value} {aM:Value} {x1:Int}:Ct Tryz.prog 149 true (nG x0 x1) [.agg #[.int .i64 (x0.aA),aU,aZ,aO,aM],.int .i64 (x1)] [.rd false (aE (aC .i64)) aU x0.aD,.rd false (aE (aC .i64)) aZ x0.To,.rd false (aE (aC .i64)) aO x0.aJ,.rd false (aE (aE (aC .i64))) aM x0.aB] (fun y (_:Unit)=>[.bool y]) (fun y _=>[]):=by
 refine ct (S:=Unit) (db fun _ _=>rfl) Tryz.func149 rfl rfl ?_
 repeat' first
  | ((first | show Dk.ER _ _ _ | show Dk.bd _ _ | show Dk.EF _ _ _ | show Dk.EO _ _ _ | show Dk.EP _ _ | show Dk.ba _ _ _ _ | show Dk.aw _ _ _ _ | show Dk.Kp _ _ _ _ | show Dk.bp _ _ | show Dk.bg _ _ _ _); repeat' first | exact rfl | (refine @id.{0} _ ?_; constructor))
  | intro _
  | exact rfl
  | (refine @id.{0} _ ?_; constructor)
  | apply Dk.quiet (id:=1) (by kernel_rfl)
  | exact ()
theorem aco {x0:aG} {aU:Value} {aZ:Value} {aO:Value} {aM:Value}:Ct Tryz.prog 121 true (lA x0) [.agg #[.int .i64 (x0.aA),aU,aZ,aO,aM]] [.rd false (aE (aC .i64)) aU x0.aD,.rd false (aE (aC .i64)) aZ x0.To,.rd false (aE (aC .i64)) aO x0.aJ,.rd false (aE (aE (aC .i64))) aM x0.aB] (fun y (v:Value)=>[v]) (fun y v=>[.own (aK 2 (aC .i64)) v y]):=by
 refine ct (S:=Unit) (db fun _ _=>rfl) Tryz.func121 rfl rfl ?_
 repeat' first
  | ((first | show Dk.ER _ _ _ | show Dk.bd _ _ | show Dk.EF _ _ _ | show Dk.EO _ _ _ | show Dk.EP _ _ | show Dk.ba _ _ _ _ | show Dk.aw _ _ _ _ | show Dk.Kp _ _ _ _ | show Dk.bp _ _ | show Dk.bg _ _ _ _); repeat' first | exact rfl | (refine @id.{0} _ ?_; constructor))
  | intro _
  | exact rfl
  | (refine @id.{0} _ ?_; constructor)
  | apply Dk.loop 0 (V:=Value) (fun (s:(List Int)×Int) v=>[.own (aK 2 (aC .i64)) v s.1]) (fun s v=>[(3,v),(4,.int .i64 (s.2))]) _ [(1,_)]
  | apply acn
  | exact ()
theorem Wt  : Ct Tryz.prog 104 true (lX) [] [] (fun y (v:Value×Value×Value×Value)=>[.agg #[.int .i64 y.aA,v.1,v.2.1,v.2.2.1,v.2.2.2]]) (fun y v=>[.own (aK 2 (aC .i64)) v.1 y.aD,.own (aK 2 (aC .i64)) v.2.1 y.To,.own (aK 2 (aC .i64)) v.2.2.1 y.aJ,.own (aK 24 (aK 2 (aC .i64))) v.2.2.2 y.aB]):=by
 refine ct (S:=Unit) (db fun _ _=>rfl) Tryz.func104 rfl rfl ?_
 repeat' first
  | ((first | show Dk.ER _ _ _ | show Dk.bd _ _ | show Dk.EF _ _ _ | show Dk.EO _ _ _ | show Dk.EP _ _ | show Dk.ba _ _ _ _ | show Dk.aw _ _ _ _ | show Dk.Kp _ _ _ _ | show Dk.bp _ _ | show Dk.bg _ _ _ _); repeat' first | exact rfl | (refine @id.{0} _ ?_; constructor))
  | intro _
  | exact rfl
  | (refine @id.{0} _ ?_; constructor)
  | apply Hs
  | exact ()
theorem YD {x0:aG} {dE:Addr} {aU:Value} {aZ:Value} {aO:Value} {aM:Value} {x1:Int}:Ct Tryz.prog 95 true (dN x0 x1) [.pointer (some (dE)),.int .i64 (x1)] [.aq dE [.int .i64 (x0.aA),aU,aZ,aO,aM],.rd false (aE (aC .i64)) aU x0.aD,.rd false (aE (aC .i64)) aZ x0.To,.rd false (aE (aC .i64)) aO x0.aJ,.rd false (aE (aE (aC .i64))) aM x0.aB] (fun y (_:Unit)=>[.agg #[.int .i64 y.aD,.int .i64 y.To]]) (fun y _=>[]):=by
 refine ct (S:=Unit) (db fun _ _=>rfl) Tryz.func95 rfl rfl ?_
 repeat' first
  | ((first | show Dk.ER _ _ _ | show Dk.bd _ _ | show Dk.EF _ _ _ | show Dk.EO _ _ _ | show Dk.EP _ _ | show Dk.ba _ _ _ _ | show Dk.aw _ _ _ _ | show Dk.Kp _ _ _ _ | show Dk.bp _ _ | show Dk.bg _ _ _ _); repeat' first | exact rfl | (refine @id.{0} _ ?_; constructor))
  | intro _
  | exact rfl
  | (refine @id.{0} _ ?_; constructor)
  | apply Dk.any (id:=1) 14 [] [] [[],[0],[1,0],[2,1,0],[],[3,2,1,0,4],[5,3,2,1,0,4],[],[7],[8,7],[9,8,7],[],[10,9,8,7,11],[12,10,9,8,7,11]] (by kernel_rfl)
  | exact ()
theorem Wu {x0:Int} {x1:(List Int)} {dI:Value}:Ct Tryz.prog 68 true (iW x0 x1) [.int .i64 (x0),dI] [.rd false (aE (aC .i64)) dI x1] (fun y (_:Unit)=>[.bool y]) (fun y _=>[]):=by
 refine ct (S:=Unit) (db fun _ _=>rfl) Tryz.func68 rfl rfl ?_
 repeat' first
  | ((first | show Dk.ER _ _ _ | show Dk.bd _ _ | show Dk.EF _ _ _ | show Dk.EO _ _ _ | show Dk.EP _ _ | show Dk.ba _ _ _ _ | show Dk.aw _ _ _ _ | show Dk.Kp _ _ _ _ | show Dk.bp _ _ | show Dk.bg _ _ _ _); repeat' first | exact rfl | (refine @id.{0} _ ?_; constructor))
  | intro _
  | exact rfl
  | (refine @id.{0} _ ?_; constructor)
  | apply Dk.loop 0 (V:=Unit) (fun (s:Int) v=>[]) (fun s v=>[(5,.int .i64 (s))]) () [(0,_),(1,_)]
  | exact ()
theorem acp {x0:(List Int)} {cY:Value} {x1:Int} {x2:Int}:Ct Tryz.prog 142 true (kR x0 x1 x2) [cY,.int .i64 (x1),.int .i64 (x2)] [.rd false (aE (aC .i64)) cY x0] (fun y (_:Unit)=>[.bool y]) (fun y _=>[]):=by
 refine ct (S:=Unit) (db fun _ _=>rfl) Tryz.func142 rfl rfl ?_
 repeat' first
  | ((first | show Dk.ER _ _ _ | show Dk.bd _ _ | show Dk.EF _ _ _ | show Dk.EO _ _ _ | show Dk.EP _ _ | show Dk.ba _ _ _ _ | show Dk.aw _ _ _ _ | show Dk.Kp _ _ _ _ | show Dk.bp _ _ | show Dk.bg _ _ _ _); repeat' first | exact rfl | (refine @id.{0} _ ?_; constructor))
  | intro _
  | exact rfl
  | (refine @id.{0} _ ?_; constructor)
  | apply Wu
  | exact ()
theorem acq {x0:aG} {aU:Value} {aZ:Value} {aO:Value} {aM:Value} {x1:Int}:Ct Tryz.prog 166 true (iG x0 x1) [.agg #[.int .i64 (x0.aA),aU,aZ,aO,aM],.int .i64 (x1)] [.rd false (aE (aC .i64)) aU x0.aD,.rd false (aE (aC .i64)) aZ x0.To,.rd false (aE (aC .i64)) aO x0.aJ,.rd false (aE (aE (aC .i64))) aM x0.aB] (fun y (v:Value)=>[v]) (fun y v=>[.own (aK 2 (aC .i64)) v y]):=by
 refine ct (S:=Unit) (db fun _ _=>rfl) Tryz.func166 rfl rfl ?_
 repeat' first
  | ((first | show Dk.ER _ _ _ | show Dk.bd _ _ | show Dk.EF _ _ _ | show Dk.EO _ _ _ | show Dk.EP _ _ | show Dk.ba _ _ _ _ | show Dk.aw _ _ _ _ | show Dk.Kp _ _ _ _ | show Dk.bp _ _ | show Dk.bg _ _ _ _); repeat' first | exact rfl | (refine @id.{0} _ ?_; constructor))
  | intro _
  | exact rfl
  | (refine @id.{0} _ ?_; constructor)
  | apply Dk.loop 0 (V:=Value) (fun (s:(List Int)×Int) v=>[.own (aK 2 (aC .i64)) v s.1]) (fun s v=>[(5,v),(6,.int .i64 (s.2))]) _ [(1,_),(2,_)]
  | apply Dk.quiet (id:=5) (by kernel_rfl)
  | exact ()
theorem acr {x0:aG} {aU:Value} {aZ:Value} {aO:Value} {aM:Value} {x1:Int}:Ct Tryz.prog 167 true (jS x0 x1) [.agg #[.int .i64 (x0.aA),aU,aZ,aO,aM],.int .i64 (x1)] [.rd false (aE (aC .i64)) aU x0.aD,.rd false (aE (aC .i64)) aZ x0.To,.rd false (aE (aC .i64)) aO x0.aJ,.rd false (aE (aE (aC .i64))) aM x0.aB] (fun y (v:Value)=>[v]) (fun y v=>[.own (aK 2 (aC .i64)) v y]):=by
 refine ct (S:=Unit) (db fun _ _=>rfl) Tryz.func167 rfl rfl ?_
 repeat' first
  | ((first | show Dk.ER _ _ _ | show Dk.bd _ _ | show Dk.EF _ _ _ | show Dk.EO _ _ _ | show Dk.EP _ _ | show Dk.ba _ _ _ _ | show Dk.aw _ _ _ _ | show Dk.Kp _ _ _ _ | show Dk.bp _ _ | show Dk.bg _ _ _ _); repeat' first | exact rfl | (refine @id.{0} _ ?_; constructor))
  | intro _
  | exact rfl
  | (refine @id.{0} _ ?_; constructor)
  | apply Dk.loop 0 (V:=Value) (fun (s:(List Int)×Int) v=>[.own (aK 2 (aC .i64)) v s.1]) (fun s v=>[(5,v),(6,.int .i64 (s.2))]) _ [(1,_),(2,_)]
  | apply Dk.quiet (id:=5) (by kernel_rfl)
  | exact ()
theorem acs {x0:(List Int)} {cY:Value} {x1:Int}:Ct Tryz.prog 168 true (oT x0 x1) [cY,.int .i64 (x1)] [.rd false (aE (aC .i64)) cY x0] (fun y (_:Unit)=>[.bool y]) (fun y _=>[]):=by
 refine ct (S:=Unit) (db fun _ _=>rfl) Tryz.func168 rfl rfl ?_
 repeat' first
  | ((first | show Dk.ER _ _ _ | show Dk.bd _ _ | show Dk.EF _ _ _ | show Dk.EO _ _ _ | show Dk.EP _ _ | show Dk.ba _ _ _ _ | show Dk.aw _ _ _ _ | show Dk.Kp _ _ _ _ | show Dk.bp _ _ | show Dk.bg _ _ _ _); repeat' first | exact rfl | (refine @id.{0} _ ?_; constructor))
  | intro _
  | exact rfl
  | (refine @id.{0} _ ?_; constructor)
  | apply Dk.loop 0 (V:=Unit) (fun (s:Int) v=>[]) (fun s v=>[(5,.int .i64 (s))]) () [(0,_),(1,_)]
  | exact ()
theorem acu {x0:aG} {aU:Value} {aZ:Value} {aO:Value} {aM:Value} {x1:Int}:Ct Tryz.prog 164 true (iN x0 x1) [.agg #[.int .i64 (x0.aA),aU,aZ,aO,aM],.int .i64 (x1)] [.rd false (aE (aC .i64)) aU x0.aD,.rd false (aE (aC .i64)) aZ x0.To,.rd false (aE (aC .i64)) aO x0.aJ,.rd false (aE (aE (aC .i64))) aM x0.aB] (fun y (_:Unit)=>[.int .i64 y]) (fun y _=>[]):=by
 refine ct (S:=Unit) (db fun _ _=>rfl) Tryz.func164 rfl rfl ?_
 repeat' first
  | ((first | show Dk.ER _ _ _ | show Dk.bd _ _ | show Dk.EF _ _ _ | show Dk.EO _ _ _ | show Dk.EP _ _ | show Dk.ba _ _ _ _ | show Dk.aw _ _ _ _ | show Dk.Kp _ _ _ _ | show Dk.bp _ _ | show Dk.bg _ _ _ _); repeat' first | exact rfl | (refine @id.{0} _ ?_; constructor))
  | intro _
  | exact rfl
  | (refine @id.{0} _ ?_; constructor)
  | apply Dk.loop 0 (V:=Unit) (fun (s:Int) v=>[]) (fun s v=>[(7,.int .i64 (s))]) () [(5,_),(6,_)]
  | apply Dk.any (id:=1) 5 [] [] [[],[],[0,1],[],[]] (by kernel_rfl)
  | apply acq
  | apply acr
  | apply acs
  | exact ()
theorem acv {x0:aN} {aV:Value} {bA:Value} {aS:Value} {aP:Value} {aW:Value} {bB:Value} {aT:Value} {aQ:Value} {bE:Value} {bF:Value} {x1:aN} {iB:Value} {jJ:Value} {fA:Value} {eL:Value} {iC:Value} {jK:Value} {fB:Value} {eM:Value} {kZ:Value} {lY:Value} {x2:(List Int)} {dH:Value} {x3:Int}:Ct Tryz.prog 165 true (gR x0 x1 x2 x3) [.agg #[.int .i64 (x0.aH.aA),aV,bA,aS,aP,.int .i64 (x0.aI.aA),aW,bB,aT,aQ,bE,bF],.agg #[.int .i64 (x1.aH.aA),iB,jJ,fA,eL,.int .i64 (x1.aI.aA),iC,jK,fB,eM,kZ,lY],dH,.int .i64 (x3)] [.rd false (aE (aC .i64)) aV x0.aH.aD,.rd false (aE (aC .i64)) bA x0.aH.To,.rd false (aE (aC .i64)) aS x0.aH.aJ,.rd false (aE (aE (aC .i64))) aP x0.aH.aB,.rd false (aE (aC .i64)) aW x0.aI.aD,.rd false (aE (aC .i64)) bB x0.aI.To,.rd false (aE (aC .i64)) aT x0.aI.aJ,.rd false (aE (aE (aC .i64))) aQ x0.aI.aB,.rd false (aE (aC .i64)) bE x0.aA,.rd false (aE (aC .i64)) bF x0.aj,.rd false (aE (aC .i64)) iB x1.aH.aD,.rd false (aE (aC .i64)) jJ x1.aH.To,.rd false (aE (aC .i64)) fA x1.aH.aJ,.rd false (aE (aE (aC .i64))) eL x1.aH.aB,.rd false (aE (aC .i64)) iC x1.aI.aD,.rd false (aE (aC .i64)) jK x1.aI.To,.rd false (aE (aC .i64)) fB x1.aI.aJ,.rd false (aE (aE (aC .i64))) eM x1.aI.aB,.rd false (aE (aC .i64)) kZ x1.aA,.rd false (aE (aC .i64)) lY x1.aj,.rd false (aE (aC .i64)) dH x2] (fun y (_:Unit)=>[.bool y]) (fun y _=>[]):=by
 refine ct (S:=Unit) (db fun _ _=>rfl) Tryz.func165 rfl rfl ?_
 repeat' first
  | ((first | show Dk.ER _ _ _ | show Dk.bd _ _ | show Dk.EF _ _ _ | show Dk.EO _ _ _ | show Dk.EP _ _ | show Dk.ba _ _ _ _ | show Dk.aw _ _ _ _ | show Dk.Kp _ _ _ _ | show Dk.bp _ _ | show Dk.bg _ _ _ _); repeat' first | exact rfl | (refine @id.{0} _ ?_; constructor))
  | intro _
  | exact rfl
  | (refine @id.{0} _ ?_; constructor)
  | apply Dk.quiet (id:=2) (by kernel_rfl)
  | apply Dk.any (id:=1) 7 [] [[],[],[],[],[],[],[4]] [[],[0],[],[2],[],[],[4,1,0,0,1,0,4,5]] (by kernel_rfl)
  | exact ()
end Go.Proofs.YtgjbmjjihmfppaaGreat
