/- Walks by the calculus D. No condition beside those that each theorem names. -/
import Derived.Test.YtkhdhnpokfibjaaGreatDi
import Derived.Test.YtkhdhnpokfibjaaGreatMo
import Derived.Test.YtkhdhnpokfibjaaGreatDp
import Derived.Test.YtkhdhnpokfibjaaGreatDs
import Derived.Test.YtkhdhnpokfibjaaGreatWa
import Derived.Test.YtkhdhnpokfibjaaGreatWc
import Derived.Test.YtkhdhnpokfibjaaGreatWd
namespace Go.Proofs.YtkhdhnpokfibjaaGreat
open Go Go.Li Go.Dk
set_option linter.unusedVariables false
set_option maxHeartbeats 16000000
set_option maxRecDepth 100000
theorem c130 {x0:aI} {aV:Value} {bK:Value} {aP:Value} {aO:Value}:Ct Tryz.prog 130 true (jY x0) [.agg #[.int .i64 (x0.aD),aV,bK,aP,aO]] [.rd false (aE (aC .i64)) aV x0.aG,.rd false (aE (aC .i64)) bK x0.To,.rd false (aE (aC .i64)) aP x0.aJ,.rd false (aE (aE (aC .i64))) aO x0.aF] (fun y (v:Value×Value×Value×Value)=>[.agg #[.int .i64 y.aD,v.1,v.2.1,v.2.2.1,v.2.2.2]]) (fun y v=>[.own (aK 2 (aC .i64)) v.1 y.aG,.own (aK 2 (aC .i64)) v.2.1 y.To,.own (aK 2 (aC .i64)) v.2.2.1 y.aJ,.own (aK 24 (aK 2 (aC .i64))) v.2.2.2 y.aF]):=by
 refine ct (S:=Unit) (owt fun _ _=>rfl) Tryz.func130 rfl rfl ?_
 repeat' first
  | intro _
  | exact rfl
  | (refine @id.{0} _ ?_; constructor)
  | apply Dk.any (id:=1) 14 [] [] [[],[0],[],[2],[3,2],[],[5],[6,5,4,3,2],[],[8],[9,8,7,6,5,4,3,2],[],[11],[12,11,10,9,8,7,6,5,4,3,2]] (by kernel_rfl)
  | apply c60
  | apply c142
  | exact ()
theorem c102 {x0:aI} {aV:Value} {bK:Value} {aP:Value} {aO:Value} {x1:aI} {cK:Value} {dA:Value} {bL:Value} {bB:Value}:Ct Tryz.prog 102 true (iS x0 x1) [.agg #[.int .i64 (x0.aD),aV,bK,aP,aO],.agg #[.int .i64 (x1.aD),cK,dA,bL,bB]] [.rd false (aE (aC .i64)) aV x0.aG,.rd false (aE (aC .i64)) bK x0.To,.rd false (aE (aC .i64)) aP x0.aJ,.rd false (aE (aE (aC .i64))) aO x0.aF,.rd false (aE (aC .i64)) cK x1.aG,.rd false (aE (aC .i64)) dA x1.To,.rd false (aE (aC .i64)) bL x1.aJ,.rd false (aE (aE (aC .i64))) bB x1.aF] (fun y (v:Value×Value×Value×Value)=>[.agg #[.int .i64 y.aD,v.1,v.2.1,v.2.2.1,v.2.2.2]]) (fun y v=>[.own (aK 2 (aC .i64)) v.1 y.aG,.own (aK 2 (aC .i64)) v.2.1 y.To,.own (aK 2 (aC .i64)) v.2.2.1 y.aJ,.own (aK 24 (aK 2 (aC .i64))) v.2.2.2 y.aF]):=by
 refine ct (S:=Unit) (owt fun _ _=>rfl) Tryz.func102 rfl rfl ?_
 repeat' first
  | intro _
  | exact rfl
  | apply Dk.apR (d:=69)
  | apply Dk.ixH (d:=70)
  | apply Dk.stR (e:=24) (t:=24)
  | (refine @id.{0} _ ?_; constructor)
  | apply Dk.loopA 0 (V:=Value) (A:=Nat×Value×Value×Value) (_,_,_,_) (fun a (s:Int×(List Int)) v=>Dk.pc (fun a0=>Dk.pc (fun a1=>Dk.pc (fun a2 a3=>[.row a0 [.int .i64 (w64 (x0.aD+x1.aD)),a1,a2,v,a3] 27,.own (aK 2 (aC .i64)) v s.2]))) a) (fun a s v=>Dk.pc (fun a0=>Dk.pc (fun a1=>Dk.pc (fun a2 a3=>[(7,.pointer (some ⟨a0,0,none⟩)),(8,.int .i64 (s.1))]))) a) _ [(3,_),(4,_),(5,_),(6,_)]
  | apply Dk.loopA 2 (V:=Unit) (A:=Value) _ (fun a (s:Int×(List (List Int))) v=>[.own (aK 24 (aK 2 (aC .i64))) a s.2]) (fun a s v=>[(9,.int .i64 (s.1))]) () [(3,_),(4,_),(5,_),(6,_),(7,_)]
  | apply Dk.loopA 4 (V:=Unit) (A:=Value) _ (fun a (s:Int×(List (List Int))) v=>[.own (aK 24 (aK 2 (aC .i64))) a s.2]) (fun a s v=>[(10,.int .i64 (s.1))]) () [(3,_),(4,_),(5,_),(6,_),(7,_),(9,_)]
  | apply Dk.loopA 6 (V:=Value×Value×Value) (A:=Nat×Value) (_,_) (fun a (s:Int×(List Int)×(List Int)×(List (List Int))) v=>Dk.pc (fun a0 a1=>[.row a0 [.int .i64 (w64 (x0.aD+x1.aD)),v.1,v.2.1,a1,v.2.2] 27,.own (aK 2 (aC .i64)) v.1 s.2.1,.own (aK 2 (aC .i64)) v.2.1 s.2.2.1,.own (aK 24 (aK 2 (aC .i64))) v.2.2 s.2.2.2]) a) (fun a s v=>Dk.pc (fun a0 a1=>[(7,.pointer (some ⟨a0,0,none⟩)),(11,.int .i64 (s.1))]) a) (_,_,_) [(3,_),(4,_),(5,_),(6,_)]
  | apply Dk.loop 8 (V:=Value) (fun (s:(List Int)×Int) v=>[.own (aK 2 (aC .i64)) v s.1]) (fun s v=>[(12,v),(13,.int .i64 (s.2))]) _ [(3,_),(4,_),(5,_),(6,_),(7,_),(11,_)]
  | apply Dk.loop 10 (V:=Value) (fun (s:(List Int)×Int) v=>[.own (aK 2 (aC .i64)) v s.1]) (fun s v=>[(12,v),(14,.int .i64 (s.2))]) _ [(3,_),(4,_),(5,_),(6,_),(7,_),(11,_)]
  | apply Dk.quiet (id:=1) (by kernel_rfl)
  | apply Dk.any (id:=7) 10 [] [] [[],[0],[],[2],[],[3,2,4],[5,3,2,4],[],[6,5,3,2,4,7],[8,6,5,3,2,4,7]] (by kernel_rfl)
  | apply Dk.anyH (id:=14) [Dk.Ent.own (aK 24 (aK 2 (aC .i64))) _ _] 10 [] [[],[],[],[],[],[],[],[],[],[12]] [[],[0],[],[],[3],[],[4,3,5],[6,4,3,5],[],[7,6,4,3,5,8]] (by kernel_rfl)
  | apply Dk.any (id:=18) 10 [] [] [[],[0],[],[2],[],[3,2,4],[5,3,2,4],[],[6,5,3,2,4,7],[8,6,5,3,2,4,7]] (by kernel_rfl)
  | apply Dk.any (id:=19) 10 [] [] [[],[0],[],[2],[],[3,2,4],[5,3,2,4],[],[6,5,3,2,4,7],[8,6,5,3,2,4,7]] (by kernel_rfl)
  | apply c130
  | exact ()
theorem c129 {x0:aI} {aV:Value} {bK:Value} {aP:Value} {aO:Value} {x1:aI} {cK:Value} {dA:Value} {bL:Value} {bB:Value}:Ct Tryz.prog 129 true (iD x0 x1) [.agg #[.int .i64 (x0.aD),aV,bK,aP,aO],.agg #[.int .i64 (x1.aD),cK,dA,bL,bB]] [.rd false (aE (aC .i64)) aV x0.aG,.rd false (aE (aC .i64)) bK x0.To,.rd false (aE (aC .i64)) aP x0.aJ,.rd false (aE (aE (aC .i64))) aO x0.aF,.rd false (aE (aC .i64)) cK x1.aG,.rd false (aE (aC .i64)) dA x1.To,.rd false (aE (aC .i64)) bL x1.aJ,.rd false (aE (aE (aC .i64))) bB x1.aF] (fun y (v:Value×Value×Value×Value)=>match v with | (q0,q1,q2,q3)=>[.agg #[.int .i64 y.aD,q0,q1,q2,q3]]) (fun y v=>match v with | (q0,q1,q2,q3)=>[.own (aK 2 (aC .i64)) q0 y.aG,.own (aK 2 (aC .i64)) q1 y.To,.own (aK 2 (aC .i64)) q2 y.aJ,.own (aK 24 (aK 2 (aC .i64))) q3 y.aF]):=by
 refine ct (S:=Unit) (owt fun _ _=>rfl) Tryz.func129 rfl rfl ?_
 repeat' first
  | intro _
  | exact rfl
  | (refine Dk.cdR (t:=60) rfl ?_ ?_)
  | (refine @id.{0} _ ?_; constructor)
  | apply Dk.loopA 0 (V:=Value×Value) (A:=Nat×Value×Value×Value) (_,_,_,_) (fun a (s:Int×(List Int)×(List Int)) v=>Dk.pc (fun a0=>Dk.pc (fun a1=>Dk.pc (fun a2 a3=>[.row a0 [a1,v.1,v.2,a2,a3] 27,.own (aK 2 (aC .i64)) v.1 s.2.1,.own (aK 2 (aC .i64)) v.2 s.2.2]))) a) (fun a s v=>Dk.pc (fun a0=>Dk.pc (fun a1=>Dk.pc (fun a2 a3=>[(5,.pointer (some ⟨a0,0,none⟩)),(7,.int .i64 (s.1))]))) a) (_,_) [(2,_),(3,_),(4,_),(6,_)]
  | apply Dk.loopA 2 (V:=Value×Value) (A:=Nat×Value×Value×Value) (_,_,_,_) (fun a (s:Int×(List Int)×(List Int)) v=>Dk.pc (fun a0=>Dk.pc (fun a1=>Dk.pc (fun a2 a3=>[.row a0 [a1,v.1,v.2,a2,a3] 27,.own (aK 2 (aC .i64)) v.1 s.2.1,.own (aK 2 (aC .i64)) v.2 s.2.2]))) a) (fun a s v=>Dk.pc (fun a0=>Dk.pc (fun a1=>Dk.pc (fun a2 a3=>[(5,.pointer (some ⟨a0,0,none⟩)),(8,.int .i64 (s.1))]))) a) (_,_) [(2,_),(3,_),(4,_),(6,_),(7,_)]
  | apply Dk.loop 4 (V:=Value) (fun (s:(List (List Int))×Int) v=>[.own (aK 24 (aK 2 (aC .i64))) v s.1]) (fun s v=>[(9,v),(10,.int .i64 (s.2))]) _ [(2,_),(3,_),(4,_),(5,_),(6,_)]
  | apply Dk.loop 6 (V:=Value) (fun (s:(List Int)×Int) v=>[.own (aK 2 (aC .i64)) v s.1]) (fun s v=>[(11,v),(12,.int .i64 (s.2))]) _ [(2,_),(3,_),(4,_),(5,_),(6,_),(9,_),(10,_)]
  | apply Dk.quiet (id:=20) (by kernel_rfl)
  | apply Dk.quiet (id:=21) (by kernel_rfl)
  | apply c102
  | exact ()
theorem c106 {x0:aI} {aV:Value} {bK:Value} {aP:Value} {aO:Value} {x1:aI} {cK:Value} {dA:Value} {bL:Value} {bB:Value} {x2:(List Int)} {eL:Value} {x3:(List Int)} {gS:Value}:Ct Tryz.prog 106 true (iE x0 x1 x2 x3) [.agg #[.int .i64 (x0.aD),aV,bK,aP,aO],.agg #[.int .i64 (x1.aD),cK,dA,bL,bB],eL,gS] [.rd false (aE (aC .i64)) aV x0.aG,.rd false (aE (aC .i64)) bK x0.To,.rd false (aE (aC .i64)) aP x0.aJ,.rd false (aE (aE (aC .i64))) aO x0.aF,.rd false (aE (aC .i64)) cK x1.aG,.rd false (aE (aC .i64)) dA x1.To,.rd false (aE (aC .i64)) bL x1.aJ,.rd false (aE (aE (aC .i64))) bB x1.aF,.rd false (aE (aC .i64)) eL x2,.rd false (aE (aC .i64)) gS x3] (fun y (v:Value×Value×Value×Value×Value×Value×Value×Value×Value×Value)=>[.agg #[.int .i64 y.aA.aD,v.1,v.2.1,v.2.2.1,v.2.2.2.1,.int .i64 y.aB.aD,v.2.2.2.2.1,v.2.2.2.2.2.1,v.2.2.2.2.2.2.1,v.2.2.2.2.2.2.2.1,v.2.2.2.2.2.2.2.2.1,v.2.2.2.2.2.2.2.2.2]]) (fun y v=>[.own (aK 2 (aC .i64)) v.1 y.aA.aG,.own (aK 2 (aC .i64)) v.2.1 y.aA.To,.own (aK 2 (aC .i64)) v.2.2.1 y.aA.aJ,.own (aK 24 (aK 2 (aC .i64))) v.2.2.2.1 y.aA.aF,.own (aK 2 (aC .i64)) v.2.2.2.2.1 y.aB.aG,.own (aK 2 (aC .i64)) v.2.2.2.2.2.1 y.aB.To,.own (aK 2 (aC .i64)) v.2.2.2.2.2.2.1 y.aB.aJ,.own (aK 24 (aK 2 (aC .i64))) v.2.2.2.2.2.2.2.1 y.aB.aF,.own (aK 2 (aC .i64)) v.2.2.2.2.2.2.2.2.1 y.aD,.own (aK 2 (aC .i64)) v.2.2.2.2.2.2.2.2.2 y.Arrows]):=by
 refine ct (S:=Unit) (owt fun _ _=>rfl) Tryz.func106 rfl rfl ?_
 repeat' first
  | intro _
  | exact rfl
  | (refine @id.{0} _ ?_; constructor)
  | apply Dk.any (id:=1) 7 [] [] [[],[0],[],[2,1,0],[],[4,3,2,1,0],[]] (by kernel_rfl)
  | apply c130
  | apply c60
  | exact ()
theorem c68_s {rc:aI→aI→(List Int)→(List aN)→Option ((List aN))} (ih:∀ {x0:aI} {aV:Value} {bK:Value} {aP:Value} {aO:Value} {x1:aI} {cK:Value} {dA:Value} {bL:Value} {bB:Value} {x2:(List Int)} {eL:Value} {x3:(List aN)} {gS:Value},Ct Tryz.prog 68 true (rc x0 x1 x2 x3) [.agg #[.int .i64 (x0.aD),aV,bK,aP,aO],.agg #[.int .i64 (x1.aD),cK,dA,bL,bB],eL,gS] [.rd false (aE (aC .i64)) aV x0.aG,.rd false (aE (aC .i64)) bK x0.To,.rd false (aE (aC .i64)) aP x0.aJ,.rd false (aE (aE (aC .i64))) aO x0.aF,.rd false (aE (aC .i64)) cK x1.aG,.rd false (aE (aC .i64)) dA x1.To,.rd false (aE (aC .i64)) bL x1.aJ,.rd false (aE (aE (aC .i64))) bB x1.aF,.rd false (aE (aC .i64)) eL x2,.own (aK 29 sO29) gS x3] (fun y (v:Value)=>[v]) (fun y v=>[.own (aK 29 sO29) v y])) {x0:aI} {aV:Value} {bK:Value} {aP:Value} {aO:Value} {x1:aI} {cK:Value} {dA:Value} {bL:Value} {bB:Value} {x2:(List Int)} {eL:Value} {x3:(List aN)} {gS:Value}:Ct Tryz.prog 68 true (kO rc x0 x1 x2 x3) [.agg #[.int .i64 (x0.aD),aV,bK,aP,aO],.agg #[.int .i64 (x1.aD),cK,dA,bL,bB],eL,gS] [.rd false (aE (aC .i64)) aV x0.aG,.rd false (aE (aC .i64)) bK x0.To,.rd false (aE (aC .i64)) aP x0.aJ,.rd false (aE (aE (aC .i64))) aO x0.aF,.rd false (aE (aC .i64)) cK x1.aG,.rd false (aE (aC .i64)) dA x1.To,.rd false (aE (aC .i64)) bL x1.aJ,.rd false (aE (aE (aC .i64))) bB x1.aF,.rd false (aE (aC .i64)) eL x2,.own (aK 29 sO29) gS x3] (fun y (v:Value)=>[v]) (fun y v=>[.own (aK 29 sO29) v y]):=by
 refine ct (S:=Unit) (owt fun _ _=>rfl) Tryz.func68 rfl rfl ?_
 repeat' first
  | intro _
  | exact rfl
  | apply Dk.lnO (t:=57)
  | apply ih
  | apply Dk.apO (t:=57) (S:=sO29) (aN.mk (aI.mk _ _ _ _ _) (aI.mk _ _ _ _ _) _ _)
  | (refine @id.{0} _ ?_; constructor)
  | apply Dk.loop 0 (V:=Value) (fun (s:(List Int)×Int) v=>[.own (aK 2 (aC .i64)) v s.1]) (fun s v=>[(9,v),(10,.int .i64 (s.2))]) _ [(2,_),(3,_),(4,_),(5,_)]
  | apply Dk.loopA 2 (V:=Unit) (A:=Value) _ (fun a (s:Int×(List Int)) v=>[.own (aK 2 (aC .i64)) a s.2]) (fun a s v=>[(9,a),(11,.int .i64 (s.1))]) () [(2,_),(3,_),(4,_),(5,_)]
  | apply Dk.loop 4 (V:=Value) (fun (s:(List aN)×Int) v=>[.own (aK 29 sO29) v s.1]) (fun s v=>[(3,v),(13,.int .i64 (s.2))]) _ [(2,_),(4,_),(5,_),(12,_)]
  | apply Dk.loop 6 (V:=Value) (fun (s:(List aN)×Int) v=>[.own (aK 29 sO29) v s.1]) (fun s v=>[(3,v),(14,.int .i64 (s.2))]) _ [(2,_),(4,_),(5,_)]
  | apply Dk.any (id:=12) 14 [] [] [[],[],[1],[],[2,1,3],[4,2,1,3],[],[6],[],[],[8,9],[10,8,9],[7,6,11,10,8,9],[12,7,6,11,10,8,9]] (by kernel_rfl)
  | apply Dk.any (id:=22) 8 [] [[],[],[],[],[],[],[3],[]] [[],[],[],[2],[],[4],[3,2,5,4,3,2],[]] (by kernel_rfl)
  | apply Dk.tailZ (id:=17) [(0,8)] 8 rfl (by kernel_rfl)
  | apply c108
  | apply c109
  | apply c106
  | apply c60
  | exact ()
theorem c68_n (n:Nat):∀ {x0:aI} {aV:Value} {bK:Value} {aP:Value} {aO:Value} {x1:aI} {cK:Value} {dA:Value} {bL:Value} {bB:Value} {x2:(List Int)} {eL:Value} {x3:(List aN)} {gS:Value},Ct Tryz.prog 68 true (iA n x0 x1 x2 x3) [.agg #[.int .i64 (x0.aD),aV,bK,aP,aO],.agg #[.int .i64 (x1.aD),cK,dA,bL,bB],eL,gS] [.rd false (aE (aC .i64)) aV x0.aG,.rd false (aE (aC .i64)) bK x0.To,.rd false (aE (aC .i64)) aP x0.aJ,.rd false (aE (aE (aC .i64))) aO x0.aF,.rd false (aE (aC .i64)) cK x1.aG,.rd false (aE (aC .i64)) dA x1.To,.rd false (aE (aC .i64)) bL x1.aJ,.rd false (aE (aE (aC .i64))) bB x1.aF,.rd false (aE (aC .i64)) eL x2,.own (aK 29 sO29) gS x3] (fun y (v:Value)=>[v]) (fun y v=>[.own (aK 29 sO29) v y]):=by
 induction n with
 | zero=>intros; rw [ct_eq]; exact ⟨(owt fun _ _=>rfl),fun _ _ _ _ _ _ _ y hy=>nomatch (show none=some y from hy)⟩
 | succ n ih=>exact c68_s ih
theorem c68 {x0:aI} {aV:Value} {bK:Value} {aP:Value} {aO:Value} {x1:aI} {cK:Value} {dA:Value} {bL:Value} {bB:Value} {x2:(List Int)} {eL:Value} {x3:(List aN)} {gS:Value}:Ct Tryz.prog 68 true (iA 64 x0 x1 x2 x3) [.agg #[.int .i64 (x0.aD),aV,bK,aP,aO],.agg #[.int .i64 (x1.aD),cK,dA,bL,bB],eL,gS] [.rd false (aE (aC .i64)) aV x0.aG,.rd false (aE (aC .i64)) bK x0.To,.rd false (aE (aC .i64)) aP x0.aJ,.rd false (aE (aE (aC .i64))) aO x0.aF,.rd false (aE (aC .i64)) cK x1.aG,.rd false (aE (aC .i64)) dA x1.To,.rd false (aE (aC .i64)) bL x1.aJ,.rd false (aE (aE (aC .i64))) bB x1.aF,.rd false (aE (aC .i64)) eL x2,.own (aK 29 sO29) gS x3] (fun y (v:Value)=>[v]) (fun y v=>[.own (aK 29 sO29) v y]):=by
 exact c68_n 64
theorem c65 {x0:aI} {aV:Value} {bK:Value} {aP:Value} {aO:Value} {x1:aI} {cK:Value} {dA:Value} {bL:Value} {bB:Value} {x2:Int}:Ct Tryz.prog 65 true (jE x0 x1 x2) [.agg #[.int .i64 (x0.aD),aV,bK,aP,aO],.agg #[.int .i64 (x1.aD),cK,dA,bL,bB],.int .i64 (x2)] [.rd false (aE (aC .i64)) aV x0.aG,.rd false (aE (aC .i64)) bK x0.To,.rd false (aE (aC .i64)) aP x0.aJ,.rd false (aE (aE (aC .i64))) aO x0.aF,.rd false (aE (aC .i64)) cK x1.aG,.rd false (aE (aC .i64)) dA x1.To,.rd false (aE (aC .i64)) bL x1.aJ,.rd false (aE (aE (aC .i64))) bB x1.aF] (fun y (v:Value×Value×Value×Value×Value×Value×Value×Value×Value×Value)=>[.agg #[.int .i64 y.aA.aD,v.1,v.2.1,v.2.2.1,v.2.2.2.1,.int .i64 y.aB.aD,v.2.2.2.2.1,v.2.2.2.2.2.1,v.2.2.2.2.2.2.1,v.2.2.2.2.2.2.2.1,v.2.2.2.2.2.2.2.2.1,v.2.2.2.2.2.2.2.2.2]]) (fun y v=>[.own (aK 2 (aC .i64)) v.1 y.aA.aG,.own (aK 2 (aC .i64)) v.2.1 y.aA.To,.own (aK 2 (aC .i64)) v.2.2.1 y.aA.aJ,.own (aK 24 (aK 2 (aC .i64))) v.2.2.2.1 y.aA.aF,.own (aK 2 (aC .i64)) v.2.2.2.2.1 y.aB.aG,.own (aK 2 (aC .i64)) v.2.2.2.2.2.1 y.aB.To,.own (aK 2 (aC .i64)) v.2.2.2.2.2.2.1 y.aB.aJ,.own (aK 24 (aK 2 (aC .i64))) v.2.2.2.2.2.2.2.1 y.aB.aF,.own (aK 2 (aC .i64)) v.2.2.2.2.2.2.2.2.1 y.aD,.own (aK 2 (aC .i64)) v.2.2.2.2.2.2.2.2.2 y.Arrows]):=by
 refine ct (S:=Unit) (owt fun _ _=>rfl) Tryz.func65 rfl rfl ?_
 repeat' first
  | intro _
  | exact rfl
  | (refine @id.{0} _ ?_; constructor)
  | apply Dk.loop 0 (V:=Value) (fun (s:(List Int)×Int) v=>[.own (aK 2 (aC .i64)) v s.1]) (fun s v=>[(7,v),(9,.int .i64 (s.2))]) _ [(2,_),(3,_),(4,_),(6,_),(8,_)]
  | apply Dk.loop 2 (V:=Value) (fun (s:(List Int)×Int) v=>[.own (aK 2 (aC .i64)) v s.1]) (fun s v=>[(8,v),(10,.int .i64 (s.2))]) _ [(2,_),(3,_),(4,_),(6,_),(7,_)]
  | apply c106
  | exact ()
theorem c66 {x0:aI} {aV:Value} {bK:Value} {aP:Value} {aO:Value}:Ct Tryz.prog 66 true (jF x0) [.agg #[.int .i64 (x0.aD),aV,bK,aP,aO]] [.rd false (aE (aC .i64)) aV x0.aG,.rd false (aE (aC .i64)) bK x0.To,.rd false (aE (aC .i64)) aP x0.aJ,.rd false (aE (aE (aC .i64))) aO x0.aF] (fun y (v:Value×Value×Value×Value×Value×Value×Value×Value×Value×Value)=>[.agg #[.int .i64 y.aA.aD,v.1,v.2.1,v.2.2.1,v.2.2.2.1,.int .i64 y.aB.aD,v.2.2.2.2.1,v.2.2.2.2.2.1,v.2.2.2.2.2.2.1,v.2.2.2.2.2.2.2.1,v.2.2.2.2.2.2.2.2.1,v.2.2.2.2.2.2.2.2.2]]) (fun y v=>[.own (aK 2 (aC .i64)) v.1 y.aA.aG,.own (aK 2 (aC .i64)) v.2.1 y.aA.To,.own (aK 2 (aC .i64)) v.2.2.1 y.aA.aJ,.own (aK 24 (aK 2 (aC .i64))) v.2.2.2.1 y.aA.aF,.own (aK 2 (aC .i64)) v.2.2.2.2.1 y.aB.aG,.own (aK 2 (aC .i64)) v.2.2.2.2.2.1 y.aB.To,.own (aK 2 (aC .i64)) v.2.2.2.2.2.2.1 y.aB.aJ,.own (aK 24 (aK 2 (aC .i64))) v.2.2.2.2.2.2.2.1 y.aB.aF,.own (aK 2 (aC .i64)) v.2.2.2.2.2.2.2.2.1 y.aD,.own (aK 2 (aC .i64)) v.2.2.2.2.2.2.2.2.2 y.Arrows]):=by
 refine ct (S:=Unit) (owt fun _ _=>rfl) Tryz.func66 rfl rfl ?_
 repeat' first
  | intro _
  | exact rfl
  | (refine @id.{0} _ ?_; constructor)
  | apply Dk.loop 0 (V:=Value) (fun (s:(List Int)×Int) v=>[.own (aK 2 (aC .i64)) v s.1]) (fun s v=>[(3,v),(5,.int .i64 (s.2))]) _ [(1,_),(2,_),(4,_)]
  | apply Dk.loop 2 (V:=Value) (fun (s:(List Int)×Int) v=>[.own (aK 2 (aC .i64)) v s.1]) (fun s v=>[(4,v),(6,.int .i64 (s.2))]) _ [(1,_),(2,_),(3,_)]
  | apply c106
  | exact ()
theorem c117 {x0:aL} {eP:Nat} {dF:Value} {x1:aI} {cK:Value} {dA:Value} {bL:Value} {bB:Value}:Ct Tryz.prog 117 false (oA x0 x1) [.pointer (some (⟨eP,0,none⟩)),.agg #[.int .i64 (x1.aD),cK,dA,bL,bB]] [.row eP [dF,.int .i64 (x0.At),.int .u64 (x0.Hash)] 87,.rd false (aE (aC .u8)) dF x0.Code,.rd false (aE (aC .i64)) cK x1.aG,.rd false (aE (aC .i64)) dA x1.To,.rd false (aE (aC .i64)) bL x1.aJ,.rd false (aE (aE (aC .i64))) bB x1.aF] (fun y (v:Value×Value×Value×Value)=>[.agg #[.int .i64 y.1.aD,v.1,v.2.1,v.2.2.1,v.2.2.2]]) (fun y v=>[.rd false (aE (aC .i64)) v.1 y.1.aG,.rd false (aE (aC .i64)) v.2.1 y.1.To,.rd false (aE (aC .i64)) v.2.2.1 y.1.aJ,.rd false (aE (aE (aC .i64))) v.2.2.2 y.1.aF,.row eP [dF,.int .i64 y.2.At,.int .u64 y.2.Hash] 87]):=by
 refine ct (S:=Unit) owf Tryz.func117 rfl rfl ?_
 repeat' first
  | intro _
  | exact rfl
  | (refine Dk.cdR (t:=58) rfl ?_ ?_)
  | apply Dk.slT (t:=24)
  | apply Dk.stN
  | (refine @id.{0} _ ?_; constructor)
  | apply Dk.anyH (id:=13) [Dk.Ent.row _ _ 87] 6 [] [[],[],[],[],[],[8]] [[],[0],[],[],[3],[2,4,3]] (by kernel_rfl)
  | apply Dk.anyH (id:=18) [Dk.Ent.row _ _ 87] 13 [] [[],[],[],[],[],[],[],[15],[],[],[],[7],[]] [[],[0],[],[1,0,2],[3,1,0,2],[],[],[5,6],[],[],[9],[8,10,9,7,5,6],[11,8,10,9,5,6]] (by kernel_rfl)
  | apply Dk.anyH (id:=21) [Dk.Ent.row _ _ 87] 8 [] [[],[],[],[],[],[],[],[10]] [[],[0],[],[],[],[4],[5,4],[3,6,5,4]] (by kernel_rfl)
  | apply Dk.tailF (id:=6) 9 (e:=24) (e2:=2) (T:=(aC .i64)) (by kernel_rfl)
  | apply c130
  | apply c28
  | apply c98
  | exact ()
theorem c69 {x0:aN} {aW:Value} {bC:Value} {aS:Value} {aQ:Value} {aY:Value} {bD:Value} {aT:Value} {aR:Value} {bS:Value} {bV:Value}:Ct Tryz.prog 69 true (mU x0) [.agg #[.int .i64 (x0.aA.aD),aW,bC,aS,aQ,.int .i64 (x0.aB.aD),aY,bD,aT,aR,bS,bV]] [.rd false (aE (aC .i64)) aW x0.aA.aG,.rd false (aE (aC .i64)) bC x0.aA.To,.rd false (aE (aC .i64)) aS x0.aA.aJ,.rd false (aE (aE (aC .i64))) aQ x0.aA.aF,.rd false (aE (aC .i64)) aY x0.aB.aG,.rd false (aE (aC .i64)) bD x0.aB.To,.rd false (aE (aC .i64)) aT x0.aB.aJ,.rd false (aE (aE (aC .i64))) aR x0.aB.aF,.rd false (aE (aC .i64)) bS x0.aD,.rd false (aE (aC .i64)) bV x0.Arrows] (fun y (v:Value×Value×Value×Value×Value×Value×Value×Value×Value×Value)=>[.agg #[.int .i64 y.aA.aD,v.1,v.2.1,v.2.2.1,v.2.2.2.1,.int .i64 y.aB.aD,v.2.2.2.2.1,v.2.2.2.2.2.1,v.2.2.2.2.2.2.1,v.2.2.2.2.2.2.2.1,v.2.2.2.2.2.2.2.2.1,v.2.2.2.2.2.2.2.2.2]]) (fun y v=>[.own (aK 2 (aC .i64)) v.1 y.aA.aG,.own (aK 2 (aC .i64)) v.2.1 y.aA.To,.own (aK 2 (aC .i64)) v.2.2.1 y.aA.aJ,.own (aK 24 (aK 2 (aC .i64))) v.2.2.2.1 y.aA.aF,.own (aK 2 (aC .i64)) v.2.2.2.2.1 y.aB.aG,.own (aK 2 (aC .i64)) v.2.2.2.2.2.1 y.aB.To,.own (aK 2 (aC .i64)) v.2.2.2.2.2.2.1 y.aB.aJ,.own (aK 24 (aK 2 (aC .i64))) v.2.2.2.2.2.2.2.1 y.aB.aF,.own (aK 2 (aC .i64)) v.2.2.2.2.2.2.2.2.1 y.aD,.own (aK 2 (aC .i64)) v.2.2.2.2.2.2.2.2.2 y.Arrows]):=by
 refine ct (S:=Unit) (owt fun _ _=>rfl) Tryz.func69 rfl rfl ?_
 repeat' first
  | intro _
  | exact rfl
  | (refine @id.{0} _ ?_; constructor)
  | apply c106
  | exact ()
theorem c78 {x0:aN} {aW:Value} {bC:Value} {aS:Value} {aQ:Value} {aY:Value} {bD:Value} {aT:Value} {aR:Value} {bS:Value} {bV:Value} {x1:aN} {bT:Value} {cE:Value} {bE:Value} {aZ:Value} {bU:Value} {cF:Value} {bF:Value} {bA:Value} {cN:Value} {cO:Value}:Ct Tryz.prog 78 true (jL x0 x1) [.agg #[.int .i64 (x0.aA.aD),aW,bC,aS,aQ,.int .i64 (x0.aB.aD),aY,bD,aT,aR,bS,bV],.agg #[.int .i64 (x1.aA.aD),bT,cE,bE,aZ,.int .i64 (x1.aB.aD),bU,cF,bF,bA,cN,cO]] [.rd false (aE (aC .i64)) aW x0.aA.aG,.rd false (aE (aC .i64)) bC x0.aA.To,.rd false (aE (aC .i64)) aS x0.aA.aJ,.rd false (aE (aE (aC .i64))) aQ x0.aA.aF,.rd false (aE (aC .i64)) aY x0.aB.aG,.rd false (aE (aC .i64)) bD x0.aB.To,.rd false (aE (aC .i64)) aT x0.aB.aJ,.rd false (aE (aE (aC .i64))) aR x0.aB.aF,.rd false (aE (aC .i64)) bS x0.aD,.rd false (aE (aC .i64)) bV x0.Arrows,.rd false (aE (aC .i64)) bT x1.aA.aG,.rd false (aE (aC .i64)) cE x1.aA.To,.rd false (aE (aC .i64)) bE x1.aA.aJ,.rd false (aE (aE (aC .i64))) aZ x1.aA.aF,.rd false (aE (aC .i64)) bU x1.aB.aG,.rd false (aE (aC .i64)) cF x1.aB.To,.rd false (aE (aC .i64)) bF x1.aB.aJ,.rd false (aE (aE (aC .i64))) bA x1.aB.aF,.rd false (aE (aC .i64)) cN x1.aD,.rd false (aE (aC .i64)) cO x1.Arrows] (fun y (v:Value×Value×Value×Value×Value×Value×Value×Value×Value×Value)=>[.agg #[.int .i64 y.aA.aD,v.1,v.2.1,v.2.2.1,v.2.2.2.1,.int .i64 y.aB.aD,v.2.2.2.2.1,v.2.2.2.2.2.1,v.2.2.2.2.2.2.1,v.2.2.2.2.2.2.2.1,v.2.2.2.2.2.2.2.2.1,v.2.2.2.2.2.2.2.2.2]]) (fun y v=>[.own (aK 2 (aC .i64)) v.1 y.aA.aG,.own (aK 2 (aC .i64)) v.2.1 y.aA.To,.own (aK 2 (aC .i64)) v.2.2.1 y.aA.aJ,.own (aK 24 (aK 2 (aC .i64))) v.2.2.2.1 y.aA.aF,.own (aK 2 (aC .i64)) v.2.2.2.2.1 y.aB.aG,.own (aK 2 (aC .i64)) v.2.2.2.2.2.1 y.aB.To,.own (aK 2 (aC .i64)) v.2.2.2.2.2.2.1 y.aB.aJ,.own (aK 24 (aK 2 (aC .i64))) v.2.2.2.2.2.2.2.1 y.aB.aF,.own (aK 2 (aC .i64)) v.2.2.2.2.2.2.2.2.1 y.aD,.own (aK 2 (aC .i64)) v.2.2.2.2.2.2.2.2.2 y.Arrows]):=by
 refine ct (S:=Unit) (owt fun _ _=>rfl) Tryz.func78 rfl rfl ?_
 repeat' first
  | intro _
  | exact rfl
  | (refine @id.{0} _ ?_; constructor)
  | apply Dk.any (id:=1) 14 [] [] [[],[0],[],[2],[],[4],[],[6],[5,4,7,6],[],[9],[],[11],[10,9,12,11,8,5,4,7,6]] (by kernel_rfl)
  | apply c70
  | apply c106
  | exact ()
end Go.Proofs.YtkhdhnpokfibjaaGreat
