/- Walks by the calculus D. No condition beside those that each theorem names. -/
import Derived.Test.YtkhdhnpokfibjaaGreatDi
import Derived.Test.YtkhdhnpokfibjaaGreatMo
import Derived.Test.YtkhdhnpokfibjaaGreatDp
import Derived.Test.YtkhdhnpokfibjaaGreatDs
namespace Go.Proofs.YtkhdhnpokfibjaaGreat
open Go Go.Li Go.Dk
set_option linter.unusedVariables false
set_option maxHeartbeats 16000000
set_option maxRecDepth 100000
theorem c25 {x0:(List Int)} {dZ:Value}:Ct Tryz.prog 25 true (nU x0) [dZ] [.rd false (aE (aC .u8)) dZ x0] (fun y (v:Nat)=>[(match y with | none=>Value.pointer none | some _=>.pointer (some (⟨v,0,none⟩)))]) (fun y v=>match y with | none=>[] | some m0=>[.row v [dZ,.int .i64 (m0.At),.int .u64 (m0.Hash)] 87]):=by
 refine ct (S:=Unit) (by intro _ y v; obtain _ | _:=y <;> rfl) Tryz.func25 rfl rfl ?_
 repeat' first
  | intro _
  | exact rfl
  | apply Dk.D.ari (d:=9)
  | apply Dk.AD.ari (d:=9)
  | apply Dk.D.ari (d:=27)
  | apply Dk.AD.ari (d:=27)
  | apply Dk.D.ari (d:=33)
  | apply Dk.AD.ari (d:=33)
  | apply Dk.D.ari (d:=34)
  | apply Dk.AD.ari (d:=34)
  | (refine @id.{0} _ ?_; constructor)
  | apply Dk.loopA 0 (V:=Unit) (A:=Nat) _ (fun a (s:Int×Int) v=>[.row a [dZ,.int .i64 ((0:Int)),.int .u64 (s.2)] 87]) (fun a s v=>[(3,.pointer (some ⟨a,0,none⟩)),(4,.int .i64 (s.1))]) () [(0,_)]
  | apply Dk.any (id:=5) 11 [0] [] [[],[],[1],[2,1],[3,2,1],[4,3,2,1],[],[],[6,7],[8,6,7],[9,8,6,7]] (by kernel_rfl)
  | exact ()
 all_goals try first | exact Value.nilFunc | exact (0:Nat)
theorem c60 {x0:(List Int)} {dZ:Value}:Ct Tryz.prog 60 true (eK x0) [dZ] [.rd false (aE (aC .i64)) dZ x0] (fun y (v:Value)=>[v]) (fun y v=>[.own (aK 2 (aC .i64)) v y]):=by
 refine ct (S:=Unit) (owt fun _ _=>rfl) Tryz.func60 rfl rfl ?_
 repeat' first
  | intro _
  | exact rfl
  | (refine @id.{0} _ ?_; constructor)
  | exact ()
theorem c76 {x0:(List Int)} {dZ:Value} {x1:(List Int)} {eV:Value}:Ct Tryz.prog 76 true (fM x0 x1) [dZ,eV] [.rd false (aE (aC .i64)) dZ x0,.rd false (aE (aC .i64)) eV x1] (fun y (_:Unit)=>[.bool y]) (fun y _=>[]):=by
 refine ct (S:=Unit) (owt fun _ _=>rfl) Tryz.func76 rfl rfl ?_
 repeat' first
  | intro _
  | exact rfl
  | (refine @id.{0} _ ?_; constructor)
  | apply Dk.loop 0 (V:=Unit) (fun (s:Int) v=>[]) (fun s v=>[(5,.int .i64 (s))]) () [(0,_),(1,_)]
  | apply Dk.quiet (id:=6) (by kernel_rfl)
  | exact ()
theorem c142 {x0:(List (List Int))} {dZ:Value}:Ct Tryz.prog 142 true (lN x0) [dZ] [.rd false (aE (aE (aC .i64))) dZ x0] (fun y (v:Value)=>[v]) (fun y v=>[.own (aK 24 (aK 2 (aC .i64))) v y]):=by
 refine ct (S:=Unit) (owt fun _ _=>rfl) Tryz.func142 rfl rfl ?_
 repeat' first
  | intro _
  | exact rfl
  | (refine @id.{0} _ ?_; constructor)
  | apply Dk.loop 0 (V:=Value) (fun (s:(List (List Int))×Int) v=>[.own (aK 24 (aK 2 (aC .i64))) v s.1]) (fun s v=>[(3,v),(4,.int .i64 (s.2))]) _ [(0,_)]
  | apply c60
  | exact ()
theorem c128 {x0:aI} {aV:Value} {bK:Value} {aP:Value} {aO:Value}:Ct Tryz.prog 128 true (pR x0) [.agg #[.int .i64 (x0.aD),aV,bK,aP,aO]] [.rd false (aE (aC .i64)) aV x0.aG,.rd false (aE (aC .i64)) bK x0.To,.rd false (aE (aC .i64)) aP x0.aJ,.rd false (aE (aE (aC .i64))) aO x0.aF] (fun y (v:Value×Value×Value×Value)=>[.agg #[.int .i64 y.aD,v.1,v.2.1,v.2.2.1,v.2.2.2]]) (fun y v=>[.own (aK 2 (aC .i64)) v.1 y.aG,.own (aK 2 (aC .i64)) v.2.1 y.To,.own (aK 2 (aC .i64)) v.2.2.1 y.aJ,.own (aK 24 (aK 2 (aC .i64))) v.2.2.2 y.aF]):=by
 refine ct (S:=Unit) (owt fun _ _=>rfl) Tryz.func128 rfl rfl ?_
 repeat' first
  | intro _
  | exact rfl
  | (refine Dk.cdR (t:=32) rfl ?_ ?_)
  | (refine @id.{0} _ ?_; constructor)
  | apply Dk.loopA 0 (V:=Value) (A:=Nat×Value×Value×Value) (_,_,_,_) (fun a (s:Int×(List (List Int))) v=>Dk.pc (fun a0=>Dk.pc (fun a1=>Dk.pc (fun a2 a3=>[.row a0 [.int .i64 (x0.aD),a1,a2,a3,v] 27,.own (aK 24 (aK 2 (aC .i64))) v s.2]))) a) (fun a s v=>Dk.pc (fun a0=>Dk.pc (fun a1=>Dk.pc (fun a2 a3=>[(3,.pointer (some ⟨a0,0,none⟩)),(4,.int .i64 (s.1))]))) a) _ [(1,_),(2,_)]
  | apply Dk.loop 2 (V:=Value) (fun (s:(List Int)×Int) v=>[.own (aK 2 (aC .i64)) v s.1]) (fun s v=>[(5,v),(6,.int .i64 (s.2))]) _ [(1,_),(2,_),(3,_),(4,_)]
  | apply Dk.anyP (id:=1) [13,0,1,2,3,4,5,6,7,8,9,10,11,12,14] [1,2,3,4,5,6,7,8,9,10,11,12,13,0,14] [] 14 [] [] [[],[],[1],[],[3],[4,3],[],[6],[7,6,5,4,3],[],[9],[10,9,8,7,6,5,4,3],[],[2,1,5,4,3,8,7,6,5,4,3,11,10,9,8,7,6,5,4,3,12]] (by kernel_rfl)
  | apply c60
  | exact ()
theorem c131 {x0:aI} {aV:Value} {bK:Value} {aP:Value} {aO:Value} {x1:Int} {x2:Int}:Ct Tryz.prog 131 true (lA x0 x1 x2) [.agg #[.int .i64 (x0.aD),aV,bK,aP,aO],.int .i64 (x1),.int .i64 (x2)] [.rd false (aE (aC .i64)) aV x0.aG,.rd false (aE (aC .i64)) bK x0.To,.rd false (aE (aC .i64)) aP x0.aJ,.rd false (aE (aE (aC .i64))) aO x0.aF] (fun y (v:Value)=>[v]) (fun y v=>[.own (aK 2 (aC .i64)) v y]):=by
 refine ct (S:=Unit) (owt fun _ _=>rfl) Tryz.func131 rfl rfl ?_
 repeat' first
  | intro _
  | exact rfl
  | (refine @id.{0} _ ?_; constructor)
  | apply Dk.loop 0 (V:=Value) (fun (s:(List Int)×Int) v=>[.own (aK 2 (aC .i64)) v s.1]) (fun s v=>[(7,v),(8,.int .i64 (s.2))]) _ [(1,_),(2,_),(3,_)]
  | exact ()
theorem c108 {x0:aI} {aV:Value} {bK:Value} {aP:Value} {aO:Value} {x1:aI} {cK:Value} {dA:Value} {bL:Value} {bB:Value} {x2:(List Int)} {eL:Value}:Ct Tryz.prog 108 true (mW x0 x1 x2) [.agg #[.int .i64 (x0.aD),aV,bK,aP,aO],.agg #[.int .i64 (x1.aD),cK,dA,bL,bB],eL] [.rd false (aE (aC .i64)) aV x0.aG,.rd false (aE (aC .i64)) bK x0.To,.rd false (aE (aC .i64)) aP x0.aJ,.rd false (aE (aE (aC .i64))) aO x0.aF,.rd false (aE (aC .i64)) cK x1.aG,.rd false (aE (aC .i64)) dA x1.To,.rd false (aE (aC .i64)) bL x1.aJ,.rd false (aE (aE (aC .i64))) bB x1.aF,.rd false (aE (aC .i64)) eL x2] (fun y (_:Unit)=>[.bool y]) (fun y _=>[]):=by
 refine ct (S:=Unit) (owt fun _ _=>rfl) Tryz.func108 rfl rfl ?_
 repeat' first
  | intro _
  | exact rfl
  | (refine @id.{0} _ ?_; constructor)
  | apply Dk.loop 0 (V:=Unit) (fun (s:Int) v=>[]) (fun s v=>[(7,.int .i64 (s))]) () [(2,_),(3,_),(4,_)]
  | apply Dk.quiet (id:=4) (by kernel_rfl)
  | apply Dk.tail (id:=5) 20 (by kernel_rfl)
  | apply c131
  | exact ()
theorem c132 {x0:aI} {aV:Value} {bK:Value} {aP:Value} {aO:Value} {x1:aI} {cK:Value} {dA:Value} {bL:Value} {bB:Value} {x2:(List Int)} {eL:Value}:Ct Tryz.prog 132 true (mX x0 x1 x2) [.agg #[.int .i64 (x0.aD),aV,bK,aP,aO],.agg #[.int .i64 (x1.aD),cK,dA,bL,bB],eL] [.rd false (aE (aC .i64)) aV x0.aG,.rd false (aE (aC .i64)) bK x0.To,.rd false (aE (aC .i64)) aP x0.aJ,.rd false (aE (aE (aC .i64))) aO x0.aF,.rd false (aE (aC .i64)) cK x1.aG,.rd false (aE (aC .i64)) dA x1.To,.rd false (aE (aC .i64)) bL x1.aJ,.rd false (aE (aE (aC .i64))) bB x1.aF,.own (aK 2 (aC .i64)) eL x2] (fun y (_:Unit)=>[.bool y.1]) (fun y _=>[.own (aK 2 (aC .i64)) eL y.2]):=by
 refine ct (S:=Unit) (owt fun _ _=>rfl) Tryz.func132 rfl rfl ?_
 repeat' first
  | intro _
  | exact rfl
  | (refine Dk.cdR (t:=22) rfl ?_ ?_)
  | (refine @id.{0} _ ?_; constructor)
  | apply Dk.loop 0 (V:=Unit) (fun (s:Bool×(List Int)) v=>[.own (aK 2 (aC .i64)) eL s.2]) (fun s v=>[(7,.bool (s.1))]) () [(2,_),(3,_),(4,_)]
  | apply Dk.loop 2 (V:=Unit) (fun (s:Bool×Int×(List Int)) v=>[.own (aK 2 (aC .i64)) eL s.2.2]) (fun s v=>[(7,.bool (s.1)),(8,.int .i64 (s.2.1))]) () [(2,_),(3,_),(4,_)]
  | apply Dk.loop 4 (V:=Unit) (fun (s:Bool×Int×(List Int)) v=>[.own (aK 2 (aC .i64)) eL s.2.2]) (fun s v=>[(7,.bool (s.1)),(9,.int .i64 (s.2.1))]) () [(2,_),(3,_),(4,_),(8,_)]
  | apply Dk.quiet (id:=12) (by kernel_rfl)
  | exact ()
theorem c109_s {rc:aI→aI→(List Int)→(List Int)→Int→(List (List Int))→Option ((List (List Int)))} (ih:∀ {x0:aI} {aV:Value} {bK:Value} {aP:Value} {aO:Value} {x1:aI} {cK:Value} {dA:Value} {bL:Value} {bB:Value} {x2:(List Int)} {eL:Value} {x3:(List Int)} {gS:Value} {x4:Int} {x5:(List (List Int))} {pY:Value},Ct Tryz.prog 109 true (rc x0 x1 x2 x3 x4 x5) [.agg #[.int .i64 (x0.aD),aV,bK,aP,aO],.agg #[.int .i64 (x1.aD),cK,dA,bL,bB],eL,gS,.int .i64 (x4),pY] [.rd false (aE (aC .i64)) aV x0.aG,.rd false (aE (aC .i64)) bK x0.To,.rd false (aE (aC .i64)) aP x0.aJ,.rd false (aE (aE (aC .i64))) aO x0.aF,.rd false (aE (aC .i64)) cK x1.aG,.rd false (aE (aC .i64)) dA x1.To,.rd false (aE (aC .i64)) bL x1.aJ,.rd false (aE (aE (aC .i64))) bB x1.aF,.rd false (aE (aC .i64)) eL x2,.rd false (aE (aC .i64)) gS x3,.own (aK 24 (aK 2 (aC .i64))) pY x5] (fun y (v:Value)=>[v]) (fun y v=>[.own (aK 24 (aK 2 (aC .i64))) v y])) {x0:aI} {aV:Value} {bK:Value} {aP:Value} {aO:Value} {x1:aI} {cK:Value} {dA:Value} {bL:Value} {bB:Value} {x2:(List Int)} {eL:Value} {x3:(List Int)} {gS:Value} {x4:Int} {x5:(List (List Int))} {pY:Value}:Ct Tryz.prog 109 true (kN rc x0 x1 x2 x3 x4 x5) [.agg #[.int .i64 (x0.aD),aV,bK,aP,aO],.agg #[.int .i64 (x1.aD),cK,dA,bL,bB],eL,gS,.int .i64 (x4),pY] [.rd false (aE (aC .i64)) aV x0.aG,.rd false (aE (aC .i64)) bK x0.To,.rd false (aE (aC .i64)) aP x0.aJ,.rd false (aE (aE (aC .i64))) aO x0.aF,.rd false (aE (aC .i64)) cK x1.aG,.rd false (aE (aC .i64)) dA x1.To,.rd false (aE (aC .i64)) bL x1.aJ,.rd false (aE (aE (aC .i64))) bB x1.aF,.rd false (aE (aC .i64)) eL x2,.rd false (aE (aC .i64)) gS x3,.own (aK 24 (aK 2 (aC .i64))) pY x5] (fun y (v:Value)=>[v]) (fun y v=>[.own (aK 24 (aK 2 (aC .i64))) v y]):=by
 refine ct (S:=Unit) (owt fun _ _=>rfl) Tryz.func109 rfl rfl ?_
 repeat' first
  | intro _
  | exact rfl
  | (refine @id.{0} _ ?_; constructor)
  | apply ih
  | apply Dk.loop 0 (V:=Unit) (fun (s:Int) v=>[]) (fun s v=>[(4,.int .i64 (s))]) () [(2,_),(3,_),(5,_),(6,_),(7,_)]
  | apply Dk.loop 2 (V:=Value) (fun (s:(List (List Int))×Int) v=>[.own (aK 24 (aK 2 (aC .i64))) v s.1]) (fun s v=>[(5,v),(14,.int .i64 (s.2))]) _ [(2,_),(3,_),(4,_),(6,_),(7,_),(13,_)]
  | apply Dk.any (id:=5) 17 [] [] [[],[],[],[2],[],[3,2,4],[5,3,2,4],[1,6,5,3,2,4],[7,1,6,5,3,2,4],[],[],[10],[],[11,10,12],[13,11,10,12],[9,14,13,11,10,12],[15,9,14,13,11,10,12]] (by kernel_rfl)
  | apply c60
  | apply c131
  | apply c132
  | exact ()
theorem c109_n (n:Nat):∀ {x0:aI} {aV:Value} {bK:Value} {aP:Value} {aO:Value} {x1:aI} {cK:Value} {dA:Value} {bL:Value} {bB:Value} {x2:(List Int)} {eL:Value} {x3:(List Int)} {gS:Value} {x4:Int} {x5:(List (List Int))} {pY:Value},Ct Tryz.prog 109 true (hY n x0 x1 x2 x3 x4 x5) [.agg #[.int .i64 (x0.aD),aV,bK,aP,aO],.agg #[.int .i64 (x1.aD),cK,dA,bL,bB],eL,gS,.int .i64 (x4),pY] [.rd false (aE (aC .i64)) aV x0.aG,.rd false (aE (aC .i64)) bK x0.To,.rd false (aE (aC .i64)) aP x0.aJ,.rd false (aE (aE (aC .i64))) aO x0.aF,.rd false (aE (aC .i64)) cK x1.aG,.rd false (aE (aC .i64)) dA x1.To,.rd false (aE (aC .i64)) bL x1.aJ,.rd false (aE (aE (aC .i64))) bB x1.aF,.rd false (aE (aC .i64)) eL x2,.rd false (aE (aC .i64)) gS x3,.own (aK 24 (aK 2 (aC .i64))) pY x5] (fun y (v:Value)=>[v]) (fun y v=>[.own (aK 24 (aK 2 (aC .i64))) v y]):=by
 induction n with
 | zero=>intros; rw [ct_eq]; exact ⟨(owt fun _ _=>rfl),fun _ _ _ _ _ _ _ y hy=>nomatch (show none=some y from hy)⟩
 | succ n ih=>exact c109_s ih
theorem c109 {x0:aI} {aV:Value} {bK:Value} {aP:Value} {aO:Value} {x1:aI} {cK:Value} {dA:Value} {bL:Value} {bB:Value} {x2:(List Int)} {eL:Value} {x3:(List Int)} {gS:Value} {x4:Int} {x5:(List (List Int))} {pY:Value}:Ct Tryz.prog 109 true (hY 64 x0 x1 x2 x3 x4 x5) [.agg #[.int .i64 (x0.aD),aV,bK,aP,aO],.agg #[.int .i64 (x1.aD),cK,dA,bL,bB],eL,gS,.int .i64 (x4),pY] [.rd false (aE (aC .i64)) aV x0.aG,.rd false (aE (aC .i64)) bK x0.To,.rd false (aE (aC .i64)) aP x0.aJ,.rd false (aE (aE (aC .i64))) aO x0.aF,.rd false (aE (aC .i64)) cK x1.aG,.rd false (aE (aC .i64)) dA x1.To,.rd false (aE (aC .i64)) bL x1.aJ,.rd false (aE (aE (aC .i64))) bB x1.aF,.rd false (aE (aC .i64)) eL x2,.rd false (aE (aC .i64)) gS x3,.own (aK 24 (aK 2 (aC .i64))) pY x5] (fun y (v:Value)=>[v]) (fun y v=>[.own (aK 24 (aK 2 (aC .i64))) v y]):=by
 exact c109_n 64
theorem c139 {x0:Int} {x1:Int} {x2:Int}:Ct Tryz.prog 139 true (pS x0 x1 x2) [.int .i64 (x0),.int .i64 (x1),.int .i64 (x2)] [] (fun y (_:Unit)=>[.bool y]) (fun y _=>[]):=by
 refine ct (S:=Unit) (owt fun _ _=>rfl) Tryz.func139 rfl rfl ?_
 repeat' first
  | intro _
  | exact rfl
  | (refine @id.{0} _ ?_; constructor)
  | exact ()
theorem c77 {x0:(List (List Int))} {dZ:Value} {x1:(List (List Int))} {eV:Value}:Ct Tryz.prog 77 true (pM x0 x1) [dZ,eV] [.rd false (aE (aE (aC .i64))) dZ x0,.rd false (aE (aE (aC .i64))) eV x1] (fun y (_:Unit)=>[.bool y]) (fun y _=>[]):=by
 refine ct (S:=Unit) (owt fun _ _=>rfl) Tryz.func77 rfl rfl ?_
 repeat' first
  | intro _
  | exact rfl
  | (refine @id.{0} _ ?_; constructor)
  | apply Dk.loop 0 (V:=Unit) (fun (s:Int) v=>[]) (fun s v=>[(5,.int .i64 (s))]) () [(0,_),(1,_)]
  | apply Dk.quiet (id:=6) (by kernel_rfl)
  | apply c76
  | exact ()
theorem c134 {x0:Int} {x1:Int} {x2:Int}:Ct Tryz.prog 134 true (kK x0 x1 x2) [.int .i64 (x0),.int .i64 (x1),.int .i64 (x2)] [] (fun y (_:Unit)=>[.bool y]) (fun y _=>[]):=by
 refine ct (S:=Unit) (owt fun _ _=>rfl) Tryz.func134 rfl rfl ?_
 repeat' first
  | intro _
  | exact rfl
  | (refine @id.{0} _ ?_; constructor)
  | exact ()
theorem c113 {x0:(List Int)} {dZ:Value} {x1:Int}:Ct Tryz.prog 113 true (iB x0 x1) [dZ,.int .i64 (x1)] [.rd false (aE (aC .i64)) dZ x0] (fun y (_:Unit)=>[.bool y]) (fun y _=>[]):=by
 refine ct (S:=Unit) (owt fun _ _=>rfl) Tryz.func113 rfl rfl ?_
 repeat' first
  | intro _
  | exact rfl
  | (refine @id.{0} _ ?_; constructor)
  | apply Dk.loop 0 (V:=Unit) (fun (s:Int) v=>[]) (fun s v=>[(9,.int .i64 (s))]) () [(1,_),(7,_),(8,_)]
  | apply c134
  | exact ()
end Go.Proofs.YtkhdhnpokfibjaaGreat
