/- Walks by the calculus D. No condition beside those that each theorem names. -/
import Derived.Test.YtjdkifckhidlbaaGreatDp
import Derived.Test.YtjdkifckhidlbaaGreatDi
import Derived.Test.YtjdkifckhidlbaaGreatMo
import Derived.Test.YtjdkifckhidlbaaGreatDs
namespace Go.Proofs.YtjdkifckhidlbaaGreat
open Go Go.Li Go.Dk
set_option linter.unusedVariables false
set_option maxHeartbeats 16000000
set_option maxRecDepth 100000
theorem c72 {x0:(List Int)} {cY:Value}:Ct Tryz.prog 72 true (nO x0) [cY] [.rd false (bT (aN .u8)) cY x0] (fun y (v:Nat)=>[(match y with | none=>Value.pointer none | some _=>.pointer (some (⟨v,0,none⟩)))]) (fun y v=>match y with | none=>[] | some m0=>[.row v [cY,.int .i64 (m0.At),.int .u64 (m0.aq)] 193]):=by
 refine ct (S:=Unit) (by intro _ y v; obtain _ | _:=y <;> rfl) Tryz.func72 rfl rfl ?_
 repeat' first
  | (apply Dk.fe; repeat' first | exact rfl | (refine @id.{0} _ ?_; constructor))
  | intro _
  | exact rfl
  | apply Dk.D.rY (d:=9)
  | apply Dk.AD.rY (d:=9)
  | apply Dk.D.rY (d:=27)
  | apply Dk.AD.rY (d:=27)
  | apply Dk.D.rY (d:=33)
  | apply Dk.AD.rY (d:=33)
  | apply Dk.D.rY (d:=34)
  | apply Dk.AD.rY (d:=34)
  | (refine @id.{0} _ ?_; constructor)
  | apply Dk.js 0 (V:=Unit) (A:=Nat) _ (fun a (s:Int×Int) v=>[.row a [cY,.int .i64 ((0:Int)),.int .u64 (s.2)] 193]) (fun a s v=>[(3,.pointer (some ⟨a,0,none⟩)),(4,.int .i64 (s.1))]) () [(0,_)]
  | apply Dk.any (id:=5) 11 [0] [] [[],[],[1],[1,2],[1,2,3],[1,2,3,4],[],[],[6,7],[6,7,8],[6,7,8,9]] (by kernel_rfl)
  | exact ()
 all_goals try first | exact Value.nilFunc | exact (0:Nat)
theorem xZ {x0:aK} {dN:Nat} {cK:Value} {x1:Int}:Ct Tryz.prog 75 true (cI x0 x1) [.pointer (some (⟨dN,0,none⟩)),.int .i64 (x1)] [.row dN [cK,.int .i64 (x0.At),.int .u64 (x0.aq)] 193,.rd false (bT (aN .u8)) cK x0.Code] (fun y (_:Unit)=>[.int .i64 y.1]) (fun y _=>[.row dN [cK,.int .i64 y.2.At,.int .u64 y.2.aq] 193]):=by
 refine ct (S:=Unit) (bw fun _ _=>rfl) Tryz.func75 rfl rfl ?_
 repeat' first
  | (apply Dk.fe; repeat' first | exact rfl | (refine @id.{0} _ ?_; constructor))
  | intro _
  | exact rfl
  | apply Dk.D.rY (d:=13)
  | apply Dk.AD.rY (d:=13)
  | apply Dk.D.rY (d:=14)
  | apply Dk.AD.rY (d:=14)
  | apply Dk.D.rY (d:=21)
  | apply Dk.AD.rY (d:=21)
  | apply Dk.D.rY (d:=22)
  | apply Dk.AD.rY (d:=22)
  | apply Dk.D.rY (d:=57)
  | apply Dk.AD.rY (d:=57)
  | (refine @id.{0} _ ?_; constructor)
  | apply Dk.quiet (id:=5) (by kernel_rfl)
  | apply Dk.quiet (id:=6) (by kernel_rfl)
  | exact ()
theorem aa6 {x0:aK} {dN:Nat} {cK:Value} {x1:Int}:Ct Tryz.prog 266 true (iS x0 x1) [.pointer (some (⟨dN,0,none⟩)),.int .i64 (x1)] [.row dN [cK,.int .i64 (x0.At),.int .u64 (x0.aq)] 193,.rd false (bT (aN .u8)) cK x0.Code] (fun y (v:Value)=>[v]) (fun y v=>[.own (aL 24 (aL 2 (aN .i64))) v y.1,.row dN [cK,.int .i64 y.2.At,.int .u64 y.2.aq] 193]):=by
 refine ct (S:=Unit) (bw fun _ _=>rfl) Tryz.func266 rfl rfl ?_
 repeat' first
  | (apply Dk.fe; repeat' first | exact rfl | (refine @id.{0} _ ?_; constructor))
  | intro _
  | exact rfl
  | (apply Dk.Ou (t:=45); exact rfl)
  | (refine Dk.sZ (t:=62) rfl ?_ ?_)
  | (refine Dk.sZ (t:=67) rfl ?_ ?_)
  | (refine @id.{0} _ ?_; constructor)
  | apply Dk.loop 0 (V:=Value) (fun (s:(List (List Int))×Int×Int×Int) v=>[.row dN [cK,.int .i64 (s.2.2.1),.int .u64 (s.2.2.2)] 193,.own (aL 24 (aL 2 (aN .i64))) v s.1]) (fun s v=>[(5,v),(6,.int .i64 (s.2.1))]) _ [(0,_),(1,_)]
  | apply Dk.js 2 (V:=Unit) (A:=Value) _ (fun a (s:Int×Int×Int×(List Int)) v=>[.row dN [cK,.int .i64 (s.2.1),.int .u64 (s.2.2.1)] 193,.own (aL 2 (aN .i64)) a s.2.2.2]) (fun a s v=>[(7,a),(8,.int .i64 (s.1))]) () [(0,_),(1,_),(5,_),(6,_)]
  | apply Dk.js 4 (V:=Unit) (A:=Value) _ (fun a (s:Int×(List (List Int))) v=>[.own (aL 24 (aL 2 (aN .i64))) a s.2]) (fun a s v=>[(5,a),(9,.int .i64 (s.1))]) () [(1,_)]
  | apply Dk.js 6 (V:=Unit) (A:=Value) _ (fun a (s:Int×(List (List Int))) v=>[.own (aL 24 (aL 2 (aN .i64))) a s.2]) (fun a s v=>[(5,a),(10,.int .i64 (s.1))]) () [(1,_),(9,_)]
  | apply Dk.js 8 (V:=Unit) (A:=Value) _ (fun a (s:Int×(List (List Int))) v=>[.own (aL 24 (aL 2 (aN .i64))) a s.2]) (fun a s v=>[(5,a),(11,.int .i64 (s.1))]) () [(1,_),(9,_),(10,_)]
  | apply Dk.vj (id:=13) [Dk.aw.row _ _ 193] 8 [] [[],[],[],[],[],[],[],[10]] [[],[],[1],[0,1,2],[0,1,2,3],[],[],[5,6]] (by kernel_rfl)
  | apply xZ
  | exact ()
theorem aa7 {x0:aK} {dN:Nat} {cK:Value}:Ct Tryz.prog 269 true (iP x0) [.pointer (some (⟨dN,0,none⟩))] [.row dN [cK,.int .i64 (x0.At),.int .u64 (x0.aq)] 193,.rd false (bT (aN .u8)) cK x0.Code] (fun y (v:Value)=>[v]) (fun y v=>[.own (aL 24 (aL 2 (aN .i64))) v y.1,.row dN [cK,.int .i64 y.2.At,.int .u64 y.2.aq] 193]):=by
 refine ct (S:=Unit) (bw fun _ _=>rfl) Tryz.func269 rfl rfl ?_
 repeat' first
  | (apply Dk.fe; repeat' first | exact rfl | (refine @id.{0} _ ?_; constructor))
  | intro _
  | exact rfl
  | apply Dk.D.BM (d:=2) (x:=.tmp 8)
  | apply Dk.D.BM (d:=2) (x:=.tmp 13)
  | apply Dk.D.BM (d:=2) (x:=.tmp 18)
  | apply Dk.D.BM (d:=2) (x:=.tmp 24)
  | apply Dk.D.BM (d:=2) (x:=.tmp 30)
  | apply Dk.D.BM (d:=2) (x:=.tmp 36)
  | apply Dk.D.BM (d:=2) (x:=.tmp 43)
  | apply Dk.D.BM (d:=2) (x:=.tmp 47)
  | (refine @id.{0} _ ?_; constructor)
  | apply xZ
  | exact ()
theorem aa8  : Ct Tryz.prog 270 true (mL) [] [] (fun y (v:Value×Value×Value×Value)=>[.agg #[.int .i64 y.aA,v.1,v.2.1,v.2.2.1,v.2.2.2]]) (fun y v=>[.own (aL 2 (aN .i64)) v.1 y.aG,.own (aL 2 (aN .i64)) v.2.1 y.To,.own (aL 2 (aN .i64)) v.2.2.1 y.aJ,.own (aL 24 (aL 2 (aN .i64))) v.2.2.2 y.aB]):=by
 refine ct (S:=Unit) (bw fun _ _=>rfl) Tryz.func270 rfl rfl ?_
 repeat' first
  | (apply Dk.fe; repeat' first | exact rfl | (refine @id.{0} _ ?_; constructor))
  | intro _
  | exact rfl
  | apply Dk.xo (d:=1)
  | apply Dk.xo (d:=2)
  | apply Dk.xo (d:=3)
  | apply Dk.xo (d:=4)
  | apply Dk.xo (d:=5)
  | apply Dk.xo (d:=6)
  | apply Dk.xo (d:=7)
  | apply Dk.xo (d:=8)
  | apply Dk.xo (d:=9)
  | (refine @id.{0} _ ?_; constructor)
  | exact ()
theorem c85 {x0:aI} {aQ bF aO aM:Value} {x1:aI} {cE cL bJ bC:Value}:Ct Tryz.prog 85 true (fJ x0 x1) [.agg #[.int .i64 (x0.aA),aQ,bF,aO,aM],.agg #[.int .i64 (x1.aA),cE,cL,bJ,bC]] [rI aQ x0.aG,rI bF x0.To,rI aO x0.aJ,rJ aM x0.aB,rI cE x1.aG,rI cL x1.To,rI bJ x1.aJ,rJ bC x1.aB] (fun y (v:Value×Value×Value×Value)=>[.agg #[.int .i64 y.aA,v.1,v.2.1,v.2.2.1,v.2.2.2]]) (fun y v=>[.own (aL 2 (aN .i64)) v.1 y.aG,.own (aL 2 (aN .i64)) v.2.1 y.To,.own (aL 2 (aN .i64)) v.2.2.1 y.aJ,.own (aL 24 (aL 2 (aN .i64))) v.2.2.2 y.aB]):=by
 refine ct (S:=Unit) (bw fun _ _=>rfl) Tryz.func85 rfl rfl ?_
 repeat' first
  | (apply Dk.fe; repeat' first | exact rfl | (refine @id.{0} _ ?_; constructor))
  | intro _
  | exact rfl
  | (refine Dk.sZ (t:=114) rfl ?_ ?_)
  | (refine Dk.sZ (t:=121) rfl ?_ ?_)
  | (refine @id.{0} _ ?_; constructor)
  | apply Dk.js 0 (V:=Value) (A:=Nat×Value×Value×Value) (_,_,_,_) (fun a (s:Int×(List Int)) v=>Dk.pc (fun a0=>Dk.pc (fun a1=>Dk.pc (fun a2 a3=>[.row a0 [.int .i64 (an (x0.aA * x1.aA)),a1,a2,v,a3] 27,.own (aL 2 (aN .i64)) v s.2]))) a) (fun a s v=>Dk.pc (fun a0=>Dk.pc (fun a1=>Dk.pc (fun a2 a3=>[(7,.pointer (some ⟨a0,0,none⟩)),(8,.int .i64 (s.1))]))) a) _ [(2,_),(3,_),(4,_),(5,_),(6,_)]
  | apply Dk.js 2 (V:=Value) (A:=Nat×Value×Value×Value) (_,_,_,_) (fun a (s:Int×(List Int)) v=>Dk.pc (fun a0=>Dk.pc (fun a1=>Dk.pc (fun a2 a3=>[.row a0 [.int .i64 (an (x0.aA * x1.aA)),a1,a2,v,a3] 27,.own (aL 2 (aN .i64)) v s.2]))) a) (fun a s v=>Dk.pc (fun a0=>Dk.pc (fun a1=>Dk.pc (fun a2 a3=>[(7,.pointer (some ⟨a0,0,none⟩)),(9,.int .i64 (s.1))]))) a) _ [(2,_),(3,_),(4,_),(5,_),(6,_),(8,_)]
  | apply Dk.js 4 (V:=Value×Value×Value) (A:=Nat×Value) (_,_) (fun a (s:Int×(List Int)×(List Int)×(List (List Int))) v=>Dk.pc (fun a0 a1=>[.row a0 [.int .i64 (an (x0.aA * x1.aA)),v.1,v.2.1,a1,v.2.2] 27,.own (aL 2 (aN .i64)) v.1 s.2.1,.own (aL 2 (aN .i64)) v.2.1 s.2.2.1,.own (aL 24 (aL 2 (aN .i64))) v.2.2 s.2.2.2]) a) (fun a s v=>Dk.pc (fun a0 a1=>[(7,.pointer (some ⟨a0,0,none⟩)),(10,.int .i64 (s.1))]) a) (_,_,_) [(2,_),(3,_),(4,_),(5,_),(6,_)]
  | apply Dk.js 6 (V:=Value×Value×Value) (A:=Nat×Value) (_,_) (fun a (s:Int×(List Int)×(List Int)×(List (List Int))) v=>Dk.pc (fun a0 a1=>[.row a0 [.int .i64 (an (x0.aA * x1.aA)),v.1,v.2.1,a1,v.2.2] 27,.own (aL 2 (aN .i64)) v.1 s.2.1,.own (aL 2 (aN .i64)) v.2.1 s.2.2.1,.own (aL 24 (aL 2 (aN .i64))) v.2.2 s.2.2.2]) a) (fun a s v=>Dk.pc (fun a0 a1=>[(7,.pointer (some ⟨a0,0,none⟩)),(11,.int .i64 (s.1))]) a) (_,_,_) [(2,_),(3,_),(4,_),(5,_),(6,_),(10,_)]
  | apply Dk.loop 8 (V:=Value) (fun (s:(List Int)×Int) v=>[.own (aL 2 (aN .i64)) v s.1]) (fun s v=>[(12,v),(13,.int .i64 (s.2))]) _ [(2,_),(3,_),(4,_),(5,_),(6,_),(7,_),(10,_),(11,_)]
  | apply Dk.loop 10 (V:=Value) (fun (s:(List Int)×Int) v=>[.own (aL 2 (aN .i64)) v s.1]) (fun s v=>[(12,v),(14,.int .i64 (s.2))]) _ [(2,_),(3,_),(4,_),(5,_),(6,_),(7,_),(10,_),(11,_),(13,_)]
  | apply Dk.quiet (id:=1) (by kernel_rfl)
  | apply Dk.quiet (id:=27) (by kernel_rfl)
  | apply Dk.any (id:=9) 16 [] [] [[],[0],[],[2],[],[2,3,4],[2,3,4,5],[],[2,3,4,5,6,7],[],[9],[],[9,10,11],[9,10,11,12],[2,3,4,5,6,7,8,9,10,11,12,13],[2,3,4,5,6,7,8,9,10,11,12,13,14]] (by kernel_rfl)
  | apply Dk.any (id:=16) 16 [] [] [[],[0],[],[2],[],[2,3,4],[2,3,4,5],[],[2,3,4,5,6,7],[],[9],[],[9,10,11],[9,10,11,12],[2,3,4,5,6,7,8,9,10,11,12,13],[2,3,4,5,6,7,8,9,10,11,12,13,14]] (by kernel_rfl)
  | apply Dk.any (id:=17) 16 [] [] [[],[0],[],[2],[],[2,3,4],[2,3,4,5],[],[2,3,4,5,6,7],[],[9],[],[9,10,11],[9,10,11,12],[2,3,4,5,6,7,8,9,10,11,12,13],[2,3,4,5,6,7,8,9,10,11,12,13,14]] (by kernel_rfl)
  | exact ()
theorem Ub {x0:aI} {aQ bF aO aM:Value} {x1:Int}:Ct Tryz.prog 200 true (fO x0 x1) [.agg #[.int .i64 (x0.aA),aQ,bF,aO,aM],.int .i64 (x1)] [rI aQ x0.aG,rI bF x0.To,rI aO x0.aJ,rJ aM x0.aB] (fun y (_:Unit)=>[.bool y]) (fun y _=>[]):=by
 refine ct (S:=Unit) (bw fun _ _=>rfl) Tryz.func200 rfl rfl ?_
 repeat' first
  | (apply Dk.fe; repeat' first | exact rfl | (refine @id.{0} _ ?_; constructor))
  | intro _
  | exact rfl
  | (refine @id.{0} _ ?_; constructor)
  | apply Dk.quiet (id:=1) (by kernel_rfl)
  | exact ()
theorem aa9 {x0:aI} {aQ bF aO aM:Value}:Ct Tryz.prog 188 true (lT x0) [.agg #[.int .i64 (x0.aA),aQ,bF,aO,aM]] [rI aQ x0.aG,rI bF x0.To,rI aO x0.aJ,rJ aM x0.aB] (fun y (v:Value)=>[v]) (fun y v=>[.own (aL 2 (aN .i64)) v y]):=by
 refine ct (S:=Unit) (bw fun _ _=>rfl) Tryz.func188 rfl rfl ?_
 repeat' first
  | (apply Dk.fe; repeat' first | exact rfl | (refine @id.{0} _ ?_; constructor))
  | intro _
  | exact rfl
  | (refine @id.{0} _ ?_; constructor)
  | apply Dk.loop 0 (V:=Value) (fun (s:(List Int)×Int) v=>[.own (aL 2 (aN .i64)) v s.1]) (fun s v=>[(3,v),(4,.int .i64 (s.2))]) _ [(1,_)]
  | apply Ub
  | exact ()
theorem aba {x0:(List (List Int))} {cY:Value} {x1:Int}:Ct Tryz.prog 286 true (iR x0 x1) [cY,.int .i64 (x1)] [rJ cY x0] (fun y (v:Value)=>[v]) (fun y v=>[.own (aL 2 (aN .i64)) v y]):=by
 refine ct (S:=Unit) (bw fun _ _=>rfl) Tryz.func286 rfl rfl ?_
 repeat' first
  | (apply Dk.fe; repeat' first | exact rfl | (refine @id.{0} _ ?_; constructor))
  | intro _
  | exact rfl
  | (refine @id.{0} _ ?_; constructor)
  | apply Dk.loop 0 (V:=Value) (fun (s:(List Int)×Int) v=>[.own (aL 2 (aN .i64)) v s.1]) (fun s v=>[(5,v),(6,.int .i64 (s.2))]) _ [(0,_),(1,_)]
  | exact ()
theorem Uc {x0:aK} {dN:Nat} {cK:Value} {x1:(List Int)} {eQ:Value}:Ct Tryz.prog 197 true (lC x0 x1) [.pointer (some (⟨dN,0,none⟩)),eQ] [.row dN [cK,.int .i64 (x0.At),.int .u64 (x0.aq)] 193,.rd false (bT (aN .u8)) cK x0.Code,rI eQ x1] (fun y (_:Unit)=>[.int .i64 y.1]) (fun y _=>[.row dN [cK,.int .i64 y.2.At,.int .u64 y.2.aq] 193]):=by
 refine ct (S:=Unit) (bw fun _ _=>rfl) Tryz.func197 rfl rfl ?_
 repeat' first
  | (apply Dk.fe; repeat' first | exact rfl | (refine @id.{0} _ ?_; constructor))
  | intro _
  | exact rfl
  | (refine @id.{0} _ ?_; constructor)
  | apply xZ
  | exact ()
theorem abb {x0:Int} {x1:Int} {x2:Int}:Ct Tryz.prog 274 true (pO x0 x1 x2) [.int .i64 (x0),.int .i64 (x1),.int .i64 (x2)] [] (fun y (_:Unit)=>[.bool y]) (fun y _=>[]):=by
 refine ct (S:=Unit) (bw fun _ _=>rfl) Tryz.func274 rfl rfl ?_
 repeat' first
  | (apply Dk.fe; repeat' first | exact rfl | (refine @id.{0} _ ?_; constructor))
  | intro _
  | exact rfl
  | (refine @id.{0} _ ?_; constructor)
  | exact ()
theorem Ud {x0:(List Int)} {cY:Value}:Ct Tryz.prog 80 true (gW x0) [cY] [rI cY x0] (fun y (v:Value)=>[v]) (fun y v=>[.own (aL 2 (aN .i64)) v y]):=by
 refine ct (S:=Unit) (bw fun _ _=>rfl) Tryz.func80 rfl rfl ?_
 repeat' first
  | (apply Dk.fe; repeat' first | exact rfl | (refine @id.{0} _ ?_; constructor))
  | intro _
  | exact rfl
  | (refine @id.{0} _ ?_; constructor)
  | exact ()
theorem abc {x0:(List (List Int))} {cY:Value}:Ct Tryz.prog 250 true (pC x0) [cY] [rJ cY x0] (fun y (v:Value)=>[v]) (fun y v=>[.own (aL 24 (aL 2 (aN .i64))) v y]):=by
 refine ct (S:=Unit) (bw fun _ _=>rfl) Tryz.func250 rfl rfl ?_
 repeat' first
  | (apply Dk.fe; repeat' first | exact rfl | (refine @id.{0} _ ?_; constructor))
  | intro _
  | exact rfl
  | (refine @id.{0} _ ?_; constructor)
  | apply Dk.loop 0 (V:=Value) (fun (s:(List (List Int))×Int) v=>[.own (aL 24 (aL 2 (aN .i64))) v s.1]) (fun s v=>[(3,v),(11,.int .i64 (s.2))]) _ [(9,_),(10,_)]
  | apply Ud
  | exact ()
end Go.Proofs.YtjdkifckhidlbaaGreat
