/- Walks by the calculus D. No condition beside those that each theorem names. -/
import Derived.Test.YtbhhmalgcnhniaaGreatDi
import Derived.Test.YtbhhmalgcnhniaaGreatMo
import Derived.Test.YtbhhmalgcnhniaaGreatDp
import Derived.Test.YtbhhmalgcnhniaaGreatDs
namespace Go.Proofs.YtbhhmalgcnhniaaGreat
open Go Go.Li Go.Dk
set_option linter.unusedVariables false
set_option maxHeartbeats 16000000
set_option maxRecDepth 100000
theorem Wi {x0:(List (List Int))} {cO:Value}:Ct Tryz.prog 153 true (eN x0) [cO] [rJ cO x0] (fun y (v:Value×Value×Value×Value)=>[.agg #[.int .i64 y.aA,v.1,v.2.1,v.2.2.1,v.2.2.2]]) (fun y v=>[.own (aI 2 (aK .i64)) v.1 y.aF,.own (aI 2 (aK .i64)) v.2.1 y.To,.own (aI 2 (aK .i64)) v.2.2.1 y.aH,.own (aI 22 (aI 2 (aK .i64))) v.2.2.2 y.aC]):=by
 refine ct (S:=Unit) (bo fun _ _=>rfl) Tryz.func153 rfl rfl ?_
 repeat' first
  | (apply Dk.fe; repeat' first | exact rfl | (refine @id.{0} _ ?_; constructor))
  | intro _
  | exact rfl
  | (refine Dk.te (t:=31) rfl ?_ ?_)
  | (refine Dk.te (t:=93) rfl ?_ ?_)
  | (refine @id.{0} _ ?_; constructor)
  | apply Dk.iH 0 (V:=Value×Value×Value) (A:=Nat×Value×Value) (_,_,_) (fun a (s:(List (List Int))×Int×(List Int)×(List Int)) v=>Dk.pc (fun a0=>Dk.pc (fun a1 a2=>[.row a0 [.int .i64 ((x0.length:Int)),v.2.1,v.2.2,a1,a2] 32,.own (aI 22 (aI 2 (aK .i64))) v.1 s.1,.own (aI 2 (aK .i64)) v.2.1 s.2.2.1,.own (aI 2 (aK .i64)) v.2.2 s.2.2.2])) a) (fun a s v=>Dk.pc (fun a0=>Dk.pc (fun a1 a2=>[(4,v.1),(5,.pointer (some ⟨a0,0,none⟩)),(6,.int .i64 (s.2.1))])) a) (_,_,_) [(0,_),(2,_),(3,_)]
  | apply Dk.iH 2 (V:=Value×Value×Value) (A:=Nat×Value×Value) (_,_,_) (fun a (s:(List Int)×Int×(List Int)×(List Int)) v=>Dk.pc (fun a0=>Dk.pc (fun a1 a2=>[.row a0 [.int .i64 ((x0.length:Int)),v.2.1,v.2.2,a1,a2] 32,.own (aI 2 (aK .i64)) v.1 s.1,.own (aI 2 (aK .i64)) v.2.1 s.2.2.1,.own (aI 2 (aK .i64)) v.2.2 s.2.2.2])) a) (fun a s v=>Dk.pc (fun a0=>Dk.pc (fun a1 a2=>[(5,.pointer (some ⟨a0,0,none⟩)),(7,v.1),(8,.int .i64 (s.2.1))])) a) (_,_,_) [(0,_),(2,_),(3,_),(4,_),(6,_)]
  | apply Dk.iH 4 (V:=Value) (A:=Nat×Value×Value×Value) (_,_,_,_) (fun a (s:Int×(List Int)) v=>Dk.pc (fun a0=>Dk.pc (fun a1=>Dk.pc (fun a2 a3=>[.row a0 [.int .i64 ((x0.length:Int)),a1,a2,v,a3] 32,.own (aI 2 (aK .i64)) v s.2]))) a) (fun a s v=>Dk.pc (fun a0=>Dk.pc (fun a1=>Dk.pc (fun a2 a3=>[(5,.pointer (some ⟨a0,0,none⟩)),(9,.int .i64 (s.1))]))) a) _ [(2,_),(3,_),(4,_)]
  | apply Dk.iH 6 (V:=Value) (A:=Nat×Value×Value×Value) (_,_,_,_) (fun a (s:Int×(List (List Int))) v=>Dk.pc (fun a0=>Dk.pc (fun a1=>Dk.pc (fun a2 a3=>[.row a0 [.int .i64 ((x0.length:Int)),a1,a2,a3,v] 32,.own (aI 22 (aI 2 (aK .i64))) v s.2]))) a) (fun a s v=>Dk.pc (fun a0=>Dk.pc (fun a1=>Dk.pc (fun a2 a3=>[(5,.pointer (some ⟨a0,0,none⟩)),(10,.int .i64 (s.1))]))) a) _ [(2,_),(4,_)]
  | apply Dk.loop 8 (V:=Value) (fun (s:(List Int)×Int) v=>[.own (aI 2 (aK .i64)) v s.1]) (fun s v=>[(11,v),(12,.int .i64 (s.2))]) _ [(2,_),(4,_),(5,_),(10,_)]
  | apply Dk.quiet (id:=28) (by kernel_rfl)
  | apply Dk.quiet (id:=29) (by kernel_rfl)
  | apply Dk.any (id:=19) 10 [] [] [[],[0],[],[],[2,3],[2,3,4],[],[2,3,4,5,6],[2,3,4,5,6,7],[2,3,4,5,6,7,8]] (by kernel_rfl)
  | exact ()
theorem ac9  : Ct Tryz.prog 212 true (oD) [] [] (fun y (v:Value×Value×Value×Value)=>[.agg #[.int .i64 y.aA,v.1,v.2.1,v.2.2.1,v.2.2.2]]) (fun y v=>[.own (aI 2 (aK .i64)) v.1 y.aF,.own (aI 2 (aK .i64)) v.2.1 y.To,.own (aI 2 (aK .i64)) v.2.2.1 y.aH,.own (aI 22 (aI 2 (aK .i64))) v.2.2.2 y.aC]):=by
 refine ct (S:=Unit) (bo fun _ _=>rfl) Tryz.func212 rfl rfl ?_
 repeat' first
  | (apply Dk.fe; repeat' first | exact rfl | (refine @id.{0} _ ?_; constructor))
  | intro _
  | exact rfl
  | apply Dk.yo (d:=1)
  | apply Dk.yo (d:=2)
  | apply Dk.yo (d:=3)
  | apply Dk.yo (d:=4)
  | apply Dk.yo (d:=5)
  | apply Dk.yo (d:=6)
  | apply Dk.yo (d:=7)
  | apply Dk.yo (d:=8)
  | apply Dk.yo (d:=9)
  | (refine @id.{0} _ ?_; constructor)
  | exact ()
theorem c89 {x0:aG} {aU bA aP aL:Value} {x1:aG} {bI bS bD aY:Value}:Ct Tryz.prog 89 true (fV x0 x1) [.agg #[.int .i64 (x0.aA),aU,bA,aP,aL],.agg #[.int .i64 (x1.aA),bI,bS,bD,aY]] [rI aU x0.aF,rI bA x0.To,rI aP x0.aH,rJ aL x0.aC,rI bI x1.aF,rI bS x1.To,rI bD x1.aH,rJ aY x1.aC] (fun y (v:Value×Value×Value×Value)=>[.agg #[.int .i64 y.aA,v.1,v.2.1,v.2.2.1,v.2.2.2]]) (fun y v=>[.own (aI 2 (aK .i64)) v.1 y.aF,.own (aI 2 (aK .i64)) v.2.1 y.To,.own (aI 2 (aK .i64)) v.2.2.1 y.aH,.own (aI 22 (aI 2 (aK .i64))) v.2.2.2 y.aC]):=by
 refine ct (S:=Unit) (bo fun _ _=>rfl) Tryz.func89 rfl rfl ?_
 repeat' first
  | (apply Dk.fe; repeat' first | exact rfl | (refine @id.{0} _ ?_; constructor))
  | intro _
  | exact rfl
  | (refine Dk.te (t:=114) rfl ?_ ?_)
  | (refine Dk.te (t:=121) rfl ?_ ?_)
  | (refine @id.{0} _ ?_; constructor)
  | apply Dk.iH 0 (V:=Value) (A:=Nat×Value×Value×Value) (_,_,_,_) (fun a (s:Int×(List Int)) v=>Dk.pc (fun a0=>Dk.pc (fun a1=>Dk.pc (fun a2 a3=>[.row a0 [.int .i64 (aj (x0.aA * x1.aA)),a1,a2,v,a3] 32,.own (aI 2 (aK .i64)) v s.2]))) a) (fun a s v=>Dk.pc (fun a0=>Dk.pc (fun a1=>Dk.pc (fun a2 a3=>[(7,.pointer (some ⟨a0,0,none⟩)),(8,.int .i64 (s.1))]))) a) _ [(2,_),(3,_),(4,_),(5,_),(6,_)]
  | apply Dk.iH 2 (V:=Value) (A:=Nat×Value×Value×Value) (_,_,_,_) (fun a (s:Int×(List Int)) v=>Dk.pc (fun a0=>Dk.pc (fun a1=>Dk.pc (fun a2 a3=>[.row a0 [.int .i64 (aj (x0.aA * x1.aA)),a1,a2,v,a3] 32,.own (aI 2 (aK .i64)) v s.2]))) a) (fun a s v=>Dk.pc (fun a0=>Dk.pc (fun a1=>Dk.pc (fun a2 a3=>[(7,.pointer (some ⟨a0,0,none⟩)),(9,.int .i64 (s.1))]))) a) _ [(2,_),(3,_),(4,_),(5,_),(6,_),(8,_)]
  | apply Dk.iH 4 (V:=Value×Value×Value) (A:=Nat×Value) (_,_) (fun a (s:Int×(List Int)×(List Int)×(List (List Int))) v=>Dk.pc (fun a0 a1=>[.row a0 [.int .i64 (aj (x0.aA * x1.aA)),v.1,v.2.1,a1,v.2.2] 32,.own (aI 2 (aK .i64)) v.1 s.2.1,.own (aI 2 (aK .i64)) v.2.1 s.2.2.1,.own (aI 22 (aI 2 (aK .i64))) v.2.2 s.2.2.2]) a) (fun a s v=>Dk.pc (fun a0 a1=>[(7,.pointer (some ⟨a0,0,none⟩)),(10,.int .i64 (s.1))]) a) (_,_,_) [(2,_),(3,_),(4,_),(5,_),(6,_)]
  | apply Dk.iH 6 (V:=Value×Value×Value) (A:=Nat×Value) (_,_) (fun a (s:Int×(List Int)×(List Int)×(List (List Int))) v=>Dk.pc (fun a0 a1=>[.row a0 [.int .i64 (aj (x0.aA * x1.aA)),v.1,v.2.1,a1,v.2.2] 32,.own (aI 2 (aK .i64)) v.1 s.2.1,.own (aI 2 (aK .i64)) v.2.1 s.2.2.1,.own (aI 22 (aI 2 (aK .i64))) v.2.2 s.2.2.2]) a) (fun a s v=>Dk.pc (fun a0 a1=>[(7,.pointer (some ⟨a0,0,none⟩)),(11,.int .i64 (s.1))]) a) (_,_,_) [(2,_),(3,_),(4,_),(5,_),(6,_),(10,_)]
  | apply Dk.loop 8 (V:=Value) (fun (s:(List Int)×Int) v=>[.own (aI 2 (aK .i64)) v s.1]) (fun s v=>[(12,v),(13,.int .i64 (s.2))]) _ [(2,_),(3,_),(4,_),(5,_),(6,_),(7,_),(10,_),(11,_)]
  | apply Dk.loop 10 (V:=Value) (fun (s:(List Int)×Int) v=>[.own (aI 2 (aK .i64)) v s.1]) (fun s v=>[(12,v),(14,.int .i64 (s.2))]) _ [(2,_),(3,_),(4,_),(5,_),(6,_),(7,_),(10,_),(11,_),(13,_)]
  | apply Dk.quiet (id:=1) (by kernel_rfl)
  | apply Dk.quiet (id:=27) (by kernel_rfl)
  | apply Dk.any (id:=9) 16 [] [] [[],[0],[],[2],[],[2,3,4],[2,3,4,5],[],[2,3,4,5,6,7],[],[9],[],[9,10,11],[9,10,11,12],[2,3,4,5,6,7,8,9,10,11,12,13],[2,3,4,5,6,7,8,9,10,11,12,13,14]] (by kernel_rfl)
  | apply Dk.any (id:=16) 16 [] [] [[],[0],[],[2],[],[2,3,4],[2,3,4,5],[],[2,3,4,5,6,7],[],[9],[],[9,10,11],[9,10,11,12],[2,3,4,5,6,7,8,9,10,11,12,13],[2,3,4,5,6,7,8,9,10,11,12,13,14]] (by kernel_rfl)
  | apply Dk.any (id:=17) 16 [] [] [[],[0],[],[2],[],[2,3,4],[2,3,4,5],[],[2,3,4,5,6,7],[],[9],[],[9,10,11],[9,10,11,12],[2,3,4,5,6,7,8,9,10,11,12,13],[2,3,4,5,6,7,8,9,10,11,12,13,14]] (by kernel_rfl)
  | exact ()
theorem PT {x0:aG} {cB:Addr} {aU bA aP aL:Value} {x1:Int}:Ct Tryz.prog 110 true (dW x0 x1) [.pointer (some (cB)),.int .i64 (x1)] [.bg cB [.int .i64 (x0.aA),aU,bA,aP,aL],rI aU x0.aF,rI bA x0.To,rI aP x0.aH,rJ aL x0.aC] (fun y (_:Unit)=>[.agg #[.int .i64 y.aF,.int .i64 y.To]]) (fun y _=>[]):=by
 refine ct (S:=Unit) (bo fun _ _=>rfl) Tryz.func110 rfl rfl ?_
 repeat' first
  | (apply Dk.fe; repeat' first | exact rfl | (refine @id.{0} _ ?_; constructor))
  | intro _
  | exact rfl
  | (refine @id.{0} _ ?_; constructor)
  | apply Dk.any (id:=1) 14 [] [] [[],[0],[0,1],[0,1,2],[],[0,1,2,3,4],[0,1,2,3,4,5],[],[7],[7,8],[7,8,9],[],[7,8,9,10,11],[7,8,9,10,11,12]] (by kernel_rfl)
  | exact ()
theorem ada {x0:aJ} {cB:Addr} {aS aV aQ aN aT aW aR aO aZ bB:Value}:Ct Tryz.prog 124 true (gZ x0) [.pointer (some (cB))] [.bg cB [.int .i64 (x0.aD.aA),aS,aV,aQ,aN,.int .i64 (x0.aB.aA),aT,aW,aR,aO,aZ,bB],rI aS x0.aD.aF,rI aV x0.aD.To,rI aQ x0.aD.aH,rJ aN x0.aD.aC,rI aT x0.aB.aF,rI aW x0.aB.To,rI aR x0.aB.aH,rJ aO x0.aB.aC,rI aZ x0.aA,rI bB x0.ab] (fun y (_:Unit)=>[.bool y]) (fun y _=>[]):=by
 refine ct (S:=Unit) (bo fun _ _=>rfl) Tryz.func124 rfl rfl ?_
 repeat' first
  | (apply Dk.fe; repeat' first | exact rfl | (refine @id.{0} _ ?_; constructor))
  | intro _
  | exact rfl
  | apply Dk.slX (t:=22)
  | (refine @id.{0} _ ?_; constructor)
  | apply Dk.loop 0 (V:=Unit) (fun (s:Int) v=>[]) (fun s v=>[(10,.int .i64 (s))]) () [(0,_),(9,_)]
  | apply Dk.loop 2 (V:=Unit) (fun (s:Int) v=>[]) (fun s v=>[(20,.int .i64 (s))]) () [(0,_),(3,_),(9,_),(10,_),(19,_)]
  | apply Dk.quiet (id:=7) (by kernel_rfl)
  | apply PT
  | exact ()
theorem Q5 {x0:(List Int)} {cO:Value}:Ct Tryz.prog 85 true (fF x0) [cO] [rI cO x0] (fun y (v:Value)=>[v]) (fun y v=>[.own (aI 2 (aK .i64)) v y]):=by
 refine ct (S:=Unit) (bo fun _ _=>rfl) Tryz.func85 rfl rfl ?_
 repeat' first
  | (apply Dk.fe; repeat' first | exact rfl | (refine @id.{0} _ ?_; constructor))
  | intro _
  | exact rfl
  | (refine @id.{0} _ ?_; constructor)
  | exact ()
theorem adb {x0:(List (List Int))} {cO:Value}:Ct Tryz.prog 217 true (qZ x0) [cO] [rJ cO x0] (fun y (v:Value)=>[v]) (fun y v=>[.own (aI 22 (aI 2 (aK .i64))) v y]):=by
 refine ct (S:=Unit) (bo fun _ _=>rfl) Tryz.func217 rfl rfl ?_
 repeat' first
  | (apply Dk.fe; repeat' first | exact rfl | (refine @id.{0} _ ?_; constructor))
  | intro _
  | exact rfl
  | (refine @id.{0} _ ?_; constructor)
  | apply Dk.loop 0 (V:=Value) (fun (s:(List (List Int))×Int) v=>[.own (aI 22 (aI 2 (aK .i64))) v s.1]) (fun s v=>[(3,v),(11,.int .i64 (s.2))]) _ [(9,_),(10,_)]
  | apply Q5
  | exact ()
theorem ade {x0:aG} {aU bA aP aL:Value}:Ct Tryz.prog 165 true (oI x0) [.agg #[.int .i64 (x0.aA),aU,bA,aP,aL]] [rI aU x0.aF,rI bA x0.To,rI aP x0.aH,rJ aL x0.aC] (fun y (_:Unit)=>[.int .i64 y.1,.int .i64 y.2.1,.int .i64 y.2.2.1,.int .i64 y.2.2.2]) (fun y _=>[]):=by
 refine ct (S:=Unit) (bo fun _ _=>rfl) Tryz.func165 rfl rfl ?_
 repeat' first
  | (apply Dk.fe; repeat' first | exact rfl | (refine @id.{0} _ ?_; constructor))
  | intro _
  | exact rfl
  | (refine Dk.te (t:=65) rfl ?_ ?_)
  | (refine Dk.te (t:=81) rfl ?_ ?_)
  | (refine @id.{0} _ ?_; constructor)
  | apply Dk.loop 0 (V:=Unit) (fun (s:Int) v=>[]) (fun s v=>[(7,.int .i64 (s))]) () [(1,_),(6,_)]
  | apply Dk.loop 2 (V:=Unit) (fun (s:Int) v=>[]) (fun s v=>[(8,.int .i64 (s))]) () [(1,_),(6,_)]
  | apply Dk.loop 4 (V:=Unit) (fun (s:Int) v=>[]) (fun s v=>[(9,.int .i64 (s))]) () [(1,_),(6,_),(8,_)]
  | apply Dk.loop 6 (V:=Unit) (fun (s:Int) v=>[]) (fun s v=>[(10,.int .i64 (s))]) () [(1,_),(6,_),(8,_),(9,_)]
  | apply Dk.quiet (id:=5) (by kernel_rfl)
  | apply Dk.quiet (id:=13) (by kernel_rfl)
  | apply Dk.quiet (id:=17) (by kernel_rfl)
  | exact ()
theorem Q6 {x0:(List Int)} {cO:Value} {x1:(List Int)} {fA:Value}:Ct Tryz.prog 30 true (gD x0 x1) [cO,fA] [rI cO x0,rI fA x1] (fun y (_:Unit)=>[.bool y]) (fun y _=>[]):=by
 refine ct (S:=Unit) (bo fun _ _=>rfl) Tryz.func30 rfl rfl ?_
 repeat' first
  | (apply Dk.fe; repeat' first | exact rfl | (refine @id.{0} _ ?_; constructor))
  | intro _
  | exact rfl
  | (refine @id.{0} _ ?_; constructor)
  | apply Dk.loop 0 (V:=Unit) (fun (s:Int) v=>[]) (fun s v=>[(5,.int .i64 (s))]) () [(0,_),(1,_)]
  | apply Dk.quiet (id:=6) (by kernel_rfl)
  | exact ()
theorem adg {x0:(List (List Int))} {cO:Value} {x1:(List (List Int))} {fA:Value}:Ct Tryz.prog 162 true (nM x0 x1) [cO,fA] [rJ cO x0,rJ fA x1] (fun y (_:Unit)=>[.bool y]) (fun y _=>[]):=by
 refine ct (S:=Unit) (bo fun _ _=>rfl) Tryz.func162 rfl rfl ?_
 repeat' first
  | (apply Dk.fe; repeat' first | exact rfl | (refine @id.{0} _ ?_; constructor))
  | intro _
  | exact rfl
  | (refine @id.{0} _ ?_; constructor)
  | apply Dk.loop 0 (V:=Unit) (fun (s:Int) v=>[]) (fun s v=>[(5,.int .i64 (s))]) () [(0,_),(1,_)]
  | apply Dk.quiet (id:=6) (by kernel_rfl)
  | apply Q6
  | exact ()
theorem adh {x0:(List Int)} {cO:Value} {x1:(List Int)} {fA:Value}:Ct Tryz.prog 216 true (rT x0 x1) [cO,fA] [rI cO x0,rI fA x1] (fun y (_:Unit)=>[.int .i64 y]) (fun y _=>[]):=by
 refine ct (S:=Unit) (bo fun _ _=>rfl) Tryz.func216 rfl rfl ?_
 repeat' first
  | (apply Dk.fe; repeat' first | exact rfl | (refine @id.{0} _ ?_; constructor))
  | intro _
  | exact rfl
  | (refine @id.{0} _ ?_; constructor)
  | apply Dk.loop 0 (V:=Unit) (fun (s:Int) v=>[]) (fun s v=>[(8,.int .i64 (s))]) () [(0,_),(1,_),(7,_)]
  | apply Dk.quiet (id:=6) (by kernel_rfl)
  | apply Dk.quiet (id:=7) (by kernel_rfl)
  | exact ()
theorem adi {x0:(List Int)} {cO:Value} {x1:(List Int)} {fA:Value}:Ct Tryz.prog 155 true (nA x0 x1) [cO,fA] [rI cO x0,rI fA x1] (fun y (_:Unit)=>[.bool y]) (fun y _=>[]):=by
 refine ct (S:=Unit) (bo fun _ _=>rfl) Tryz.func155 rfl rfl ?_
 repeat' first
  | (apply Dk.fe; repeat' first | exact rfl | (refine @id.{0} _ ?_; constructor))
  | intro _
  | exact rfl
  | (refine @id.{0} _ ?_; constructor)
  | apply adh
  | exact ()
theorem adj {x0:Int}:Ct Tryz.prog 117 true (nB x0) [.int .i64 (x0)] [] (fun y (v:Value)=>[v]) (fun y v=>[.own (aI 2 (aK .i64)) v y]):=by
 refine ct (S:=Unit) (bo fun _ _=>rfl) Tryz.func117 rfl rfl ?_
 repeat' first
  | (apply Dk.fe; repeat' first | exact rfl | (refine @id.{0} _ ?_; constructor))
  | intro _
  | exact rfl
  | (refine @id.{0} _ ?_; constructor)
  | apply Dk.iH 0 (V:=Unit) (A:=Value) _ (fun a (s:Int×(List Int)) v=>[.own (aI 2 (aK .i64)) a s.2]) (fun a s v=>[(3,a),(9,.int .i64 (s.1))]) () [(8,_)]
  | exact ()
end Go.Proofs.YtbhhmalgcnhniaaGreat
