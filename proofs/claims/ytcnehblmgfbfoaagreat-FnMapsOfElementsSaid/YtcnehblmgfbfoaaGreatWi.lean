/- Walks by the calculus D. No condition beside those that each theorem names. -/
import Derived.Test.YtcnehblmgfbfoaaGreatDp
import Derived.Test.YtcnehblmgfbfoaaGreatDi
import Derived.Test.YtcnehblmgfbfoaaGreatMo
import Derived.Test.YtcnehblmgfbfoaaGreatDs
import Derived.Test.YtcnehblmgfbfoaaGreatWa
import Derived.Test.YtcnehblmgfbfoaaGreatWb
import Derived.Test.YtcnehblmgfbfoaaGreatWc
import Derived.Test.YtcnehblmgfbfoaaGreatWd
import Derived.Test.YtcnehblmgfbfoaaGreatWe
import Derived.Test.YtcnehblmgfbfoaaGreatWg
import Derived.Test.YtcnehblmgfbfoaaGreatWh
namespace Go.Proofs.YtcnehblmgfbfoaaGreat
open Go Go.Li Go.Dk
set_option linter.unusedVariables false
set_option maxHeartbeats 16000000
set_option maxRecDepth 100000
theorem agn {x0:Int} {x1:(List Int)} {dG:Value} {x2:(List Int)} {kJ:Value}:Ct Tryz.prog 248 true (jK x0 x1 x2) [.int .i64 (x0),dG,kJ] [rI dG x1,rI kJ x2] (fun y (v:Value×Value×Value×Value)=>[.agg #[.int .i64 y.aD,v.1,v.2.1,v.2.2.1,v.2.2.2]]) (fun y v=>[.own (aJ 2 (aN .i64)) v.1 y.aG,.own (aJ 2 (aN .i64)) v.2.1 y.To,.own (aJ 2 (aN .i64)) v.2.2.1 y.aI,.own (aJ 22 (aJ 2 (aN .i64))) v.2.2.2 y.aB]):=by
 refine ct (S:=Unit) (bx fun _ _=>rfl) Tryz.func248 rfl rfl ?_
 repeat' first
  | (apply Dk.fe; repeat' first | exact rfl | (refine @id.{0} _ ?_; constructor))
  | intro _
  | exact rfl
  | (refine Dk.tV (t:=83) rfl ?_ ?_)
  | apply Dk.AD.KJ (d:=108)
  | (refine Dk.tV (t:=112) rfl ?_ ?_)
  | (refine @id.{0} _ ?_; constructor)
  | apply Dk.de 0 (V:=Value×Value) (A:=Nat×Value×Value) (_,_,_) (fun a (s:Int×(List Int)×(List Int)×(List Int)) v=>Dk.pc (fun a0=>Dk.pc (fun a1 a2=>[.row a0 [.int .i64 (x0),v.1,v.2,a1,a2] 31,.own (aJ 2 (aN .i64)) a1 s.2.2.2,.own (aJ 2 (aN .i64)) v.1 s.2.1,.own (aJ 2 (aN .i64)) v.2 s.2.2.1])) a) (fun a s v=>Dk.pc (fun a0=>Dk.pc (fun a1 a2=>[(8,.pointer (some ⟨a0,0,none⟩)),(9,.int .i64 (s.1))])) a) (_,_) [(6,_),(7,_)]
  | apply Dk.de 2 (V:=Value) (A:=Nat×Value×Value×Value) (_,_,_,_) (fun a (s:Int×(List (List Int))) v=>Dk.pc (fun a0=>Dk.pc (fun a1=>Dk.pc (fun a2 a3=>[.row a0 [.int .i64 (x0),a1,a2,a3,v] 31,.own (aJ 22 (aJ 2 (aN .i64))) v s.2]))) a) (fun a s v=>Dk.pc (fun a0=>Dk.pc (fun a1=>Dk.pc (fun a2 a3=>[(8,.pointer (some ⟨a0,0,none⟩)),(10,.int .i64 (s.1))]))) a) _ [(6,_),(7,_)]
  | apply Dk.loop 4 (V:=Value) (fun (s:(List Int)×Int) v=>[.own (aJ 2 (aN .i64)) v s.1]) (fun s v=>[(11,v),(12,.int .i64 (s.2))]) _ [(6,_),(7,_),(8,_),(10,_)]
  | apply Dk.loop 6 (V:=Unit) (fun (s:Int×Int) v=>[]) (fun s v=>[(13,.int .i64 (s.1)),(15,.int .i64 (s.2))]) () [(6,_),(7,_),(8,_),(10,_),(11,_),(12,_),(14,_)]
  | apply Dk.quiet (id:=20) (by kernel_rfl)
  | apply Dk.quiet (id:=25) (by kernel_rfl)
  | apply Dk.any (id:=6) 8 [] [] [[],[0],[],[],[2,3],[2,3,4],[2,3,4,5],[2,3,4,5,6]] (by kernel_rfl)
  | apply Dk.any (id:=7) 8 [] [] [[],[0],[],[],[2,3],[2,3,4],[2,3,4,5],[2,3,4,5,6]] (by kernel_rfl)
  | apply Dk.any (id:=9) 8 [] [] [[],[0],[],[],[2,3],[2,3,4],[2,3,4,5],[]] (by kernel_rfl)
  | apply Dk.any (id:=21) 11 [] [] [[],[],[0,1],[0,1,2],[0,1,2,3],[0,1,2,3,4],[],[],[6,7],[6,7,8],[6,7,8,9]] (by kernel_rfl)
  | apply agh
  | apply c93
  | apply Eo
  | apply Nj
  | exact ()
theorem ago {x0:aH} {bA bJ aT aR:Value} {x1:(List Int)} {dG:Value}:Ct Tryz.prog 262 true (oM x0 x1) [.agg #[.int .i64 (x0.aD),bA,bJ,aT,aR],dG] [rI bA x0.aG,rI bJ x0.To,rI aT x0.aI,rJ aR x0.aB,rI dG x1] (fun y (v:Value×Value×Value×Value×Value×Value)=>[.agg #[.int .i64 y.aC.aD,v.1,v.2.1,v.2.2.1,v.2.2.2.1,v.2.2.2.2.1,v.2.2.2.2.2]]) (fun y v=>[.own (aJ 2 (aN .i64)) v.1 y.aC.aG,.own (aJ 2 (aN .i64)) v.2.1 y.aC.To,.own (aJ 2 (aN .i64)) v.2.2.1 y.aC.aI,.own (aJ 22 (aJ 2 (aN .i64))) v.2.2.2.1 y.aC.aB,.own (aJ 2 (aN .i64)) v.2.2.2.2.1 y.aP,.own (aJ 22 (aJ 2 (aN .i64))) v.2.2.2.2.2 y.aO]):=by
 refine ct (S:=Unit) (bx fun _ _=>rfl) Tryz.func262 rfl rfl ?_
 repeat' first
  | (apply Dk.fe; repeat' first | exact rfl | (refine @id.{0} _ ?_; constructor))
  | intro _
  | exact rfl
  | apply Dk.SV (d:=51)
  | apply Dk.AD.SV (d:=51)
  | apply Dk.KJ (d:=59)
  | apply Dk.Wt (d:=60)
  | apply Dk.Wu (e:=23) (t:=23)
  | (refine @id.{0} _ ?_; constructor)
  | apply Dk.de 0 (V:=Unit) (A:=Value) _ (fun a (s:Int×(List (List (List Int)))) v=>[.own (aJ 23 (aJ 22 (aJ 2 (aN .i64)))) a s.2]) (fun a s v=>[(5,a),(6,.int .i64 (s.1))]) () [(1,_),(2,_),(4,_)]
  | apply Dk.de 2 (V:=Unit) (A:=Value) _ (fun a (s:Int×(List (List (List Int)))) v=>[.own (aJ 23 (aJ 22 (aJ 2 (aN .i64)))) a s.2]) (fun a s v=>[(5,a),(7,.int .i64 (s.1))]) () [(1,_),(2,_),(4,_),(6,_)]
  | apply Dk.de 4 (V:=Value) (A:=Nat×Value×Value×Value×Value×Value×Value) (_,_,_,_,_,_,_) (fun a (s:Int×(List Int)) v=>Dk.pc (fun a0=>Dk.pc (fun a1=>Dk.pc (fun a2=>Dk.pc (fun a3=>Dk.pc (fun a4=>Dk.pc (fun a5 a6=>[.row a0 [a1,a2,a3,a4,a5,v,a6] 65,.own (aJ 2 (aN .i64)) v s.2])))))) a) (fun a s v=>Dk.pc (fun a0=>Dk.pc (fun a1=>Dk.pc (fun a2=>Dk.pc (fun a3=>Dk.pc (fun a4=>Dk.pc (fun a5 a6=>[(8,.pointer (some ⟨a0,0,none⟩)),(9,.int .i64 (s.1))])))))) a) _ [(2,_),(4,_),(5,_)]
  | apply Dk.de 6 (V:=Value) (A:=Nat×Value×Value×Value×Value×Value×Value) (_,_,_,_,_,_,_) (fun a (s:Int×(List (List Int))) v=>Dk.pc (fun a0=>Dk.pc (fun a1=>Dk.pc (fun a2=>Dk.pc (fun a3=>Dk.pc (fun a4=>Dk.pc (fun a5 a6=>[.row a0 [a1,a2,a3,a4,a5,a6,v] 65,.own (aJ 22 (aJ 2 (aN .i64))) v s.2])))))) a) (fun a s v=>Dk.pc (fun a0=>Dk.pc (fun a1=>Dk.pc (fun a2=>Dk.pc (fun a3=>Dk.pc (fun a4=>Dk.pc (fun a5 a6=>[(8,.pointer (some ⟨a0,0,none⟩)),(10,.int .i64 (s.1))])))))) a) _ [(2,_),(4,_),(5,_)]
  | apply Dk.loop 8 (V:=Value) (fun (s:(List Int)×Int) v=>[.own (aJ 2 (aN .i64)) v s.1]) (fun s v=>[(11,v),(14,.int .i64 (s.2))]) _ [(2,_),(4,_),(5,_),(8,_),(10,_),(12,_),(13,_)]
  | apply Dk.quiet (id:=8) (by kernel_rfl)
  | apply Dk.quiet (id:=19) (by kernel_rfl)
  | apply Dk.ru (id:=9) [Dk.aq.own (aJ 23 (aJ 22 (aJ 2 (aN .i64)))) _ _] 19 [] [[],[],[],[],[],[],[],[],[],[],[],[],[],[],[],[],[],[],[21,16]] [[],[],[1],[],[1,2,3],[1,2,3,4],[],[],[7],[],[7,8,9],[7,8,9,10],[6,7,8,9,10,11],[6,7,8,9,10,11,12],[],[],[14,15],[14,15,16],[6,7,8,9,10,11,12,13,14,15,16,17]] (by kernel_rfl)
  | apply Dk.any (id:=14) 8 [] [] [[],[0],[],[],[2,3],[2,3,4],[2,3,4,5],[2,3,4,5,6]] (by kernel_rfl)
  | apply Dk.any (id:=23) 20 [] [] [[],[],[],[],[2,3],[2,3,4],[2,3,4,5],[2,3,4,5,6],[],[],[],[9,10],[9,10,11],[9,10,11,12],[9,10,11,12,13],[],[8,9,10,11,12,13,14,15],[2,3,4,5,6,7,8,9,10,11,12,13,14,15,16],[1,2,3,4,5,6,7,8,9,10,11,12,13,14,15,16,17],[1,2,3,4,5,6,7,8,9,10,11,12,13,14,15,16,17,18]] (by kernel_rfl)
  | apply Ep
  | apply c58
  | apply Sr
  | exact ()
theorem agp {x0:aK} {aW bC aU aS bP bD:Value} {x1:(List (List (List Int)))} {dG:Value}:Ct Tryz.prog 263 true (oX x0 x1) [.agg #[.int .i64 (x0.aC.aD),aW,bC,aU,aS,bP,bD],dG] [rI aW x0.aC.aG,rI bC x0.aC.To,rI aU x0.aC.aI,rJ aS x0.aC.aB,rI bP x0.aP,rJ bD x0.aO,.rd false (aV (aV (aV (aN .i64)))) dG x1] (fun y (v:Value×Value×Value×Value×Value×Value)=>[.agg #[.int .i64 y.aC.aD,v.1,v.2.1,v.2.2.1,v.2.2.2.1,v.2.2.2.2.1,v.2.2.2.2.2]]) (fun y v=>[.own (aJ 2 (aN .i64)) v.1 y.aC.aG,.own (aJ 2 (aN .i64)) v.2.1 y.aC.To,.own (aJ 2 (aN .i64)) v.2.2.1 y.aC.aI,.own (aJ 22 (aJ 2 (aN .i64))) v.2.2.2.1 y.aC.aB,.own (aJ 2 (aN .i64)) v.2.2.2.2.1 y.aP,.own (aJ 22 (aJ 2 (aN .i64))) v.2.2.2.2.2 y.aO]):=by
 refine ct (S:=Unit) (bx fun _ _=>rfl) Tryz.func263 rfl rfl ?_
 repeat' first
  | (apply Dk.fe; repeat' first | exact rfl | (refine @id.{0} _ ?_; constructor))
  | intro _
  | exact rfl
  | apply Dk.ui (d:=141)
  | (refine @id.{0} _ ?_; constructor)
  | apply Dk.loop 0 (V:=Value) (fun (s:(List (List Int))×Int) v=>[.own (aJ 22 (aJ 2 (aN .i64))) v s.1]) (fun s v=>[(5,v),(6,.int .i64 (s.2))]) _ [(1,_),(2,_),(4,_)]
  | apply Dk.de 2 (V:=Unit) (A:=Value) _ (fun a (s:Bool×(List (List Int))) v=>[.own (aJ 22 (aJ 2 (aN .i64))) a s.2]) (fun a s v=>[(5,a),(7,.bool (s.1))]) () [(2,_),(4,_)]
  | apply Dk.de 4 (V:=Unit) (A:=Value) _ (fun a (s:Bool×Int×(List (List Int))) v=>[.own (aJ 22 (aJ 2 (aN .i64))) a s.2.2]) (fun a s v=>[(5,a),(7,.bool (s.1)),(8,.int .i64 (s.2.1))]) () [(2,_),(4,_)]
  | apply Dk.de 6 (V:=Unit) (A:=Value) _ (fun a (s:Bool×Int×(List (List Int))) v=>[.own (aJ 22 (aJ 2 (aN .i64))) a s.2.2]) (fun a s v=>[(5,a),(7,.bool (s.1)),(11,.int .i64 (s.2.1))]) () [(2,_),(4,_),(8,_),(9,_),(10,_)]
  | apply Dk.de 8 (V:=Unit) (A:=Value) _ (fun a (s:Bool×Int×(List (List Int))) v=>[.own (aJ 22 (aJ 2 (aN .i64))) a s.2.2]) (fun a s v=>[(5,a),(7,.bool (s.1)),(12,.int .i64 (s.2.1))]) () [(2,_),(4,_),(8,_),(9,_),(10,_),(11,_)]
  | apply Dk.de 10 (V:=Value) (A:=Nat×Value×Value×Value×Value×Value×Value) (_,_,_,_,_,_,_) (fun a (s:Int×(List Int)) v=>Dk.pc (fun a0=>Dk.pc (fun a1=>Dk.pc (fun a2=>Dk.pc (fun a3=>Dk.pc (fun a4=>Dk.pc (fun a5 a6=>[.row a0 [a1,a2,a3,a4,a5,v,a6] 65,.own (aJ 2 (aN .i64)) v s.2])))))) a) (fun a s v=>Dk.pc (fun a0=>Dk.pc (fun a1=>Dk.pc (fun a2=>Dk.pc (fun a3=>Dk.pc (fun a4=>Dk.pc (fun a5 a6=>[(15,.pointer (some ⟨a0,0,none⟩)),(16,.int .i64 (s.1))])))))) a) _ [(2,_),(4,_),(5,_)]
  | apply Dk.loop 12 (V:=Unit) (fun (s:Int×Int) v=>[]) (fun s v=>[(17,.int .i64 (s.1)),(18,.int .i64 (s.2))]) () [(2,_),(4,_),(5,_),(15,_),(16,_)]
  | apply Dk.de 14 (V:=Value) (A:=Nat×Value×Value×Value×Value×Value×Value) (_,_,_,_,_,_,_) (fun a (s:Int×(List (List Int))) v=>Dk.pc (fun a0=>Dk.pc (fun a1=>Dk.pc (fun a2=>Dk.pc (fun a3=>Dk.pc (fun a4=>Dk.pc (fun a5 a6=>[.row a0 [a1,a2,a3,a4,a5,a6,v] 65,.own (aJ 22 (aJ 2 (aN .i64))) v s.2])))))) a) (fun a s v=>Dk.pc (fun a0=>Dk.pc (fun a1=>Dk.pc (fun a2=>Dk.pc (fun a3=>Dk.pc (fun a4=>Dk.pc (fun a5 a6=>[(15,.pointer (some ⟨a0,0,none⟩)),(19,.int .i64 (s.1))])))))) a) _ [(2,_),(4,_),(5,_)]
  | apply Dk.de 16 (V:=Unit) (A:=Value) _ (fun a (s:Int×(List Int)) v=>[.own (aJ 2 (aN .i64)) a s.2]) (fun a s v=>[(22,a),(23,.int .i64 (s.1))]) () [(2,_),(4,_),(5,_),(15,_),(19,_),(20,_),(21,_)]
  | apply Dk.quiet (id:=12) (by kernel_rfl)
  | apply Dk.quiet (id:=19) (by kernel_rfl)
  | apply Dk.quiet (id:=20) (by kernel_rfl)
  | apply Dk.quiet (id:=36) (by kernel_rfl)
  | apply Dk.any (id:=5) 12 [] [] [[],[],[1],[],[1,2,3],[1,2,3,4],[],[],[6,7],[6,7,8],[1,2,3,4,5,6,7,8,9],[1,2,3,4,5,6,7,8,9,10]] (by kernel_rfl)
  | apply Dk.any (id:=21) 17 [0,1] [[],[],[],[],[],[],[],[],[],[],[],[],[],[],[],[],[11,14]] [[],[],[],[2],[],[2,3,4],[2,3,4,5],[],[],[7,8],[7,8,9],[7,8,9,10],[],[],[12,13],[12,13,14],[7,8,9,10,11,12,13,14,15]] (by kernel_rfl)
  | apply Dk.any (id:=41) 22 [] [] [[],[],[],[1,2],[1,2,3],[],[1,2,3,4,5],[1,2,3,4,5,6],[],[],[8,9],[8,9,10],[],[12],[],[12,13,14],[12,13,14,15],[],[12,13,14,15,16,17],[12,13,14,15,16,17,18],[8,9,10,11,12,13,14,15,16,17,18,19],[8,9,10,11,12,13,14,15,16,17,18,19,20]] (by kernel_rfl)
  | apply agj
  | apply aga
  | apply Ep
  | exact ()
theorem agq {x0:aH} {bA bJ aT aR:Value} {x1:Int}:Ct Tryz.prog 264 true (kN x0 x1) [.agg #[.int .i64 (x0.aD),bA,bJ,aT,aR],.int .i64 (x1)] [rI bA x0.aG,rI bJ x0.To,rI aT x0.aI,rJ aR x0.aB] (fun y (v:Value×Value×Value×Value×Value×Value)=>[.agg #[.int .i64 y.aC.aD,v.1,v.2.1,v.2.2.1,v.2.2.2.1,v.2.2.2.2.1,v.2.2.2.2.2]]) (fun y v=>[.own (aJ 2 (aN .i64)) v.1 y.aC.aG,.own (aJ 2 (aN .i64)) v.2.1 y.aC.To,.own (aJ 2 (aN .i64)) v.2.2.1 y.aC.aI,.own (aJ 22 (aJ 2 (aN .i64))) v.2.2.2.1 y.aC.aB,.own (aJ 2 (aN .i64)) v.2.2.2.2.1 y.aP,.own (aJ 22 (aJ 2 (aN .i64))) v.2.2.2.2.2 y.aO]):=by
 refine ct (S:=Unit) (bx fun _ _=>rfl) Tryz.func264 rfl rfl ?_
 repeat' first
  | (apply Dk.fe; repeat' first | exact rfl | (refine @id.{0} _ ?_; constructor))
  | intro _
  | exact rfl
  | (refine @id.{0} _ ?_; constructor)
  | apply Dk.de 0 (V:=Value) (A:=Nat×Value×Value×Value×Value×Value×Value) (_,_,_,_,_,_,_) (fun a (s:Int×(List Int)) v=>Dk.pc (fun a0=>Dk.pc (fun a1=>Dk.pc (fun a2=>Dk.pc (fun a3=>Dk.pc (fun a4=>Dk.pc (fun a5 a6=>[.row a0 [a1,a2,a3,a4,a5,v,a6] 65,.own (aJ 2 (aN .i64)) v s.2])))))) a) (fun a s v=>Dk.pc (fun a0=>Dk.pc (fun a1=>Dk.pc (fun a2=>Dk.pc (fun a3=>Dk.pc (fun a4=>Dk.pc (fun a5 a6=>[(5,.pointer (some ⟨a0,0,none⟩)),(6,.int .i64 (s.1))])))))) a) _ [(1,_),(2,_),(4,_)]
  | apply Dk.de 2 (V:=Value) (A:=Nat×Value×Value×Value×Value×Value×Value) (_,_,_,_,_,_,_) (fun a (s:Int×(List (List Int))) v=>Dk.pc (fun a0=>Dk.pc (fun a1=>Dk.pc (fun a2=>Dk.pc (fun a3=>Dk.pc (fun a4=>Dk.pc (fun a5 a6=>[.row a0 [a1,a2,a3,a4,a5,a6,v] 65,.own (aJ 22 (aJ 2 (aN .i64))) v s.2])))))) a) (fun a s v=>Dk.pc (fun a0=>Dk.pc (fun a1=>Dk.pc (fun a2=>Dk.pc (fun a3=>Dk.pc (fun a4=>Dk.pc (fun a5 a6=>[(5,.pointer (some ⟨a0,0,none⟩)),(7,.int .i64 (s.1))])))))) a) _ [(1,_),(2,_),(4,_)]
  | apply Dk.loop 4 (V:=Value) (fun (s:(List Int)×Int) v=>[.own (aJ 2 (aN .i64)) v s.1]) (fun s v=>[(8,v),(9,.int .i64 (s.2))]) _ [(1,_),(2,_),(4,_),(5,_),(7,_)]
  | apply Ep
  | exact ()
theorem ags {x0:aL} {cX:Nat} {bN:Value} {x1:aH} {dC dQ cL bY:Value} {x2:Int}:Ct Tryz.prog 184 true (pC x0 x1 x2) [.pointer (some (⟨cX,0,none⟩)),.agg #[.int .i64 (x1.aD),dC,dQ,cL,bY],.int .i64 (x2)] [.row cX [bN,.int .i64 (x0.At),.int .u64 (x0.aj)] 194,.rd false (aV (aN .u8)) bN x0.Code,rI dC x1.aG,rI dQ x1.To,rI cL x1.aI,rJ bY x1.aB] (fun y (v:Value×Value×Value×Value×Value×Value)=>[.agg #[.int .i64 y.1.aC.aD,v.1,v.2.1,v.2.2.1,v.2.2.2.1,v.2.2.2.2.1,v.2.2.2.2.2]]) (fun y v=>[.own (aJ 2 (aN .i64)) v.1 y.1.aC.aG,.own (aJ 2 (aN .i64)) v.2.1 y.1.aC.To,.own (aJ 2 (aN .i64)) v.2.2.1 y.1.aC.aI,.own (aJ 22 (aJ 2 (aN .i64))) v.2.2.2.1 y.1.aC.aB,.own (aJ 2 (aN .i64)) v.2.2.2.2.1 y.1.aP,.own (aJ 22 (aJ 2 (aN .i64))) v.2.2.2.2.2 y.1.aO,.row cX [bN,.int .i64 y.2.At,.int .u64 y.2.aj] 194]):=by
 refine ct (S:=Unit) (bx fun _ _=>rfl) Tryz.func184 rfl rfl ?_
 repeat' first
  | (apply Dk.fe; repeat' first | exact rfl | (refine @id.{0} _ ?_; constructor))
  | intro _
  | exact rfl
  | apply Dk.KJ (d:=88)
  | apply Dk.Wt (d:=89)
  | apply Dk.Wu (e:=23) (t:=23)
  | (refine @id.{0} _ ?_; constructor)
  | apply Dk.loop 0 (V:=Unit) (fun (s:Int×Int×Int) v=>[.row cX [bN,.int .i64 (s.2.1),.int .u64 (s.2.2)] 194]) (fun s v=>[(7,.int .i64 (s.1))]) () [(0,_),(2,_),(4,_),(6,_)]
  | apply Dk.loop 2 (V:=Value) (fun (s:(List Int)×Int×Int×Int) v=>[.row cX [bN,.int .i64 (s.2.2.1),.int .u64 (s.2.2.2)] 194,.own (aJ 2 (aN .i64)) v s.1]) (fun s v=>[(8,v),(9,.int .i64 (s.2.1))]) _ [(0,_),(2,_),(4,_),(6,_),(7,_)]
  | apply Dk.de 4 (V:=Unit) (A:=Value) _ (fun a (s:Int×Int×Int×(List (List (List Int)))) v=>[.row cX [bN,.int .i64 (s.2.1),.int .u64 (s.2.2.1)] 194,.own (aJ 23 (aJ 22 (aJ 2 (aN .i64)))) a s.2.2.2]) (fun a s v=>[(11,a),(12,.int .i64 (s.1))]) () [(0,_),(2,_),(4,_),(6,_),(7,_),(10,_)]
  | apply Dk.loop 6 (V:=Unit) (fun (s:Bool×Int) v=>[]) (fun s v=>[(14,.bool (s.1)),(15,.int .i64 (s.2))]) () [(0,_),(2,_),(4,_),(6,_),(7,_),(10,_)]
  | apply Dk.ru (id:=16) [Dk.aq.row _ _ 194] 22 [0,1] [[],[],[],[],[],[],[],[],[],[],[],[],[25],[],[],[],[],[],[],[12],[],[]] [[],[],[],[],[2,3],[2,3,4],[],[],[7],[],[7,8,9],[7,8,9,10],[6,7,8,9,10,11],[],[],[14],[],[14,15,16],[14,15,16,17],[6,7,8,9,10,11,12,13,14,15,16,17,18],[6,7,8,9,10,11,13,14,15,16,17,18,19],[6,7,8,9,10,11,13,14,15,16,17,18,19,20]] (by kernel_rfl)
  | apply Dk.ru (id:=25) [Dk.aq.row _ _ 194] 6 [] [[],[],[],[],[],[8]] [[],[],[],[2],[2,3],[1,2,3,4]] (by kernel_rfl)
  | apply Al
  | apply ago
  | apply agp
  | apply agq
  | exact ()
end Go.Proofs.YtcnehblmgfbfoaaGreat
