/- Walks by the calculus D. No condition beside those that each theorem names. -/
import Derived.Test.YtgjbmjjihmfppaaGreatDi
import Derived.Test.YtgjbmjjihmfppaaGreatMo
import Derived.Test.YtgjbmjjihmfppaaGreatDp
import Derived.Test.YtgjbmjjihmfppaaGreatDs
import Derived.Test.YtgjbmjjihmfppaaGreatWb
import Derived.Test.YtgjbmjjihmfppaaGreatWd
import Derived.Test.YtgjbmjjihmfppaaGreatWe
import Derived.Test.YtgjbmjjihmfppaaGreatWf
import Derived.Test.YtgjbmjjihmfppaaGreatWg
import Derived.Test.YtgjbmjjihmfppaaGreatWh
namespace Go.Proofs.YtgjbmjjihmfppaaGreat
open Go Go.Li Go.Dk
set_option linter.unusedVariables false
set_option maxHeartbeats 16000000
set_option maxRecDepth 100000
theorem c64 {x0:(List aI)} {cY:Value}:Ct Tryz.prog 64 true (jI x0) [cY] [.rd false (aB (xc O2)) cY x0] (fun y (_:Unit)=>[.bool y]) (fun y _=>[]):=by
 refine ct (S:=Unit) (ca fun _ _=>rfl) Tryz.func64 rfl rfl ?_
 repeat' first
  | ((first | show Dk.ER _ _ _ | show Dk.ba _ _ | show Dk.EF _ _ _ | show Dk.EO _ _ _ | show Dk.EP _ _ | show Dk.aX _ _ _ _ | show Dk.aq _ _ _ _ | show Dk.Kp _ _ _ _ | show Dk.bn _ _ | show Dk.bb _ _ _ _); repeat' first | exact rfl | (refine @id.{0} _ ?_; constructor))
  | intro _
  | exact rfl
  | (refine @id.{0} _ ?_; constructor)
  | apply Dk.loop 0 (V:=Unit) (fun (s:Int) v=>[]) (fun s v=>[(7,.int .i64 (s))]) () [(5,_),(6,_)]
  | apply adv
  | exact ()
theorem Xc {x0:aM} {dE:Addr} {aU:Value} {aW:Value} {aR:Value} {aP:Value} {aV:Value} {aY:Value} {aS:Value} {aQ:Value} {bC:Value} {bF:Value}:Ct Tryz.prog 35 true (eK x0) [.pointer (some (dE))] [.au dE [.int .i64 (x0.aE.aA),aU,aW,aR,aP,.int .i64 (x0.aH.aA),aV,aY,aS,aQ,bC,bF],.rd false (aB (aC .i64)) aU x0.aE.aF,.rd false (aB (aC .i64)) aW x0.aE.To,.rd false (aB (aC .i64)) aR x0.aE.aJ,.rd false (aB (aB (aC .i64))) aP x0.aE.aD,.rd false (aB (aC .i64)) aV x0.aH.aF,.rd false (aB (aC .i64)) aY x0.aH.To,.rd false (aB (aC .i64)) aS x0.aH.aJ,.rd false (aB (aB (aC .i64))) aQ x0.aH.aD,.rd false (aB (aC .i64)) bC x0.aA,.rd false (aB (aC .i64)) bF x0.ab] (fun y (_:Unit)=>[.bool y]) (fun y _=>[]):=by
 refine ct (S:=Unit) (ca fun _ _=>rfl) Tryz.func35 rfl rfl ?_
 repeat' first
  | ((first | show Dk.ER _ _ _ | show Dk.ba _ _ | show Dk.EF _ _ _ | show Dk.EO _ _ _ | show Dk.EP _ _ | show Dk.aX _ _ _ _ | show Dk.aq _ _ _ _ | show Dk.Kp _ _ _ _ | show Dk.bn _ _ | show Dk.bb _ _ _ _); repeat' first | exact rfl | (refine @id.{0} _ ?_; constructor))
  | intro _
  | exact rfl
  | (refine @id.{0} _ ?_; constructor)
  | apply Dk.aau (id:=1) 7 [] [[],[0],[1,0],[],[3],[4,3],[2,1,0,5,4,3]] (by kernel_rfl)
  | apply c64
  | apply c65
  | exact ()
theorem Xd {x0:(List aM)} {cY:Value}:Ct Tryz.prog 52 true (fI x0) [cY] [.rd false (aB (xc Ht)) cY x0] (fun y (_:Unit)=>[.bool y]) (fun y _=>[]):=by
 refine ct (S:=Unit) (ca fun _ _=>rfl) Tryz.func52 rfl rfl ?_
 repeat' first
  | ((first | show Dk.ER _ _ _ | show Dk.ba _ _ | show Dk.EF _ _ _ | show Dk.EO _ _ _ | show Dk.EP _ _ | show Dk.aX _ _ _ _ | show Dk.aq _ _ _ _ | show Dk.Kp _ _ _ _ | show Dk.bn _ _ | show Dk.bb _ _ _ _); repeat' first | exact rfl | (refine @id.{0} _ ?_; constructor))
  | intro _
  | exact rfl
  | (refine @id.{0} _ ?_; constructor)
  | apply Dk.loop 0 (V:=Unit) (fun (s:Int) v=>[]) (fun s v=>[(7,.int .i64 (s))]) () [(5,_),(6,_)]
  | apply Xc
  | exact ()
theorem ZC {x0:aM} {dE:Addr} {aU:Value} {aW:Value} {aR:Value} {aP:Value} {aV:Value} {aY:Value} {aS:Value} {aQ:Value} {bC:Value} {bF:Value} {x1:aM} {rA:Addr} {bT:Value} {bZ:Value} {bI:Value} {bG:Value} {bU:Value} {cA:Value} {bJ:Value} {bH:Value} {cJ:Value} {cM:Value}:Ct Tryz.prog 56 true (iA x0 x1) [.pointer (some (dE)),.pointer (some (rA))] [.au rA [.int .i64 (x1.aE.aA),bT,bZ,bI,bG,.int .i64 (x1.aH.aA),bU,cA,bJ,bH,cJ,cM],.au dE [.int .i64 (x0.aE.aA),aU,aW,aR,aP,.int .i64 (x0.aH.aA),aV,aY,aS,aQ,bC,bF],.rd false (aB (aC .i64)) aU x0.aE.aF,.rd false (aB (aC .i64)) aW x0.aE.To,.rd false (aB (aC .i64)) aR x0.aE.aJ,.rd false (aB (aB (aC .i64))) aP x0.aE.aD,.rd false (aB (aC .i64)) aV x0.aH.aF,.rd false (aB (aC .i64)) aY x0.aH.To,.rd false (aB (aC .i64)) aS x0.aH.aJ,.rd false (aB (aB (aC .i64))) aQ x0.aH.aD,.rd false (aB (aC .i64)) bC x0.aA,.rd false (aB (aC .i64)) bF x0.ab,.rd false (aB (aC .i64)) bT x1.aE.aF,.rd false (aB (aC .i64)) bZ x1.aE.To,.rd false (aB (aC .i64)) bI x1.aE.aJ,.rd false (aB (aB (aC .i64))) bG x1.aE.aD,.rd false (aB (aC .i64)) bU x1.aH.aF,.rd false (aB (aC .i64)) cA x1.aH.To,.rd false (aB (aC .i64)) bJ x1.aH.aJ,.rd false (aB (aB (aC .i64))) bH x1.aH.aD,.rd false (aB (aC .i64)) cJ x1.aA,.rd false (aB (aC .i64)) cM x1.ab] (fun y (v:Value×Value×Value×Value×Value×Value×Value×Value×Value×Value)=>[.agg #[.int .i64 y.aE.aA,v.1,v.2.1,v.2.2.1,v.2.2.2.1,.int .i64 y.aH.aA,v.2.2.2.2.1,v.2.2.2.2.2.1,v.2.2.2.2.2.2.1,v.2.2.2.2.2.2.2.1,v.2.2.2.2.2.2.2.2.1,v.2.2.2.2.2.2.2.2.2]]) (fun y v=>[.own (aL 2 (aC .i64)) v.1 y.aE.aF,.own (aL 2 (aC .i64)) v.2.1 y.aE.To,.own (aL 2 (aC .i64)) v.2.2.1 y.aE.aJ,.own (aL 24 (aL 2 (aC .i64))) v.2.2.2.1 y.aE.aD,.own (aL 2 (aC .i64)) v.2.2.2.2.1 y.aH.aF,.own (aL 2 (aC .i64)) v.2.2.2.2.2.1 y.aH.To,.own (aL 2 (aC .i64)) v.2.2.2.2.2.2.1 y.aH.aJ,.own (aL 24 (aL 2 (aC .i64))) v.2.2.2.2.2.2.2.1 y.aH.aD,.own (aL 2 (aC .i64)) v.2.2.2.2.2.2.2.2.1 y.aA,.own (aL 2 (aC .i64)) v.2.2.2.2.2.2.2.2.2 y.ab]):=by
 refine ct (S:=Unit) (ca fun _ _=>rfl) Tryz.func56 rfl rfl ?_
 repeat' first
  | ((first | show Dk.ER _ _ _ | show Dk.ba _ _ | show Dk.EF _ _ _ | show Dk.EO _ _ _ | show Dk.EP _ _ | show Dk.aX _ _ _ _ | show Dk.aq _ _ _ _ | show Dk.Kp _ _ _ _ | show Dk.bn _ _ | show Dk.bb _ _ _ _); repeat' first | exact rfl | (refine @id.{0} _ ?_; constructor))
  | intro _
  | exact rfl
  | (refine @id.{0} _ ?_; constructor)
  | apply Dk.any (id:=1) 24 [] [] [[],[0],[1,0],[],[3],[4,3],[],[6],[7,6],[8,7,6],[],[10],[11,10],[12,11,10],[9,8,7,6,13,12,11,10],[],[15],[16,15],[17,16,15],[],[19],[20,19],[21,20,19],[18,17,16,15,22,21,20,19,14,9,8,7,6,13,12,11,10]] (by kernel_rfl)
  | apply Zy
  | apply ZB
  | exact ()
theorem Ye {x0:aM} {p:Addr} {lz l3 l4 l5 l6 l7 l8 l9 uo ua:Value}:Ct Tryz.prog 76 false (fH x0) [.pointer (some p)] [.au p [.int .i64 x0.aE.aA,lz,l3,l4,l5,.int .i64 x0.aH.aA,l6,l7,l8,l9,uo,ua],.rd false (aB (aC .i64)) lz x0.aE.aF,.rd false (aB (aC .i64)) l3 x0.aE.To,.rd false (aB (aC .i64)) l4 x0.aE.aJ,.rd false (aB (aB (aC .i64))) l5 x0.aE.aD,.rd false (aB (aC .i64)) l6 x0.aH.aF,.rd false (aB (aC .i64)) l7 x0.aH.To,.rd false (aB (aC .i64)) l8 x0.aH.aJ,.rd false (aB (aB (aC .i64))) l9 x0.aH.aD,.rd false (aB (aC .i64)) uo x0.aA,.rd false (aB (aC .i64)) ua x0.ab] (fun y (v:Value)=>[v,.bool y.2]) (fun y v=>[.rd false (aB (iy kz)) v y.1]):=by
 refine ct (S:=Unit) tZ Tryz.func76 rfl rfl ?_
 repeat' first
  | ((first | show Dk.ER _ _ _ | show Dk.ba _ _ | show Dk.EF _ _ _ | show Dk.EO _ _ _ | show Dk.EP _ _ | show Dk.aX _ _ _ _ | show Dk.aq _ _ _ _ | show Dk.Kp _ _ _ _ | show Dk.bn _ _ | show Dk.bb _ _ _ _); repeat' first | exact rfl | (refine @id.{0} _ ?_; constructor))
  | intro _
  | exact rfl
  | apply Dk.UK (t:=83) (S:=qt)
  | (refine @id.{0} _ ?_; constructor)
  | apply Dk.MP 0 (V:=Value) (W:=Nat) (A:=Nat) _ (fun a (s:Int×List bE) v b=>[.row a [v] 83,.own (aL 32 qt) v s.2,.row b [.int .i64 s.1] 2]) (fun a s v b=>[(4,.pointer (some ⟨a,0,none⟩)),(5,.pointer (some ⟨b,0,none⟩))]) _ _ [(0,_)]
  | apply Dk.quiet (id:=3) (by kernel_rfl)
  | apply Xb
  | exact ()
theorem Xe {x0:aM} {p:Addr} {lz l3 l4 l5 l6 l7 l8 l9 uo ua:Value}:Ct Tryz.prog 76 true (fH x0) [.pointer (some p)] [.au p [.int .i64 x0.aE.aA,lz,l3,l4,l5,.int .i64 x0.aH.aA,l6,l7,l8,l9,uo,ua],.rd false (aB (aC .i64)) lz x0.aE.aF,.rd false (aB (aC .i64)) l3 x0.aE.To,.rd false (aB (aC .i64)) l4 x0.aE.aJ,.rd false (aB (aB (aC .i64))) l5 x0.aE.aD,.rd false (aB (aC .i64)) l6 x0.aH.aF,.rd false (aB (aC .i64)) l7 x0.aH.To,.rd false (aB (aC .i64)) l8 x0.aH.aJ,.rd false (aB (aB (aC .i64))) l9 x0.aH.aD,.rd false (aB (aC .i64)) uo x0.aA,.rd false (aB (aC .i64)) ua x0.ab] (fun y (v:Value)=>[v,.bool y.2]) (fun y v=>[.own (aL 32 qt) v y.1]):=by
 refine ct (S:=Unit) (ca fun _ _=>rfl) Tryz.func76 rfl rfl ?_
 repeat' first
  | ((first | show Dk.ER _ _ _ | show Dk.ba _ _ | show Dk.EF _ _ _ | show Dk.EO _ _ _ | show Dk.EP _ _ | show Dk.aX _ _ _ _ | show Dk.aq _ _ _ _ | show Dk.Kp _ _ _ _ | show Dk.bn _ _ | show Dk.bb _ _ _ _); repeat' first | exact rfl | (refine @id.{0} _ ?_; constructor))
  | intro _
  | exact rfl
  | apply Dk.UK (t:=83) (S:=qt)
  | (refine @id.{0} _ ?_; constructor)
  | apply Dk.MP 0 (V:=Value) (W:=Nat) (A:=Nat) _ (fun a (s:Int×List bE) v b=>[.row a [v] 83,.own (aL 32 qt) v s.2,.row b [.int .i64 s.1] 2]) (fun a s v b=>[(4,.pointer (some ⟨a,0,none⟩)),(5,.pointer (some ⟨b,0,none⟩))]) _ _ [(0,_)]
  | apply Dk.quiet (id:=3) (by kernel_rfl)
  | apply Xb
  | exact ()
theorem adF {x0 x1:aM} {p q:Addr} {lz l3 l4 l5 l6 l7 l8 l9 uo ua AU AV AW AX AY AZ A0 A3 wo wa:Value}:Ct Tryz.prog 124 false (pA x0 x1) [.pointer (some p),.pointer (some q)] [.au p [.int .i64 x0.aE.aA,lz,l3,l4,l5,.int .i64 x0.aH.aA,l6,l7,l8,l9,uo,ua],.au q [.int .i64 x1.aE.aA,AU,AV,AW,AX,.int .i64 x1.aH.aA,AY,AZ,A0,A3,wo,wa],.rd false (aB (aC .i64)) lz x0.aE.aF,.rd false (aB (aC .i64)) l3 x0.aE.To,.rd false (aB (aC .i64)) l4 x0.aE.aJ,.rd false (aB (aB (aC .i64))) l5 x0.aE.aD,.rd false (aB (aC .i64)) l6 x0.aH.aF,.rd false (aB (aC .i64)) l7 x0.aH.To,.rd false (aB (aC .i64)) l8 x0.aH.aJ,.rd false (aB (aB (aC .i64))) l9 x0.aH.aD,.rd false (aB (aC .i64)) uo x0.aA,.rd false (aB (aC .i64)) ua x0.ab,.rd false (aB (aC .i64)) AU x1.aE.aF,.rd false (aB (aC .i64)) AV x1.aE.To,.rd false (aB (aC .i64)) AW x1.aE.aJ,.rd false (aB (aB (aC .i64))) AX x1.aE.aD,.rd false (aB (aC .i64)) AY x1.aH.aF,.rd false (aB (aC .i64)) AZ x1.aH.To,.rd false (aB (aC .i64)) A0 x1.aH.aJ,.rd false (aB (aB (aC .i64))) A3 x1.aH.aD,.rd false (aB (aC .i64)) wo x1.aA,.rd false (aB (aC .i64)) wa x1.ab] (fun y (v:Nat×Value×Value×Value×Value×Value×Value×Value×Value×Value×Value×Value×Value)=>[.pointer (some ⟨v.1,0,none⟩),.bool y.2]) (fun y v=>[.au ⟨v.1,0,none⟩ [.int .i64 y.1.D.aE.aA,lz,l3,l4,l5,.int .i64 y.1.D.aH.aA,l6,l7,l8,l9,uo,ua,.int .i64 y.1.cq.aE.aA,v.2.1,v.2.2.1,v.2.2.2.1,v.2.2.2.2.1,.int .i64 y.1.cq.aH.aA,v.2.2.2.2.2.1,v.2.2.2.2.2.2.1,v.2.2.2.2.2.2.2.1,v.2.2.2.2.2.2.2.2.1,v.2.2.2.2.2.2.2.2.2.1,v.2.2.2.2.2.2.2.2.2.2.1,.pointer (some q),v.2.2.2.2.2.2.2.2.2.2.2.1,v.2.2.2.2.2.2.2.2.2.2.2.2],.rd false (aB (aC .i64)) lz y.1.D.aE.aF,.rd false (aB (aC .i64)) l3 y.1.D.aE.To,.rd false (aB (aC .i64)) l4 y.1.D.aE.aJ,.rd false (aB (aB (aC .i64))) l5 y.1.D.aE.aD,.rd false (aB (aC .i64)) l6 y.1.D.aH.aF,.rd false (aB (aC .i64)) l7 y.1.D.aH.To,.rd false (aB (aC .i64)) l8 y.1.D.aH.aJ,.rd false (aB (aB (aC .i64))) l9 y.1.D.aH.aD,.rd false (aB (aC .i64)) uo y.1.D.aA,.rd false (aB (aC .i64)) ua y.1.D.ab,.rd false (aB (aC .i64)) v.2.1 y.1.cq.aE.aF,.rd false (aB (aC .i64)) v.2.2.1 y.1.cq.aE.To,.rd false (aB (aC .i64)) v.2.2.2.1 y.1.cq.aE.aJ,.rd false (aB (aB (aC .i64))) v.2.2.2.2.1 y.1.cq.aE.aD,.rd false (aB (aC .i64)) v.2.2.2.2.2.1 y.1.cq.aH.aF,.rd false (aB (aC .i64)) v.2.2.2.2.2.2.1 y.1.cq.aH.To,.rd false (aB (aC .i64)) v.2.2.2.2.2.2.2.1 y.1.cq.aH.aJ,.rd false (aB (aB (aC .i64))) v.2.2.2.2.2.2.2.2.1 y.1.cq.aH.aD,.rd false (aB (aC .i64)) v.2.2.2.2.2.2.2.2.2.1 y.1.cq.aA,.rd false (aB (aC .i64)) v.2.2.2.2.2.2.2.2.2.2.1 y.1.cq.ab,.au q [.int .i64 y.1.F.aE.aA,AU,AV,AW,AX,.int .i64 y.1.F.aH.aA,AY,AZ,A0,A3,wo,wa],.rd false (aB (aC .i64)) AU y.1.F.aE.aF,.rd false (aB (aC .i64)) AV y.1.F.aE.To,.rd false (aB (aC .i64)) AW y.1.F.aE.aJ,.rd false (aB (aB (aC .i64))) AX y.1.F.aE.aD,.rd false (aB (aC .i64)) AY y.1.F.aH.aF,.rd false (aB (aC .i64)) AZ y.1.F.aH.To,.rd false (aB (aC .i64)) A0 y.1.F.aH.aJ,.rd false (aB (aB (aC .i64))) A3 y.1.F.aH.aD,.rd false (aB (aC .i64)) wo y.1.F.aA,.rd false (aB (aC .i64)) wa y.1.F.ab,.rd false (aB (iy kz)) v.2.2.2.2.2.2.2.2.2.2.2.1 y.1.FE,.rd false (aB (iy kz)) v.2.2.2.2.2.2.2.2.2.2.2.2 y.1.ED]):=by
 refine ct (S:=Unit) tZ Tryz.func124 rfl rfl ?_
 repeat' first
  | ((first | show Dk.ER _ _ _ | show Dk.ba _ _ | show Dk.EF _ _ _ | show Dk.EO _ _ _ | show Dk.EP _ _ | show Dk.aX _ _ _ _ | show Dk.aq _ _ _ _ | show Dk.Kp _ _ _ _ | show Dk.bn _ _ | show Dk.bb _ _ _ _); repeat' first | exact rfl | (refine @id.{0} _ ?_; constructor))
  | intro _
  | exact rfl
  | apply Dk.rgs
  | (apply Dk.UY (c:=.ret) (e:=116); · (repeat (first | exact Dk.dp.row | apply Dk.dp.there)))
  | (refine @id.{0} _ ?_; constructor)
  | apply Dk.any (id:=1) 7 [] [] [[],[0],[1,0],[],[],[3,4],[]] (by kernel_rfl)
  | apply ZC
  | apply Xe
  | exact ()
theorem c84 {x0 x1:aM} {p q:Addr} {lz l3 l4 l5 l6 l7 l8 l9 uo ua AU AV AW AX AY AZ A0 A3 wo wa:Value}:Ct Tryz.prog 84 false (pW x0 x1 false) [.pointer (some p),.pointer (some q),.bool false] [.au p [.int .i64 x0.aE.aA,lz,l3,l4,l5,.int .i64 x0.aH.aA,l6,l7,l8,l9,uo,ua],.au q [.int .i64 x1.aE.aA,AU,AV,AW,AX,.int .i64 x1.aH.aA,AY,AZ,A0,A3,wo,wa],.rd false (aB (aC .i64)) lz x0.aE.aF,.rd false (aB (aC .i64)) l3 x0.aE.To,.rd false (aB (aC .i64)) l4 x0.aE.aJ,.rd false (aB (aB (aC .i64))) l5 x0.aE.aD,.rd false (aB (aC .i64)) l6 x0.aH.aF,.rd false (aB (aC .i64)) l7 x0.aH.To,.rd false (aB (aC .i64)) l8 x0.aH.aJ,.rd false (aB (aB (aC .i64))) l9 x0.aH.aD,.rd false (aB (aC .i64)) uo x0.aA,.rd false (aB (aC .i64)) ua x0.ab,.rd false (aB (aC .i64)) AU x1.aE.aF,.rd false (aB (aC .i64)) AV x1.aE.To,.rd false (aB (aC .i64)) AW x1.aE.aJ,.rd false (aB (aB (aC .i64))) AX x1.aE.aD,.rd false (aB (aC .i64)) AY x1.aH.aF,.rd false (aB (aC .i64)) AZ x1.aH.To,.rd false (aB (aC .i64)) A0 x1.aH.aJ,.rd false (aB (aB (aC .i64))) A3 x1.aH.aD,.rd false (aB (aC .i64)) wo x1.aA,.rd false (aB (aC .i64)) wa x1.ab] (fun y (v:Nat×Value×Value×Value×Value×Value×Value×Value×Value×Value×Value×Value×Value)=>[(match y.1 with | none=>Value.pointer none | some _=>.pointer (some ⟨v.1,0,none⟩)),.int .i64 y.2]) (fun y v=>match y.1 with | none=>[] | some m=>[.au ⟨v.1,0,none⟩ [.int .i64 m.D.aE.aA,lz,l3,l4,l5,.int .i64 m.D.aH.aA,l6,l7,l8,l9,uo,ua,.int .i64 m.cq.aE.aA,v.2.1,v.2.2.1,v.2.2.2.1,v.2.2.2.2.1,.int .i64 m.cq.aH.aA,v.2.2.2.2.2.1,v.2.2.2.2.2.2.1,v.2.2.2.2.2.2.2.1,v.2.2.2.2.2.2.2.2.1,v.2.2.2.2.2.2.2.2.2.1,v.2.2.2.2.2.2.2.2.2.2.1,.pointer (some q),v.2.2.2.2.2.2.2.2.2.2.2.1,v.2.2.2.2.2.2.2.2.2.2.2.2],.rd false (aB (aC .i64)) lz m.D.aE.aF,.rd false (aB (aC .i64)) l3 m.D.aE.To,.rd false (aB (aC .i64)) l4 m.D.aE.aJ,.rd false (aB (aB (aC .i64))) l5 m.D.aE.aD,.rd false (aB (aC .i64)) l6 m.D.aH.aF,.rd false (aB (aC .i64)) l7 m.D.aH.To,.rd false (aB (aC .i64)) l8 m.D.aH.aJ,.rd false (aB (aB (aC .i64))) l9 m.D.aH.aD,.rd false (aB (aC .i64)) uo m.D.aA,.rd false (aB (aC .i64)) ua m.D.ab,.rd false (aB (aC .i64)) v.2.1 m.cq.aE.aF,.rd false (aB (aC .i64)) v.2.2.1 m.cq.aE.To,.rd false (aB (aC .i64)) v.2.2.2.1 m.cq.aE.aJ,.rd false (aB (aB (aC .i64))) v.2.2.2.2.1 m.cq.aE.aD,.rd false (aB (aC .i64)) v.2.2.2.2.2.1 m.cq.aH.aF,.rd false (aB (aC .i64)) v.2.2.2.2.2.2.1 m.cq.aH.To,.rd false (aB (aC .i64)) v.2.2.2.2.2.2.2.1 m.cq.aH.aJ,.rd false (aB (aB (aC .i64))) v.2.2.2.2.2.2.2.2.1 m.cq.aH.aD,.rd false (aB (aC .i64)) v.2.2.2.2.2.2.2.2.2.1 m.cq.aA,.rd false (aB (aC .i64)) v.2.2.2.2.2.2.2.2.2.2.1 m.cq.ab,.au q [.int .i64 m.F.aE.aA,AU,AV,AW,AX,.int .i64 m.F.aH.aA,AY,AZ,A0,A3,wo,wa],.rd false (aB (aC .i64)) AU m.F.aE.aF,.rd false (aB (aC .i64)) AV m.F.aE.To,.rd false (aB (aC .i64)) AW m.F.aE.aJ,.rd false (aB (aB (aC .i64))) AX m.F.aE.aD,.rd false (aB (aC .i64)) AY m.F.aH.aF,.rd false (aB (aC .i64)) AZ m.F.aH.To,.rd false (aB (aC .i64)) A0 m.F.aH.aJ,.rd false (aB (aB (aC .i64))) A3 m.F.aH.aD,.rd false (aB (aC .i64)) wo m.F.aA,.rd false (aB (aC .i64)) wa m.F.ab,.rd false (aB (iy kz)) v.2.2.2.2.2.2.2.2.2.2.2.1 m.FE,.rd false (aB (iy kz)) v.2.2.2.2.2.2.2.2.2.2.2.2 m.ED]):=by
 refine ct (S:=Unit) tZ Tryz.func84 rfl rfl ?_
 repeat' first
  | ((first | show Dk.ER _ _ _ | show Dk.ba _ _ | show Dk.EF _ _ _ | show Dk.EO _ _ _ | show Dk.EP _ _ | show Dk.aX _ _ _ _ | show Dk.aq _ _ _ _ | show Dk.Kp _ _ _ _ | show Dk.bn _ _ | show Dk.bb _ _ _ _); repeat' first | exact rfl | (refine @id.{0} _ ?_; constructor))
  | intro _
  | exact rfl
  | (refine @id.{0} _ ?_; constructor)
  | apply Dk.quiet (id:=3) (by kernel_rfl)
  | apply Xd
  | apply W2
  | apply adF
  | exact ()
 all_goals try first | exact Value.nilFunc | exact (0:Nat)
theorem c66 {x0:aM} {dE:Addr} {aU:Value} {aW:Value} {aR:Value} {aP:Value} {aV:Value} {aY:Value} {aS:Value} {aQ:Value} {bC:Value} {bF:Value} {x1:Int}:Ct Tryz.prog 66 false (qD x0 x1) [.pointer (some (dE)),.int .i64 (x1)] [.au dE [.int .i64 (x0.aE.aA),aU,aW,aR,aP,.int .i64 (x0.aH.aA),aV,aY,aS,aQ,bC,bF],.rd false (aB (aC .i64)) aU x0.aE.aF,.rd false (aB (aC .i64)) aW x0.aE.To,.rd false (aB (aC .i64)) aR x0.aE.aJ,.rd false (aB (aB (aC .i64))) aP x0.aE.aD,.rd false (aB (aC .i64)) aV x0.aH.aF,.rd false (aB (aC .i64)) aY x0.aH.To,.rd false (aB (aC .i64)) aS x0.aH.aJ,.rd false (aB (aB (aC .i64))) aQ x0.aH.aD,.rd false (aB (aC .i64)) bC x0.aA,.rd false (aB (aC .i64)) bF x0.ab] (fun y (v:Value)=>[v,.bool y.2]) (fun y v=>[.rd false (aB (iy kz)) v y.1]):=by
 refine ct (S:=Unit) tZ Tryz.func66 rfl rfl ?_
 repeat' first
  | ((first | show Dk.ER _ _ _ | show Dk.ba _ _ | show Dk.EF _ _ _ | show Dk.EO _ _ _ | show Dk.EP _ _ | show Dk.aX _ _ _ _ | show Dk.aq _ _ _ _ | show Dk.Kp _ _ _ _ | show Dk.bn _ _ | show Dk.bb _ _ _ _); repeat' first | exact rfl | (refine @id.{0} _ ?_; constructor))
  | intro _
  | exact rfl
  | apply Ye
  | apply Dk.Q7 (t:=83) (S:=kz)
  | apply Dk.UE (t:=83) (x:=.tmp 25)
  | apply Dk.Q9 (t:=83) (bE.mk _ _)
  | (refine @id.{0} _ ?_; constructor)
  | apply Dk.vB 0 (V:=Value) (W:=List (List Value)) (fun (s:List bE×Int) v u=>[.own (aL 32 (ij 2)) v u,.rd false (tn kz) (.bool true) (u,s.1)]) (fun s v u=>[(8,v),(21,.int .i64 s.2)]) _ _ [(0,_),(1,_),(6,_),(19,_),(20,_)]
  | apply Xe
  | apply RN
  | exact ()
theorem c36 {x0:aM} {dE:Addr} {aU:Value} {aW:Value} {aR:Value} {aP:Value} {aV:Value} {aY:Value} {aS:Value} {aQ:Value} {bC:Value} {bF:Value}:Ct Tryz.prog 36 false (qS x0) [.pointer (some (dE))] [.au dE [.int .i64 (x0.aE.aA),aU,aW,aR,aP,.int .i64 (x0.aH.aA),aV,aY,aS,aQ,bC,bF],.rd false (aB (aC .i64)) aU x0.aE.aF,.rd false (aB (aC .i64)) aW x0.aE.To,.rd false (aB (aC .i64)) aR x0.aE.aJ,.rd false (aB (aB (aC .i64))) aP x0.aE.aD,.rd false (aB (aC .i64)) aV x0.aH.aF,.rd false (aB (aC .i64)) aY x0.aH.To,.rd false (aB (aC .i64)) aS x0.aH.aJ,.rd false (aB (aB (aC .i64))) aQ x0.aH.aD,.rd false (aB (aC .i64)) bC x0.aA,.rd false (aB (aC .i64)) bF x0.ab] (fun y (v:Value)=>[.agg #[.int .i64 y.1.fv,v],.int .i64 y.2]) (fun y v=>[.rd false (aB (aC .i64)) v y.1.bw]):=by
 refine ct (S:=Unit) tZ Tryz.func36 rfl rfl ?_
 repeat' first
  | ((first | show Dk.ER _ _ _ | show Dk.ba _ _ | show Dk.EF _ _ _ | show Dk.EO _ _ _ | show Dk.EP _ _ | show Dk.aX _ _ _ _ | show Dk.aq _ _ _ _ | show Dk.Kp _ _ _ _ | show Dk.bn _ _ | show Dk.bb _ _ _ _); repeat' first | exact rfl | (refine @id.{0} _ ?_; constructor))
  | intro _
  | exact rfl
  | (refine @id.{0} _ ?_; constructor)
  | apply c66
  | exact ()
theorem c14 {x0:aM} {aU:Value} {aW:Value} {aR:Value} {aP:Value} {aV:Value} {aY:Value} {aS:Value} {aQ:Value} {bC:Value} {bF:Value}:Ct Tryz.prog 14 false (pM x0) [.agg #[.int .i64 (x0.aE.aA),aU,aW,aR,aP,.int .i64 (x0.aH.aA),aV,aY,aS,aQ,bC,bF]] [.rd false (aB (aC .i64)) aU x0.aE.aF,.rd false (aB (aC .i64)) aW x0.aE.To,.rd false (aB (aC .i64)) aR x0.aE.aJ,.rd false (aB (aB (aC .i64))) aP x0.aE.aD,.rd false (aB (aC .i64)) aV x0.aH.aF,.rd false (aB (aC .i64)) aY x0.aH.To,.rd false (aB (aC .i64)) aS x0.aH.aJ,.rd false (aB (aB (aC .i64))) aQ x0.aH.aD,.rd false (aB (aC .i64)) bC x0.aA,.rd false (aB (aC .i64)) bF x0.ab] (fun y (v:Value)=>[.agg #[.int .i64 y.1.fv,v],.int .i64 y.2]) (fun y v=>[.rd false (aB (aC .i64)) v y.1.bw]):=by
 refine ct (S:=Unit) tZ Tryz.func14 rfl rfl ?_
 repeat' first
  | ((first | show Dk.ER _ _ _ | show Dk.ba _ _ | show Dk.EF _ _ _ | show Dk.EO _ _ _ | show Dk.EP _ _ | show Dk.aX _ _ _ _ | show Dk.aq _ _ _ _ | show Dk.Kp _ _ _ _ | show Dk.bn _ _ | show Dk.bb _ _ _ _); repeat' first | exact rfl | (refine @id.{0} _ ?_; constructor))
  | intro _
  | exact rfl
  | (apply Dk.UY (e:=29); · (repeat (first | exact Dk.dp.row | apply Dk.dp.there)))
  | (apply Dk.X2 (e:=29); · (repeat (first | exact Dk.dp.row | apply Dk.dp.there)))
  | (refine @id.{0} _ ?_; constructor)
  | apply Xc
  | apply c36
  | exact ()
theorem c27 {x0:aM} {aU:Value} {aW:Value} {aR:Value} {aP:Value} {aV:Value} {aY:Value} {aS:Value} {aQ:Value} {bC:Value} {bF:Value} {x1:bE} {eZ:Value} {x2:aM} {iZ:Value} {kL:Value} {fY:Value} {fF:Value} {jA:Value} {kM:Value} {fZ:Value} {fG:Value} {mH:Value} {nD:Value}:Ct Tryz.prog 27 true (kK x0 x1 x2) [.agg #[.int .i64 (x0.aE.aA),aU,aW,aR,aP,.int .i64 (x0.aH.aA),aV,aY,aS,aQ,bC,bF],.agg #[.int .i64 (x1.fv),eZ],.agg #[.int .i64 (x2.aE.aA),iZ,kL,fY,fF,.int .i64 (x2.aH.aA),jA,kM,fZ,fG,mH,nD]] [.rd false (aB (aC .i64)) aU x0.aE.aF,.rd false (aB (aC .i64)) aW x0.aE.To,.rd false (aB (aC .i64)) aR x0.aE.aJ,.rd false (aB (aB (aC .i64))) aP x0.aE.aD,.rd false (aB (aC .i64)) aV x0.aH.aF,.rd false (aB (aC .i64)) aY x0.aH.To,.rd false (aB (aC .i64)) aS x0.aH.aJ,.rd false (aB (aB (aC .i64))) aQ x0.aH.aD,.rd false (aB (aC .i64)) bC x0.aA,.rd false (aB (aC .i64)) bF x0.ab,.rd false (aB (aC .i64)) eZ x1.bw,.rd false (aB (aC .i64)) iZ x2.aE.aF,.rd false (aB (aC .i64)) kL x2.aE.To,.rd false (aB (aC .i64)) fY x2.aE.aJ,.rd false (aB (aB (aC .i64))) fF x2.aE.aD,.rd false (aB (aC .i64)) jA x2.aH.aF,.rd false (aB (aC .i64)) kM x2.aH.To,.rd false (aB (aC .i64)) fZ x2.aH.aJ,.rd false (aB (aB (aC .i64))) fG x2.aH.aD,.rd false (aB (aC .i64)) mH x2.aA,.rd false (aB (aC .i64)) nD x2.ab] (fun y (v:Value)=>[.agg #[.int .i64 y.1.fv,v],.int .i64 y.2]) (fun y v=>[.own (aL 2 (aC .i64)) v y.1.bw]):=by
 refine ct (S:=Unit) (ca fun _ _=>rfl) Tryz.func27 rfl rfl ?_
 repeat' first
  | ((first | show Dk.ER _ _ _ | show Dk.ba _ _ | show Dk.EF _ _ _ | show Dk.EO _ _ _ | show Dk.EP _ _ | show Dk.aX _ _ _ _ | show Dk.aq _ _ _ _ | show Dk.Kp _ _ _ _ | show Dk.bn _ _ | show Dk.bb _ _ _ _); repeat' first | exact rfl | (refine @id.{0} _ ?_; constructor))
  | intro _
  | exact rfl
  | (refine @id.{0} _ ?_; constructor)
  | apply Xd
  | apply ZA
  | apply W2
  | apply Zz
  | exact ()
theorem c28 {x0:aM} {aU:Value} {aW:Value} {aR:Value} {aP:Value} {aV:Value} {aY:Value} {aS:Value} {aQ:Value} {bC:Value} {bF:Value} {x1:aM} {bT:Value} {bZ:Value} {bI:Value} {bG:Value} {bU:Value} {cA:Value} {bJ:Value} {bH:Value} {cJ:Value} {cM:Value}:Ct Tryz.prog 28 true (iD x0 x1) [.agg #[.int .i64 (x0.aE.aA),aU,aW,aR,aP,.int .i64 (x0.aH.aA),aV,aY,aS,aQ,bC,bF],.agg #[.int .i64 (x1.aE.aA),bT,bZ,bI,bG,.int .i64 (x1.aH.aA),bU,cA,bJ,bH,cJ,cM]] [.rd false (aB (aC .i64)) aU x0.aE.aF,.rd false (aB (aC .i64)) aW x0.aE.To,.rd false (aB (aC .i64)) aR x0.aE.aJ,.rd false (aB (aB (aC .i64))) aP x0.aE.aD,.rd false (aB (aC .i64)) aV x0.aH.aF,.rd false (aB (aC .i64)) aY x0.aH.To,.rd false (aB (aC .i64)) aS x0.aH.aJ,.rd false (aB (aB (aC .i64))) aQ x0.aH.aD,.rd false (aB (aC .i64)) bC x0.aA,.rd false (aB (aC .i64)) bF x0.ab,.rd false (aB (aC .i64)) bT x1.aE.aF,.rd false (aB (aC .i64)) bZ x1.aE.To,.rd false (aB (aC .i64)) bI x1.aE.aJ,.rd false (aB (aB (aC .i64))) bG x1.aE.aD,.rd false (aB (aC .i64)) bU x1.aH.aF,.rd false (aB (aC .i64)) cA x1.aH.To,.rd false (aB (aC .i64)) bJ x1.aH.aJ,.rd false (aB (aB (aC .i64))) bH x1.aH.aD,.rd false (aB (aC .i64)) cJ x1.aA,.rd false (aB (aC .i64)) cM x1.ab] (fun y (v:Value×Value×Value×Value×Value×Value×Value×Value×Value×Value)=>[.agg #[.int .i64 y.1.aE.aA,v.1,v.2.1,v.2.2.1,v.2.2.2.1,.int .i64 y.1.aH.aA,v.2.2.2.2.1,v.2.2.2.2.2.1,v.2.2.2.2.2.2.1,v.2.2.2.2.2.2.2.1,v.2.2.2.2.2.2.2.2.1,v.2.2.2.2.2.2.2.2.2],.int .i64 y.2]) (fun y v=>[.own (aL 2 (aC .i64)) v.1 y.1.aE.aF,.own (aL 2 (aC .i64)) v.2.1 y.1.aE.To,.own (aL 2 (aC .i64)) v.2.2.1 y.1.aE.aJ,.own (aL 24 (aL 2 (aC .i64))) v.2.2.2.1 y.1.aE.aD,.own (aL 2 (aC .i64)) v.2.2.2.2.1 y.1.aH.aF,.own (aL 2 (aC .i64)) v.2.2.2.2.2.1 y.1.aH.To,.own (aL 2 (aC .i64)) v.2.2.2.2.2.2.1 y.1.aH.aJ,.own (aL 24 (aL 2 (aC .i64))) v.2.2.2.2.2.2.2.1 y.1.aH.aD,.own (aL 2 (aC .i64)) v.2.2.2.2.2.2.2.2.1 y.1.aA,.own (aL 2 (aC .i64)) v.2.2.2.2.2.2.2.2.2 y.1.ab]):=by
 refine ct (S:=Unit) (ca fun _ _=>rfl) Tryz.func28 rfl rfl ?_
 repeat' first
  | ((first | show Dk.ER _ _ _ | show Dk.ba _ _ | show Dk.EF _ _ _ | show Dk.EO _ _ _ | show Dk.EP _ _ | show Dk.aX _ _ _ _ | show Dk.aq _ _ _ _ | show Dk.Kp _ _ _ _ | show Dk.bn _ _ | show Dk.bb _ _ _ _); repeat' first | exact rfl | (refine @id.{0} _ ?_; constructor))
  | intro _
  | exact rfl
  | (refine @id.{0} _ ?_; constructor)
  | apply Xd
  | apply W2
  | apply ZC
  | exact ()
theorem c43 {x0:qE} {rQ:Addr} {dG:Value} {dQ:Value} {cT:Value} {cR:Value} {dH:Value} {dR:Value} {cU:Value} {cS:Value} {dU:Value} {dY:Value} {x1:bE} {eZ:Value}:Ct Tryz.prog 43 true (mP x0 x1) [.iface 130 (.agg #[.pointer (some (rQ))]),.agg #[.int .i64 (x1.fv),eZ]] [.au rQ [.int .i64 (x0.D.aE.aA),dG,dQ,cT,cR,.int .i64 (x0.D.aH.aA),dH,dR,cU,cS,dU,dY],.rd false (aB (aC .i64)) dG x0.D.aE.aF,.rd false (aB (aC .i64)) dQ x0.D.aE.To,.rd false (aB (aC .i64)) cT x0.D.aE.aJ,.rd false (aB (aB (aC .i64))) cR x0.D.aE.aD,.rd false (aB (aC .i64)) dH x0.D.aH.aF,.rd false (aB (aC .i64)) dR x0.D.aH.To,.rd false (aB (aC .i64)) cU x0.D.aH.aJ,.rd false (aB (aB (aC .i64))) cS x0.D.aH.aD,.rd false (aB (aC .i64)) dU x0.D.aA,.rd false (aB (aC .i64)) dY x0.D.ab,.rd false (aB (aC .i64)) eZ x1.bw] (fun y (_:Unit)=>[.bool y.1,.int .i64 y.2]) (fun y _=>[]):=by
 refine ct (S:=Unit) (ca fun _ _=>rfl) Tryz.func43 rfl rfl ?_
 repeat' first
  | ((first | show Dk.ER _ _ _ | show Dk.ba _ _ | show Dk.EF _ _ _ | show Dk.EO _ _ _ | show Dk.EP _ _ | show Dk.aX _ _ _ _ | show Dk.aq _ _ _ _ | show Dk.Kp _ _ _ _ | show Dk.bn _ _ | show Dk.bb _ _ _ _); repeat' first | exact rfl | (refine @id.{0} _ ?_; constructor))
  | intro _
  | exact rfl
  | (refine @id.{0} _ ?_; constructor)
  | apply Dk.quiet (id:=7) (by kernel_rfl)
  | apply c75
  | apply Xe
  | apply RN
  | apply W1
  | exact Dk.Tk (by kernel_rfl)
  | exact ()
theorem c29 {x0:aM} {x1:bE} {lz l3 l4 l5 l6 l7 l8 l9 uo ua w1:Value}:Ct Tryz.prog 29 true (mA x0 x1) [.agg #[.int .i64 x0.aE.aA,lz,l3,l4,l5,.int .i64 x0.aH.aA,l6,l7,l8,l9,uo,ua],.agg #[.int .i64 x1.fv,w1]] [.rd false (aB (aC .i64)) lz x0.aE.aF,.rd false (aB (aC .i64)) l3 x0.aE.To,.rd false (aB (aC .i64)) l4 x0.aE.aJ,.rd false (aB (aB (aC .i64))) l5 x0.aE.aD,.rd false (aB (aC .i64)) l6 x0.aH.aF,.rd false (aB (aC .i64)) l7 x0.aH.To,.rd false (aB (aC .i64)) l8 x0.aH.aJ,.rd false (aB (aB (aC .i64))) l9 x0.aH.aD,.rd false (aB (aC .i64)) uo x0.aA,.rd false (aB (aC .i64)) ua x0.ab,.rd false (aB (aC .i64)) w1 x1.bw] (fun y (_:Unit)=>[.bool y.1,.int .i64 y.2]) (fun y _=>[]):=by
 refine ct (S:=Unit) (ca fun _ _=>rfl) Tryz.func29 rfl rfl ?_
 repeat' first
  | ((first | show Dk.ER _ _ _ | show Dk.ba _ _ | show Dk.EF _ _ _ | show Dk.EO _ _ _ | show Dk.EP _ _ | show Dk.aX _ _ _ _ | show Dk.aq _ _ _ _ | show Dk.Kp _ _ _ _ | show Dk.bn _ _ | show Dk.bb _ _ _ _); repeat' first | exact rfl | (refine @id.{0} _ ?_; constructor))
  | intro _
  | exact rfl
  | (refine @id.{0} _ ?_; constructor)
  | apply Dk.any (id:=3) 5 [] [] [[],[],[0,1,0],[2,0,1,0],[2,0,1,0]] (by kernel_rfl)
  | apply Xc
  | apply c57
  | apply c43
  | exact ()
end Go.Proofs.YtgjbmjjihmfppaaGreat
