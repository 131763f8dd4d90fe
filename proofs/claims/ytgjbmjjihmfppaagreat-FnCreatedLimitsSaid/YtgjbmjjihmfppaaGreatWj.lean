/- Walks by the calculus D. No condition beside those that each theorem names. -/
import Derived.Test.YtgjbmjjihmfppaaGreatDp
import Derived.Test.YtgjbmjjihmfppaaGreatDi
import Derived.Test.YtgjbmjjihmfppaaGreatMo
import Derived.Test.YtgjbmjjihmfppaaGreatDs
import Derived.Test.YtgjbmjjihmfppaaGreatWd
import Derived.Test.YtgjbmjjihmfppaaGreatWe
import Derived.Test.YtgjbmjjihmfppaaGreatWf
import Derived.Test.YtgjbmjjihmfppaaGreatWg
import Derived.Test.YtgjbmjjihmfppaaGreatWh
namespace Go.Proofs.YtgjbmjjihmfppaaGreat
open Go Go.Li Go.Dk
set_option linter.unusedVariables false
set_option maxHeartbeats 16000000
set_option maxRecDepth 100000
theorem c64 {x0:(List aG)} {cX:Value}:Ct Tryz.prog 64 true (jM x0) [cX] [.rd false (bL (ym Qx)) cX x0] (fun y (_:Unit)=>[.bool y]) (fun y _=>[]):=by
 refine ct (S:=Unit) (ca fun _ _=>rfl) Tryz.func64 rfl rfl ?_
 repeat' first
  | (apply Dk.fe; repeat' first | exact rfl | (refine @id.{0} _ ?_; constructor))
  | intro _
  | exact rfl
  | (refine @id.{0} _ ?_; constructor)
  | apply Dk.loop 0 (V:=Unit) (fun (s:Int) v=>[]) (fun s v=>[(7,.int .i64 (s))]) () [(5,_),(6,_)]
  | apply afB
  | exact ()
theorem Zd {x0:aI} {dG:Addr} {aS aV aQ aO aT aW aR aP bC bG:Value}:Ct Tryz.prog 35 true (eQ x0) [.pointer (some (dG))] [.ay dG [.int .i64 (x0.aC.aA),aS,aV,aQ,aO,.int .i64 (x0.aD.aA),aT,aW,aR,aP,bC,bG],rI aS x0.aC.aE,rI aV x0.aC.To,rI aQ x0.aC.aH,rJ aO x0.aC.aB,rI aT x0.aD.aE,rI aW x0.aD.To,rI aR x0.aD.aH,rJ aP x0.aD.aB,rI bC x0.aA,rI bG x0.ab] (fun y (_:Unit)=>[.bool y]) (fun y _=>[]):=by
 refine ct (S:=Unit) (ca fun _ _=>rfl) Tryz.func35 rfl rfl ?_
 repeat' first
  | (apply Dk.fe; repeat' first | exact rfl | (refine @id.{0} _ ?_; constructor))
  | intro _
  | exact rfl
  | (refine @id.{0} _ ?_; constructor)
  | apply Dk.acs (id:=1) 7 [] [[],[0],[1,0],[],[3],[4,3],[2,1,0,5,4,3]] (by kernel_rfl)
  | apply c64
  | apply c65
  | exact ()
theorem c52 {x0:(List aI)} {cX:Value}:Ct Tryz.prog 52 true (gR x0) [cX] [.rd false (bL (ym IS)) cX x0] (fun y (_:Unit)=>[.bool y]) (fun y _=>[]):=by
 refine ct (S:=Unit) (ca fun _ _=>rfl) Tryz.func52 rfl rfl ?_
 repeat' first
  | (apply Dk.fe; repeat' first | exact rfl | (refine @id.{0} _ ?_; constructor))
  | intro _
  | exact rfl
  | (refine @id.{0} _ ?_; constructor)
  | apply Dk.loop 0 (V:=Unit) (fun (s:Int) v=>[]) (fun s v=>[(7,.int .i64 (s))]) () [(5,_),(6,_)]
  | apply Zd
  | exact ()
theorem c56 {x0:aI} {dG:Addr} {aS aV aQ aO aT aW aR aP bC bG:Value} {x1:aI} {rD:Addr} {bV cB bN bH bW cC bP bI cL cQ:Value}:Ct Tryz.prog 56 true (iJ x0 x1) [.pointer (some (dG)),.pointer (some (rD))] [.ay rD [.int .i64 (x1.aC.aA),bV,cB,bN,bH,.int .i64 (x1.aD.aA),bW,cC,bP,bI,cL,cQ],.ay dG [.int .i64 (x0.aC.aA),aS,aV,aQ,aO,.int .i64 (x0.aD.aA),aT,aW,aR,aP,bC,bG],rI aS x0.aC.aE,rI aV x0.aC.To,rI aQ x0.aC.aH,rJ aO x0.aC.aB,rI aT x0.aD.aE,rI aW x0.aD.To,rI aR x0.aD.aH,rJ aP x0.aD.aB,rI bC x0.aA,rI bG x0.ab,rI bV x1.aC.aE,rI cB x1.aC.To,rI bN x1.aC.aH,rJ bH x1.aC.aB,rI bW x1.aD.aE,rI cC x1.aD.To,rI bP x1.aD.aH,rJ bI x1.aD.aB,rI cL x1.aA,rI cQ x1.ab] (fun y (v:Value×Value×Value×Value×Value×Value×Value×Value×Value×Value)=>[.agg #[.int .i64 y.aC.aA,v.1,v.2.1,v.2.2.1,v.2.2.2.1,.int .i64 y.aD.aA,v.2.2.2.2.1,v.2.2.2.2.2.1,v.2.2.2.2.2.2.1,v.2.2.2.2.2.2.2.1,v.2.2.2.2.2.2.2.2.1,v.2.2.2.2.2.2.2.2.2]]) (fun y v=>[.own (aJ 2 (aM .i64)) v.1 y.aC.aE,.own (aJ 2 (aM .i64)) v.2.1 y.aC.To,.own (aJ 2 (aM .i64)) v.2.2.1 y.aC.aH,.own (aJ 24 (aJ 2 (aM .i64))) v.2.2.2.1 y.aC.aB,.own (aJ 2 (aM .i64)) v.2.2.2.2.1 y.aD.aE,.own (aJ 2 (aM .i64)) v.2.2.2.2.2.1 y.aD.To,.own (aJ 2 (aM .i64)) v.2.2.2.2.2.2.1 y.aD.aH,.own (aJ 24 (aJ 2 (aM .i64))) v.2.2.2.2.2.2.2.1 y.aD.aB,.own (aJ 2 (aM .i64)) v.2.2.2.2.2.2.2.2.1 y.aA,.own (aJ 2 (aM .i64)) v.2.2.2.2.2.2.2.2.2 y.ab]):=by
 refine ct (S:=Unit) (ca fun _ _=>rfl) Tryz.func56 rfl rfl ?_
 repeat' first
  | (apply Dk.fe; repeat' first | exact rfl | (refine @id.{0} _ ?_; constructor))
  | intro _
  | exact rfl
  | (refine @id.{0} _ ?_; constructor)
  | apply Dk.any (id:=1) 24 [] [] [[],[0],[1,0],[],[3],[4,3],[],[6],[7,6],[8,7,6],[],[10],[11,10],[12,11,10],[9,8,7,6,13,12,11,10],[],[15],[16,15],[17,16,15],[],[19],[20,19],[21,20,19],[18,17,16,15,22,21,20,19,14,9,8,7,6,13,12,11,10]] (by kernel_rfl)
  | apply c98
  | apply c74
  | exact ()
theorem aac {x0:aI} {p:Addr} {jz j3 j4 j5 j6 j7 j8 j9 uo ua:Value}:Ct Tryz.prog 76 false (fZ x0) [.pointer (some p)] [.ay p [.int .i64 x0.aC.aA,jz,j3,j4,j5,.int .i64 x0.aD.aA,j6,j7,j8,j9,uo,ua],rI jz x0.aC.aE,rI j3 x0.aC.To,rI j4 x0.aC.aH,rJ j5 x0.aC.aB,rI j6 x0.aD.aE,rI j7 x0.aD.To,rI j8 x0.aD.aH,rJ j9 x0.aD.aB,rI uo x0.aA,rI ua x0.ab] (fun y (v:Value)=>[v,.bool y.2]) (fun y v=>[.rd false (bL (iu kj)) v y.1]):=by
 refine ct (S:=Unit) u9 Tryz.func76 rfl rfl ?_
 repeat' first
  | (apply Dk.fe; repeat' first | exact rfl | (refine @id.{0} _ ?_; constructor))
  | intro _
  | exact rfl
  | apply Dk.WQ (t:=83) (S:=ru)
  | (refine @id.{0} _ ?_; constructor)
  | apply Dk.Og 0 (V:=Value) (W:=Nat) (A:=Nat) _ (fun a (s:Int×List aZ) v b=>[.row a [v] 83,.own (aJ 32 ru) v s.2,.row b [.int .i64 s.1] 2]) (fun a s v b=>[(4,.pointer (some ⟨a,0,none⟩)),(5,.pointer (some ⟨b,0,none⟩))]) _ _ [(0,_)]
  | apply Dk.quiet (id:=3) (by kernel_rfl)
  | apply Y6
  | exact ()
theorem c76 {x0:aI} {p:Addr} {jz j3 j4 j5 j6 j7 j8 j9 uo ua:Value}:Ct Tryz.prog 76 true (fZ x0) [.pointer (some p)] [.ay p [.int .i64 x0.aC.aA,jz,j3,j4,j5,.int .i64 x0.aD.aA,j6,j7,j8,j9,uo,ua],rI jz x0.aC.aE,rI j3 x0.aC.To,rI j4 x0.aC.aH,rJ j5 x0.aC.aB,rI j6 x0.aD.aE,rI j7 x0.aD.To,rI j8 x0.aD.aH,rJ j9 x0.aD.aB,rI uo x0.aA,rI ua x0.ab] (fun y (v:Value)=>[v,.bool y.2]) (fun y v=>[.own (aJ 32 ru) v y.1]):=by
 refine ct (S:=Unit) (ca fun _ _=>rfl) Tryz.func76 rfl rfl ?_
 repeat' first
  | (apply Dk.fe; repeat' first | exact rfl | (refine @id.{0} _ ?_; constructor))
  | intro _
  | exact rfl
  | apply Dk.WQ (t:=83) (S:=ru)
  | (refine @id.{0} _ ?_; constructor)
  | apply Dk.Og 0 (V:=Value) (W:=Nat) (A:=Nat) _ (fun a (s:Int×List aZ) v b=>[.row a [v] 83,.own (aJ 32 ru) v s.2,.row b [.int .i64 s.1] 2]) (fun a s v b=>[(4,.pointer (some ⟨a,0,none⟩)),(5,.pointer (some ⟨b,0,none⟩))]) _ _ [(0,_)]
  | apply Dk.quiet (id:=3) (by kernel_rfl)
  | apply Y6
  | exact ()
theorem afS {x0 x1:aI} {p q:Addr} {jz j3 j4 j5 j6 j7 j8 j9 uo ua tH tI tJ tK tL tM tN tO wo wa:Value}:Ct Tryz.prog 124 false (mI x0 x1) [.pointer (some p),.pointer (some q)] [.ay p [.int .i64 x0.aC.aA,jz,j3,j4,j5,.int .i64 x0.aD.aA,j6,j7,j8,j9,uo,ua],.ay q [.int .i64 x1.aC.aA,tH,tI,tJ,tK,.int .i64 x1.aD.aA,tL,tM,tN,tO,wo,wa],rI jz x0.aC.aE,rI j3 x0.aC.To,rI j4 x0.aC.aH,rJ j5 x0.aC.aB,rI j6 x0.aD.aE,rI j7 x0.aD.To,rI j8 x0.aD.aH,rJ j9 x0.aD.aB,rI uo x0.aA,rI ua x0.ab,rI tH x1.aC.aE,rI tI x1.aC.To,rI tJ x1.aC.aH,rJ tK x1.aC.aB,rI tL x1.aD.aE,rI tM x1.aD.To,rI tN x1.aD.aH,rJ tO x1.aD.aB,rI wo x1.aA,rI wa x1.ab] (fun y (v:Nat×Value×Value×Value×Value×Value×Value×Value×Value×Value×Value×Value×Value)=>[.pointer (some ⟨v.1,0,none⟩),.bool y.2]) (fun y v=>[.ay ⟨v.1,0,none⟩ [.int .i64 y.1.D.aC.aA,jz,j3,j4,j5,.int .i64 y.1.D.aD.aA,j6,j7,j8,j9,uo,ua,.int .i64 y.1.bu.aC.aA,v.2.1,v.2.2.1,v.2.2.2.1,v.2.2.2.2.1,.int .i64 y.1.bu.aD.aA,v.2.2.2.2.2.1,v.2.2.2.2.2.2.1,v.2.2.2.2.2.2.2.1,v.2.2.2.2.2.2.2.2.1,v.2.2.2.2.2.2.2.2.2.1,v.2.2.2.2.2.2.2.2.2.2.1,.pointer (some q),v.2.2.2.2.2.2.2.2.2.2.2.1,v.2.2.2.2.2.2.2.2.2.2.2.2],rI jz y.1.D.aC.aE,rI j3 y.1.D.aC.To,rI j4 y.1.D.aC.aH,rJ j5 y.1.D.aC.aB,rI j6 y.1.D.aD.aE,rI j7 y.1.D.aD.To,rI j8 y.1.D.aD.aH,rJ j9 y.1.D.aD.aB,rI uo y.1.D.aA,rI ua y.1.D.ab,rI v.2.1 y.1.bu.aC.aE,rI v.2.2.1 y.1.bu.aC.To,rI v.2.2.2.1 y.1.bu.aC.aH,rJ v.2.2.2.2.1 y.1.bu.aC.aB,rI v.2.2.2.2.2.1 y.1.bu.aD.aE,rI v.2.2.2.2.2.2.1 y.1.bu.aD.To,rI v.2.2.2.2.2.2.2.1 y.1.bu.aD.aH,rJ v.2.2.2.2.2.2.2.2.1 y.1.bu.aD.aB,rI v.2.2.2.2.2.2.2.2.2.1 y.1.bu.aA,rI v.2.2.2.2.2.2.2.2.2.2.1 y.1.bu.ab,.ay q [.int .i64 y.1.F.aC.aA,tH,tI,tJ,tK,.int .i64 y.1.F.aD.aA,tL,tM,tN,tO,wo,wa],rI tH y.1.F.aC.aE,rI tI y.1.F.aC.To,rI tJ y.1.F.aC.aH,rJ tK y.1.F.aC.aB,rI tL y.1.F.aD.aE,rI tM y.1.F.aD.To,rI tN y.1.F.aD.aH,rJ tO y.1.F.aD.aB,rI wo y.1.F.aA,rI wa y.1.F.ab,.rd false (bL (iu kj)) v.2.2.2.2.2.2.2.2.2.2.2.1 y.1.xM,.rd false (bL (iu kj)) v.2.2.2.2.2.2.2.2.2.2.2.2 y.1.yE]):=by
 refine ct (S:=Unit) u9 Tryz.func124 rfl rfl ?_
 repeat' first
  | (apply Dk.fe; repeat' first | exact rfl | (refine @id.{0} _ ?_; constructor))
  | intro _
  | exact rfl
  | apply Dk.rgs
  | (apply Dk.W3 (c:=.ret) (e:=116); · (repeat (first | exact Dk.dp.row | apply Dk.dp.there)))
  | (refine @id.{0} _ ?_; constructor)
  | apply Dk.any (id:=1) 7 [] [] [[],[0],[1,0],[],[],[3,4],[]] (by kernel_rfl)
  | apply c56
  | apply c76
  | exact ()
theorem Ze {x0 x1:aI} {p q:Addr} {jz j3 j4 j5 j6 j7 j8 j9 uo ua tH tI tJ tK tL tM tN tO wo wa:Value}:Ct Tryz.prog 84 false (kP x0 x1 false) [.pointer (some p),.pointer (some q),.bool false] [.ay p [.int .i64 x0.aC.aA,jz,j3,j4,j5,.int .i64 x0.aD.aA,j6,j7,j8,j9,uo,ua],.ay q [.int .i64 x1.aC.aA,tH,tI,tJ,tK,.int .i64 x1.aD.aA,tL,tM,tN,tO,wo,wa],rI jz x0.aC.aE,rI j3 x0.aC.To,rI j4 x0.aC.aH,rJ j5 x0.aC.aB,rI j6 x0.aD.aE,rI j7 x0.aD.To,rI j8 x0.aD.aH,rJ j9 x0.aD.aB,rI uo x0.aA,rI ua x0.ab,rI tH x1.aC.aE,rI tI x1.aC.To,rI tJ x1.aC.aH,rJ tK x1.aC.aB,rI tL x1.aD.aE,rI tM x1.aD.To,rI tN x1.aD.aH,rJ tO x1.aD.aB,rI wo x1.aA,rI wa x1.ab] (fun y (v:Nat×Value×Value×Value×Value×Value×Value×Value×Value×Value×Value×Value×Value)=>[(match y.1 with | none=>Value.pointer none | some _=>.pointer (some ⟨v.1,0,none⟩)),.int .i64 y.2]) (fun y v=>match y.1 with | none=>[] | some m=>[.ay ⟨v.1,0,none⟩ [.int .i64 m.D.aC.aA,jz,j3,j4,j5,.int .i64 m.D.aD.aA,j6,j7,j8,j9,uo,ua,.int .i64 m.bu.aC.aA,v.2.1,v.2.2.1,v.2.2.2.1,v.2.2.2.2.1,.int .i64 m.bu.aD.aA,v.2.2.2.2.2.1,v.2.2.2.2.2.2.1,v.2.2.2.2.2.2.2.1,v.2.2.2.2.2.2.2.2.1,v.2.2.2.2.2.2.2.2.2.1,v.2.2.2.2.2.2.2.2.2.2.1,.pointer (some q),v.2.2.2.2.2.2.2.2.2.2.2.1,v.2.2.2.2.2.2.2.2.2.2.2.2],rI jz m.D.aC.aE,rI j3 m.D.aC.To,rI j4 m.D.aC.aH,rJ j5 m.D.aC.aB,rI j6 m.D.aD.aE,rI j7 m.D.aD.To,rI j8 m.D.aD.aH,rJ j9 m.D.aD.aB,rI uo m.D.aA,rI ua m.D.ab,rI v.2.1 m.bu.aC.aE,rI v.2.2.1 m.bu.aC.To,rI v.2.2.2.1 m.bu.aC.aH,rJ v.2.2.2.2.1 m.bu.aC.aB,rI v.2.2.2.2.2.1 m.bu.aD.aE,rI v.2.2.2.2.2.2.1 m.bu.aD.To,rI v.2.2.2.2.2.2.2.1 m.bu.aD.aH,rJ v.2.2.2.2.2.2.2.2.1 m.bu.aD.aB,rI v.2.2.2.2.2.2.2.2.2.1 m.bu.aA,rI v.2.2.2.2.2.2.2.2.2.2.1 m.bu.ab,.ay q [.int .i64 m.F.aC.aA,tH,tI,tJ,tK,.int .i64 m.F.aD.aA,tL,tM,tN,tO,wo,wa],rI tH m.F.aC.aE,rI tI m.F.aC.To,rI tJ m.F.aC.aH,rJ tK m.F.aC.aB,rI tL m.F.aD.aE,rI tM m.F.aD.To,rI tN m.F.aD.aH,rJ tO m.F.aD.aB,rI wo m.F.aA,rI wa m.F.ab,.rd false (bL (iu kj)) v.2.2.2.2.2.2.2.2.2.2.2.1 m.xM,.rd false (bL (iu kj)) v.2.2.2.2.2.2.2.2.2.2.2.2 m.yE]):=by
 refine ct (S:=Unit) u9 Tryz.func84 rfl rfl ?_
 repeat' first
  | (apply Dk.fe; repeat' first | exact rfl | (refine @id.{0} _ ?_; constructor))
  | intro _
  | exact rfl
  | (refine @id.{0} _ ?_; constructor)
  | apply Dk.quiet (id:=3) (by kernel_rfl)
  | apply c52
  | apply c54
  | apply afS
  | exact ()
 all_goals try first | exact Value.nilFunc | exact (0:Nat)
theorem U3 {x0:aI} {dG:Addr} {aS aV aQ aO aT aW aR aP bC bG:Value}:Ct Tryz.prog 59 true (rP x0 (fun a0=>eP a0)) [.pointer (some (dG)),.func (.func 60) #[] #[]] [.ay dG [.int .i64 (x0.aC.aA),aS,aV,aQ,aO,.int .i64 (x0.aD.aA),aT,aW,aR,aP,bC,bG],rI aS x0.aC.aE,rI aV x0.aC.To,rI aQ x0.aC.aH,rJ aO x0.aC.aB,rI aT x0.aD.aE,rI aW x0.aD.To,rI aR x0.aD.aH,rJ aP x0.aD.aB,rI bC x0.aA,rI bG x0.ab] (fun y (_:Unit)=>[.bool y.1,.int .i64 y.2]) (fun y _=>[]):=by
 refine ct (S:=Unit) (ca fun _ _=>rfl) Tryz.func59 rfl rfl ?_
 repeat' first
  | (apply Dk.fe; repeat' first | exact rfl | (refine @id.{0} _ ?_; constructor))
  | intro _
  | exact rfl
  | (refine @id.{0} _ ?_; constructor)
  | apply Zd
  | apply c60
  | exact ()
theorem c32 {x0:aI} {aS aV aQ aO aT aW aR aP bC bG:Value}:Ct Tryz.prog 32 true (jU x0) [.agg #[.int .i64 (x0.aC.aA),aS,aV,aQ,aO,.int .i64 (x0.aD.aA),aT,aW,aR,aP,bC,bG]] [rI aS x0.aC.aE,rI aV x0.aC.To,rI aQ x0.aC.aH,rJ aO x0.aC.aB,rI aT x0.aD.aE,rI aW x0.aD.To,rI aR x0.aD.aH,rJ aP x0.aD.aB,rI bC x0.aA,rI bG x0.ab] (fun y (_:Unit)=>[.bool y.1,.int .i64 y.2]) (fun y _=>[]):=by
 refine ct (S:=Unit) (ca fun _ _=>rfl) Tryz.func32 rfl rfl ?_
 repeat' first
  | (apply Dk.fe; repeat' first | exact rfl | (refine @id.{0} _ ?_; constructor))
  | intro _
  | exact rfl
  | (refine @id.{0} _ ?_; constructor)
  | apply U3
  | exact ()
theorem c28 {x0:aI} {aS aV aQ aO aT aW aR aP bC bG:Value} {x1:aI} {bV cB bN bH bW cC bP bI cL cQ:Value}:Ct Tryz.prog 28 true (kC x0 x1) [.agg #[.int .i64 (x0.aC.aA),aS,aV,aQ,aO,.int .i64 (x0.aD.aA),aT,aW,aR,aP,bC,bG],.agg #[.int .i64 (x1.aC.aA),bV,cB,bN,bH,.int .i64 (x1.aD.aA),bW,cC,bP,bI,cL,cQ]] [rI aS x0.aC.aE,rI aV x0.aC.To,rI aQ x0.aC.aH,rJ aO x0.aC.aB,rI aT x0.aD.aE,rI aW x0.aD.To,rI aR x0.aD.aH,rJ aP x0.aD.aB,rI bC x0.aA,rI bG x0.ab,rI bV x1.aC.aE,rI cB x1.aC.To,rI bN x1.aC.aH,rJ bH x1.aC.aB,rI bW x1.aD.aE,rI cC x1.aD.To,rI bP x1.aD.aH,rJ bI x1.aD.aB,rI cL x1.aA,rI cQ x1.ab] (fun y (v:Value×Value×Value×Value×Value×Value×Value×Value×Value×Value)=>[.agg #[.int .i64 y.1.aC.aA,v.1,v.2.1,v.2.2.1,v.2.2.2.1,.int .i64 y.1.aD.aA,v.2.2.2.2.1,v.2.2.2.2.2.1,v.2.2.2.2.2.2.1,v.2.2.2.2.2.2.2.1,v.2.2.2.2.2.2.2.2.1,v.2.2.2.2.2.2.2.2.2],.int .i64 y.2]) (fun y v=>[.own (aJ 2 (aM .i64)) v.1 y.1.aC.aE,.own (aJ 2 (aM .i64)) v.2.1 y.1.aC.To,.own (aJ 2 (aM .i64)) v.2.2.1 y.1.aC.aH,.own (aJ 24 (aJ 2 (aM .i64))) v.2.2.2.1 y.1.aC.aB,.own (aJ 2 (aM .i64)) v.2.2.2.2.1 y.1.aD.aE,.own (aJ 2 (aM .i64)) v.2.2.2.2.2.1 y.1.aD.To,.own (aJ 2 (aM .i64)) v.2.2.2.2.2.2.1 y.1.aD.aH,.own (aJ 24 (aJ 2 (aM .i64))) v.2.2.2.2.2.2.2.1 y.1.aD.aB,.own (aJ 2 (aM .i64)) v.2.2.2.2.2.2.2.2.1 y.1.aA,.own (aJ 2 (aM .i64)) v.2.2.2.2.2.2.2.2.2 y.1.ab]):=by
 refine ct (S:=Unit) (ca fun _ _=>rfl) Tryz.func28 rfl rfl ?_
 repeat' first
  | (apply Dk.fe; repeat' first | exact rfl | (refine @id.{0} _ ?_; constructor))
  | intro _
  | exact rfl
  | (refine @id.{0} _ ?_; constructor)
  | apply c52
  | apply c54
  | apply c56
  | exact ()
theorem c66 {x0:aI} {dG:Addr} {aS aV aQ aO aT aW aR aP bC bG:Value} {x1:Int}:Ct Tryz.prog 66 false (qI x0 x1) [.pointer (some (dG)),.int .i64 (x1)] [.ay dG [.int .i64 (x0.aC.aA),aS,aV,aQ,aO,.int .i64 (x0.aD.aA),aT,aW,aR,aP,bC,bG],rI aS x0.aC.aE,rI aV x0.aC.To,rI aQ x0.aC.aH,rJ aO x0.aC.aB,rI aT x0.aD.aE,rI aW x0.aD.To,rI aR x0.aD.aH,rJ aP x0.aD.aB,rI bC x0.aA,rI bG x0.ab] (fun y (v:Value)=>[v,.bool y.2]) (fun y v=>[.rd false (bL (iu kj)) v y.1]):=by
 refine ct (S:=Unit) u9 Tryz.func66 rfl rfl ?_
 repeat' first
  | (apply Dk.fe; repeat' first | exact rfl | (refine @id.{0} _ ?_; constructor))
  | intro _
  | exact rfl
  | apply aac
  | apply Dk.SY (t:=83) (S:=kj)
  | apply Dk.SZ (t:=83) (x:=.tmp 25)
  | apply Dk.N5 (t:=83) (aZ.mk _ _)
  | (refine @id.{0} _ ?_; constructor)
  | apply Dk.vL 0 (V:=Value) (W:=List (List Value)) (fun (s:List aZ×Int) v u=>[.own (aJ 32 (ef 2)) v u,.rd false (qf kj) (.bool true) (u,s.1)]) (fun s v u=>[(8,v),(21,.int .i64 s.2)]) _ _ [(0,_),(1,_),(6,_),(19,_),(20,_)]
  | apply c76
  | apply Py
  | exact ()
theorem c36 {x0:aI} {dG:Addr} {aS aV aQ aO aT aW aR aP bC bG:Value}:Ct Tryz.prog 36 false (qX x0) [.pointer (some (dG))] [.ay dG [.int .i64 (x0.aC.aA),aS,aV,aQ,aO,.int .i64 (x0.aD.aA),aT,aW,aR,aP,bC,bG],rI aS x0.aC.aE,rI aV x0.aC.To,rI aQ x0.aC.aH,rJ aO x0.aC.aB,rI aT x0.aD.aE,rI aW x0.aD.To,rI aR x0.aD.aH,rJ aP x0.aD.aB,rI bC x0.aA,rI bG x0.ab] (fun y (v:Value)=>[.agg #[.int .i64 y.1.cn,v],.int .i64 y.2]) (fun y v=>[rI v y.1.bb]):=by
 refine ct (S:=Unit) u9 Tryz.func36 rfl rfl ?_
 repeat' first
  | (apply Dk.fe; repeat' first | exact rfl | (refine @id.{0} _ ?_; constructor))
  | intro _
  | exact rfl
  | (refine @id.{0} _ ?_; constructor)
  | apply c66
  | exact ()
theorem c14 {x0:aI} {aS aV aQ aO aT aW aR aP bC bG:Value}:Ct Tryz.prog 14 false (pP x0) [.agg #[.int .i64 (x0.aC.aA),aS,aV,aQ,aO,.int .i64 (x0.aD.aA),aT,aW,aR,aP,bC,bG]] [rI aS x0.aC.aE,rI aV x0.aC.To,rI aQ x0.aC.aH,rJ aO x0.aC.aB,rI aT x0.aD.aE,rI aW x0.aD.To,rI aR x0.aD.aH,rJ aP x0.aD.aB,rI bC x0.aA,rI bG x0.ab] (fun y (v:Value)=>[.agg #[.int .i64 y.1.cn,v],.int .i64 y.2]) (fun y v=>[rI v y.1.bb]):=by
 refine ct (S:=Unit) u9 Tryz.func14 rfl rfl ?_
 repeat' first
  | (apply Dk.fe; repeat' first | exact rfl | (refine @id.{0} _ ?_; constructor))
  | intro _
  | exact rfl
  | (apply Dk.W3 (e:=29); · (repeat (first | exact Dk.dp.row | apply Dk.dp.there)))
  | (apply Dk.ZU (e:=29); · (repeat (first | exact Dk.dp.row | apply Dk.dp.there)))
  | (refine @id.{0} _ ?_; constructor)
  | apply Zd
  | apply c36
  | exact ()
end Go.Proofs.YtgjbmjjihmfppaaGreat
