/- Walks by the calculus D. No condition beside those that each theorem names. -/
import Derived.Test.YtgjbmjjihmfppaaGreatDp
import Derived.Test.YtgjbmjjihmfppaaGreatDi
import Derived.Test.YtgjbmjjihmfppaaGreatMo
import Derived.Test.YtgjbmjjihmfppaaGreatDs
import Derived.Test.YtgjbmjjihmfppaaGreatWd
import Derived.Test.YtgjbmjjihmfppaaGreatWe
import Derived.Test.YtgjbmjjihmfppaaGreatWf
import Derived.Test.YtgjbmjjihmfppaaGreatWg
import Derived.Test.YtgjbmjjihmfppaaGreatWh
namespace Go.Proofs.YtgjbmjjihmfppaaGreat
open Go Go.Li Go.Dk
set_option linter.unusedVariables false
set_option maxHeartbeats 16000000
set_option maxRecDepth 100000
theorem c64 {x0:(List aG)} {dC:Value}:Ct Tryz.prog 64 true (jU x0) [dC] [.rd false (bJ (xV P4)) dC x0] (fun y (_:Unit)=>[.bool y]) (fun y _=>[]):=by
 refine ct (S:=Unit) (b9 fun _ _=>rfl) Tryz.func64 rfl rfl ?_
 repeat' first
  | (apply Dk.fe; repeat' first | exact rfl | (refine @id.{0} _ ?_; constructor))
  | intro _
  | exact rfl
  | (refine @id.{0} _ ?_; constructor)
  | apply Dk.loop 0 (V:=Unit) (fun (s:Int) v=>[]) (fun s v=>[(7,.int .i64 (s))]) () [(5,_),(6,_)]
  | apply aeW
  | exact ()
theorem c35 {x0:aI} {dR:Addr} {aU aZ aQ aO aV bA aR aP bK bP:Value}:Ct Tryz.prog 35 true (fH x0) [.pointer (some (dR))] [.au dR [.int .i64 (x0.aC.aA),aU,aZ,aQ,aO,.int .i64 (x0.aE.aA),aV,bA,aR,aP,bK,bP],rI aU x0.aC.aD,rI aZ x0.aC.To,rI aQ x0.aC.aH,rJ aO x0.aC.aB,rI aV x0.aE.aD,rI bA x0.aE.To,rI aR x0.aE.aH,rJ aP x0.aE.aB,rI bK x0.aA,rI bP x0.ab] (fun y (_:Unit)=>[.bool y]) (fun y _=>[]):=by
 refine ct (S:=Unit) (b9 fun _ _=>rfl) Tryz.func35 rfl rfl ?_
 repeat' first
  | (apply Dk.fe; repeat' first | exact rfl | (refine @id.{0} _ ?_; constructor))
  | intro _
  | exact rfl
  | (refine @id.{0} _ ?_; constructor)
  | apply Dk.abT (id:=1) 7 [] [[],[0],[1,0],[],[3],[4,3],[2,1,0,5,4,3]] (by kernel_rfl)
  | apply c64
  | apply c65
  | exact ()
theorem c52 {x0:(List aI)} {dC:Value}:Ct Tryz.prog 52 true (lN x0) [dC] [.rd false (bJ (xV Is)) dC x0] (fun y (_:Unit)=>[.bool y]) (fun y _=>[]):=by
 refine ct (S:=Unit) (b9 fun _ _=>rfl) Tryz.func52 rfl rfl ?_
 repeat' first
  | (apply Dk.fe; repeat' first | exact rfl | (refine @id.{0} _ ?_; constructor))
  | intro _
  | exact rfl
  | (refine @id.{0} _ ?_; constructor)
  | apply Dk.loop 0 (V:=Unit) (fun (s:Int) v=>[]) (fun s v=>[(7,.int .i64 (s))]) () [(5,_),(6,_)]
  | apply c35
  | exact ()
theorem c42 {x0:aI} {dR:Addr} {aU aZ aQ aO aV bA aR aP bK bP:Value}:Ct Tryz.prog 42 true (eR x0) [.pointer (some (dR))] [.au dR [.int .i64 (x0.aC.aA),aU,aZ,aQ,aO,.int .i64 (x0.aE.aA),aV,bA,aR,aP,bK,bP],rI aU x0.aC.aD,rI aZ x0.aC.To,rI aQ x0.aC.aH,rJ aO x0.aC.aB,rI aV x0.aE.aD,rI bA x0.aE.To,rI aR x0.aE.aH,rJ aP x0.aE.aB,rI bK x0.aA,rI bP x0.ab] (fun y (v:Value×Value×Value×Value×Value×Value×Value×Value×Value×Value)=>[.agg #[.int .i64 y.aC.aA,v.1,v.2.1,v.2.2.1,v.2.2.2.1,.int .i64 y.aE.aA,v.2.2.2.2.1,v.2.2.2.2.2.1,v.2.2.2.2.2.2.1,v.2.2.2.2.2.2.2.1,v.2.2.2.2.2.2.2.2.1,v.2.2.2.2.2.2.2.2.2]]) (fun y v=>[.own (aJ 2 (aM .i64)) v.1 y.aC.aD,.own (aJ 2 (aM .i64)) v.2.1 y.aC.To,.own (aJ 2 (aM .i64)) v.2.2.1 y.aC.aH,.own (aJ 24 (aJ 2 (aM .i64))) v.2.2.2.1 y.aC.aB,.own (aJ 2 (aM .i64)) v.2.2.2.2.1 y.aE.aD,.own (aJ 2 (aM .i64)) v.2.2.2.2.2.1 y.aE.To,.own (aJ 2 (aM .i64)) v.2.2.2.2.2.2.1 y.aE.aH,.own (aJ 24 (aJ 2 (aM .i64))) v.2.2.2.2.2.2.2.1 y.aE.aB,.own (aJ 2 (aM .i64)) v.2.2.2.2.2.2.2.2.1 y.aA,.own (aJ 2 (aM .i64)) v.2.2.2.2.2.2.2.2.2 y.ab]):=by
 refine ct (S:=Unit) (b9 fun _ _=>rfl) Tryz.func42 rfl rfl ?_
 repeat' first
  | (apply Dk.fe; repeat' first | exact rfl | (refine @id.{0} _ ?_; constructor))
  | intro _
  | exact rfl
  | (refine @id.{0} _ ?_; constructor)
  | apply Dk.any (id:=1) 10 [] [] [[],[0],[1,0],[2,1,0],[],[4],[5,4],[6,5,4,3,2,1,0],[],[]] (by kernel_rfl)
  | apply Dk.any (id:=2) 8 [] [] [[],[0],[1,0],[2,1,0],[],[4],[5,4],[6,5,4]] (by kernel_rfl)
  | apply c73
  | apply c74
  | exact ()
theorem c56 {x0:aI} {dR:Addr} {aU aZ aQ aO aV bA aR aP bK bP:Value} {x1:aI} {qY:Addr} {bV cB bL bE bW cC bN bF cM cQ:Value}:Ct Tryz.prog 56 true (kL x0 x1) [.pointer (some (dR)),.pointer (some (qY))] [.au qY [.int .i64 (x1.aC.aA),bV,cB,bL,bE,.int .i64 (x1.aE.aA),bW,cC,bN,bF,cM,cQ],.au dR [.int .i64 (x0.aC.aA),aU,aZ,aQ,aO,.int .i64 (x0.aE.aA),aV,bA,aR,aP,bK,bP],rI aU x0.aC.aD,rI aZ x0.aC.To,rI aQ x0.aC.aH,rJ aO x0.aC.aB,rI aV x0.aE.aD,rI bA x0.aE.To,rI aR x0.aE.aH,rJ aP x0.aE.aB,rI bK x0.aA,rI bP x0.ab,rI bV x1.aC.aD,rI cB x1.aC.To,rI bL x1.aC.aH,rJ bE x1.aC.aB,rI bW x1.aE.aD,rI cC x1.aE.To,rI bN x1.aE.aH,rJ bF x1.aE.aB,rI cM x1.aA,rI cQ x1.ab] (fun y (v:Value×Value×Value×Value×Value×Value×Value×Value×Value×Value)=>[.agg #[.int .i64 y.aC.aA,v.1,v.2.1,v.2.2.1,v.2.2.2.1,.int .i64 y.aE.aA,v.2.2.2.2.1,v.2.2.2.2.2.1,v.2.2.2.2.2.2.1,v.2.2.2.2.2.2.2.1,v.2.2.2.2.2.2.2.2.1,v.2.2.2.2.2.2.2.2.2]]) (fun y v=>[.own (aJ 2 (aM .i64)) v.1 y.aC.aD,.own (aJ 2 (aM .i64)) v.2.1 y.aC.To,.own (aJ 2 (aM .i64)) v.2.2.1 y.aC.aH,.own (aJ 24 (aJ 2 (aM .i64))) v.2.2.2.1 y.aC.aB,.own (aJ 2 (aM .i64)) v.2.2.2.2.1 y.aE.aD,.own (aJ 2 (aM .i64)) v.2.2.2.2.2.1 y.aE.To,.own (aJ 2 (aM .i64)) v.2.2.2.2.2.2.1 y.aE.aH,.own (aJ 24 (aJ 2 (aM .i64))) v.2.2.2.2.2.2.2.1 y.aE.aB,.own (aJ 2 (aM .i64)) v.2.2.2.2.2.2.2.2.1 y.aA,.own (aJ 2 (aM .i64)) v.2.2.2.2.2.2.2.2.2 y.ab]):=by
 refine ct (S:=Unit) (b9 fun _ _=>rfl) Tryz.func56 rfl rfl ?_
 repeat' first
  | (apply Dk.fe; repeat' first | exact rfl | (refine @id.{0} _ ?_; constructor))
  | intro _
  | exact rfl
  | (refine @id.{0} _ ?_; constructor)
  | apply Dk.any (id:=1) 24 [] [] [[],[0],[1,0],[],[3],[4,3],[],[6],[7,6],[8,7,6],[],[10],[11,10],[12,11,10],[9,8,7,6,13,12,11,10],[],[15],[16,15],[17,16,15],[],[19],[20,19],[21,20,19],[18,17,16,15,22,21,20,19,14,9,8,7,6,13,12,11,10]] (by kernel_rfl)
  | apply c98
  | apply c74
  | exact ()
theorem amo {x0:aI} {p:Addr} {fq fu fv fw fx fy gf gh uo ua:Value}:Ct Tryz.prog 76 false (iM x0) [.pointer (some p)] [.au p [.int .i64 x0.aC.aA,fq,fu,fv,fw,.int .i64 x0.aE.aA,fx,fy,gf,gh,uo,ua],rI fq x0.aC.aD,rI fu x0.aC.To,rI fv x0.aC.aH,rJ fw x0.aC.aB,rI fx x0.aE.aD,rI fy x0.aE.To,rI gf x0.aE.aH,rJ gh x0.aE.aB,rI uo x0.aA,rI ua x0.ab] (fun y (v:Value)=>[v,.bool y.2]) (fun y v=>[.rd false (bJ (iq kp)) v y.1]):=by
 refine ct (S:=Unit) vK Tryz.func76 rfl rfl ?_
 repeat' first
  | (apply Dk.fe; repeat' first | exact rfl | (refine @id.{0} _ ?_; constructor))
  | intro _
  | exact rfl
  | apply Dk.V1 (t:=83) (S:=rq)
  | (refine @id.{0} _ ?_; constructor)
  | apply Dk.NQ 0 (V:=Value) (W:=Nat) (A:=Nat) _ (fun a (s:Int×List bG) v b=>[.row a [v] 83,.own (aJ 32 rq) v s.2,.row b [.int .i64 s.1] 2]) (fun a s v b=>[(4,.pointer (some ⟨a,0,none⟩)),(5,.pointer (some ⟨b,0,none⟩))]) _ _ [(0,_)]
  | apply Dk.quiet (id:=3) (by kernel_rfl)
  | apply Yu
  | exact ()
theorem c76 {x0:aI} {p:Addr} {fq fu fv fw fx fy gf gh uo ua:Value}:Ct Tryz.prog 76 true (iM x0) [.pointer (some p)] [.au p [.int .i64 x0.aC.aA,fq,fu,fv,fw,.int .i64 x0.aE.aA,fx,fy,gf,gh,uo,ua],rI fq x0.aC.aD,rI fu x0.aC.To,rI fv x0.aC.aH,rJ fw x0.aC.aB,rI fx x0.aE.aD,rI fy x0.aE.To,rI gf x0.aE.aH,rJ gh x0.aE.aB,rI uo x0.aA,rI ua x0.ab] (fun y (v:Value)=>[v,.bool y.2]) (fun y v=>[.own (aJ 32 rq) v y.1]):=by
 refine ct (S:=Unit) (b9 fun _ _=>rfl) Tryz.func76 rfl rfl ?_
 repeat' first
  | (apply Dk.fe; repeat' first | exact rfl | (refine @id.{0} _ ?_; constructor))
  | intro _
  | exact rfl
  | apply Dk.V1 (t:=83) (S:=rq)
  | (refine @id.{0} _ ?_; constructor)
  | apply Dk.NQ 0 (V:=Value) (W:=Nat) (A:=Nat) _ (fun a (s:Int×List bG) v b=>[.row a [v] 83,.own (aJ 32 rq) v s.2,.row b [.int .i64 s.1] 2]) (fun a s v b=>[(4,.pointer (some ⟨a,0,none⟩)),(5,.pointer (some ⟨b,0,none⟩))]) _ _ [(0,_)]
  | apply Dk.quiet (id:=3) (by kernel_rfl)
  | apply Yu
  | exact ()
theorem YA {x0 x1:aI} {p q:Addr} {fq fu fv fw fx fy gf gh uo ua lr lu lv ly lz l3 l4 l5 wo wa:Value}:Ct Tryz.prog 124 false (jL x0 x1) [.pointer (some p),.pointer (some q)] [.au p [.int .i64 x0.aC.aA,fq,fu,fv,fw,.int .i64 x0.aE.aA,fx,fy,gf,gh,uo,ua],.au q [.int .i64 x1.aC.aA,lr,lu,lv,ly,.int .i64 x1.aE.aA,lz,l3,l4,l5,wo,wa],rI fq x0.aC.aD,rI fu x0.aC.To,rI fv x0.aC.aH,rJ fw x0.aC.aB,rI fx x0.aE.aD,rI fy x0.aE.To,rI gf x0.aE.aH,rJ gh x0.aE.aB,rI uo x0.aA,rI ua x0.ab,rI lr x1.aC.aD,rI lu x1.aC.To,rI lv x1.aC.aH,rJ ly x1.aC.aB,rI lz x1.aE.aD,rI l3 x1.aE.To,rI l4 x1.aE.aH,rJ l5 x1.aE.aB,rI wo x1.aA,rI wa x1.ab] (fun y (v:Nat×Value×Value×Value×Value×Value×Value×Value×Value×Value×Value×Value×Value)=>[.pointer (some ⟨v.1,0,none⟩),.bool y.2]) (fun y v=>[.au ⟨v.1,0,none⟩ [.int .i64 y.1.D.aC.aA,fq,fu,fv,fw,.int .i64 y.1.D.aE.aA,fx,fy,gf,gh,uo,ua,.int .i64 y.1.bh.aC.aA,v.2.1,v.2.2.1,v.2.2.2.1,v.2.2.2.2.1,.int .i64 y.1.bh.aE.aA,v.2.2.2.2.2.1,v.2.2.2.2.2.2.1,v.2.2.2.2.2.2.2.1,v.2.2.2.2.2.2.2.2.1,v.2.2.2.2.2.2.2.2.2.1,v.2.2.2.2.2.2.2.2.2.2.1,.pointer (some q),v.2.2.2.2.2.2.2.2.2.2.2.1,v.2.2.2.2.2.2.2.2.2.2.2.2],rI fq y.1.D.aC.aD,rI fu y.1.D.aC.To,rI fv y.1.D.aC.aH,rJ fw y.1.D.aC.aB,rI fx y.1.D.aE.aD,rI fy y.1.D.aE.To,rI gf y.1.D.aE.aH,rJ gh y.1.D.aE.aB,rI uo y.1.D.aA,rI ua y.1.D.ab,rI v.2.1 y.1.bh.aC.aD,rI v.2.2.1 y.1.bh.aC.To,rI v.2.2.2.1 y.1.bh.aC.aH,rJ v.2.2.2.2.1 y.1.bh.aC.aB,rI v.2.2.2.2.2.1 y.1.bh.aE.aD,rI v.2.2.2.2.2.2.1 y.1.bh.aE.To,rI v.2.2.2.2.2.2.2.1 y.1.bh.aE.aH,rJ v.2.2.2.2.2.2.2.2.1 y.1.bh.aE.aB,rI v.2.2.2.2.2.2.2.2.2.1 y.1.bh.aA,rI v.2.2.2.2.2.2.2.2.2.2.1 y.1.bh.ab,.au q [.int .i64 y.1.F.aC.aA,lr,lu,lv,ly,.int .i64 y.1.F.aE.aA,lz,l3,l4,l5,wo,wa],rI lr y.1.F.aC.aD,rI lu y.1.F.aC.To,rI lv y.1.F.aC.aH,rJ ly y.1.F.aC.aB,rI lz y.1.F.aE.aD,rI l3 y.1.F.aE.To,rI l4 y.1.F.aE.aH,rJ l5 y.1.F.aE.aB,rI wo y.1.F.aA,rI wa y.1.F.ab,.rd false (bJ (iq kp)) v.2.2.2.2.2.2.2.2.2.2.2.1 y.1.wR,.rd false (bJ (iq kp)) v.2.2.2.2.2.2.2.2.2.2.2.2 y.1.xi]):=by
 refine ct (S:=Unit) vK Tryz.func124 rfl rfl ?_
 repeat' first
  | (apply Dk.fe; repeat' first | exact rfl | (refine @id.{0} _ ?_; constructor))
  | intro _
  | exact rfl
  | apply Dk.rgs
  | (apply Dk.Wj (c:=.ret) (e:=116); · (repeat (first | exact Dk.di.row | apply Dk.di.there)))
  | (refine @id.{0} _ ?_; constructor)
  | apply Dk.any (id:=1) 7 [] [] [[],[0],[1,0],[],[],[3,4],[]] (by kernel_rfl)
  | apply c56
  | apply c76
  | exact ()
theorem YB {x0 x1:aI} {p q:Addr} {fq fu fv fw fx fy gf gh uo ua lr lu lv ly lz l3 l4 l5 wo wa:Value}:Ct Tryz.prog 84 false (fM x0 x1 false) [.pointer (some p),.pointer (some q),.bool false] [.au p [.int .i64 x0.aC.aA,fq,fu,fv,fw,.int .i64 x0.aE.aA,fx,fy,gf,gh,uo,ua],.au q [.int .i64 x1.aC.aA,lr,lu,lv,ly,.int .i64 x1.aE.aA,lz,l3,l4,l5,wo,wa],rI fq x0.aC.aD,rI fu x0.aC.To,rI fv x0.aC.aH,rJ fw x0.aC.aB,rI fx x0.aE.aD,rI fy x0.aE.To,rI gf x0.aE.aH,rJ gh x0.aE.aB,rI uo x0.aA,rI ua x0.ab,rI lr x1.aC.aD,rI lu x1.aC.To,rI lv x1.aC.aH,rJ ly x1.aC.aB,rI lz x1.aE.aD,rI l3 x1.aE.To,rI l4 x1.aE.aH,rJ l5 x1.aE.aB,rI wo x1.aA,rI wa x1.ab] (fun y (v:Nat×Value×Value×Value×Value×Value×Value×Value×Value×Value×Value×Value×Value)=>[(match y.1 with | none=>Value.pointer none | some _=>.pointer (some ⟨v.1,0,none⟩)),.int .i64 y.2]) (fun y v=>match y.1 with | none=>[] | some m=>[.au ⟨v.1,0,none⟩ [.int .i64 m.D.aC.aA,fq,fu,fv,fw,.int .i64 m.D.aE.aA,fx,fy,gf,gh,uo,ua,.int .i64 m.bh.aC.aA,v.2.1,v.2.2.1,v.2.2.2.1,v.2.2.2.2.1,.int .i64 m.bh.aE.aA,v.2.2.2.2.2.1,v.2.2.2.2.2.2.1,v.2.2.2.2.2.2.2.1,v.2.2.2.2.2.2.2.2.1,v.2.2.2.2.2.2.2.2.2.1,v.2.2.2.2.2.2.2.2.2.2.1,.pointer (some q),v.2.2.2.2.2.2.2.2.2.2.2.1,v.2.2.2.2.2.2.2.2.2.2.2.2],rI fq m.D.aC.aD,rI fu m.D.aC.To,rI fv m.D.aC.aH,rJ fw m.D.aC.aB,rI fx m.D.aE.aD,rI fy m.D.aE.To,rI gf m.D.aE.aH,rJ gh m.D.aE.aB,rI uo m.D.aA,rI ua m.D.ab,rI v.2.1 m.bh.aC.aD,rI v.2.2.1 m.bh.aC.To,rI v.2.2.2.1 m.bh.aC.aH,rJ v.2.2.2.2.1 m.bh.aC.aB,rI v.2.2.2.2.2.1 m.bh.aE.aD,rI v.2.2.2.2.2.2.1 m.bh.aE.To,rI v.2.2.2.2.2.2.2.1 m.bh.aE.aH,rJ v.2.2.2.2.2.2.2.2.1 m.bh.aE.aB,rI v.2.2.2.2.2.2.2.2.2.1 m.bh.aA,rI v.2.2.2.2.2.2.2.2.2.2.1 m.bh.ab,.au q [.int .i64 m.F.aC.aA,lr,lu,lv,ly,.int .i64 m.F.aE.aA,lz,l3,l4,l5,wo,wa],rI lr m.F.aC.aD,rI lu m.F.aC.To,rI lv m.F.aC.aH,rJ ly m.F.aC.aB,rI lz m.F.aE.aD,rI l3 m.F.aE.To,rI l4 m.F.aE.aH,rJ l5 m.F.aE.aB,rI wo m.F.aA,rI wa m.F.ab,.rd false (bJ (iq kp)) v.2.2.2.2.2.2.2.2.2.2.2.1 m.wR,.rd false (bJ (iq kp)) v.2.2.2.2.2.2.2.2.2.2.2.2 m.xi]):=by
 refine ct (S:=Unit) vK Tryz.func84 rfl rfl ?_
 repeat' first
  | (apply Dk.fe; repeat' first | exact rfl | (refine @id.{0} _ ?_; constructor))
  | intro _
  | exact rfl
  | (refine @id.{0} _ ?_; constructor)
  | apply Dk.quiet (id:=3) (by kernel_rfl)
  | apply c52
  | apply c54
  | apply YA
  | exact ()
 all_goals try first | exact Value.nilFunc | exact (0:Nat)
theorem Rz {x0 x1:aI} {p q:Addr} {fq fu fv fw fx fy gf gh uo ua lr lu lv ly lz l3 l4 l5 wo wa:Value}:Ct Tryz.prog 84 false (fM x0 x1 true) [.pointer (some p),.pointer (some q),.bool true] [.au p [.int .i64 x0.aC.aA,fq,fu,fv,fw,.int .i64 x0.aE.aA,fx,fy,gf,gh,uo,ua],.au q [.int .i64 x1.aC.aA,lr,lu,lv,ly,.int .i64 x1.aE.aA,lz,l3,l4,l5,wo,wa],rI fq x0.aC.aD,rI fu x0.aC.To,rI fv x0.aC.aH,rJ fw x0.aC.aB,rI fx x0.aE.aD,rI fy x0.aE.To,rI gf x0.aE.aH,rJ gh x0.aE.aB,rI uo x0.aA,rI ua x0.ab,rI lr x1.aC.aD,rI lu x1.aC.To,rI lv x1.aC.aH,rJ ly x1.aC.aB,rI lz x1.aE.aD,rI l3 x1.aE.To,rI l4 x1.aE.aH,rJ l5 x1.aE.aB,rI wo x1.aA,rI wa x1.ab] (fun y (v:Nat×Value×Value×Value×Value×Value×Value×Value×Value×Value×Value×Value×Value×Value×Value×Value×Value×Value×Value×Value×Value×Value×Value×Value×Value×Value×Value×Value×Value×Value×Value×Value×Value×Nat)=>[(match y.1 with | none=>Value.pointer none | some _=>.pointer (some ⟨v.1,0,none⟩)),.int .i64 y.2]) (fun y v=>match y.1 with | none=>[] | some m=>[.au ⟨v.1,0,none⟩ [.int .i64 m.D.aC.aA,v.2.1,v.2.2.1,v.2.2.2.1,v.2.2.2.2.1,.int .i64 m.D.aE.aA,v.2.2.2.2.2.1,v.2.2.2.2.2.2.1,v.2.2.2.2.2.2.2.1,v.2.2.2.2.2.2.2.2.1,v.2.2.2.2.2.2.2.2.2.1,v.2.2.2.2.2.2.2.2.2.2.1,.int .i64 m.bh.aC.aA,v.2.2.2.2.2.2.2.2.2.2.2.1,v.2.2.2.2.2.2.2.2.2.2.2.2.1,v.2.2.2.2.2.2.2.2.2.2.2.2.2.1,v.2.2.2.2.2.2.2.2.2.2.2.2.2.2.1,.int .i64 m.bh.aE.aA,v.2.2.2.2.2.2.2.2.2.2.2.2.2.2.2.1,v.2.2.2.2.2.2.2.2.2.2.2.2.2.2.2.2.1,v.2.2.2.2.2.2.2.2.2.2.2.2.2.2.2.2.2.1,v.2.2.2.2.2.2.2.2.2.2.2.2.2.2.2.2.2.2.1,v.2.2.2.2.2.2.2.2.2.2.2.2.2.2.2.2.2.2.2.1,v.2.2.2.2.2.2.2.2.2.2.2.2.2.2.2.2.2.2.2.2.1,.pointer (some ⟨v.2.2.2.2.2.2.2.2.2.2.2.2.2.2.2.2.2.2.2.2.2.2.2.2.2.2.2.2.2.2.2.2.2,0,none⟩),v.2.2.2.2.2.2.2.2.2.2.2.2.2.2.2.2.2.2.2.2.2.2.2.2.2.2.2.2.2.2.2.1,v.2.2.2.2.2.2.2.2.2.2.2.2.2.2.2.2.2.2.2.2.2.2.2.2.2.2.2.2.2.2.2.2.1],rI v.2.1 m.D.aC.aD,rI v.2.2.1 m.D.aC.To,rI v.2.2.2.1 m.D.aC.aH,rJ v.2.2.2.2.1 m.D.aC.aB,rI v.2.2.2.2.2.1 m.D.aE.aD,rI v.2.2.2.2.2.2.1 m.D.aE.To,rI v.2.2.2.2.2.2.2.1 m.D.aE.aH,rJ v.2.2.2.2.2.2.2.2.1 m.D.aE.aB,rI v.2.2.2.2.2.2.2.2.2.1 m.D.aA,rI v.2.2.2.2.2.2.2.2.2.2.1 m.D.ab,rI v.2.2.2.2.2.2.2.2.2.2.2.1 m.bh.aC.aD,rI v.2.2.2.2.2.2.2.2.2.2.2.2.1 m.bh.aC.To,rI v.2.2.2.2.2.2.2.2.2.2.2.2.2.1 m.bh.aC.aH,rJ v.2.2.2.2.2.2.2.2.2.2.2.2.2.2.1 m.bh.aC.aB,rI v.2.2.2.2.2.2.2.2.2.2.2.2.2.2.2.1 m.bh.aE.aD,rI v.2.2.2.2.2.2.2.2.2.2.2.2.2.2.2.2.1 m.bh.aE.To,rI v.2.2.2.2.2.2.2.2.2.2.2.2.2.2.2.2.2.1 m.bh.aE.aH,rJ v.2.2.2.2.2.2.2.2.2.2.2.2.2.2.2.2.2.2.1 m.bh.aE.aB,rI v.2.2.2.2.2.2.2.2.2.2.2.2.2.2.2.2.2.2.2.1 m.bh.aA,rI v.2.2.2.2.2.2.2.2.2.2.2.2.2.2.2.2.2.2.2.2.1 m.bh.ab,.au ⟨v.2.2.2.2.2.2.2.2.2.2.2.2.2.2.2.2.2.2.2.2.2.2.2.2.2.2.2.2.2.2.2.2.2,0,none⟩ [.int .i64 m.F.aC.aA,v.2.2.2.2.2.2.2.2.2.2.2.2.2.2.2.2.2.2.2.2.2.1,v.2.2.2.2.2.2.2.2.2.2.2.2.2.2.2.2.2.2.2.2.2.2.1,v.2.2.2.2.2.2.2.2.2.2.2.2.2.2.2.2.2.2.2.2.2.2.2.1,v.2.2.2.2.2.2.2.2.2.2.2.2.2.2.2.2.2.2.2.2.2.2.2.2.1,.int .i64 m.F.aE.aA,v.2.2.2.2.2.2.2.2.2.2.2.2.2.2.2.2.2.2.2.2.2.2.2.2.2.1,v.2.2.2.2.2.2.2.2.2.2.2.2.2.2.2.2.2.2.2.2.2.2.2.2.2.2.1,v.2.2.2.2.2.2.2.2.2.2.2.2.2.2.2.2.2.2.2.2.2.2.2.2.2.2.2.1,v.2.2.2.2.2.2.2.2.2.2.2.2.2.2.2.2.2.2.2.2.2.2.2.2.2.2.2.2.1,v.2.2.2.2.2.2.2.2.2.2.2.2.2.2.2.2.2.2.2.2.2.2.2.2.2.2.2.2.2.1,v.2.2.2.2.2.2.2.2.2.2.2.2.2.2.2.2.2.2.2.2.2.2.2.2.2.2.2.2.2.2.1],rI v.2.2.2.2.2.2.2.2.2.2.2.2.2.2.2.2.2.2.2.2.2.1 m.F.aC.aD,rI v.2.2.2.2.2.2.2.2.2.2.2.2.2.2.2.2.2.2.2.2.2.2.1 m.F.aC.To,rI v.2.2.2.2.2.2.2.2.2.2.2.2.2.2.2.2.2.2.2.2.2.2.2.1 m.F.aC.aH,rJ v.2.2.2.2.2.2.2.2.2.2.2.2.2.2.2.2.2.2.2.2.2.2.2.2.1 m.F.aC.aB,rI v.2.2.2.2.2.2.2.2.2.2.2.2.2.2.2.2.2.2.2.2.2.2.2.2.2.1 m.F.aE.aD,rI v.2.2.2.2.2.2.2.2.2.2.2.2.2.2.2.2.2.2.2.2.2.2.2.2.2.2.1 m.F.aE.To,rI v.2.2.2.2.2.2.2.2.2.2.2.2.2.2.2.2.2.2.2.2.2.2.2.2.2.2.2.1 m.F.aE.aH,rJ v.2.2.2.2.2.2.2.2.2.2.2.2.2.2.2.2.2.2.2.2.2.2.2.2.2.2.2.2.1 m.F.aE.aB,rI v.2.2.2.2.2.2.2.2.2.2.2.2.2.2.2.2.2.2.2.2.2.2.2.2.2.2.2.2.2.1 m.F.aA,rI v.2.2.2.2.2.2.2.2.2.2.2.2.2.2.2.2.2.2.2.2.2.2.2.2.2.2.2.2.2.2.1 m.F.ab,.rd false (bJ (iq kp)) v.2.2.2.2.2.2.2.2.2.2.2.2.2.2.2.2.2.2.2.2.2.2.2.2.2.2.2.2.2.2.2.1 m.wR,.rd false (bJ (iq kp)) v.2.2.2.2.2.2.2.2.2.2.2.2.2.2.2.2.2.2.2.2.2.2.2.2.2.2.2.2.2.2.2.2.1 m.xi]):=by
 refine ct (S:=Unit) vK Tryz.func84 rfl rfl ?_
 repeat' first
  | (apply Dk.fe; repeat' first | exact rfl | (refine @id.{0} _ ?_; constructor))
  | intro _
  | exact rfl
  | (apply Dk.Wj (e:=29); · (repeat (first | exact Dk.di.row | apply Dk.di.there)))
  | (refine @id.{0} _ ?_; constructor)
  | apply Dk.quiet (id:=3) (by kernel_rfl)
  | apply c52
  | apply c54
  | apply YA
  | apply c42
  | exact ()
 all_goals try first | exact Value.nilFunc | exact (0:Nat)
theorem c13 {x0:aI} {aU aZ aQ aO aV bA aR aP bK bP:Value}:Ct Tryz.prog 13 true (gC x0) [.agg #[.int .i64 (x0.aC.aA),aU,aZ,aQ,aO,.int .i64 (x0.aE.aA),aV,bA,aR,aP,bK,bP]] [rI aU x0.aC.aD,rI aZ x0.aC.To,rI aQ x0.aC.aH,rJ aO x0.aC.aB,rI aV x0.aE.aD,rI bA x0.aE.To,rI aR x0.aE.aH,rJ aP x0.aE.aB,rI bK x0.aA,rI bP x0.ab] (fun y (v:Value×Value×Value×Value×Value×Value×Value×Value×Value×Value)=>[.agg #[.int .i64 y.1.aC.aA,v.1,v.2.1,v.2.2.1,v.2.2.2.1,.int .i64 y.1.aE.aA,v.2.2.2.2.1,v.2.2.2.2.2.1,v.2.2.2.2.2.2.1,v.2.2.2.2.2.2.2.1,v.2.2.2.2.2.2.2.2.1,v.2.2.2.2.2.2.2.2.2],.int .i64 y.2]) (fun y v=>[.own (aJ 2 (aM .i64)) v.1 y.1.aC.aD,.own (aJ 2 (aM .i64)) v.2.1 y.1.aC.To,.own (aJ 2 (aM .i64)) v.2.2.1 y.1.aC.aH,.own (aJ 24 (aJ 2 (aM .i64))) v.2.2.2.1 y.1.aC.aB,.own (aJ 2 (aM .i64)) v.2.2.2.2.1 y.1.aE.aD,.own (aJ 2 (aM .i64)) v.2.2.2.2.2.1 y.1.aE.To,.own (aJ 2 (aM .i64)) v.2.2.2.2.2.2.1 y.1.aE.aH,.own (aJ 24 (aJ 2 (aM .i64))) v.2.2.2.2.2.2.2.1 y.1.aE.aB,.own (aJ 2 (aM .i64)) v.2.2.2.2.2.2.2.2.1 y.1.aA,.own (aJ 2 (aM .i64)) v.2.2.2.2.2.2.2.2.2 y.1.ab]):=by
 refine ct (S:=Unit) (b9 fun _ _=>rfl) Tryz.func13 rfl rfl ?_
 repeat' first
  | (apply Dk.fe; repeat' first | exact rfl | (refine @id.{0} _ ?_; constructor))
  | intro _
  | exact rfl
  | (refine @id.{0} _ ?_; constructor)
  | apply c35
  | apply c42
  | exact ()
end Go.Proofs.YtgjbmjjihmfppaaGreat
