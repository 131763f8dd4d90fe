/- Walks by the calculus D. No condition beside those that each theorem names. -/
import Derived.Test.YtgjbmjjihmfppaaGreatDp
import Derived.Test.YtgjbmjjihmfppaaGreatDi
import Derived.Test.YtgjbmjjihmfppaaGreatMo
import Derived.Test.YtgjbmjjihmfppaaGreatDs
import Derived.Test.YtgjbmjjihmfppaaGreatWa
import Derived.Test.YtgjbmjjihmfppaaGreatWb
import Derived.Test.YtgjbmjjihmfppaaGreatWc
namespace Go.Proofs.YtgjbmjjihmfppaaGreat
open Go Go.Li Go.Dk
set_option linter.unusedVariables false
set_option maxHeartbeats 16000000
set_option maxRecDepth 100000
theorem Ry {x0:aG} {aS aY aN aL:Value}:Ct Tryz.prog 110 true (kD x0) [.agg #[.int .i64 (x0.aA),aS,aY,aN,aL]] [rI aS x0.aD,rI aY x0.To,rI aN x0.aH,rJ aL x0.aB] (fun y (v:Value×Value×Value×Value)=>[.agg #[.int .i64 y.aA,v.1,v.2.1,v.2.2.1,v.2.2.2]]) (fun y v=>[.own (aJ 2 (aM .i64)) v.1 y.aD,.own (aJ 2 (aM .i64)) v.2.1 y.To,.own (aJ 2 (aM .i64)) v.2.2.1 y.aH,.own (aJ 24 (aJ 2 (aM .i64))) v.2.2.2 y.aB]):=by
 refine ct (S:=Unit) (b9 fun _ _=>rfl) Tryz.func110 rfl rfl ?_
 repeat' first
  | (apply Dk.fe; repeat' first | exact rfl | (refine @id.{0} _ ?_; constructor))
  | intro _
  | exact rfl
  | (refine @id.{0} _ ?_; constructor)
  | apply Dk.any (id:=1) 14 [] [] [[],[0],[],[2],[3,2],[],[5],[6,5,4,3,2],[],[8],[9,8,7,6,5,4,3,2],[],[11],[12,11,10,9,8,7,6,5,4,3,2]] (by kernel_rfl)
  | apply zH
  | apply X9
  | exact ()
theorem Yq {x0:aG} {aS aY aN aL:Value} {x1:aG} {bU cI bB aW:Value}:Ct Tryz.prog 132 true (iV x0 x1) [.agg #[.int .i64 (x0.aA),aS,aY,aN,aL],.agg #[.int .i64 (x1.aA),bU,cI,bB,aW]] [rI aS x0.aD,rI aY x0.To,rI aN x0.aH,rJ aL x0.aB,rI bU x1.aD,rI cI x1.To,rI bB x1.aH,rJ aW x1.aB] (fun y (v:Value×Value×Value×Value)=>[.agg #[.int .i64 y.aA,v.1,v.2.1,v.2.2.1,v.2.2.2]]) (fun y v=>[.own (aJ 2 (aM .i64)) v.1 y.aD,.own (aJ 2 (aM .i64)) v.2.1 y.To,.own (aJ 2 (aM .i64)) v.2.2.1 y.aH,.own (aJ 24 (aJ 2 (aM .i64))) v.2.2.2 y.aB]):=by
 refine ct (S:=Unit) (b9 fun _ _=>rfl) Tryz.func132 rfl rfl ?_
 repeat' first
  | (apply Dk.fe; repeat' first | exact rfl | (refine @id.{0} _ ?_; constructor))
  | intro _
  | exact rfl
  | apply Dk.apR (d:=69)
  | apply Dk.ixH (d:=70)
  | apply Dk.stR (e:=24) (t:=24)
  | (refine @id.{0} _ ?_; constructor)
  | apply Dk.j6 0 (V:=Value) (A:=Nat×Value×Value×Value) (_,_,_,_) (fun a (s:Int×(List Int)) v=>Dk.pc (fun a0=>Dk.pc (fun a1=>Dk.pc (fun a2 a3=>[.row a0 [.int .i64 (aj (x0.aA+x1.aA)),a1,a2,v,a3] 27,.own (aJ 2 (aM .i64)) v s.2]))) a) (fun a s v=>Dk.pc (fun a0=>Dk.pc (fun a1=>Dk.pc (fun a2 a3=>[(7,.pointer (some ⟨a0,0,none⟩)),(8,.int .i64 (s.1))]))) a) _ [(3,_),(4,_),(5,_),(6,_)]
  | apply Dk.j6 2 (V:=Unit) (A:=Value) _ (fun a (s:Int×(List (List Int))) v=>[.own (aJ 24 (aJ 2 (aM .i64))) a s.2]) (fun a s v=>[(9,.int .i64 (s.1))]) () [(3,_),(4,_),(5,_),(6,_),(7,_)]
  | apply Dk.j6 4 (V:=Unit) (A:=Value) _ (fun a (s:Int×(List (List Int))) v=>[.own (aJ 24 (aJ 2 (aM .i64))) a s.2]) (fun a s v=>[(10,.int .i64 (s.1))]) () [(3,_),(4,_),(5,_),(6,_),(7,_),(9,_)]
  | apply Dk.j6 6 (V:=Value×Value×Value) (A:=Nat×Value) (_,_) (fun a (s:Int×(List Int)×(List Int)×(List (List Int))) v=>Dk.pc (fun a0 a1=>[.row a0 [.int .i64 (aj (x0.aA+x1.aA)),v.1,v.2.1,a1,v.2.2] 27,.own (aJ 2 (aM .i64)) v.1 s.2.1,.own (aJ 2 (aM .i64)) v.2.1 s.2.2.1,.own (aJ 24 (aJ 2 (aM .i64))) v.2.2 s.2.2.2]) a) (fun a s v=>Dk.pc (fun a0 a1=>[(7,.pointer (some ⟨a0,0,none⟩)),(11,.int .i64 (s.1))]) a) (_,_,_) [(3,_),(4,_),(5,_),(6,_)]
  | apply Dk.loop 8 (V:=Value) (fun (s:(List Int)×Int) v=>[.own (aJ 2 (aM .i64)) v s.1]) (fun s v=>[(12,v),(13,.int .i64 (s.2))]) _ [(3,_),(4,_),(5,_),(6,_),(7,_),(11,_)]
  | apply Dk.loop 10 (V:=Value) (fun (s:(List Int)×Int) v=>[.own (aJ 2 (aM .i64)) v s.1]) (fun s v=>[(12,v),(14,.int .i64 (s.2))]) _ [(3,_),(4,_),(5,_),(6,_),(7,_),(11,_)]
  | apply Dk.quiet (id:=1) (by kernel_rfl)
  | apply Dk.any (id:=7) 10 [] [] [[],[0],[],[2],[],[3,2,4],[5,3,2,4],[],[6,5,3,2,4,7],[8,6,5,3,2,4,7]] (by kernel_rfl)
  | apply Dk.xg (id:=14) [Dk.aw.own (aJ 24 (aJ 2 (aM .i64))) _ _] 10 [] [[],[],[],[],[],[],[],[],[],[12]] [[],[0],[],[],[3],[],[4,3,5],[6,4,3,5],[],[7,6,4,3,5,8]] (by kernel_rfl)
  | apply Dk.any (id:=18) 10 [] [] [[],[0],[],[2],[],[3,2,4],[5,3,2,4],[],[6,5,3,2,4,7],[8,6,5,3,2,4,7]] (by kernel_rfl)
  | apply Dk.any (id:=19) 10 [] [] [[],[0],[],[2],[],[3,2,4],[5,3,2,4],[],[6,5,3,2,4,7],[8,6,5,3,2,4,7]] (by kernel_rfl)
  | apply Ry
  | exact ()
theorem O5 {x0:aG} {aS aY aN aL:Value} {x1:aG} {bU cI bB aW:Value} {x2:(List Int)} {eC:Value} {x3:(List Int)} {gD:Value}:Ct Tryz.prog 71 true (hY x0 x1 x2 x3) [.agg #[.int .i64 (x0.aA),aS,aY,aN,aL],.agg #[.int .i64 (x1.aA),bU,cI,bB,aW],eC,gD] [rI aS x0.aD,rI aY x0.To,rI aN x0.aH,rJ aL x0.aB,rI bU x1.aD,rI cI x1.To,rI bB x1.aH,rJ aW x1.aB,rI eC x2,rI gD x3] (fun y (v:Value×Value×Value×Value×Value×Value×Value×Value×Value×Value)=>[.agg #[.int .i64 y.aC.aA,v.1,v.2.1,v.2.2.1,v.2.2.2.1,.int .i64 y.aE.aA,v.2.2.2.2.1,v.2.2.2.2.2.1,v.2.2.2.2.2.2.1,v.2.2.2.2.2.2.2.1,v.2.2.2.2.2.2.2.2.1,v.2.2.2.2.2.2.2.2.2]]) (fun y v=>[.own (aJ 2 (aM .i64)) v.1 y.aC.aD,.own (aJ 2 (aM .i64)) v.2.1 y.aC.To,.own (aJ 2 (aM .i64)) v.2.2.1 y.aC.aH,.own (aJ 24 (aJ 2 (aM .i64))) v.2.2.2.1 y.aC.aB,.own (aJ 2 (aM .i64)) v.2.2.2.2.1 y.aE.aD,.own (aJ 2 (aM .i64)) v.2.2.2.2.2.1 y.aE.To,.own (aJ 2 (aM .i64)) v.2.2.2.2.2.2.1 y.aE.aH,.own (aJ 24 (aJ 2 (aM .i64))) v.2.2.2.2.2.2.2.1 y.aE.aB,.own (aJ 2 (aM .i64)) v.2.2.2.2.2.2.2.2.1 y.aA,.own (aJ 2 (aM .i64)) v.2.2.2.2.2.2.2.2.2 y.ab]):=by
 refine ct (S:=Unit) (b9 fun _ _=>rfl) Tryz.func71 rfl rfl ?_
 repeat' first
  | (apply Dk.fe; repeat' first | exact rfl | (refine @id.{0} _ ?_; constructor))
  | intro _
  | exact rfl
  | (refine @id.{0} _ ?_; constructor)
  | apply Dk.any (id:=1) 7 [] [] [[],[0],[],[2,1,0],[],[4,3,2,1,0],[]] (by kernel_rfl)
  | apply Ry
  | apply zH
  | exact ()
theorem ae1 {x0:aK} {dB:Nat} {cA:Value} {x1:aG} {bU cI bB aW:Value}:Ct Tryz.prog 102 false (pE x0 x1) [.pointer (some (⟨dB,0,none⟩)),.agg #[.int .i64 (x1.aA),bU,cI,bB,aW]] [.row dB [cA,.int .i64 (x0.At),.int .u64 (x0.aq)] 81,.rd false (bJ (aM .u8)) cA x0.Code,rI bU x1.aD,rI cI x1.To,rI bB x1.aH,rJ aW x1.aB] (fun y (v:Value×Value×Value×Value)=>[.agg #[.int .i64 y.1.aA,v.1,v.2.1,v.2.2.1,v.2.2.2]]) (fun y v=>[rI v.1 y.1.aD,rI v.2.1 y.1.To,rI v.2.2.1 y.1.aH,rJ v.2.2.2 y.1.aB,.row dB [cA,.int .i64 y.2.At,.int .u64 y.2.aq] 81]):=by
 refine ct (S:=Unit) vK Tryz.func102 rfl rfl ?_
 repeat' first
  | (apply Dk.fe; repeat' first | exact rfl | (refine @id.{0} _ ?_; constructor))
  | intro _
  | exact rfl
  | (refine Dk.uP (t:=58) rfl ?_ ?_)
  | apply Dk.slT (t:=24)
  | apply Dk.stN
  | (refine @id.{0} _ ?_; constructor)
  | apply Dk.xg (id:=13) [Dk.aw.row _ _ 81] 6 [] [[],[],[],[],[],[8]] [[],[0],[],[],[3],[2,4,3]] (by kernel_rfl)
  | apply Dk.xg (id:=18) [Dk.aw.row _ _ 81] 13 [] [[],[],[],[],[],[],[],[15],[],[],[],[7],[]] [[],[0],[],[1,0,2],[3,1,0,2],[],[],[5,6],[],[],[9],[8,10,9,7,5,6],[11,8,10,9,5,6]] (by kernel_rfl)
  | apply Dk.xg (id:=21) [Dk.aw.row _ _ 81] 8 [] [[],[],[],[],[],[],[],[10]] [[],[0],[],[],[],[4],[5,4],[3,6,5,4]] (by kernel_rfl)
  | apply Dk.Zb (id:=6) 9 (e:=24) (e2:=2) (T:=(aM .i64)) (by kernel_rfl)
  | apply Ry
  | apply Al
  | apply aeH
  | exact ()
theorem c65 {x0:aI} {dR:Addr} {aU aZ aQ aO aV bA aR aP bK bP:Value}:Ct Tryz.prog 65 true (kJ x0) [.pointer (some (dR))] [.au dR [.int .i64 (x0.aC.aA),aU,aZ,aQ,aO,.int .i64 (x0.aE.aA),aV,bA,aR,aP,bK,bP],rI aU x0.aC.aD,rI aZ x0.aC.To,rI aQ x0.aC.aH,rJ aO x0.aC.aB,rI aV x0.aE.aD,rI bA x0.aE.To,rI aR x0.aE.aH,rJ aP x0.aE.aB,rI bK x0.aA,rI bP x0.ab] (fun y (_:Unit)=>[.bool y]) (fun y _=>[]):=by
 refine ct (S:=Unit) (b9 fun _ _=>rfl) Tryz.func65 rfl rfl ?_
 repeat' first
  | (apply Dk.fe; repeat' first | exact rfl | (refine @id.{0} _ ?_; constructor))
  | intro _
  | exact rfl
  | (refine @id.{0} _ ?_; constructor)
  | apply Dk.loop 0 (V:=Unit) (fun (s:Int) v=>[]) (fun s v=>[(66,.int .i64 (s))]) () [(0,_),(3,_),(4,_),(64,_),(65,_)]
  | apply Dk.loop 2 (V:=Unit) (fun (s:Int) v=>[]) (fun s v=>[(121,.int .i64 (s))]) () [(0,_),(3,_),(4,_),(119,_),(120,_)]
  | apply Dk.loop 4 (V:=Unit) (fun (s:Int) v=>[]) (fun s v=>[(153,.int .i64 (s))]) () [(0,_),(4,_),(151,_),(152,_)]
  | apply Dk.loop 6 (V:=Unit) (fun (s:Int) v=>[]) (fun s v=>[(160,.int .i64 (s))]) () [(0,_),(4,_),(9,_),(151,_),(152,_),(153,_),(158,_),(159,_)]
  | apply Dk.quiet (id:=1) (by kernel_rfl)
  | apply Dk.quiet (id:=2) (by kernel_rfl)
  | apply Dk.quiet (id:=7) (by kernel_rfl)
  | apply Dk.quiet (id:=13) (by kernel_rfl)
  | apply Dk.quiet (id:=22) (by kernel_rfl)
  | apply Tb
  | apply c93
  | apply O4
  | exact ()
theorem O6 {x0:aG} {dB:Nat} {aS aY aN aL:Value} {FM:aG} {K7 O7:Addr} {Dn GQ zt xA:Value}:Ct Tryz.prog 113 true (gH x0 (fun a0 a1=>eQ a0 a1 FM)) [.pointer (some (⟨dB,0,none⟩)),.func (.func 114) #[] #[.pointer (some (K7))]] [.row dB [.int .i64 (x0.aA),aS,aY,aN,aL] 27,rI aS x0.aD,rI aY x0.To,rI aN x0.aH,.own (aJ 24 (aJ 2 (aM .i64))) aL x0.aB,.au K7 [.pointer (some (O7))],.au O7 [.int .i64 (FM.aA),Dn,GQ,zt,xA],rI Dn FM.aD,rI GQ FM.To,rI zt FM.aH,rJ xA FM.aB] (fun y (v:Value)=>[]) (fun y v=>[.row dB [.int .i64 y.aA,aS,aY,aN,v] 27,.own (aJ 24 (aJ 2 (aM .i64))) v y.aB]):=by
 refine ZM (b9 fun _ _=>rfl) Tryz.func113 rfl rfl ?_
 repeat' first
  | (apply Dk.fe; repeat' first | exact rfl | (refine @id.{0} _ ?_; constructor))
  | intro _
  | exact rfl
  | (refine @id.{0} _ ?_; constructor)
  | apply Dk.j6 0 (V:=Unit) (A:=Value) _ (fun a (s:Int×(List (List Int))) v=>[.own (aJ 24 (aJ 2 (aM .i64))) a s.2]) (fun a s v=>[(19,.int .i64 (s.1))]) () [(0,_),(1,_),(4,_),(18,_)]
  | apply Dk.j6 2 (V:=Unit) (A:=Value) _ (fun a (s:Int×(List (List Int))) v=>[.own (aJ 24 (aJ 2 (aM .i64))) a s.2]) (fun a s v=>[(38,.int .i64 (s.1))]) () [(0,_),(1,_),(4,_),(5,_),(18,_),(19,_),(37,_)]
  | apply Dk.quiet (id:=10) (by kernel_rfl)
  | apply Dk.any (id:=5) 7 [] [] [[],[0],[1,0],[2,1,0],[],[],[5,5]] (by kernel_rfl)
  | apply Dk.any (id:=11) 12 [] [] [[],[0],[1,0],[2,1,0],[],[3,2,1,0,4],[5,3,2,1,0,4],[],[],[],[],[8,9,10]] (by kernel_rfl)
  | apply Tb
  | apply Yf
  | exact ()
theorem c73 {x0:aG} {dR:Addr} {aS aY aN aL:Value}:Ct Tryz.prog 73 true (lS x0) [.pointer (some (dR))] [.au dR [.int .i64 (x0.aA),aS,aY,aN,aL],rI aS x0.aD,rI aY x0.To,rI aN x0.aH,rJ aL x0.aB] (fun y (v:Value×Value×Value×Value)=>[.agg #[.int .i64 y.aA,v.1,v.2.1,v.2.2.1,v.2.2.2]]) (fun y v=>[.own (aJ 2 (aM .i64)) v.1 y.aD,.own (aJ 2 (aM .i64)) v.2.1 y.To,.own (aJ 2 (aM .i64)) v.2.2.1 y.aH,.own (aJ 24 (aJ 2 (aM .i64))) v.2.2.2 y.aB]):=by
 refine ct (S:=Unit) (b9 fun _ _=>rfl) Tryz.func73 rfl rfl ?_
 repeat' first
  | (apply Dk.fe; repeat' first | exact rfl | (refine @id.{0} _ ?_; constructor))
  | intro _
  | exact rfl
  | (refine @id.{0} _ ?_; constructor)
  | apply Dk.Vx (id:=1) [20,0,1,2,3,4,5,6,7,8,9,10,11,12,13,14,15,16,17,18,19,21] [1,2,3,4,5,6,7,8,9,10,11,12,13,14,15,16,17,18,19,20,0,21] [] 21 [] [] [[],[],[1],[2,1],[3,2,1],[],[5],[6,5],[7,6,5],[8,7,6,5],[],[10],[11,10],[12,11,10],[13,12,11,10,9,8,7,6,5],[],[15],[16,15],[17,16,15],[18,17,16,15,14,13,12,11,10,9,8,7,6,5],[4,3,2,1,9,8,7,6,5,14,13,12,11,10,9,8,7,6,5,19,18,17,16,15,14,13,12,11,10,9,8,7,6,5]] (by kernel_rfl)
  | apply JF
  | apply Yf
  | apply O6
  | exact ()
theorem c86 {x0:aG} {aS aY aN aL:Value} {x1:aG} {bU cI bB aW:Value}:Ct Tryz.prog 86 true (pJ x0 x1) [.agg #[.int .i64 (x0.aA),aS,aY,aN,aL],.agg #[.int .i64 (x1.aA),bU,cI,bB,aW]] [rI aS x0.aD,rI aY x0.To,rI aN x0.aH,rJ aL x0.aB,rI bU x1.aD,rI cI x1.To,rI bB x1.aH,rJ aW x1.aB] (fun y (_:Unit)=>[.bool y]) (fun y _=>[]):=by
 refine ct (S:=Unit) (b9 fun _ _=>rfl) Tryz.func86 rfl rfl ?_
 repeat' first
  | (apply Dk.fe; repeat' first | exact rfl | (refine @id.{0} _ ?_; constructor))
  | intro _
  | exact rfl
  | (refine @id.{0} _ ?_; constructor)
  | apply Yi
  | apply aeM
  | exact ()
theorem ae2 {x0:Int} {x1:(List (List Int))} {eA:Value}:Ct Tryz.prog 156 true (pO x0 x1) [.int .i64 (x0),eA] [rJ eA x1] (fun y (v:Value)=>[v]) (fun y v=>[.own (aJ 2 (aM .i64)) v y]):=by
 refine ct (S:=Unit) (b9 fun _ _=>rfl) Tryz.func156 rfl rfl ?_
 repeat' first
  | (apply Dk.fe; repeat' first | exact rfl | (refine @id.{0} _ ?_; constructor))
  | intro _
  | exact rfl
  | (refine @id.{0} _ ?_; constructor)
  | apply Dk.loop 0 (V:=Value) (fun (s:(List Int)×Int) v=>[.own (aJ 2 (aM .i64)) v s.1]) (fun s v=>[(5,v),(6,.int .i64 (s.2))]) _ [(0,_),(1,_)]
  | apply Dk.j6 2 (V:=Unit) (A:=Value) _ (fun a (s:Int×(List Int)) v=>[.own (aJ 2 (aM .i64)) a s.2]) (fun a s v=>[(5,a),(7,.int .i64 (s.1))]) () [(1,_)]
  | apply Dk.j6 4 (V:=Unit) (A:=Value) _ (fun a (s:Int×(List Int)) v=>[.own (aJ 2 (aM .i64)) a s.2]) (fun a s v=>[(5,a),(10,.int .i64 (s.1))]) () [(1,_),(7,_),(8,_),(9,_)]
  | apply Dk.quiet (id:=9) (by kernel_rfl)
  | apply aeF
  | exact ()
end Go.Proofs.YtgjbmjjihmfppaaGreat
