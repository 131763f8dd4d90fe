/- Walks by the calculus D. No condition beside those that each theorem names. -/
import Derived.Test.YtbmchcnkbonmkaaGreatDi
import Derived.Test.YtbmchcnkbonmkaaGreatMo
import Derived.Test.YtbmchcnkbonmkaaGreatDp
import Derived.Test.YtbmchcnkbonmkaaGreatDs
import Derived.Test.YtbmchcnkbonmkaaGreatWa
import Derived.Test.YtbmchcnkbonmkaaGreatWb
import Derived.Test.YtbmchcnkbonmkaaGreatWc
import Derived.Test.YtbmchcnkbonmkaaGreatWd
namespace Go.Proofs.YtbmchcnkbonmkaaGreat
open Go Go.Li Go.Dk
set_option linter.unusedVariables false
set_option maxHeartbeats 16000000
set_option maxRecDepth 100000
theorem c20 {x0:aJ} {cS:Addr} {aS aV aQ aO aT aW aR aP bA bC:Value}:Ct Tryz.prog 20 true (eR x0) [.pointer (some (cS))] [.aw cS [.int .i64 (x0.aE.aA),aS,aV,aQ,aO,.int .i64 (x0.aF.aA),aT,aW,aR,aP,bA,bC],rI aS x0.aE.aC,rI aV x0.aE.To,rI aQ x0.aE.aH,rJ aO x0.aE.aB,rI aT x0.aF.aC,rI aW x0.aF.To,rI aR x0.aF.aH,rJ aP x0.aF.aB,rI bA x0.aA,rI bC x0.ah] (fun y (_:Unit)=>[.bool y]) (fun y _=>[]):=by
 refine ct (S:=Unit) (bw fun _ _=>rfl) Tryz.func20 rfl rfl ?_
 repeat' first
  | (apply Dk.fe; repeat' first | exact rfl | (refine @id.{0} _ ?_; constructor))
  | intro _
  | exact rfl
  | (show Dk.D _ _ (Dk.Jd.e _ _ _ _ _ _ _ _ _ _); first | apply Dk.S3 (t:=69) DR | apply Dk.WZ (t:=69) (S:=DR) (bF.mk _ _) | fail)
  | (apply Dk.ZJ (T:=(aI 72 DR)) (E:=(bG (my FM))) 58; · (repeat (first | exact Dk.dh.own (by repeat constructor) | apply Dk.dh.there)))
  | (refine @id.{0} _ ?_; constructor)
  | apply Dk.loop 0 (V:=Unit) (fun (s:Int) v=>[]) (fun s v=>[(5,.int .i64 s)]) () [(0,_),(3,_),(4,_)]
  | apply Dk.loop 2 (V:=Value) (fun (s:List bF×Int) v=>[.own (aI 72 DR) v s.1]) (fun s v=>[(6,v),(36,.int .i64 s.2)]) _ [(0,_),(3,_),(4,_),(5,_),(34,_),(35,_)]
  | apply Dk.loop 4 (V:=Value) (fun (s:List bF×Int) v=>[.own (aI 72 DR) v s.1]) (fun s v=>[(6,v),(46,.int .i64 s.2)]) _ [(0,_),(3,_),(4,_),(5,_),(7,_),(34,_),(35,_),(36,_),(44,_),(45,_)]
  | apply Dk.je 6 (V:=Unit) (A:=Value) _ (fun a (s:List Int×Int) v=>[.own (aI 2 (aL .i64)) a s.1]) (fun a s v=>[(11,a),(63,.int .i64 s.2)]) () [(0,_),(3,_),(4,_),(5,_),(6,_),(61,_),(62,_)]
  | apply Dk.je 8 (V:=Unit) (A:=Value) _ (fun a (s:List Int×Int) v=>[.own (aI 2 (aL .i64)) a s.1]) (fun a s v=>[(11,a),(73,.int .i64 s.2)]) () [(0,_),(3,_),(4,_),(5,_),(6,_),(12,_),(13,_),(61,_),(62,_),(63,_),(71,_),(72,_)]
  | apply Dk.quiet (id:=1) (by kernel_rfl)
  | apply Dk.any (id:=22) 21 [0,1,2] [] [[],[],[],[],[3],[4,3],[5,4,3],[],[6,5,4,3,7],[8,6,5,4,3,7],[],[],[11],[],[13],[14,13],[15,14,13],[],[16,15,14,13,17],[18,16,15,14,13,17],[10,12,11,19,18,16,15,14,13,17]] (by kernel_rfl)
  | apply YQ
  | apply c38
  | apply c39
  | apply JM
  | apply c41
  | apply c40
  | apply c43
  | apply c44
  | exact ()
theorem c50 {x0:Int} {x1:(List (List Int))} {dD:Value}:Ct Tryz.prog 50 true (jJ x0 x1) [.int .i64 (x0),dD] [rJ dD x1] (fun y (v:Value)=>[v]) (fun y v=>[.own (aI 2 (aL .i64)) v y]):=by
 refine ct (S:=Unit) (bw fun _ _=>rfl) Tryz.func50 rfl rfl ?_
 repeat' first
  | (apply Dk.fe; repeat' first | exact rfl | (refine @id.{0} _ ?_; constructor))
  | intro _
  | exact rfl
  | (refine @id.{0} _ ?_; constructor)
  | apply Dk.loop 0 (V:=Value) (fun (s:(List Int)×Int) v=>[.own (aI 2 (aL .i64)) v s.1]) (fun s v=>[(5,v),(6,.int .i64 (s.2))]) _ [(0,_),(1,_)]
  | apply Dk.je 2 (V:=Unit) (A:=Value) _ (fun a (s:Int×(List Int)) v=>[.own (aI 2 (aL .i64)) a s.2]) (fun a s v=>[(5,a),(7,.int .i64 (s.1))]) () [(1,_)]
  | apply Dk.je 4 (V:=Unit) (A:=Value) _ (fun a (s:Int×(List Int)) v=>[.own (aI 2 (aL .i64)) a s.2]) (fun a s v=>[(5,a),(10,.int .i64 (s.1))]) () [(1,_),(7,_),(8,_),(9,_)]
  | apply Dk.quiet (id:=9) (by kernel_rfl)
  | apply c86
  | exact ()
theorem afp {x0:bX} {cS:Addr} {cC cI bT bP cD cJ bU bQ cO cT cE cK bV bR cF cL bW bS cP cU dW:Value} {x1:(List Int)} {dD:Value} {x2:Int}:Ct Tryz.prog 124 true (gY x0 x1 x2) [.pointer (some (cS)),dD,.int .i64 (x2)] [.aw cS [.int .i64 (x0.F.aE.aA),cC,cI,bT,bP,.int .i64 (x0.F.aF.aA),cD,cJ,bU,bQ,cO,cT,.int .i64 (x0.G.aE.aA),cE,cK,bV,bR,.int .i64 (x0.G.aF.aA),cF,cL,bW,bS,cP,cU,.bool (x0.Ao),.int .i64 (x0.xl),dW],rI cC x0.F.aE.aC,rI cI x0.F.aE.To,rI bT x0.F.aE.aH,rJ bP x0.F.aE.aB,rI cD x0.F.aF.aC,rI cJ x0.F.aF.To,rI bU x0.F.aF.aH,rJ bQ x0.F.aF.aB,rI cO x0.F.aA,rI cT x0.F.ah,rI cE x0.G.aE.aC,rI cK x0.G.aE.To,rI bV x0.G.aE.aH,rJ bR x0.G.aE.aB,rI cF x0.G.aF.aC,rI cL x0.G.aF.To,rI bW x0.G.aF.aH,rJ bS x0.G.aF.aB,rI cP x0.G.aA,rI cU x0.G.ah,rJ dW x0.Found,rI dD x1] (fun y (v:Value)=>[v]) (fun y v=>[.own (aI 2 (aL .i64)) v y]):=by
 refine ct (S:=Unit) (bw fun _ _=>rfl) Tryz.func124 rfl rfl ?_
 repeat' first
  | (apply Dk.fe; repeat' first | exact rfl | (refine @id.{0} _ ?_; constructor))
  | intro _
  | exact rfl
  | (refine @id.{0} _ ?_; constructor)
  | apply Dk.loop 0 (V:=Value) (fun (s:(List Int)×Int) v=>[.own (aI 2 (aL .i64)) v s.1]) (fun s v=>[(10,v),(11,.int .i64 (s.2))]) _ [(0,_),(1,_),(2,_),(7,_),(8,_),(9,_)]
  | apply Dk.loop 2 (V:=Unit) (fun (s:Bool×Int) v=>[]) (fun s v=>[(13,.bool (s.1)),(14,.int .i64 (s.2))]) () [(0,_),(1,_),(2,_),(7,_),(8,_),(9,_),(10,_),(11,_),(12,_)]
  | apply Dk.quiet (id:=7) (by kernel_rfl)
  | apply Dk.quiet (id:=14) (by kernel_rfl)
  | apply Dk.quiet (id:=15) (by kernel_rfl)
  | apply Dk.any (id:=1) 13 [] [[],[],[],[],[],[],[],[],[],[],[],[],[10]] [[],[0],[1,0],[2,1,0],[3,2,1,0],[],[5],[6,5],[7,6,5],[8,7,6,5],[],[],[10,4,3,2,1,0,0,1,0,2,1,0,3,2,1,0,4,3,2,1,0,10,11]] (by kernel_rfl)
  | apply Dk.any (id:=2) 17 [] [] [[],[],[1],[2,1],[3,2,1],[4,3,2,1],[],[5,4,3,2,1,6],[7,5,4,3,2,1,6],[],[9],[10,9],[11,10,9],[12,11,10,9],[],[13,12,11,10,9,14],[15,13,12,11,10,9,14]] (by kernel_rfl)
  | apply Lv
  | apply afn
  | apply DE
  | apply afo
  | exact ()
theorem YV {rc:bX→(List Int)→Option (bX)} (ih:∀ {x0:bX} {cX:Nat} {cC cI bT bP cD cJ bU bQ cO cT cE cK bV bR cF cL bW bS cP cU dW:Value} {x1:(List Int)} {dD:Value},Ct Tryz.prog 121 false (rc x0 x1) [.pointer (some (⟨cX,0,none⟩)),dD] [.row cX [.int .i64 (x0.F.aE.aA),cC,cI,bT,bP,.int .i64 (x0.F.aF.aA),cD,cJ,bU,bQ,cO,cT,.int .i64 (x0.G.aE.aA),cE,cK,bV,bR,.int .i64 (x0.G.aF.aA),cF,cL,bW,bS,cP,cU,.bool (x0.Ao),.int .i64 (x0.xl),dW] 158,rI cC x0.F.aE.aC,rI cI x0.F.aE.To,rI bT x0.F.aE.aH,rJ bP x0.F.aE.aB,rI cD x0.F.aF.aC,rI cJ x0.F.aF.To,rI bU x0.F.aF.aH,rJ bQ x0.F.aF.aB,rI cO x0.F.aA,rI cT x0.F.ah,rI cE x0.G.aE.aC,rI cK x0.G.aE.To,rI bV x0.G.aE.aH,rJ bR x0.G.aE.aB,rI cF x0.G.aF.aC,rI cL x0.G.aF.To,rI bW x0.G.aF.aH,rJ bS x0.G.aF.aB,rI cP x0.G.aA,rI cU x0.G.ah,.om 24 (bG (aL .i64)) dW x0.Found,rI dD x1] (fun y (v:Value)=>[]) (fun y v=>[.row cX [.int .i64 y.F.aE.aA,cC,cI,bT,bP,.int .i64 y.F.aF.aA,cD,cJ,bU,bQ,cO,cT,.int .i64 y.G.aE.aA,cE,cK,bV,bR,.int .i64 y.G.aF.aA,cF,cL,bW,bS,cP,cU,.bool y.Ao,.int .i64 y.xl,v] 158,.om 24 (bG (aL .i64)) v y.Found])) {x0:bX} {cX:Nat} {cC cI bT bP cD cJ bU bQ cO cT cE cK bV bR cF cL bW bS cP cU dW:Value} {x1:(List Int)} {dD:Value}:Ct Tryz.prog 121 false (pK rc x0 x1) [.pointer (some (⟨cX,0,none⟩)),dD] [.row cX [.int .i64 (x0.F.aE.aA),cC,cI,bT,bP,.int .i64 (x0.F.aF.aA),cD,cJ,bU,bQ,cO,cT,.int .i64 (x0.G.aE.aA),cE,cK,bV,bR,.int .i64 (x0.G.aF.aA),cF,cL,bW,bS,cP,cU,.bool (x0.Ao),.int .i64 (x0.xl),dW] 158,rI cC x0.F.aE.aC,rI cI x0.F.aE.To,rI bT x0.F.aE.aH,rJ bP x0.F.aE.aB,rI cD x0.F.aF.aC,rI cJ x0.F.aF.To,rI bU x0.F.aF.aH,rJ bQ x0.F.aF.aB,rI cO x0.F.aA,rI cT x0.F.ah,rI cE x0.G.aE.aC,rI cK x0.G.aE.To,rI bV x0.G.aE.aH,rJ bR x0.G.aE.aB,rI cF x0.G.aF.aC,rI cL x0.G.aF.To,rI bW x0.G.aF.aH,rJ bS x0.G.aF.aB,rI cP x0.G.aA,rI cU x0.G.ah,.om 24 (bG (aL .i64)) dW x0.Found,rI dD x1] (fun y (v:Value)=>[]) (fun y v=>[.row cX [.int .i64 y.F.aE.aA,cC,cI,bT,bP,.int .i64 y.F.aF.aA,cD,cJ,bU,bQ,cO,cT,.int .i64 y.G.aE.aA,cE,cK,bV,bR,.int .i64 y.G.aF.aA,cF,cL,bW,bS,cP,cU,.bool y.Ao,.int .i64 y.xl,v] 158,.om 24 (bG (aL .i64)) v y.Found]):=by
 refine ctv yi Tryz.func121 rfl rfl ?_
 repeat' first
  | (apply Dk.fe; repeat' first | exact rfl | (refine @id.{0} _ ?_; constructor))
  | intro _
  | exact rfl
  | apply Dk.acN (d:=38)
  | apply ih
  | (refine @id.{0} _ ?_; constructor)
  | apply Dk.loop 0 (V:=Unit) (fun (s:Int×Int) v=>[.om 24 (bG (aL .i64)) dW x0.Found]) (fun s v=>[(4,.int .i64 (s.1)),(5,.int .i64 (s.2))]) () [(0,_),(1,_)]
  | apply Dk.loop 2 (V:=Value) (fun (s:Int×Int×Int×Int×Int×Bool×Int×(List (List Int))) v=>[.row cX [.int .i64 (s.2.1),cC,cI,bT,bP,.int .i64 (s.2.2.1),cD,cJ,bU,bQ,cO,cT,.int .i64 (s.2.2.2.1),cE,cK,bV,bR,.int .i64 (s.2.2.2.2.1),cF,cL,bW,bS,cP,cU,.bool (s.2.2.2.2.2.1),.int .i64 (s.2.2.2.2.2.2.1),v] 158,.om 24 (bG (aL .i64)) v s.2.2.2.2.2.2.2]) (fun s v=>[(7,.int .i64 (s.1))]) _ [(0,_),(1,_),(4,_),(6,_)]
  | apply Dk.quiet (id:=11) (by kernel_rfl)
  | apply Dk.any (id:=8) 8 [0] [] [[],[],[1],[2,1],[3,2,1],[],[5],[6,5]] (by kernel_rfl)
  | apply afp
  | apply DE
  | exact ()
theorem YW (n:Nat):∀ {x0:bX} {cX:Nat} {cC cI bT bP cD cJ bU bQ cO cT cE cK bV bR cF cL bW bS cP cU dW:Value} {x1:(List Int)} {dD:Value},Ct Tryz.prog 121 false (fM n x0 x1) [.pointer (some (⟨cX,0,none⟩)),dD] [.row cX [.int .i64 (x0.F.aE.aA),cC,cI,bT,bP,.int .i64 (x0.F.aF.aA),cD,cJ,bU,bQ,cO,cT,.int .i64 (x0.G.aE.aA),cE,cK,bV,bR,.int .i64 (x0.G.aF.aA),cF,cL,bW,bS,cP,cU,.bool (x0.Ao),.int .i64 (x0.xl),dW] 158,rI cC x0.F.aE.aC,rI cI x0.F.aE.To,rI bT x0.F.aE.aH,rJ bP x0.F.aE.aB,rI cD x0.F.aF.aC,rI cJ x0.F.aF.To,rI bU x0.F.aF.aH,rJ bQ x0.F.aF.aB,rI cO x0.F.aA,rI cT x0.F.ah,rI cE x0.G.aE.aC,rI cK x0.G.aE.To,rI bV x0.G.aE.aH,rJ bR x0.G.aE.aB,rI cF x0.G.aF.aC,rI cL x0.G.aF.To,rI bW x0.G.aF.aH,rJ bS x0.G.aF.aB,rI cP x0.G.aA,rI cU x0.G.ah,.om 24 (bG (aL .i64)) dW x0.Found,rI dD x1] (fun y (v:Value)=>[]) (fun y v=>[.row cX [.int .i64 y.F.aE.aA,cC,cI,bT,bP,.int .i64 y.F.aF.aA,cD,cJ,bU,bQ,cO,cT,.int .i64 y.G.aE.aA,cE,cK,bV,bR,.int .i64 y.G.aF.aA,cF,cL,bW,bS,cP,cU,.bool y.Ao,.int .i64 y.xl,v] 158,.om 24 (bG (aL .i64)) v y.Found]):=by
 induction n with
 | zero=>intros; rw [tI]; exact ⟨yi,fun _ _ _ _ _ _ _ y hy=>nomatch (show none=some y from hy)⟩
 | succ n ih=>exact YV ih
theorem afq {x0:bX} {cX:Nat} {cC cI bT bP cD cJ bU bQ cO cT cE cK bV bR cF cL bW bS cP cU dW:Value} {x1:(List Int)} {dD:Value}:Ct Tryz.prog 121 false (fM 64 x0 x1) [.pointer (some (⟨cX,0,none⟩)),dD] [.row cX [.int .i64 (x0.F.aE.aA),cC,cI,bT,bP,.int .i64 (x0.F.aF.aA),cD,cJ,bU,bQ,cO,cT,.int .i64 (x0.G.aE.aA),cE,cK,bV,bR,.int .i64 (x0.G.aF.aA),cF,cL,bW,bS,cP,cU,.bool (x0.Ao),.int .i64 (x0.xl),dW] 158,rI cC x0.F.aE.aC,rI cI x0.F.aE.To,rI bT x0.F.aE.aH,rJ bP x0.F.aE.aB,rI cD x0.F.aF.aC,rI cJ x0.F.aF.To,rI bU x0.F.aF.aH,rJ bQ x0.F.aF.aB,rI cO x0.F.aA,rI cT x0.F.ah,rI cE x0.G.aE.aC,rI cK x0.G.aE.To,rI bV x0.G.aE.aH,rJ bR x0.G.aE.aB,rI cF x0.G.aF.aC,rI cL x0.G.aF.To,rI bW x0.G.aF.aH,rJ bS x0.G.aF.aB,rI cP x0.G.aA,rI cU x0.G.ah,.om 24 (bG (aL .i64)) dW x0.Found,rI dD x1] (fun y (v:Value)=>[]) (fun y v=>[.row cX [.int .i64 y.F.aE.aA,cC,cI,bT,bP,.int .i64 y.F.aF.aA,cD,cJ,bU,bQ,cO,cT,.int .i64 y.G.aE.aA,cE,cK,bV,bR,.int .i64 y.G.aF.aA,cF,cL,bW,bS,cP,cU,.bool y.Ao,.int .i64 y.xl,v] 158,.om 24 (bG (aL .i64)) v y.Found]):=by
 exact YW 64
end Go.Proofs.YtbmchcnkbonmkaaGreat
