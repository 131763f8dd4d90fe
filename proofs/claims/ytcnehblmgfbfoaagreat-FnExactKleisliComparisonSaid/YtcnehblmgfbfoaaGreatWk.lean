/- Walks by the calculus D. No condition beside those that each theorem names. -/
import Derived.Test.YtcnehblmgfbfoaaGreatDp
import Derived.Test.YtcnehblmgfbfoaaGreatDi
import Derived.Test.YtcnehblmgfbfoaaGreatMo
import Derived.Test.YtcnehblmgfbfoaaGreatDs
import Derived.Test.YtcnehblmgfbfoaaGreatWa
import Derived.Test.YtcnehblmgfbfoaaGreatWc
import Derived.Test.YtcnehblmgfbfoaaGreatWd
import Derived.Test.YtcnehblmgfbfoaaGreatWe
import Derived.Test.YtcnehblmgfbfoaaGreatWf
import Derived.Test.YtcnehblmgfbfoaaGreatWg
namespace Go.Proofs.YtcnehblmgfbfoaaGreat
open Go Go.Li Go.Dk
set_option linter.unusedVariables false
set_option maxHeartbeats 16000000
set_option maxRecDepth 100000
theorem Yp {x0:bB} {p:Addr} {sC sD sE sF sG sH sI sJ fo fa fu fj:Value}:Ct Tryz.prog 141 true (jD x0) [.pointer (some p)] [.aw p [.int .i64 x0.On.aB.aD,sC,sD,sE,sF,.int .i64 x0.On.aE.aD,sG,sH,sI,sJ,fo,fa,fu,fj],rI sC x0.On.aB.aF,rI sD x0.On.aB.To,rI sE x0.On.aB.aG,rJ sF x0.On.aB.aC,rI sG x0.On.aE.aF,rI sH x0.On.aE.To,rI sI x0.On.aE.aG,rJ sJ x0.On.aE.aC,rI fo x0.On.aD,rI fa x0.On.ab,rI fu x0.Unit,rI fj x0.ba] (fun y (v:Value×Value×Value×Value×Value)=>[.agg #[.int .i64 y.1.aD,v.1,v.2.1,v.2.2.1,v.2.2.2.1],v.2.2.2.2,.bool y.2.2]) (fun y v=>[.own (aI 2 (aJ .i64)) v.1 y.1.aF,.own (aI 2 (aJ .i64)) v.2.1 y.1.To,.own (aI 2 (aJ .i64)) v.2.2.1 y.1.aG,.own (aI 22 (aI 2 (aJ .i64))) v.2.2.2.1 y.1.aC,.own (aI 22 (aI 2 (aJ .i64))) v.2.2.2.2 y.2.1]):=by
 refine ct (S:=Unit) (bp fun _ _=>rfl) Tryz.func141 rfl rfl ?_
 repeat' first
  | (apply Dk.fe; repeat' first | exact rfl | (refine @id.{0} _ ?_; constructor))
  | intro _
  | exact rfl
  | apply Dk.PE (t:=144)
  | (apply Dk.Mj (T:=(o3 Value.string (Value.int .i64))) 19; · (repeat (first | exact Dk.dh.own (by repeat constructor) | apply Dk.dh.there)))
  | (refine @id.{0} _ ?_; constructor)
  | apply Dk.mb 0 (V:=Value) (A:=Nat×Value×Value×Value) (_,_,_,_) (fun a (s:List Int×Int) v=>Dk.pc (fun a0=>Dk.pc (fun a1=>Dk.pc (fun a2 a3=>[.row a0 [.int .i64 x0.On.aB.aD,a1,a2,v,a3] 31,.own (aI 2 (aJ .i64)) v s.1]))) a) (fun a s v=>Dk.pc (fun a0=>Dk.pc (fun a1=>Dk.pc (fun a2 a3=>[(8,.pointer (some ⟨a0,0,none⟩)),(36,.int .i64 s.2)]))) a) _ [(0,_),(2,_),(5,_),(6,_),(7,_),(34,_),(35,_)]
  | apply Dk.Pc (id:=6) [10,0,1,2,3,4,5,6,7,8,9,11] [1,2,3,4,5,6,7,8,9,10,0,11] [] 11 [] [] [[],[],[1],[1,2],[1,2,3],[1,2,3,4],[],[6],[],[6,7,8],[1,2,3,4,5,6,7,8,9]] (by kernel_rfl)
  | apply Dk.any (id:=10) 11 [] [] [[],[0],[],[],[],[],[3,4,5],[3,4,5,6],[3,4,5,6,7],[2,3,4,5,6,7,8],[2,3,4,5,6,7,8,9]] (by kernel_rfl)
  | apply Dk.anyS (id:=13) [0,1] [2] [3,4] (by kernel_rfl)
  | apply Dk.quiet (id:=3) (by kernel_rfl)
  | apply Xz
  | apply RN
  | apply XY
  | apply RP
  | apply Ha
  | apply Jh
  | exact ()
theorem Yq {x0:bB} {p:Addr} {sC sD sE sF sG sH sI sJ fo fa fu fj:Value}:Ct Tryz.prog 142 false (iL x0) [.pointer (some p)] [.aw p [.int .i64 x0.On.aB.aD,sC,sD,sE,sF,.int .i64 x0.On.aE.aD,sG,sH,sI,sJ,fo,fa,fu,fj],rI sC x0.On.aB.aF,rI sD x0.On.aB.To,rI sE x0.On.aB.aG,rJ sF x0.On.aB.aC,rI sG x0.On.aE.aF,rI sH x0.On.aE.To,rI sI x0.On.aE.aG,rJ sJ x0.On.aE.aC,rI fo x0.On.aD,rI fa x0.On.ab,rI fu x0.Unit,rI fj x0.ba] (fun y (v:Nat×Value×Value×Value×Value×Value×Value×Value)=>[(match y.1 with | none=>Value.pointer none | some _=>.pointer (some ⟨v.1,0,none⟩)),.bool y.2]) (fun y v=>match y.1 with | none=>[] | some m=>[.aw ⟨v.1,0,none⟩ [.pointer (some p),.int .i64 m.1.aD,v.2.1,v.2.2.1,v.2.2.2.1,v.2.2.2.2.1,v.2.2.2.2.2.1,v.2.2.2.2.2.2.1,v.2.2.2.2.2.2.2],rI v.2.1 m.1.aF,rI v.2.2.1 m.1.To,rI v.2.2.2.1 m.1.aG,rJ v.2.2.2.2.1 m.1.aC,.rd false (bE (kn rq)) v.2.2.2.2.2.1 m.2.1,rJ v.2.2.2.2.2.2.1 m.2.2.1,.rd false (o3 Value.string (Value.int .i64)) v.2.2.2.2.2.2.2 m.2.2.2]):=by
 refine ct (S:=Unit) OG Tryz.func142 rfl rfl ?_
 repeat' first
  | (apply Dk.fe; repeat' first | exact rfl | (refine @id.{0} _ ?_; constructor))
  | intro _
  | exact rfl
  | apply Dk.AD.TY (t:=22)
  | apply Dk.AD.TZ (t:=23)
  | (apply Dk.Mj (T:=(o3 Value.string (Value.int .i64))) 107; · (repeat (first | exact Dk.dh.own (by repeat constructor) | apply Dk.dh.there)))
  | apply Dk.rgs
  | (apply Dk.PN (c:=.ret) (e:=185); · (repeat (first | exact Dk.dh.row | apply Dk.dh.there)))
  | (refine @id.{0} _ ?_; constructor)
  | apply Dk.mb 0 (V:=Value) (A:=Nat×Value) (_,_) (fun a (s:List (List Int)×Int) v=>Dk.pc (fun a0 a1=>[.row a0 [.pointer (some p),.int .i64 0,.slice none 0 0,.slice none 0 0,.slice none 0 0,.slice none 0 0,a1,v,.map none] 185,.own (aI 22 (aI 2 (aJ .i64))) v s.1]) a) (fun a s v=>[(30,.int .i64 s.2)]) _ [(0,_),(4,_),(28,_),(29,_)]
  | apply Dk.mb 2 (V:=Value) (A:=Nat×Value) (_,_) (fun a (s:List (List Int)×Int) v=>Dk.pc (fun a0 a1=>[.row a0 [.pointer (some p),.int .i64 0,.slice none 0 0,.slice none 0 0,.slice none 0 0,.slice none 0 0,a1,v,.map none] 185,.own (aI 22 (aI 2 (aJ .i64))) v s.1]) a) (fun a s v=>[(40,.int .i64 s.2)]) _ [(0,_),(4,_),(5,_),(6,_),(28,_),(29,_),(30,_),(38,_),(39,_)]
  | apply Dk.mb 4 (V:=Value) (A:=Nat×Value) (_,_) (fun a (s:List (List Int)×Int) v=>Dk.pc (fun a0 a1=>[.row a0 [.pointer (some p),.int .i64 0,.slice none 0 0,.slice none 0 0,.slice none 0 0,.slice none 0 0,a1,v,.map none] 185,.own (aI 22 (aI 2 (aJ .i64))) v s.1]) a) (fun a s v=>[(50,.int .i64 s.2)]) _ [(0,_),(4,_),(5,_),(6,_),(7,_),(8,_),(28,_),(29,_),(30,_),(38,_),(39,_),(40,_),(48,_),(49,_)]
  | apply Dk.mb 6 (V:=Value) (A:=Nat×Value×Value×Value×Value×Value×Value×Value×Value) (_,_,_,_,_,_,_,_,_) (fun a (s:List Int×Int) v=>Dk.pc (fun a0=>Dk.pc (fun a1=>Dk.pc (fun a2=>Dk.pc (fun a3=>Dk.pc (fun a4=>Dk.pc (fun a5=>Dk.pc (fun a6=>Dk.pc (fun a7 a8=>[.row a0 [a1,a2,a3,a4,v,a5,a6,a7,a8] 185,.own (aI 2 (aJ .i64)) v s.1])))))))) a) (fun a s v=>[(112,.int .i64 s.2)]) _ [(0,_),(4,_),(11,_),(110,_),(111,_)]
  | apply Dk.JX (id:=13) [Dk.ay.own (aI 22 (aI 2 (aJ .i64))) _ _] 11 [] [[],[],[],[],[],[],[],[],[],[],[14,8]] [[],[],[1],[1,2],[1,2,3],[],[],[],[5,6,7],[5,6,7,8],[1,2,3,4,5,6,7,8,9]] (by kernel_rfl)
  | apply Dk.any (id:=20) 6 [] [] [[],[],[1],[1,2],[1,2,3],[1,2,3,4]] (by kernel_rfl)
  | apply Dk.any (id:=21) 17 [] [] [[],[],[1],[1,2],[1,2,3],[1,2,3,4],[],[6],[6,7],[6,7,8],[6,7,8,9],[],[11],[11,12],[11,12,13],[6,7,8,9,10,11,12,13,14],[1,2,3,4,5,6,7,8,9,10,11,12,13,14,15]] (by kernel_rfl)
  | apply Dk.JX (id:=25) [Dk.ay.own (aI 2 (aJ .i64)) _ _] 22 [] [[],[],[],[],[],[],[],[],[],[],[],[],[],[],[],[],[],[],[],[],[],[26]] [[],[],[1],[1,2],[1,2,3],[1,2,3,4],[],[],[],[],[9],[9,10],[9,10,11],[],[13],[13,14],[13,14,15],[9,10,11,12,13,14,15,16],[9,10,11,12,13,14,15,16,17],[6,7,8,9,10,11,12,13,14,15,16,17,18],[6,7,8,9,10,11,12,13,14,15,16,17,18,19],[1,2,3,4,5,6,7,8,9,10,11,12,13,14,15,16,17,18,19,20]] (by kernel_rfl)
  | apply X8
  | apply XC
  | apply RN
  | apply RP
  | apply Lr
  | apply Ji
  | exact ()
 all_goals try first | exact Value.nilFunc | exact (0:Nat)
theorem DR {x0:bB} {aQ aU aO aL aR aV aP aN aZ bA bM bN:Value} {x1:bB} {nC nR lV kT nD nS lW kU oA oD oW oX:Value}:Ct Tryz.prog 13 true (mN x0 x1) [.agg #[.int .i64 (x0.On.aB.aD),aQ,aU,aO,aL,.int .i64 (x0.On.aE.aD),aR,aV,aP,aN,aZ,bA,bM,bN],.agg #[.int .i64 (x1.On.aB.aD),nC,nR,lV,kT,.int .i64 (x1.On.aE.aD),nD,nS,lW,kU,oA,oD,oW,oX]] [rI aQ x0.On.aB.aF,rI aU x0.On.aB.To,rI aO x0.On.aB.aG,rJ aL x0.On.aB.aC,rI aR x0.On.aE.aF,rI aV x0.On.aE.To,rI aP x0.On.aE.aG,rJ aN x0.On.aE.aC,rI aZ x0.On.aD,rI bA x0.On.ab,rI bM x0.Unit,rI bN x0.ba,rI nC x1.On.aB.aF,rI nR x1.On.aB.To,rI lV x1.On.aB.aG,rJ kT x1.On.aB.aC,rI nD x1.On.aE.aF,rI nS x1.On.aE.To,rI lW x1.On.aE.aG,rJ kU x1.On.aE.aC,rI oA x1.On.aD,rI oD x1.On.ab,rI oW x1.Unit,rI oX x1.ba] (fun y (_:Unit)=>[.bool y]) (fun y _=>[]):=by
 refine ct (S:=Unit) (bp fun _ _=>rfl) Tryz.func13 rfl rfl ?_
 repeat' first
  | (apply Dk.fe; repeat' first | exact rfl | (refine @id.{0} _ ?_; constructor))
  | intro _
  | exact rfl
  | (refine @id.{0} _ ?_; constructor)
  | apply BE
  | apply ML
  | exact ()
end Go.Proofs.YtcnehblmgfbfoaaGreat
