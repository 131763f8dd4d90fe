/- Walks by the calculus D. No condition beside those that each theorem names. -/
import Derived.Test.YtbhhmalgcnhniaaGreatDi
import Derived.Test.YtbhhmalgcnhniaaGreatMo
import Derived.Test.YtbhhmalgcnhniaaGreatDp
import Derived.Test.YtbhhmalgcnhniaaGreatDs
import Derived.Test.YtbhhmalgcnhniaaGreatWc
import Derived.Test.YtbhhmalgcnhniaaGreatWd
import Derived.Test.YtbhhmalgcnhniaaGreatWe
import Derived.Test.YtbhhmalgcnhniaaGreatWf
import Derived.Test.YtbhhmalgcnhniaaGreatWh
namespace Go.Proofs.YtbhhmalgcnhniaaGreat
open Go Go.Li Go.Dk
set_option linter.unusedVariables false
set_option maxHeartbeats 16000000
set_option maxRecDepth 100000
theorem KK {x0:aC} {cA:Addr} {aN aP aK aG:Value}:Ct Tryz.prog 108 true (cH x0) [.pointer (some (cA))] [.bn cA [.int .i64 (x0.aD),aN,aP,aK,aG],rI aN x0.aA,rI aP x0.To,rI aK x0.aF,rJ aG x0.aB] (fun y (_:Unit)=>[.bool y]) (fun y _=>[]):=by
 refine ct (S:=Unit) (ca fun _ _=>rfl) Tryz.func108 rfl rfl ?_
 repeat' first
  | (apply Dk.fe; repeat' first | exact rfl | (refine @id.{0} _ ?_; constructor))
  | intro _
  | exact rfl
  | (refine @id.{0} _ ?_; constructor)
  | apply acI
  | apply acy
  | exact ()
theorem c32 {x0:aC} {aN aP aK aG:Value} {x1:(List (List Int))} {bV:Value}:Ct Tryz.prog 32 true (iS x0 x1) [.agg #[.int .i64 (x0.aD),aN,aP,aK,aG],bV] [rI aN x0.aA,rI aP x0.To,rI aK x0.aF,rJ aG x0.aB,rJ bV x1] (fun y (v:Value)=>[v,.int .i64 y.2]) (fun y v=>[.own (aJ 2 (aM .i64)) v y.1]):=by
 refine ct (S:=Unit) (ca fun _ _=>rfl) Tryz.func32 rfl rfl ?_
 repeat' first
  | (apply Dk.fe; repeat' first | exact rfl | (refine @id.{0} _ ?_; constructor))
  | intro _
  | exact rfl
  | (refine @id.{0} _ ?_; constructor)
  | apply Dk.loop 0 (V:=Unit) (fun (s:Int) v=>[]) (fun s v=>[(14,.int .i64 (s))]) () [(1,_),(2,_),(12,_),(13,_)]
  | apply Dk.loop 2 (V:=Unit) (fun (s:Int) v=>[]) (fun s v=>[(25,.int .i64 (s))]) () [(1,_),(2,_),(23,_),(24,_)]
  | apply Dk.quiet (id:=12) (by kernel_rfl)
  | apply KK
  | apply Hs
  | apply PK
  | apply KJ
  | apply acC
  | exact ()
theorem c34 {x0:aC} {aN aP aK aG:Value} {x1:(List Int)} {bV:Value}:Ct Tryz.prog 34 true (dB x0 x1) [.agg #[.int .i64 (x0.aD),aN,aP,aK,aG],bV] [rI aN x0.aA,rI aP x0.To,rI aK x0.aF,rJ aG x0.aB,rI bV x1] (fun y (_:Unit)=>[.bool y.1,.int .i64 y.2]) (fun y _=>[]):=by
 refine ct (S:=Unit) (ca fun _ _=>rfl) Tryz.func34 rfl rfl ?_
 repeat' first
  | (apply Dk.fe; repeat' first | exact rfl | (refine @id.{0} _ ?_; constructor))
  | intro _
  | exact rfl
  | (refine @id.{0} _ ?_; constructor)
  | apply KK
  | apply Wq
  | exact ()
theorem ac3 {x0:aC} {cA:Addr} {aN aP aK aG:Value} {x1:(List Int)} {bV:Value}:Ct Tryz.prog 185 true (dJ x0 x1) [.pointer (some (cA)),bV] [.bn cA [.int .i64 (x0.aD),aN,aP,aK,aG],rI aN x0.aA,rI aP x0.To,rI aK x0.aF,rJ aG x0.aB,rI bV x1] (fun y (v:Value×Value×Value×Value)=>[.agg #[.int .i64 y.aD,v.1,v.2.1,v.2.2.1,v.2.2.2]]) (fun y v=>[.own (aJ 2 (aM .i64)) v.1 y.aA,.own (aJ 2 (aM .i64)) v.2.1 y.To,.own (aJ 2 (aM .i64)) v.2.2.1 y.aF,.own (aJ 22 (aJ 2 (aM .i64))) v.2.2.2 y.aB]):=by
 refine ct (S:=Unit) (ca fun _ _=>rfl) Tryz.func185 rfl rfl ?_
 repeat' first
  | (apply Dk.fe; repeat' first | exact rfl | (refine @id.{0} _ ?_; constructor))
  | intro _
  | exact rfl
  | (refine @id.{0} _ ?_; constructor)
  | apply Dk.fq 0 (V:=Unit) (A:=Value×Value×Value) (_,_,_) (fun a (s:Int×(List Int)×(List Int)×(List Int)) v=>Dk.pc (fun a0=>Dk.pc (fun a1 a2=>[.own (aJ 2 (aM .i64)) a0 s.2.1,.own (aJ 2 (aM .i64)) a1 s.2.2.1,.own (aJ 2 (aM .i64)) a2 s.2.2.2])) a) (fun a s v=>Dk.pc (fun a0=>Dk.pc (fun a1 a2=>[(8,.int .i64 (s.1))])) a) () [(2,_),(3,_),(4,_),(6,_),(7,_)]
  | apply Dk.Tr (id:=2) [15,0,1,2,3,4,5,6,7,8,9,10,11,12,13,14,16] [1,2,3,4,5,6,7,8,9,10,11,12,13,14,15,0,16] [] 16 [] [] [[],[],[1],[1,2],[1,2,3],[],[5],[],[7],[],[9],[9,10],[9,10,11],[],[9,10,11,12,13],[1,2,3,4,5,6,7,8,9,10,11,12,13,14]] (by kernel_rfl)
  | apply Dk.any (id:=7) 6 [] [] [[],[],[],[1,2],[1,2,3],[]] (by kernel_rfl)
  | apply Dk.any (id:=8) 13 [] [] [[],[0],[],[],[2,3],[2,3,4],[],[6],[6,7],[6,7,8],[],[6,7,8,9,10],[6,7,8,9,10,11]] (by kernel_rfl)
  | apply Dk.any (id:=9) 13 [] [] [[],[0],[],[],[2,3],[2,3,4],[],[6],[6,7],[6,7,8],[],[6,7,8,9,10],[6,7,8,9,10,11]] (by kernel_rfl)
  | apply acr
  | apply Wm
  | apply Ww
  | apply Nb
  | exact ()
theorem ac4 {x0:aC} {aN aP aK aG:Value} {x1:(List Int)} {bV:Value}:Ct Tryz.prog 116 true (fO x0 x1) [.agg #[.int .i64 (x0.aD),aN,aP,aK,aG],bV] [rI aN x0.aA,rI aP x0.To,rI aK x0.aF,rJ aG x0.aB,rI bV x1] (fun y (v:Value×Value×Value×Value)=>[.agg #[.int .i64 y.1.aD,v.1,v.2.1,v.2.2.1,v.2.2.2],.int .i64 y.2]) (fun y v=>[.own (aJ 2 (aM .i64)) v.1 y.1.aA,.own (aJ 2 (aM .i64)) v.2.1 y.1.To,.own (aJ 2 (aM .i64)) v.2.2.1 y.1.aF,.own (aJ 22 (aJ 2 (aM .i64))) v.2.2.2 y.1.aB]):=by
 refine ct (S:=Unit) (ca fun _ _=>rfl) Tryz.func116 rfl rfl ?_
 repeat' first
  | (apply Dk.fe; repeat' first | exact rfl | (refine @id.{0} _ ?_; constructor))
  | intro _
  | exact rfl
  | (refine @id.{0} _ ?_; constructor)
  | apply KK
  | apply Wq
  | apply ac3
  | exact ()
theorem c87 {x0:aC} {cA:Addr} {aN aP aK aG:Value} {x1:aC} {pU:Addr} {bD bJ aS aQ:Value} {x2:(List Int)} {cG:Value} {x3:(List Int)} {eE:Value}:Ct Tryz.prog 87 true (nE x0 x1 x2 x3) [.pointer (some (cA)),.pointer (some (pU)),cG,eE] [.bn pU [.int .i64 (x1.aD),bD,bJ,aS,aQ],.bn cA [.int .i64 (x0.aD),aN,aP,aK,aG],rI aN x0.aA,rI aP x0.To,rI aK x0.aF,rJ aG x0.aB,rI bD x1.aA,rI bJ x1.To,rI aS x1.aF,rJ aQ x1.aB,rI cG x2,rI eE x3] (fun y (v:Value×Value×Value×Value×Value×Value×Value×Value×Value×Value)=>[.agg #[.int .i64 y.aH.aD,v.1,v.2.1,v.2.2.1,v.2.2.2.1,.int .i64 y.aL.aD,v.2.2.2.2.1,v.2.2.2.2.2.1,v.2.2.2.2.2.2.1,v.2.2.2.2.2.2.2.1,v.2.2.2.2.2.2.2.2.1,v.2.2.2.2.2.2.2.2.2]]) (fun y v=>[.own (aJ 2 (aM .i64)) v.1 y.aH.aA,.own (aJ 2 (aM .i64)) v.2.1 y.aH.To,.own (aJ 2 (aM .i64)) v.2.2.1 y.aH.aF,.own (aJ 22 (aJ 2 (aM .i64))) v.2.2.2.1 y.aH.aB,.own (aJ 2 (aM .i64)) v.2.2.2.2.1 y.aL.aA,.own (aJ 2 (aM .i64)) v.2.2.2.2.2.1 y.aL.To,.own (aJ 2 (aM .i64)) v.2.2.2.2.2.2.1 y.aL.aF,.own (aJ 22 (aJ 2 (aM .i64))) v.2.2.2.2.2.2.2.1 y.aL.aB,.own (aJ 2 (aM .i64)) v.2.2.2.2.2.2.2.2.1 y.aD,.own (aJ 2 (aM .i64)) v.2.2.2.2.2.2.2.2.2 y.an]):=by
 refine ct (S:=Unit) (ca fun _ _=>rfl) Tryz.func87 rfl rfl ?_
 repeat' first
  | (apply Dk.fe; repeat' first | exact rfl | (refine @id.{0} _ ?_; constructor))
  | intro _
  | exact rfl
  | (refine @id.{0} _ ?_; constructor)
  | apply acV
  | apply Wn
  | exact ()
theorem c35 {x0:aC} {aN aP aK aG:Value} {x1:(List Int)} {bV:Value}:Ct Tryz.prog 35 true (dZ x0 x1) [.agg #[.int .i64 (x0.aD),aN,aP,aK,aG],bV] [rI aN x0.aA,rI aP x0.To,rI aK x0.aF,rJ aG x0.aB,rI bV x1] (fun y (v:Value×Value×Value×Value×Value×Value×Value×Value×Value×Value)=>[.agg #[.int .i64 y.1.aH.aD,v.1,v.2.1,v.2.2.1,v.2.2.2.1,.int .i64 y.1.aL.aD,v.2.2.2.2.1,v.2.2.2.2.2.1,v.2.2.2.2.2.2.1,v.2.2.2.2.2.2.2.1,v.2.2.2.2.2.2.2.2.1,v.2.2.2.2.2.2.2.2.2],.int .i64 y.2]) (fun y v=>[.own (aJ 2 (aM .i64)) v.1 y.1.aH.aA,.own (aJ 2 (aM .i64)) v.2.1 y.1.aH.To,.own (aJ 2 (aM .i64)) v.2.2.1 y.1.aH.aF,.own (aJ 22 (aJ 2 (aM .i64))) v.2.2.2.1 y.1.aH.aB,.own (aJ 2 (aM .i64)) v.2.2.2.2.1 y.1.aL.aA,.own (aJ 2 (aM .i64)) v.2.2.2.2.2.1 y.1.aL.To,.own (aJ 2 (aM .i64)) v.2.2.2.2.2.2.1 y.1.aL.aF,.own (aJ 22 (aJ 2 (aM .i64))) v.2.2.2.2.2.2.2.1 y.1.aL.aB,.own (aJ 2 (aM .i64)) v.2.2.2.2.2.2.2.2.1 y.1.aD,.own (aJ 2 (aM .i64)) v.2.2.2.2.2.2.2.2.2 y.1.an]):=by
 refine ct (S:=Unit) (ca fun _ _=>rfl) Tryz.func35 rfl rfl ?_
 repeat' first
  | (apply Dk.fe; repeat' first | exact rfl | (refine @id.{0} _ ?_; constructor))
  | intro _
  | exact rfl
  | (refine @id.{0} _ ?_; constructor)
  | apply ac4
  | apply Wp
  | apply c87
  | exact ()
theorem ac5 {x0:(List aC)} {bQ:Value}:Ct Tryz.prog 163 true (iM x0) [bQ] [.rd false (bF (xm On)) bQ x0] (fun y (_:Unit)=>[.bool y]) (fun y _=>[]):=by
 refine ct (S:=Unit) (ca fun _ _=>rfl) Tryz.func163 rfl rfl ?_
 repeat' first
  | (apply Dk.fe; repeat' first | exact rfl | (refine @id.{0} _ ?_; constructor))
  | intro _
  | exact rfl
  | (refine @id.{0} _ ?_; constructor)
  | apply Dk.loop 0 (V:=Unit) (fun (s:Int) v=>[]) (fun s v=>[(7,.int .i64 (s))]) () [(5,_),(6,_)]
  | apply KK
  | exact ()
theorem KL {x0:aO} {cA:Addr} {bB bG aV aT bC bH aW aU bL bP:Value}:Ct Tryz.prog 105 true (cP x0) [.pointer (some (cA))] [.bn cA [.int .i64 (x0.aH.aD),bB,bG,aV,aT,.int .i64 (x0.aL.aD),bC,bH,aW,aU,bL,bP],rI bB x0.aH.aA,rI bG x0.aH.To,rI aV x0.aH.aF,rJ aT x0.aH.aB,rI bC x0.aL.aA,rI bH x0.aL.To,rI aW x0.aL.aF,rJ aU x0.aL.aB,rI bL x0.aD,rI bP x0.an] (fun y (_:Unit)=>[.bool y]) (fun y _=>[]):=by
 refine ct (S:=Unit) (ca fun _ _=>rfl) Tryz.func105 rfl rfl ?_
 repeat' first
  | (apply Dk.fe; repeat' first | exact rfl | (refine @id.{0} _ ?_; constructor))
  | intro _
  | exact rfl
  | (refine @id.{0} _ ?_; constructor)
  | apply Dk.ZL (id:=1) 7 [] [[],[0],[0,1],[],[3],[3,4],[0,1,2,3,4,5]] (by kernel_rfl)
  | apply ac5
  | apply acL
  | exact ()
end Go.Proofs.YtbhhmalgcnhniaaGreat
