/- Walks by the calculus D. No condition beside those that each theorem names. -/
import Derived.Test.YtbmchcnkbonmkaaGreatDi
import Derived.Test.YtbmchcnkbonmkaaGreatMo
import Derived.Test.YtbmchcnkbonmkaaGreatDp
import Derived.Test.YtbmchcnkbonmkaaGreatDs
namespace Go.Proofs.YtbmchcnkbonmkaaGreat
open Go Go.Li Go.Dk
set_option linter.unusedVariables false
set_option maxHeartbeats 16000000
set_option maxRecDepth 100000
theorem c4 {x0:(List Int)} {cA:Value}:Ct Tryz.prog 4 true (sA x0) [cA] [.rd false (bG (aL .u8)) cA x0] (fun y (_:Unit)=>[.bool y]) (fun y _=>[]):=by
 refine ct (S:=Unit) (bw fun _ _=>rfl) Tryz.func4 rfl rfl ?_
 repeat' first
  | (apply Dk.fe; repeat' first | exact rfl | (refine @id.{0} _ ?_; constructor))
  | intro _
  | exact rfl
  | (refine @id.{0} _ ?_; constructor)
  | exact ()
theorem afg {x0:(List Int)} {cA:Value} {x1:(List Int)} {dD:Value}:Ct Tryz.prog 120 true (kL x0 x1) [cA,dD] [rI cA x0,rI dD x1] (fun y (_:Unit)=>[.bool y]) (fun y _=>[]):=by
 refine ct (S:=Unit) (bw fun _ _=>rfl) Tryz.func120 rfl rfl ?_
 repeat' first
  | (apply Dk.fe; repeat' first | exact rfl | (refine @id.{0} _ ?_; constructor))
  | intro _
  | exact rfl
  | (refine @id.{0} _ ?_; constructor)
  | apply Dk.loop 0 (V:=Unit) (fun (s:Int) v=>[]) (fun s v=>[(5,.int .i64 (s))]) () [(0,_),(1,_)]
  | apply Dk.quiet (id:=6) (by kernel_rfl)
  | exact ()
theorem afh {x0:aG} {aU aZ aN aK:Value} {x1:Int}:Ct Tryz.prog 116 true (oZ x0 x1) [.agg #[.int .i64 (x0.aA),aU,aZ,aN,aK],.int .i64 (x1)] [rI aU x0.aC,rI aZ x0.To,rI aN x0.aH,rJ aK x0.aB] (fun y (_:Unit)=>[.bool y]) (fun y _=>[]):=by
 refine ct (S:=Unit) (bw fun _ _=>rfl) Tryz.func116 rfl rfl ?_
 repeat' first
  | (apply Dk.fe; repeat' first | exact rfl | (refine @id.{0} _ ?_; constructor))
  | intro _
  | exact rfl
  | (refine @id.{0} _ ?_; constructor)
  | apply Dk.quiet (id:=1) (by kernel_rfl)
  | exact ()
theorem afi {x0:aG} {aU aZ aN aK:Value}:Ct Tryz.prog 101 true (mQ x0) [.agg #[.int .i64 (x0.aA),aU,aZ,aN,aK]] [rI aU x0.aC,rI aZ x0.To,rI aN x0.aH,rJ aK x0.aB] (fun y (v:Value)=>[v]) (fun y v=>[.own (aI 2 (aL .i64)) v y]):=by
 refine ct (S:=Unit) (bw fun _ _=>rfl) Tryz.func101 rfl rfl ?_
 repeat' first
  | (apply Dk.fe; repeat' first | exact rfl | (refine @id.{0} _ ?_; constructor))
  | intro _
  | exact rfl
  | (refine @id.{0} _ ?_; constructor)
  | apply Dk.loop 0 (V:=Value) (fun (s:(List Int)×Int) v=>[.own (aI 2 (aL .i64)) v s.1]) (fun s v=>[(3,v),(4,.int .i64 (s.2))]) _ [(1,_)]
  | apply afh
  | exact ()
theorem c93 {x0:aG} {cS:Addr} {aU aZ aN aK:Value} {x1:Int}:Ct Tryz.prog 93 true (dT x0 x1) [.pointer (some (cS)),.int .i64 (x1)] [.aw cS [.int .i64 (x0.aA),aU,aZ,aN,aK],rI aU x0.aC,rI aZ x0.To,rI aN x0.aH,rJ aK x0.aB] (fun y (_:Unit)=>[.agg #[.int .i64 y.aC,.int .i64 y.To]]) (fun y _=>[]):=by
 refine ct (S:=Unit) (bw fun _ _=>rfl) Tryz.func93 rfl rfl ?_
 repeat' first
  | (apply Dk.fe; repeat' first | exact rfl | (refine @id.{0} _ ?_; constructor))
  | intro _
  | exact rfl
  | (refine @id.{0} _ ?_; constructor)
  | apply Dk.any (id:=1) 14 [] [] [[],[0],[1,0],[2,1,0],[],[3,2,1,0,4],[5,3,2,1,0,4],[],[7],[8,7],[9,8,7],[],[10,9,8,7,11],[12,10,9,8,7,11]] (by kernel_rfl)
  | exact ()
theorem c79 {x0:(List bF)} {cA:Value} {x1:bF}:Ct Tryz.prog 79 true (gn x0 x1) [cA,.agg #[.int .i64 (x1.dw),.int .i64 (x1.Second)]] [.rd false (bG (my FM)) cA x0] (fun y (_:Unit)=>[.int .i64 y]) (fun y _=>[]):=by
 refine ct (S:=Unit) (bw fun _ _=>rfl) Tryz.func79 rfl rfl ?_
 repeat' first
  | (apply Dk.fe; repeat' first | exact rfl | (refine @id.{0} _ ?_; constructor))
  | intro _
  | exact rfl
  | (refine @id.{0} _ ?_; constructor)
  | apply Dk.loop 0 (V:=Unit) (fun (s:Int) v=>[]) (fun s v=>[(8,.int .i64 (s))]) () [(0,_),(3,_),(7,_)]
  | apply Dk.quiet (id:=4) (by kernel_rfl)
  | exact ()
theorem c41 {x0:(List bF)} {cA:Value} {x1:bF}:Ct Tryz.prog 41 true (dQ x0 x1) [cA,.agg #[.int .i64 (x1.dw),.int .i64 (x1.Second)]] [.rd false (bG (my FM)) cA x0] (fun y (_:Unit)=>[.int .i64 y]) (fun y _=>[]):=by
 refine ct (S:=Unit) (bw fun _ _=>rfl) Tryz.func41 rfl rfl ?_
 repeat' first
  | (apply Dk.fe; repeat' first | exact rfl | (refine @id.{0} _ ?_; constructor))
  | intro _
  | exact rfl
  | (refine @id.{0} _ ?_; constructor)
  | apply c79
  | exact ()
theorem c78 {x0:(List Int)} {cA:Value} {x1:Int}:Ct Tryz.prog 78 true (gH x0 x1) [cA,.int .i64 (x1)] [.own (aI 2 (aL .i64)) cA x0] (fun y (_:Unit)=>[.int .i64 y.1]) (fun y _=>[.own (aI 2 (aL .i64)) cA y.2]):=by
 refine ct (S:=Unit) (bw fun _ _=>rfl) Tryz.func78 rfl rfl ?_
 repeat' first
  | (apply Dk.fe; repeat' first | exact rfl | (refine @id.{0} _ ?_; constructor))
  | intro _
  | exact rfl
  | (refine @id.{0} _ ?_; constructor)
  | apply Dk.loop 0 (V:=Unit) (fun (s:Int×(List Int)) v=>[.own (aI 2 (aL .i64)) cA s.2]) (fun s v=>[(1,.int .i64 (s.1))]) () [(0,_)]
  | exact ()
theorem c40 {x0:(List Int)} {cA:Value} {x1:Int} {x2:Int}:Ct Tryz.prog 40 true (jF x0 x1 x2) [cA,.int .i64 (x1),.int .i64 (x2)] [.own (aI 2 (aL .i64)) cA x0] (fun y (_:Unit)=>[.bool y.1]) (fun y _=>[.own (aI 2 (aL .i64)) cA y.2]):=by
 refine ct (S:=Unit) (bw fun _ _=>rfl) Tryz.func40 rfl rfl ?_
 repeat' first
  | (apply Dk.fe; repeat' first | exact rfl | (refine @id.{0} _ ?_; constructor))
  | intro _
  | exact rfl
  | (refine @id.{0} _ ?_; constructor)
  | apply c78
  | exact ()
theorem c80 {x0:(List Int)} {cA:Value}:Ct Tryz.prog 80 true (qD x0) [cA] [rI cA x0] (fun y (v:Value)=>[v]) (fun y v=>[.own (aI 2 (aL .i64)) v y]):=by
 refine ct (S:=Unit) (bw fun _ _=>rfl) Tryz.func80 rfl rfl ?_
 repeat' first
  | (apply Dk.fe; repeat' first | exact rfl | (refine @id.{0} _ ?_; constructor))
  | intro _
  | exact rfl
  | (refine @id.{0} _ ?_; constructor)
  | apply Dk.je 0 (V:=Unit) (A:=Value×Value) (_,_) (fun a (s:Int×(List (Int×Int))×(List Int)) v=>Dk.pc (fun a0 a1=>[.own (Dc (Value.int .i64) (Value.int .i64)) a0 s.2.1,.own (aI 2 (aL .i64)) a1 s.2.2]) a) (fun a s v=>Dk.pc (fun a0 a1=>[(3,a0),(4,a1),(15,.int .i64 (s.1))]) a) () [(13,_),(14,_)]
  | exact ()
theorem c43 {x0:(List Int)} {cA:Value}:Ct Tryz.prog 43 true (gW x0) [cA] [.own (aI 2 (aL .i64)) cA x0] (fun y (v:Value)=>[v]) (fun y v=>[.own (aI 2 (aL .i64)) v y.1,.own (aI 2 (aL .i64)) cA y.2]):=by
 refine ct (S:=Unit) (bw fun _ _=>rfl) Tryz.func43 rfl rfl ?_
 repeat' first
  | (apply Dk.fe; repeat' first | exact rfl | (refine @id.{0} _ ?_; constructor))
  | intro _
  | exact rfl
  | (refine @id.{0} _ ?_; constructor)
  | apply Dk.je 0 (V:=Unit) (A:=Value) _ (fun a (s:Int×(List Int)×(List Int)) v=>[.own (aI 2 (aL .i64)) cA s.2.1,.own (aI 2 (aL .i64)) a s.2.2]) (fun a s v=>[(3,a),(10,.int .i64 (s.1))]) () [(0,_),(9,_)]
  | apply c78
  | apply c80
  | exact ()
theorem YU {x0:Int} {x1:(List Int)} {dD:Value}:Ct Tryz.prog 46 true (kC x0 x1) [.int .i64 (x0),dD] [rI dD x1] (fun y (_:Unit)=>[.bool y]) (fun y _=>[]):=by
 refine ct (S:=Unit) (bw fun _ _=>rfl) Tryz.func46 rfl rfl ?_
 repeat' first
  | (apply Dk.fe; repeat' first | exact rfl | (refine @id.{0} _ ?_; constructor))
  | intro _
  | exact rfl
  | (refine @id.{0} _ ?_; constructor)
  | apply Dk.loop 0 (V:=Unit) (fun (s:Int) v=>[]) (fun s v=>[(5,.int .i64 (s))]) () [(0,_),(1,_)]
  | exact ()
theorem afj {x0:(List Int)} {cA:Value} {x1:Int} {x2:Int}:Ct Tryz.prog 111 true (mD x0 x1 x2) [cA,.int .i64 (x1),.int .i64 (x2)] [rI cA x0] (fun y (_:Unit)=>[.bool y]) (fun y _=>[]):=by
 refine ct (S:=Unit) (bw fun _ _=>rfl) Tryz.func111 rfl rfl ?_
 repeat' first
  | (apply Dk.fe; repeat' first | exact rfl | (refine @id.{0} _ ?_; constructor))
  | intro _
  | exact rfl
  | (refine @id.{0} _ ?_; constructor)
  | apply YU
  | exact ()
theorem afk {x0:aG} {aU aZ aN aK:Value} {x1:Int}:Ct Tryz.prog 128 true (jP x0 x1) [.agg #[.int .i64 (x0.aA),aU,aZ,aN,aK],.int .i64 (x1)] [rI aU x0.aC,rI aZ x0.To,rI aN x0.aH,rJ aK x0.aB] (fun y (v:Value)=>[v]) (fun y v=>[.own (aI 2 (aL .i64)) v y]):=by
 refine ct (S:=Unit) (bw fun _ _=>rfl) Tryz.func128 rfl rfl ?_
 repeat' first
  | (apply Dk.fe; repeat' first | exact rfl | (refine @id.{0} _ ?_; constructor))
  | intro _
  | exact rfl
  | (refine @id.{0} _ ?_; constructor)
  | apply Dk.loop 0 (V:=Value) (fun (s:(List Int)×Int) v=>[.own (aI 2 (aL .i64)) v s.1]) (fun s v=>[(5,v),(6,.int .i64 (s.2))]) _ [(1,_),(2,_)]
  | apply Dk.quiet (id:=5) (by kernel_rfl)
  | exact ()
theorem afl {x0:aG} {aU aZ aN aK:Value} {x1:Int}:Ct Tryz.prog 129 true (lC x0 x1) [.agg #[.int .i64 (x0.aA),aU,aZ,aN,aK],.int .i64 (x1)] [rI aU x0.aC,rI aZ x0.To,rI aN x0.aH,rJ aK x0.aB] (fun y (v:Value)=>[v]) (fun y v=>[.own (aI 2 (aL .i64)) v y]):=by
 refine ct (S:=Unit) (bw fun _ _=>rfl) Tryz.func129 rfl rfl ?_
 repeat' first
  | (apply Dk.fe; repeat' first | exact rfl | (refine @id.{0} _ ?_; constructor))
  | intro _
  | exact rfl
  | (refine @id.{0} _ ?_; constructor)
  | apply Dk.loop 0 (V:=Value) (fun (s:(List Int)×Int) v=>[.own (aI 2 (aL .i64)) v s.1]) (fun s v=>[(5,v),(6,.int .i64 (s.2))]) _ [(1,_),(2,_)]
  | apply Dk.quiet (id:=5) (by kernel_rfl)
  | exact ()
theorem afm {x0:(List Int)} {cA:Value} {x1:Int}:Ct Tryz.prog 130 true (qH x0 x1) [cA,.int .i64 (x1)] [rI cA x0] (fun y (_:Unit)=>[.bool y]) (fun y _=>[]):=by
 refine ct (S:=Unit) (bw fun _ _=>rfl) Tryz.func130 rfl rfl ?_
 repeat' first
  | (apply Dk.fe; repeat' first | exact rfl | (refine @id.{0} _ ?_; constructor))
  | intro _
  | exact rfl
  | (refine @id.{0} _ ?_; constructor)
  | apply Dk.loop 0 (V:=Unit) (fun (s:Int) v=>[]) (fun s v=>[(5,.int .i64 (s))]) () [(0,_),(1,_)]
  | exact ()
theorem afn {x0:aG} {aU aZ aN aK:Value} {x1:Int}:Ct Tryz.prog 126 true (jV x0 x1) [.agg #[.int .i64 (x0.aA),aU,aZ,aN,aK],.int .i64 (x1)] [rI aU x0.aC,rI aZ x0.To,rI aN x0.aH,rJ aK x0.aB] (fun y (_:Unit)=>[.int .i64 y]) (fun y _=>[]):=by
 refine ct (S:=Unit) (bw fun _ _=>rfl) Tryz.func126 rfl rfl ?_
 repeat' first
  | (apply Dk.fe; repeat' first | exact rfl | (refine @id.{0} _ ?_; constructor))
  | intro _
  | exact rfl
  | (refine @id.{0} _ ?_; constructor)
  | apply Dk.loop 0 (V:=Unit) (fun (s:Int) v=>[]) (fun s v=>[(7,.int .i64 (s))]) () [(5,_),(6,_)]
  | apply Dk.any (id:=1) 5 [] [] [[],[],[0,1],[],[]] (by kernel_rfl)
  | apply afk
  | apply afl
  | apply afm
  | exact ()
theorem afo {x0:aJ} {aS aV aQ aO aT aW aR aP bA bC:Value} {x1:aJ} {dG dR cY cQ dH dS cZ cR eP fD:Value} {x2:(List Int)} {dC:Value} {x3:Int}:Ct Tryz.prog 127 true (iP x0 x1 x2 x3) [.agg #[.int .i64 (x0.aE.aA),aS,aV,aQ,aO,.int .i64 (x0.aF.aA),aT,aW,aR,aP,bA,bC],.agg #[.int .i64 (x1.aE.aA),dG,dR,cY,cQ,.int .i64 (x1.aF.aA),dH,dS,cZ,cR,eP,fD],dC,.int .i64 (x3)] [rI aS x0.aE.aC,rI aV x0.aE.To,rI aQ x0.aE.aH,rJ aO x0.aE.aB,rI aT x0.aF.aC,rI aW x0.aF.To,rI aR x0.aF.aH,rJ aP x0.aF.aB,rI bA x0.aA,rI bC x0.ah,rI dG x1.aE.aC,rI dR x1.aE.To,rI cY x1.aE.aH,rJ cQ x1.aE.aB,rI dH x1.aF.aC,rI dS x1.aF.To,rI cZ x1.aF.aH,rJ cR x1.aF.aB,rI eP x1.aA,rI fD x1.ah,rI dC x2] (fun y (_:Unit)=>[.bool y]) (fun y _=>[]):=by
 refine ct (S:=Unit) (bw fun _ _=>rfl) Tryz.func127 rfl rfl ?_
 repeat' first
  | (apply Dk.fe; repeat' first | exact rfl | (refine @id.{0} _ ?_; constructor))
  | intro _
  | exact rfl
  | (refine @id.{0} _ ?_; constructor)
  | apply Dk.quiet (id:=2) (by kernel_rfl)
  | apply Dk.any (id:=1) 7 [] [[],[],[],[],[],[],[4]] [[],[0],[],[2],[],[],[4,1,0,0,1,0,4,5]] (by kernel_rfl)
  | exact ()
end Go.Proofs.YtbmchcnkbonmkaaGreat
