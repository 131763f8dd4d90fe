/- Walks by the calculus D. No condition beside those that each theorem names. -/
import Derived.Test.YtbhhmalgcnhniaaGreatDi
import Derived.Test.YtbhhmalgcnhniaaGreatMo
import Derived.Test.YtbhhmalgcnhniaaGreatDp
import Derived.Test.YtbhhmalgcnhniaaGreatDs
import Derived.Test.YtbhhmalgcnhniaaGreatWa
import Derived.Test.YtbhhmalgcnhniaaGreatWb
import Derived.Test.YtbhhmalgcnhniaaGreatWc
import Derived.Test.YtbhhmalgcnhniaaGreatWd
import Derived.Test.YtbhhmalgcnhniaaGreatWf
import Derived.Test.YtbhhmalgcnhniaaGreatWg
import Derived.Test.YtbhhmalgcnhniaaGreatWh
namespace Go.Proofs.YtbhhmalgcnhniaaGreat
open Go Go.Li Go.Dk
set_option linter.unusedVariables false
set_option maxHeartbeats 16000000
set_option maxRecDepth 100000
theorem ac7 {x0:Int} {x1:(List Int)} {bV:Value} {x2:(List Int)} {cG:Value}:Ct Tryz.prog 209 true (cY x0 x1 x2) [.int .i64 (x0),bV,cG] [rI bV x1,rI cG x2] (fun y (v:Value×Value×Value×Value)=>[.agg #[.int .i64 y.aD,v.1,v.2.1,v.2.2.1,v.2.2.2]]) (fun y v=>[.own (aJ 2 (aM .i64)) v.1 y.aA,.own (aJ 2 (aM .i64)) v.2.1 y.To,.own (aJ 2 (aM .i64)) v.2.2.1 y.aF,.own (aJ 22 (aJ 2 (aM .i64))) v.2.2.2 y.aB]):=by
 refine ct (S:=Unit) (ca fun _ _=>rfl) Tryz.func209 rfl rfl ?_
 repeat' first
  | (apply Dk.fe; repeat' first | exact rfl | (refine @id.{0} _ ?_; constructor))
  | intro _
  | exact rfl
  | (refine Dk.rX (t:=83) rfl ?_ ?_)
  | apply Dk.AD.Yd (d:=108)
  | (refine Dk.rX (t:=112) rfl ?_ ?_)
  | (refine @id.{0} _ ?_; constructor)
  | apply Dk.fq 0 (V:=Value×Value) (A:=Nat×Value×Value) (_,_,_) (fun a (s:Int×(List Int)×(List Int)×(List Int)) v=>Dk.pc (fun a0=>Dk.pc (fun a1 a2=>[.row a0 [.int .i64 (x0),v.1,v.2,a1,a2] 32,.own (aJ 2 (aM .i64)) a1 s.2.2.2,.own (aJ 2 (aM .i64)) v.1 s.2.1,.own (aJ 2 (aM .i64)) v.2 s.2.2.1])) a) (fun a s v=>Dk.pc (fun a0=>Dk.pc (fun a1 a2=>[(8,.pointer (some ⟨a0,0,none⟩)),(9,.int .i64 (s.1))])) a) (_,_) [(6,_),(7,_)]
  | apply Dk.fq 2 (V:=Value) (A:=Nat×Value×Value×Value) (_,_,_,_) (fun a (s:Int×(List (List Int))) v=>Dk.pc (fun a0=>Dk.pc (fun a1=>Dk.pc (fun a2 a3=>[.row a0 [.int .i64 (x0),a1,a2,a3,v] 32,.own (aJ 22 (aJ 2 (aM .i64))) v s.2]))) a) (fun a s v=>Dk.pc (fun a0=>Dk.pc (fun a1=>Dk.pc (fun a2 a3=>[(8,.pointer (some ⟨a0,0,none⟩)),(10,.int .i64 (s.1))]))) a) _ [(6,_),(7,_)]
  | apply Dk.loop 4 (V:=Value) (fun (s:(List Int)×Int) v=>[.own (aJ 2 (aM .i64)) v s.1]) (fun s v=>[(11,v),(12,.int .i64 (s.2))]) _ [(6,_),(7,_),(8,_),(10,_)]
  | apply Dk.loop 6 (V:=Unit) (fun (s:Int×Int) v=>[]) (fun s v=>[(13,.int .i64 (s.1)),(15,.int .i64 (s.2))]) () [(6,_),(7,_),(8,_),(10,_),(11,_),(12,_),(14,_)]
  | apply Dk.quiet (id:=20) (by kernel_rfl)
  | apply Dk.quiet (id:=25) (by kernel_rfl)
  | apply Dk.any (id:=6) 8 [] [] [[],[0],[],[],[2,3],[2,3,4],[2,3,4,5],[2,3,4,5,6]] (by kernel_rfl)
  | apply Dk.any (id:=7) 8 [] [] [[],[0],[],[],[2,3],[2,3,4],[2,3,4,5],[2,3,4,5,6]] (by kernel_rfl)
  | apply Dk.any (id:=9) 8 [] [] [[],[0],[],[],[2,3],[2,3,4],[2,3,4,5],[]] (by kernel_rfl)
  | apply Dk.any (id:=21) 11 [] [] [[],[],[0,1],[0,1,2],[0,1,2,3],[0,1,2,3,4],[],[],[6,7],[6,7,8],[6,7,8,9]] (by kernel_rfl)
  | apply acH
  | apply YY
  | apply AN
  | apply PJ
  | exact ()
theorem WD {x0:aC} {aN aP aK aG:Value} {x1:aC} {bD bJ aS aQ:Value}:Ct Tryz.prog 101 true (gE x0 x1) [.agg #[.int .i64 (x0.aD),aN,aP,aK,aG],.agg #[.int .i64 (x1.aD),bD,bJ,aS,aQ]] [rI aN x0.aA,rI aP x0.To,rI aK x0.aF,rJ aG x0.aB,rI bD x1.aA,rI bJ x1.To,rI aS x1.aF,rJ aQ x1.aB] (fun y (v:Value×Value×Value×Value)=>[.agg #[.int .i64 y.aD,v.1,v.2.1,v.2.2.1,v.2.2.2]]) (fun y v=>[.own (aJ 2 (aM .i64)) v.1 y.aA,.own (aJ 2 (aM .i64)) v.2.1 y.To,.own (aJ 2 (aM .i64)) v.2.2.1 y.aF,.own (aJ 22 (aJ 2 (aM .i64))) v.2.2.2 y.aB]):=by
 refine ct (S:=Unit) (ca fun _ _=>rfl) Tryz.func101 rfl rfl ?_
 repeat' first
  | (apply Dk.fe; repeat' first | exact rfl | (refine @id.{0} _ ?_; constructor))
  | intro _
  | exact rfl
  | apply Dk.Yd (d:=69)
  | apply Dk.ixH (d:=70)
  | apply Dk.stR (e:=22) (t:=22)
  | (refine @id.{0} _ ?_; constructor)
  | apply Dk.fq 0 (V:=Value) (A:=Nat×Value×Value×Value) (_,_,_,_) (fun a (s:Int×(List Int)) v=>Dk.pc (fun a0=>Dk.pc (fun a1=>Dk.pc (fun a2 a3=>[.row a0 [.int .i64 (ak (x0.aD+x1.aD)),a1,a2,v,a3] 32,.own (aJ 2 (aM .i64)) v s.2]))) a) (fun a s v=>Dk.pc (fun a0=>Dk.pc (fun a1=>Dk.pc (fun a2 a3=>[(7,.pointer (some ⟨a0,0,none⟩)),(8,.int .i64 (s.1))]))) a) _ [(3,_),(4,_),(5,_),(6,_)]
  | apply Dk.fq 2 (V:=Unit) (A:=Value) _ (fun a (s:Int×(List (List Int))) v=>[.own (aJ 22 (aJ 2 (aM .i64))) a s.2]) (fun a s v=>[(9,.int .i64 (s.1))]) () [(3,_),(4,_),(5,_),(6,_),(7,_)]
  | apply Dk.fq 4 (V:=Unit) (A:=Value) _ (fun a (s:Int×(List (List Int))) v=>[.own (aJ 22 (aJ 2 (aM .i64))) a s.2]) (fun a s v=>[(10,.int .i64 (s.1))]) () [(3,_),(4,_),(5,_),(6,_),(7,_),(9,_)]
  | apply Dk.fq 6 (V:=Value×Value×Value) (A:=Nat×Value) (_,_) (fun a (s:Int×(List Int)×(List Int)×(List (List Int))) v=>Dk.pc (fun a0 a1=>[.row a0 [.int .i64 (ak (x0.aD+x1.aD)),v.1,v.2.1,a1,v.2.2] 32,.own (aJ 2 (aM .i64)) v.1 s.2.1,.own (aJ 2 (aM .i64)) v.2.1 s.2.2.1,.own (aJ 22 (aJ 2 (aM .i64))) v.2.2 s.2.2.2]) a) (fun a s v=>Dk.pc (fun a0 a1=>[(7,.pointer (some ⟨a0,0,none⟩)),(11,.int .i64 (s.1))]) a) (_,_,_) [(3,_),(4,_),(5,_),(6,_)]
  | apply Dk.loop 8 (V:=Value) (fun (s:(List Int)×Int) v=>[.own (aJ 2 (aM .i64)) v s.1]) (fun s v=>[(12,v),(13,.int .i64 (s.2))]) _ [(3,_),(4,_),(5,_),(6,_),(7,_),(11,_)]
  | apply Dk.loop 10 (V:=Value) (fun (s:(List Int)×Int) v=>[.own (aJ 2 (aM .i64)) v s.1]) (fun s v=>[(12,v),(14,.int .i64 (s.2))]) _ [(3,_),(4,_),(5,_),(6,_),(7,_),(11,_)]
  | apply Dk.quiet (id:=1) (by kernel_rfl)
  | apply Dk.any (id:=7) 10 [] [] [[],[0],[],[2],[],[2,3,4],[2,3,4,5],[],[2,3,4,5,6,7],[2,3,4,5,6,7,8]] (by kernel_rfl)
  | apply Dk.vN (id:=14) [Dk.ay.own (aJ 22 (aJ 2 (aM .i64))) _ _] 10 [] [[],[],[],[],[],[],[],[],[],[12]] [[],[0],[],[],[3],[],[3,4,5],[3,4,5,6],[],[3,4,5,6,7,8]] (by kernel_rfl)
  | apply Dk.any (id:=18) 10 [] [] [[],[0],[],[2],[],[2,3,4],[2,3,4,5],[],[2,3,4,5,6,7],[2,3,4,5,6,7,8]] (by kernel_rfl)
  | apply Dk.any (id:=19) 10 [] [] [[],[0],[],[2],[],[2,3,4],[2,3,4,5],[],[2,3,4,5,6,7],[2,3,4,5,6,7,8]] (by kernel_rfl)
  | apply PM
  | exact ()
theorem ac8 {x0:aC} {aN aP aK aG:Value} {x1:aC} {bD bJ aS aQ:Value}:Ct Tryz.prog 214 true (fD x0 x1) [.agg #[.int .i64 (x0.aD),aN,aP,aK,aG],.agg #[.int .i64 (x1.aD),bD,bJ,aS,aQ]] [rI aN x0.aA,rI aP x0.To,rI aK x0.aF,rJ aG x0.aB,rI bD x1.aA,rI bJ x1.To,rI aS x1.aF,rJ aQ x1.aB] (fun y (v:Value×Value×Value×Value)=>match v with | (q0,q1,q2,q3)=>[.agg #[.int .i64 y.aD,q0,q1,q2,q3]]) (fun y v=>match v with | (q0,q1,q2,q3)=>[.own (aJ 2 (aM .i64)) q0 y.aA,.own (aJ 2 (aM .i64)) q1 y.To,.own (aJ 2 (aM .i64)) q2 y.aF,.own (aJ 22 (aJ 2 (aM .i64))) q3 y.aB]):=by
 refine ct (S:=Unit) (ca fun _ _=>rfl) Tryz.func214 rfl rfl ?_
 repeat' first
  | (apply Dk.fe; repeat' first | exact rfl | (refine @id.{0} _ ?_; constructor))
  | intro _
  | exact rfl
  | (refine Dk.rX (t:=60) rfl ?_ ?_)
  | (refine @id.{0} _ ?_; constructor)
  | apply Dk.fq 0 (V:=Value×Value) (A:=Nat×Value×Value×Value) (_,_,_,_) (fun a (s:Int×(List Int)×(List Int)) v=>Dk.pc (fun a0=>Dk.pc (fun a1=>Dk.pc (fun a2 a3=>[.row a0 [a1,v.1,v.2,a2,a3] 32,.own (aJ 2 (aM .i64)) v.1 s.2.1,.own (aJ 2 (aM .i64)) v.2 s.2.2]))) a) (fun a s v=>Dk.pc (fun a0=>Dk.pc (fun a1=>Dk.pc (fun a2 a3=>[(5,.pointer (some ⟨a0,0,none⟩)),(7,.int .i64 (s.1))]))) a) (_,_) [(2,_),(3,_),(4,_),(6,_)]
  | apply Dk.fq 2 (V:=Value×Value) (A:=Nat×Value×Value×Value) (_,_,_,_) (fun a (s:Int×(List Int)×(List Int)) v=>Dk.pc (fun a0=>Dk.pc (fun a1=>Dk.pc (fun a2 a3=>[.row a0 [a1,v.1,v.2,a2,a3] 32,.own (aJ 2 (aM .i64)) v.1 s.2.1,.own (aJ 2 (aM .i64)) v.2 s.2.2]))) a) (fun a s v=>Dk.pc (fun a0=>Dk.pc (fun a1=>Dk.pc (fun a2 a3=>[(5,.pointer (some ⟨a0,0,none⟩)),(8,.int .i64 (s.1))]))) a) (_,_) [(2,_),(3,_),(4,_),(6,_),(7,_)]
  | apply Dk.loop 4 (V:=Value) (fun (s:(List (List Int))×Int) v=>[.own (aJ 22 (aJ 2 (aM .i64))) v s.1]) (fun s v=>[(9,v),(10,.int .i64 (s.2))]) _ [(2,_),(3,_),(4,_),(5,_),(6,_)]
  | apply Dk.loop 6 (V:=Value) (fun (s:(List Int)×Int) v=>[.own (aJ 2 (aM .i64)) v s.1]) (fun s v=>[(11,v),(12,.int .i64 (s.2))]) _ [(2,_),(3,_),(4,_),(5,_),(6,_),(9,_),(10,_)]
  | apply Dk.quiet (id:=20) (by kernel_rfl)
  | apply Dk.quiet (id:=21) (by kernel_rfl)
  | apply WD
  | exact ()
theorem ac9 {x0:aI} {bW:Nat} {bK:Value}:Ct Tryz.prog 152 true (cZ x0) [.pointer (some (⟨bW,0,none⟩))] [.row bW [bK,.int .i64 (x0.At),.int .u64 (x0.au)] 162,.rd false (bF (aM .u8)) bK x0.Code] (fun y (v:Value×Value×Value×Value)=>[.agg #[.int .i64 y.1.aD,v.1,v.2.1,v.2.2.1,v.2.2.2]]) (fun y v=>[.own (aJ 2 (aM .i64)) v.1 y.1.aA,.own (aJ 2 (aM .i64)) v.2.1 y.1.To,.own (aJ 2 (aM .i64)) v.2.2.1 y.1.aF,.own (aJ 22 (aJ 2 (aM .i64))) v.2.2.2 y.1.aB,.row bW [bK,.int .i64 y.2.At,.int .u64 y.2.au] 162]):=by
 refine ct (S:=Unit) (ca fun _ _=>rfl) Tryz.func152 rfl rfl ?_
 repeat' first
  | (apply Dk.fe; repeat' first | exact rfl | (refine @id.{0} _ ?_; constructor))
  | intro _
  | exact rfl
  | (refine Dk.rX (t:=59) rfl ?_ ?_)
  | (refine @id.{0} _ ?_; constructor)
  | apply Dk.loop 1 (V:=Value) (fun (s:(List (List Int))×Int) v=>[.own (aJ 22 (aJ 2 (aM .i64))) v s.1]) (fun s v=>[(4,v),(5,.int .i64 (s.2))]) _ [(2,_),(3,_)]
  | apply Dk.loop 3 (V:=Value) (fun (s:(List Int)×Int) v=>[.own (aJ 2 (aM .i64)) v s.1]) (fun s v=>[(6,v),(7,.int .i64 (s.2))]) _ [(2,_),(3,_),(4,_),(5,_)]
  | apply Dk.loop 5 (V:=Value×Value) (fun (s:(List Int)×(List Int)×Int×Int×Int) v=>[.row bW [bK,.int .i64 (s.2.2.2.1),.int .u64 (s.2.2.2.2)] 162,.own (aJ 2 (aM .i64)) v.1 s.1,.own (aJ 2 (aM .i64)) v.2 s.2.1]) (fun s v=>[(9,v.1),(10,v.2),(11,.int .i64 (s.2.2.1))]) (_,_) [(0,_),(2,_),(8,_)]
  | apply AM
  | apply acF
  | apply Wj
  | apply ac7
  | apply acN
  | apply acO
  | apply ack
  | apply ac8
  | apply acT
  | exact ()
theorem WE {x0:aI} {bW:Nat} {bK:Value} {x1:aC} {bD bJ aS aQ:Value}:Ct Tryz.prog 154 false (kN x0 x1) [.pointer (some (⟨bW,0,none⟩)),.agg #[.int .i64 (x1.aD),bD,bJ,aS,aQ]] [.row bW [bK,.int .i64 (x0.At),.int .u64 (x0.au)] 162,.rd false (bF (aM .u8)) bK x0.Code,rI bD x1.aA,rI bJ x1.To,rI aS x1.aF,rJ aQ x1.aB] (fun y (v:Value×Value×Value×Value)=>[.agg #[.int .i64 y.1.aD,v.1,v.2.1,v.2.2.1,v.2.2.2]]) (fun y v=>[rI v.1 y.1.aA,rI v.2.1 y.1.To,rI v.2.2.1 y.1.aF,rJ v.2.2.2 y.1.aB,.row bW [bK,.int .i64 y.2.At,.int .u64 y.2.au] 162]):=by
 refine ct (S:=Unit) Fy Tryz.func154 rfl rfl ?_
 repeat' first
  | (apply Dk.fe; repeat' first | exact rfl | (refine @id.{0} _ ?_; constructor))
  | intro _
  | exact rfl
  | (refine Dk.rX (t:=58) rfl ?_ ?_)
  | apply Dk.slT (t:=22)
  | apply Dk.stN
  | (refine @id.{0} _ ?_; constructor)
  | apply Dk.vN (id:=13) [Dk.ay.row _ _ 162] 6 [] [[],[],[],[],[],[8]] [[],[0],[],[],[3],[2,3,4]] (by kernel_rfl)
  | apply Dk.vN (id:=18) [Dk.ay.row _ _ 162] 13 [] [[],[],[],[],[],[],[],[15],[],[],[],[7],[]] [[],[0],[],[0,1,2],[0,1,2,3],[],[],[5,6],[],[],[9],[5,6,7,8,9,10],[5,6,8,9,10,11]] (by kernel_rfl)
  | apply Dk.vN (id:=21) [Dk.ay.row _ _ 162] 8 [] [[],[],[],[],[],[],[],[10]] [[],[0],[],[],[],[4],[4,5],[3,4,5,6]] (by kernel_rfl)
  | apply Dk.Xg (id:=6) 9 (e:=22) (e2:=2) (T:=(aM .i64)) (by kernel_rfl)
  | apply PM
  | apply AM
  | apply Wr
  | exact ()
theorem c20 {x0:aO} {bB bG aV aT bC bH aW aU bL bP:Value} {x1:aO} {oE oI nH lW oF oJ nI lX oU pB:Value}:Ct Tryz.prog 20 true (iL x0 x1) [.agg #[.int .i64 (x0.aH.aD),bB,bG,aV,aT,.int .i64 (x0.aL.aD),bC,bH,aW,aU,bL,bP],.agg #[.int .i64 (x1.aH.aD),oE,oI,nH,lW,.int .i64 (x1.aL.aD),oF,oJ,nI,lX,oU,pB]] [rI bB x0.aH.aA,rI bG x0.aH.To,rI aV x0.aH.aF,rJ aT x0.aH.aB,rI bC x0.aL.aA,rI bH x0.aL.To,rI aW x0.aL.aF,rJ aU x0.aL.aB,rI bL x0.aD,rI bP x0.an,rI oE x1.aH.aA,rI oI x1.aH.To,rI nH x1.aH.aF,rJ lW x1.aH.aB,rI oF x1.aL.aA,rI oJ x1.aL.To,rI nI x1.aL.aF,rJ lX x1.aL.aB,rI oU x1.aD,rI pB x1.an] (fun y (_:Unit)=>[.bool y]) (fun y _=>[]):=by
 refine ct (S:=Unit) (ca fun _ _=>rfl) Tryz.func20 rfl rfl ?_
 repeat' first
  | (apply Dk.fe; repeat' first | exact rfl | (refine @id.{0} _ ?_; constructor))
  | intro _
  | exact rfl
  | (refine @id.{0} _ ?_; constructor)
  | apply c93
  | apply QT
  | exact ()
end Go.Proofs.YtbhhmalgcnhniaaGreat
