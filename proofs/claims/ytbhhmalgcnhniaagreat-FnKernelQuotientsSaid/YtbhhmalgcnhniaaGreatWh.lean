/- Walks by the calculus D. No condition beside those that each theorem names. -/
import Derived.Test.YtbhhmalgcnhniaaGreatDi
import Derived.Test.YtbhhmalgcnhniaaGreatMo
import Derived.Test.YtbhhmalgcnhniaaGreatDp
import Derived.Test.YtbhhmalgcnhniaaGreatDs
import Derived.Test.YtbhhmalgcnhniaaGreatWb
import Derived.Test.YtbhhmalgcnhniaaGreatWc
import Derived.Test.YtbhhmalgcnhniaaGreatWd
namespace Go.Proofs.YtbhhmalgcnhniaaGreat
open Go Go.Li Go.Dk
set_option linter.unusedVariables false
set_option maxHeartbeats 16000000
set_option maxRecDepth 100000
theorem acT {x0:aC} {aN aP aK aG:Value}:Ct Tryz.prog 213 true (kZ x0) [.agg #[.int .i64 (x0.aD),aN,aP,aK,aG]] [rI aN x0.aA,rI aP x0.To,rI aK x0.aF,rJ aG x0.aB] (fun y (v:Value×Value×Value×Value)=>[.agg #[.int .i64 y.aD,v.1,v.2.1,v.2.2.1,v.2.2.2]]) (fun y v=>[.own (aJ 2 (aM .i64)) v.1 y.aA,.own (aJ 2 (aM .i64)) v.2.1 y.To,.own (aJ 2 (aM .i64)) v.2.2.1 y.aF,.own (aJ 22 (aJ 2 (aM .i64))) v.2.2.2 y.aB]):=by
 refine ct (S:=Unit) (ca fun _ _=>rfl) Tryz.func213 rfl rfl ?_
 repeat' first
  | (apply Dk.fe; repeat' first | exact rfl | (refine @id.{0} _ ?_; constructor))
  | intro _
  | exact rfl
  | (refine Dk.rX (t:=32) rfl ?_ ?_)
  | (refine @id.{0} _ ?_; constructor)
  | apply Dk.fq 0 (V:=Value) (A:=Nat×Value×Value×Value) (_,_,_,_) (fun a (s:Int×(List (List Int))) v=>Dk.pc (fun a0=>Dk.pc (fun a1=>Dk.pc (fun a2 a3=>[.row a0 [.int .i64 (x0.aD),a1,a2,a3,v] 32,.own (aJ 22 (aJ 2 (aM .i64))) v s.2]))) a) (fun a s v=>Dk.pc (fun a0=>Dk.pc (fun a1=>Dk.pc (fun a2 a3=>[(3,.pointer (some ⟨a0,0,none⟩)),(4,.int .i64 (s.1))]))) a) _ [(1,_),(2,_)]
  | apply Dk.loop 2 (V:=Value) (fun (s:(List Int)×Int) v=>[.own (aJ 2 (aM .i64)) v s.1]) (fun s v=>[(5,v),(6,.int .i64 (s.2))]) _ [(1,_),(2,_),(3,_),(4,_)]
  | apply Dk.Tr (id:=1) [13,0,1,2,3,4,5,6,7,8,9,10,11,12,14] [1,2,3,4,5,6,7,8,9,10,11,12,13,0,14] [] 14 [] [] [[],[],[1],[],[3],[3,4],[],[6],[3,4,5,6,7],[],[9],[3,4,5,6,7,8,9,10],[],[1,2,3,4,5,6,7,8,9,10,11,12]] (by kernel_rfl)
  | apply AN
  | exact ()
theorem Wu {x0:(List Int)} {bQ:Value}:Ct Tryz.prog 189 true (fN x0) [bQ] [rI bQ x0] (fun y (v:Value)=>[v]) (fun y v=>[.own (aJ 2 (aM .i64)) v y]):=by
 refine ct (S:=Unit) (ca fun _ _=>rfl) Tryz.func189 rfl rfl ?_
 repeat' first
  | (apply Dk.fe; repeat' first | exact rfl | (refine @id.{0} _ ?_; constructor))
  | intro _
  | exact rfl
  | (refine @id.{0} _ ?_; constructor)
  | apply Dk.loop 0 (V:=Value×Value) (fun (s:(List Int)×(List Int)×Int) v=>[.own (aJ 2 (aM .i64)) v.1 s.1,.own (aJ 2 (aM .i64)) v.2 s.2.1]) (fun s v=>[(3,v.1),(4,v.2),(5,.int .i64 (s.2.2))]) (_,_) [(0,_)]
  | apply PI
  | exact ()
theorem Wv {x0:Int} {x1:(List (List Int))} {bV:Value}:Ct Tryz.prog 123 true (kS x0 x1) [.int .i64 (x0),bV] [rJ bV x1] (fun y (v:Value)=>[v]) (fun y v=>[.own (aJ 2 (aM .i64)) v y]):=by
 refine ct (S:=Unit) (ca fun _ _=>rfl) Tryz.func123 rfl rfl ?_
 repeat' first
  | (apply Dk.fe; repeat' first | exact rfl | (refine @id.{0} _ ?_; constructor))
  | intro _
  | exact rfl
  | (refine @id.{0} _ ?_; constructor)
  | apply Dk.loop 0 (V:=Value) (fun (s:(List Int)×Int) v=>[.own (aJ 2 (aM .i64)) v s.1]) (fun s v=>[(5,v),(6,.int .i64 (s.2))]) _ [(0,_),(1,_)]
  | apply Dk.fq 2 (V:=Unit) (A:=Value) _ (fun a (s:Int×(List Int)) v=>[.own (aJ 2 (aM .i64)) a s.2]) (fun a s v=>[(5,a),(7,.int .i64 (s.1))]) () [(1,_)]
  | apply Dk.fq 4 (V:=Unit) (A:=Value) _ (fun a (s:Int×(List Int)) v=>[.own (aJ 2 (aM .i64)) a s.2]) (fun a s v=>[(5,a),(10,.int .i64 (s.1))]) () [(1,_),(7,_),(8,_),(9,_)]
  | apply Dk.quiet (id:=9) (by kernel_rfl)
  | apply Wu
  | exact ()
theorem Ww {x0:Int} {x1:Int} {x2:(List Int)} {pQ:Addr} {cG:Value} {x3:aC} {pP pR:Addr} {pN pO oN oG:Value} {x4:(List Int)} {pS:Addr} {pT:Value}:Ct Tryz.prog 224 true (cN x0 x1 x2 x3 x4) [.int .i64 (x0),.int .i64 (x1),.pointer (some (pQ)),.pointer (some (pP)),.pointer (some (pS))] [.bn pS [pT],.bn pP [.pointer (some (pR))],.bn pR [.int .i64 (x3.aD),pN,pO,oN,oG],.bn pQ [cG],rI cG x2,rI pN x3.aA,rI pO x3.To,rI oN x3.aF,rJ oG x3.aB,rI pT x4] (fun y (_:Unit)=>[.int .i64 y]) (fun y _=>[]):=by
 refine ct (S:=Unit) (ca fun _ _=>rfl) Tryz.func224 rfl rfl ?_
 repeat' first
  | (apply Dk.fe; repeat' first | exact rfl | (refine @id.{0} _ ?_; constructor))
  | intro _
  | exact rfl
  | (refine @id.{0} _ ?_; constructor)
  | apply Dk.quiet (id:=1) (by kernel_rfl)
  | apply Hr
  | exact ()
theorem Nb {x0:aC} {bW:Nat} {aN aP aK aG:Value} {Wx:(List Int)} {Nc:Addr} {Nd:Value} {DZ:aC} {I7 Nf:Addr} {BP EI xj vj:Value} {Wy:(List Int)} {Ng:Addr} {Nh:Value}:Ct Tryz.prog 156 true (iD x0 (fun a0 a1=>cN a0 a1 Wx DZ Wy)) [.pointer (some (⟨bW,0,none⟩)),.func (.func 224) #[] #[.pointer (some (Nc)),.pointer (some (I7)),.pointer (some (Ng))]] [.row bW [.int .i64 (x0.aD),aN,aP,aK,aG] 32,rI aN x0.aA,rI aP x0.To,rI aK x0.aF,.own (aJ 22 (aJ 2 (aM .i64))) aG x0.aB,.bn Ng [Nh],.bn I7 [.pointer (some (Nf))],.bn Nf [.int .i64 (DZ.aD),BP,EI,xj,vj],.bn Nc [Nd],rI Nd Wx,rI BP DZ.aA,rI EI DZ.To,rI xj DZ.aF,rJ vj DZ.aB,rI Nh Wy] (fun y (v:Value)=>[]) (fun y v=>[.row bW [.int .i64 y.aD,aN,aP,aK,v] 32,.own (aJ 22 (aJ 2 (aM .i64))) v y.aB]):=by
 refine ctv (ca fun _ _=>rfl) Tryz.func156 rfl rfl ?_
 repeat' first
  | (apply Dk.fe; repeat' first | exact rfl | (refine @id.{0} _ ?_; constructor))
  | intro _
  | exact rfl
  | (refine @id.{0} _ ?_; constructor)
  | apply Dk.fq 0 (V:=Unit) (A:=Value) _ (fun a (s:Int×(List (List Int))) v=>[.own (aJ 22 (aJ 2 (aM .i64))) a s.2]) (fun a s v=>[(19,.int .i64 (s.1))]) () [(0,_),(1,_),(4,_),(18,_)]
  | apply Dk.fq 2 (V:=Unit) (A:=Value) _ (fun a (s:Int×(List (List Int))) v=>[.own (aJ 22 (aJ 2 (aM .i64))) a s.2]) (fun a s v=>[(38,.int .i64 (s.1))]) () [(0,_),(1,_),(4,_),(5,_),(18,_),(19,_),(37,_)]
  | apply Dk.quiet (id:=10) (by kernel_rfl)
  | apply Dk.any (id:=5) 7 [] [] [[],[0],[0,1],[0,1,2],[],[],[5]] (by kernel_rfl)
  | apply Dk.any (id:=11) 12 [] [] [[],[0],[0,1],[0,1,2],[],[0,1,2,3,4],[0,1,2,3,4,5],[],[],[],[],[8,9,10]] (by kernel_rfl)
  | apply Hs
  | apply Ww
  | exact ()
theorem acU {x0:(List (List Int))} {bQ:Value}:Ct Tryz.prog 217 true (nQ x0) [bQ] [rJ bQ x0] (fun y (v:Value)=>[v]) (fun y v=>[.own (aJ 22 (aJ 2 (aM .i64))) v y]):=by
 refine ct (S:=Unit) (ca fun _ _=>rfl) Tryz.func217 rfl rfl ?_
 repeat' first
  | (apply Dk.fe; repeat' first | exact rfl | (refine @id.{0} _ ?_; constructor))
  | intro _
  | exact rfl
  | (refine @id.{0} _ ?_; constructor)
  | apply Dk.loop 0 (V:=Value) (fun (s:(List (List Int))×Int) v=>[.own (aJ 22 (aJ 2 (aM .i64))) v s.1]) (fun s v=>[(3,v),(11,.int .i64 (s.2))]) _ [(9,_),(10,_)]
  | apply Wn
  | exact ()
theorem acV {x0:aC} {cA:Addr} {aN aP aK aG:Value}:Ct Tryz.prog 158 true (fI x0) [.pointer (some (cA))] [.bn cA [.int .i64 (x0.aD),aN,aP,aK,aG],rI aN x0.aA,rI aP x0.To,rI aK x0.aF,rJ aG x0.aB] (fun y (v:Value×Value×Value×Value)=>[.agg #[.int .i64 y.aD,v.1,v.2.1,v.2.2.1,v.2.2.2]]) (fun y v=>[.own (aJ 2 (aM .i64)) v.1 y.aA,.own (aJ 2 (aM .i64)) v.2.1 y.To,.own (aJ 2 (aM .i64)) v.2.2.1 y.aF,.own (aJ 22 (aJ 2 (aM .i64))) v.2.2.2 y.aB]):=by
 refine ct (S:=Unit) (ca fun _ _=>rfl) Tryz.func158 rfl rfl ?_
 repeat' first
  | (apply Dk.fe; repeat' first | exact rfl | (refine @id.{0} _ ?_; constructor))
  | intro _
  | exact rfl
  | (refine @id.{0} _ ?_; constructor)
  | apply Dk.any (id:=1) 24 [] [] [[],[0],[0,1],[0,1,2],[],[4],[4,5],[4,5,6],[4,5,6,7],[],[9],[9,10],[9,10,11],[4,5,6,7,8,9,10,11,12],[],[14],[14,15],[14,15,16],[4,5,6,7,8,9,10,11,12,13,14,15,16,17],[],[19],[19,20],[19,20,21],[4,5,6,7,8,9,10,11,12,13,14,15,16,17,18,19,20,21,22]] (by kernel_rfl)
  | apply Wn
  | apply acU
  | exact ()
theorem acW {x0:(List Int)} {bQ:Value}:Ct Tryz.prog 225 true (gW x0) [bQ] [rI bQ x0] (fun y (_:Unit)=>[.bool y]) (fun y _=>[]):=by
 refine ct (S:=Unit) (ca fun _ _=>rfl) Tryz.func225 rfl rfl ?_
 repeat' first
  | (apply Dk.fe; repeat' first | exact rfl | (refine @id.{0} _ ?_; constructor))
  | intro _
  | exact rfl
  | (apply Dk.Eo (t:=2); exact rfl)
  | (refine @id.{0} _ ?_; constructor)
  | apply Wu
  | apply PJ
  | exact ()
theorem acX {x0:aC} {aN aP aK aG:Value} {x1:(List Int)} {bV:Value}:Ct Tryz.prog 187 true (jG x0 x1) [.agg #[.int .i64 (x0.aD),aN,aP,aK,aG],bV] [rI aN x0.aA,rI aP x0.To,rI aK x0.aF,rJ aG x0.aB,rI bV x1] (fun y (v:Value×Value×Value×Value)=>[.agg #[.int .i64 y.aD,v.1,v.2.1,v.2.2.1,v.2.2.2]]) (fun y v=>[.own (aJ 2 (aM .i64)) v.1 y.aA,.own (aJ 2 (aM .i64)) v.2.1 y.To,.own (aJ 2 (aM .i64)) v.2.2.1 y.aF,.own (aJ 22 (aJ 2 (aM .i64))) v.2.2.2 y.aB]):=by
 refine ct (S:=Unit) (ca fun _ _=>rfl) Tryz.func187 rfl rfl ?_
 repeat' first
  | (apply Dk.fe; repeat' first | exact rfl | (refine @id.{0} _ ?_; constructor))
  | intro _
  | exact rfl
  | (refine Dk.rX (t:=94) rfl ?_ ?_)
  | (refine @id.{0} _ ?_; constructor)
  | apply Dk.loop 0 (V:=Value) (fun (s:(List Int)×Int) v=>[.own (aJ 2 (aM .i64)) v s.1]) (fun s v=>[(5,v),(6,.int .i64 (s.2))]) _ [(1,_),(2,_),(4,_)]
  | apply Dk.fq 2 (V:=Value) (A:=Nat×Value×Value×Value) (_,_,_,_) (fun a (s:Int×(List Int)) v=>Dk.pc (fun a0=>Dk.pc (fun a1=>Dk.pc (fun a2 a3=>[.row a0 [.int .i64 (x0.aD),a1,a2,v,a3] 32,.own (aJ 2 (aM .i64)) v s.2]))) a) (fun a s v=>Dk.pc (fun a0=>Dk.pc (fun a1=>Dk.pc (fun a2 a3=>[(7,.pointer (some ⟨a0,0,none⟩)),(8,.int .i64 (s.1))]))) a) _ [(1,_),(2,_),(4,_),(5,_)]
  | apply Dk.fq 4 (V:=Value×Value×Value) (A:=Nat×Value) (_,_) (fun a (s:Int×(List Int)×(List Int)×(List (List Int))) v=>Dk.pc (fun a0 a1=>[.row a0 [.int .i64 (x0.aD),v.1,v.2.1,a1,v.2.2] 32,.own (aJ 2 (aM .i64)) v.1 s.2.1,.own (aJ 2 (aM .i64)) v.2.1 s.2.2.1,.own (aJ 22 (aJ 2 (aM .i64))) v.2.2 s.2.2.2]) a) (fun a s v=>Dk.pc (fun a0 a1=>[(7,.pointer (some ⟨a0,0,none⟩)),(9,.int .i64 (s.1))]) a) (_,_,_) [(1,_),(2,_),(4,_),(5,_)]
  | apply Dk.loop 6 (V:=Value) (fun (s:(List Int)×Int) v=>[.own (aJ 2 (aM .i64)) v s.1]) (fun s v=>[(10,v),(11,.int .i64 (s.2))]) _ [(1,_),(2,_),(4,_),(5,_),(7,_),(9,_)]
  | apply Dk.quiet (id:=21) (by kernel_rfl)
  | apply Dk.any (id:=11) 11 [] [] [[],[0],[],[],[3],[],[3,4,5],[3,4,5,6],[2,3,4,5,6,7],[2,3,4,5,6,7,8],[2,3,4,5,6,7,8,9]] (by kernel_rfl)
  | apply Dk.any (id:=15) 11 [] [] [[],[0],[],[2],[],[],[4,5],[4,5,6],[2,3,4,5,6,7],[2,3,4,5,6,7,8],[2,3,4,5,6,7,8,9]] (by kernel_rfl)
  | apply Dk.any (id:=16) 11 [] [] [[],[0],[],[2],[],[],[4,5],[4,5,6],[2,3,4,5,6,7],[2,3,4,5,6,7,8],[2,3,4,5,6,7,8,9]] (by kernel_rfl)
  | apply PI
  | exact ()
end Go.Proofs.YtbhhmalgcnhniaaGreat
