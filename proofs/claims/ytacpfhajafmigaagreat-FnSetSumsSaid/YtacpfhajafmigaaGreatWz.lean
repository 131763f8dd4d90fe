/- Walks by the calculus D. No condition beside those that each theorem names. -/
import Derived.Test.YtacpfhajafmigaaGreatDi
import Derived.Test.YtacpfhajafmigaaGreatMo
import Derived.Test.YtacpfhajafmigaaGreatDg
import Derived.Test.YtacpfhajafmigaaGreatDs
import Derived.Test.YtacpfhajafmigaaGreatWa
import Derived.Test.YtacpfhajafmigaaGreatWd
import Derived.Test.YtacpfhajafmigaaGreatWi
import Derived.Test.YtacpfhajafmigaaGreatWj
import Derived.Test.YtacpfhajafmigaaGreatWl
namespace Go.Proofs.YtacpfhajafmigaaGreat
open Go Go.Li Go.Dk
set_option linter.unusedVariables false
set_option maxHeartbeats 16000000
set_option maxRecDepth 100000
theorem c31 {x0:aL} {cU:Nat} {bL:Value} {x1:Int}:Ct Tryz.prog 31 false (jV x0 x1) [.pointer (some (⟨cU,0,none⟩)),.int .i64 (x1)] [.row cU [bL,.int .i64 (x0.At),.int .u64 (x0.Hash)] 72,.rd false (aB (aC .u8)) bL x0.Code] (fun y (v:Value×Value×Value×Value×Value×Value×Value×Value×Value×Value×Value×Value×Value)=>[.agg #[.int .i64 y.1.aK.aA.aH,v.1,v.2.1,v.2.2.1,v.2.2.2.1,v.2.2.2.2.1,v.2.2.2.2.2.1,.int .i64 y.1.aQ.aA.aH,v.2.2.2.2.2.2.1,v.2.2.2.2.2.2.2.1,v.2.2.2.2.2.2.2.2.1,v.2.2.2.2.2.2.2.2.2.1,v.2.2.2.2.2.2.2.2.2.2.1,v.2.2.2.2.2.2.2.2.2.2.2.1,v.2.2.2.2.2.2.2.2.2.2.2.2]]) (fun y v=>[.rd false (aB (aC .i64)) v.1 y.1.aK.aA.aG,.rd false (aB (aC .i64)) v.2.1 y.1.aK.aA.To,.rd false (aB (aC .i64)) v.2.2.1 y.1.aK.aA.aO,.rd false (aB (aB (aC .i64))) v.2.2.2.1 y.1.aK.aA.aE,.rd false (aB (aC .i64)) v.2.2.2.2.1 y.1.aK.aM,.rd false (aB (aB (aC .i64))) v.2.2.2.2.2.1 y.1.aK.aN,.rd false (aB (aC .i64)) v.2.2.2.2.2.2.1 y.1.aQ.aA.aG,.rd false (aB (aC .i64)) v.2.2.2.2.2.2.2.1 y.1.aQ.aA.To,.rd false (aB (aC .i64)) v.2.2.2.2.2.2.2.2.1 y.1.aQ.aA.aO,.rd false (aB (aB (aC .i64))) v.2.2.2.2.2.2.2.2.2.1 y.1.aQ.aA.aE,.rd false (aB (aC .i64)) v.2.2.2.2.2.2.2.2.2.2.1 y.1.aQ.aM,.rd false (aB (aB (aC .i64))) v.2.2.2.2.2.2.2.2.2.2.2.1 y.1.aQ.aN,.rd false (aB (aB (aC .i64))) v.2.2.2.2.2.2.2.2.2.2.2.2 y.1.bN,.row cU [bL,.int .i64 y.2.At,.int .u64 y.2.Hash] 72]):=by
 refine ct (S:=Unit) owf Tryz.func31 rfl rfl ?_
 repeat' first
  | (intro (v:Value×Value×Value×Value×Value×Value×Value×Value×Value×Value×Value×Value×Value); obtain ⟨_,_,_,_,_,_,_,_,_,_,_,_,_⟩:=v; dsimp only)
  | intro _
  | exact rfl
  | (refine Dk.gjn 18 ?_; apply Dk.joinA (t:=18) (k:=1018) (V:=Value×Value×Value×Value×Value×Value) (A:=Nat) _ (fun a (s:Int×(List Int)×(List Int)×(List Int)×(List (List Int))×(List Int)×(List (List Int))) v=>[.row a [.int .i64 (s.1),v.1,v.2.1,v.2.2.1,v.2.2.2.1,v.2.2.2.2.1,v.2.2.2.2.2] 29,.rd false (aB (aC .i64)) v.1 s.2.1,.rd false (aB (aC .i64)) v.2.1 s.2.2.1,.rd false (aB (aC .i64)) v.2.2.1 s.2.2.2.1,.rd false (aB (aB (aC .i64))) v.2.2.2.1 s.2.2.2.2.1,.rd false (aB (aC .i64)) v.2.2.2.2.1 s.2.2.2.2.2.1,.rd false (aB (aB (aC .i64))) v.2.2.2.2.2 s.2.2.2.2.2.2]) (fun a s v=>[(6,.pointer (some ⟨a,0,none⟩))]) (_,_,_,_,_,_) [(0,_),(4,_),(5,_)])
  | (refine Dk.gje 1018 ?_; apply Dk.jend)
  | (refine Dk.gjn 25 ?_; apply Dk.joinA (t:=25) (k:=1025) (V:=Value×Value×Value×Value×Value×Value×Value×Value×Value×Value×Value×Value×Value) (A:=Nat) _ (fun a (s:Int×Int×Int×(List Int)×(List Int)×(List Int)×(List (List Int))×(List Int)×(List (List Int))×Int×(List Int)×(List Int)×(List Int)×(List (List Int))×(List Int)×(List (List Int))×(List (List Int))) v=>[.row cU [bL,.int .i64 (s.1),.int .u64 (s.2.1)] 72,.row a [.int .i64 (s.2.2.1),v.1,v.2.1,v.2.2.1,v.2.2.2.1,v.2.2.2.2.1,v.2.2.2.2.2.1,.int .i64 (s.2.2.2.2.2.2.2.2.2.1),v.2.2.2.2.2.2.1,v.2.2.2.2.2.2.2.1,v.2.2.2.2.2.2.2.2.1,v.2.2.2.2.2.2.2.2.2.1,v.2.2.2.2.2.2.2.2.2.2.1,v.2.2.2.2.2.2.2.2.2.2.2.1,v.2.2.2.2.2.2.2.2.2.2.2.2] 31,.rd false (aB (aC .i64)) v.1 s.2.2.2.1,.rd false (aB (aC .i64)) v.2.1 s.2.2.2.2.1,.rd false (aB (aC .i64)) v.2.2.1 s.2.2.2.2.2.1,.rd false (aB (aB (aC .i64))) v.2.2.2.1 s.2.2.2.2.2.2.1,.rd false (aB (aC .i64)) v.2.2.2.2.1 s.2.2.2.2.2.2.2.1,.rd false (aB (aB (aC .i64))) v.2.2.2.2.2.1 s.2.2.2.2.2.2.2.2.1,.rd false (aB (aC .i64)) v.2.2.2.2.2.2.1 s.2.2.2.2.2.2.2.2.2.2.1,.rd false (aB (aC .i64)) v.2.2.2.2.2.2.2.1 s.2.2.2.2.2.2.2.2.2.2.2.1,.rd false (aB (aC .i64)) v.2.2.2.2.2.2.2.2.1 s.2.2.2.2.2.2.2.2.2.2.2.2.1,.rd false (aB (aB (aC .i64))) v.2.2.2.2.2.2.2.2.2.1 s.2.2.2.2.2.2.2.2.2.2.2.2.2.1,.rd false (aB (aC .i64)) v.2.2.2.2.2.2.2.2.2.2.1 s.2.2.2.2.2.2.2.2.2.2.2.2.2.2.1,.rd false (aB (aB (aC .i64))) v.2.2.2.2.2.2.2.2.2.2.2.1 s.2.2.2.2.2.2.2.2.2.2.2.2.2.2.2.1,.rd false (aB (aB (aC .i64))) v.2.2.2.2.2.2.2.2.2.2.2.2 s.2.2.2.2.2.2.2.2.2.2.2.2.2.2.2.2]) (fun a s v=>[(7,.pointer (some ⟨a,0,none⟩))]) (_,_,_,_,_,_,_,_,_,_,_,_,_) [(0,_),(4,_)])
  | (refine Dk.gje 1025 ?_; apply Dk.jend)
  | (refine Dk.rwU (t:=60) rfl ?_)
  | apply Dk.D.ari (d:=94)
  | apply Dk.AD.ari (d:=94)
  | apply Dk.litO (d:=100)
  | apply Dk.stO (y0:=.tmp 100)
  | (refine @id.{0} _ ?_; constructor)
  | apply Dk.any (id:=11) 4 [] [] [[],[],[],[2]] (by kernel_rfl)
  | apply Dk.anyH (id:=16) [Dk.Ent.row _ _ 72] 19 [] [[],[],[],[],[],[],[],[],[],[],[],[],[21],[],[12],[],[14],[],[]] [[],[0],[],[1,0,2],[3,1,0,2],[],[],[6],[],[7,6,8],[9,7,6,8],[10,9,7,6,8],[5,11,10,9,7,6,8],[],[13,12,5,11,10,9,7,6,8],[],[15,14,13,5,11,10,9,7,6,8],[16,15,13,5,11,10,9,7,6,8],[13,5,11,10,9,7,6,8,17,16,15,13,5,11,10,9,7,6,8]] (by kernel_rfl)
  | apply c62
  | apply c33
  | apply c63
  | apply c35
  | apply c36
  | apply c64
  | apply c24
  | apply c49
  | exact ()
end Go.Proofs.YtacpfhajafmigaaGreat
