/- Structs that are pointed to out of slices. No condition. -/
import Derived.Test.YtacpfhajafmigaaGreatDi
import Derived.Test.YtacpfhajafmigaaGreatMo
import Derived.Test.YtacpfhajafmigaaGreatDg
namespace Go.Proofs.YtacpfhajafmigaaGreat
open Go Go.Li Go.Dk
set_option linter.unusedVariables false
def sS29:STy aF:=sMap (fun x=>(x.aA.aH,x.aA.aG,x.aA.To,x.aA.aO,x.aA.aE,x.aM,x.aN)) (sPair (aC .i64) (sPair (aB (aC .i64)) (sPair (aB (aC .i64)) (sPair (aB (aC .i64)) (sPair (aB (aB (aC .i64))) (sPair (aB (aC .i64)) (aB (aB (aC .i64)))))))))
instance soS29:SO sS29 (Value×Value×Value×Value×Value×Value) (fun x v=>[.int .i64 x.aA.aH,v.1,v.2.1,v.2.2.1,v.2.2.2.1,v.2.2.2.2.1,v.2.2.2.2.2]) (fun x v=>[.rd false (aB (aC .i64)) v.1 x.aA.aG,.rd false (aB (aC .i64)) v.2.1 x.aA.To,.rd false (aB (aC .i64)) v.2.2.1 x.aA.aO,.rd false (aB (aB (aC .i64))) v.2.2.2.1 x.aA.aE,.rd false (aB (aC .i64)) v.2.2.2.2.1 x.aM,.rd false (aB (aB (aC .i64))) v.2.2.2.2.2 x.aN]):=SO.mp (SO.ip (SO.sp (SO.sp (SO.sp (SO.sp (SO.sp SO.s))))))
instance dtS29:Dt sS29:=by
 refine Dt.mp fun x y h=>?_
 obtain ⟨⟨_,_,_,_,_⟩,_,_⟩:=x
 obtain ⟨⟨_,_,_,_,_⟩,_,_⟩:=y
 dsimp only at h
 cases h
 rfl
def sS31:STy aZ:=sMap (fun x=>(x.aK.aA.aH,x.aK.aA.aG,x.aK.aA.To,x.aK.aA.aO,x.aK.aA.aE,x.aK.aM,x.aK.aN,x.aQ.aA.aH,x.aQ.aA.aG,x.aQ.aA.To,x.aQ.aA.aO,x.aQ.aA.aE,x.aQ.aM,x.aQ.aN,x.bN)) (sPair (aC .i64) (sPair (aB (aC .i64)) (sPair (aB (aC .i64)) (sPair (aB (aC .i64)) (sPair (aB (aB (aC .i64))) (sPair (aB (aC .i64)) (sPair (aB (aB (aC .i64))) (sPair (aC .i64) (sPair (aB (aC .i64)) (sPair (aB (aC .i64)) (sPair (aB (aC .i64)) (sPair (aB (aB (aC .i64))) (sPair (aB (aC .i64)) (sPair (aB (aB (aC .i64))) (aB (aB (aC .i64)))))))))))))))))
instance soS31:SO sS31 (Value×Value×Value×Value×Value×Value×Value×Value×Value×Value×Value×Value×Value) (fun x v=>[.int .i64 x.aK.aA.aH,v.1,v.2.1,v.2.2.1,v.2.2.2.1,v.2.2.2.2.1,v.2.2.2.2.2.1,.int .i64 x.aQ.aA.aH,v.2.2.2.2.2.2.1,v.2.2.2.2.2.2.2.1,v.2.2.2.2.2.2.2.2.1,v.2.2.2.2.2.2.2.2.2.1,v.2.2.2.2.2.2.2.2.2.2.1,v.2.2.2.2.2.2.2.2.2.2.2.1,v.2.2.2.2.2.2.2.2.2.2.2.2]) (fun x v=>[.rd false (aB (aC .i64)) v.1 x.aK.aA.aG,.rd false (aB (aC .i64)) v.2.1 x.aK.aA.To,.rd false (aB (aC .i64)) v.2.2.1 x.aK.aA.aO,.rd false (aB (aB (aC .i64))) v.2.2.2.1 x.aK.aA.aE,.rd false (aB (aC .i64)) v.2.2.2.2.1 x.aK.aM,.rd false (aB (aB (aC .i64))) v.2.2.2.2.2.1 x.aK.aN,.rd false (aB (aC .i64)) v.2.2.2.2.2.2.1 x.aQ.aA.aG,.rd false (aB (aC .i64)) v.2.2.2.2.2.2.2.1 x.aQ.aA.To,.rd false (aB (aC .i64)) v.2.2.2.2.2.2.2.2.1 x.aQ.aA.aO,.rd false (aB (aB (aC .i64))) v.2.2.2.2.2.2.2.2.2.1 x.aQ.aA.aE,.rd false (aB (aC .i64)) v.2.2.2.2.2.2.2.2.2.2.1 x.aQ.aM,.rd false (aB (aB (aC .i64))) v.2.2.2.2.2.2.2.2.2.2.2.1 x.aQ.aN,.rd false (aB (aB (aC .i64))) v.2.2.2.2.2.2.2.2.2.2.2.2 x.bN]):=SO.mp (SO.ip (SO.sp (SO.sp (SO.sp (SO.sp (SO.sp (SO.sp (SO.ip (SO.sp (SO.sp (SO.sp (SO.sp (SO.sp (SO.sp SO.s))))))))))))))
instance dtS31:Dt sS31:=by
 refine Dt.mp fun x y h=>?_
 obtain ⟨⟨⟨_,_,_,_,_⟩,_,_⟩,⟨⟨_,_,_,_,_⟩,_,_⟩,_⟩:=x
 obtain ⟨⟨⟨_,_,_,_,_⟩,_,_⟩,⟨⟨_,_,_,_,_⟩,_,_⟩,_⟩:=y
 dsimp only at h
 cases h
 rfl
def sS151:STy cG:=sMap (fun x=>(x.aG,x.To,x.Edges)) (sPair (aC .i64) (sPair (aC .i64) (aB (aC .i64))))
instance soS151:SO sS151 (Value) (fun x v=>[.int .i64 x.aG,.int .i64 x.To,v]) (fun x v=>[.rd false (aB (aC .i64)) v x.Edges]):=SO.mp (SO.ip (SO.ip SO.s))
instance dtS151:Dt sS151:=by
 refine Dt.mp fun x y h=>?_
 obtain ⟨_,_,_⟩:=x
 obtain ⟨_,_,_⟩:=y
 dsimp only at h
 cases h
 rfl
end Go.Proofs.YtacpfhajafmigaaGreat
