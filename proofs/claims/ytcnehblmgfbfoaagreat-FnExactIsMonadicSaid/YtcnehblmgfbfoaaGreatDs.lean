/- Structs that are pointed to out of slices. No condition. -/
import Derived.Test.YtcnehblmgfbfoaaGreatDi
import Derived.Test.YtcnehblmgfbfoaaGreatMo
import Derived.Test.YtcnehblmgfbfoaaGreatDp
namespace Go.Proofs.YtcnehblmgfbfoaaGreat
open Go Go.Li Go.Dk
set_option linter.unusedVariables false
def Lt:ah aJ:=wA (fun x=>(x.aE,x.aH,x.To,x.aI,x.aG)) (cy (aK .i64) (cy (bB (aK .i64)) (cy (bB (aK .i64)) (cy (bB (aK .i64)) (bB (bB (aK .i64)))))))
instance ahu:SO Lt (Value×Value×Value×Value) (fun x v=>[.int .i64 x.aE,v.1,v.2.1,v.2.2.1,v.2.2.2]) (fun x v=>[.rd false (bB (aK .i64)) v.1 x.aH,.rd false (bB (aK .i64)) v.2.1 x.To,.rd false (bB (aK .i64)) v.2.2.1 x.aI,.rd false (bB (bB (aK .i64))) v.2.2.2 x.aG]):=SO.mp (SO.ip (SO.sp (SO.sp (SO.sp SO.s))))
instance ahv:Dt Lt:=by
 refine Dt.mp fun x y h=>?_
 obtain ⟨_,_,_,_,_⟩:=x
 obtain ⟨_,_,_,_,_⟩:=y
 dsimp only at h
 cases h
 rfl
def Lu:ah aN:=wA (fun x=>(x.aA.aE,x.aA.aH,x.aA.To,x.aA.aI,x.aA.aG,x.aF.aE,x.aF.aH,x.aF.To,x.aF.aI,x.aF.aG,x.aE,x.ab)) (cy (aK .i64) (cy (bB (aK .i64)) (cy (bB (aK .i64)) (cy (bB (aK .i64)) (cy (bB (bB (aK .i64))) (cy (aK .i64) (cy (bB (aK .i64)) (cy (bB (aK .i64)) (cy (bB (aK .i64)) (cy (bB (bB (aK .i64))) (cy (bB (aK .i64)) (bB (aK .i64)))))))))))))
instance ahw:SO Lu (Value×Value×Value×Value×Value×Value×Value×Value×Value×Value) (fun x v=>[.int .i64 x.aA.aE,v.1,v.2.1,v.2.2.1,v.2.2.2.1,.int .i64 x.aF.aE,v.2.2.2.2.1,v.2.2.2.2.2.1,v.2.2.2.2.2.2.1,v.2.2.2.2.2.2.2.1,v.2.2.2.2.2.2.2.2.1,v.2.2.2.2.2.2.2.2.2]) (fun x v=>[.rd false (bB (aK .i64)) v.1 x.aA.aH,.rd false (bB (aK .i64)) v.2.1 x.aA.To,.rd false (bB (aK .i64)) v.2.2.1 x.aA.aI,.rd false (bB (bB (aK .i64))) v.2.2.2.1 x.aA.aG,.rd false (bB (aK .i64)) v.2.2.2.2.1 x.aF.aH,.rd false (bB (aK .i64)) v.2.2.2.2.2.1 x.aF.To,.rd false (bB (aK .i64)) v.2.2.2.2.2.2.1 x.aF.aI,.rd false (bB (bB (aK .i64))) v.2.2.2.2.2.2.2.1 x.aF.aG,.rd false (bB (aK .i64)) v.2.2.2.2.2.2.2.2.1 x.aE,.rd false (bB (aK .i64)) v.2.2.2.2.2.2.2.2.2 x.ab]):=SO.mp (SO.ip (SO.sp (SO.sp (SO.sp (SO.sp (SO.ip (SO.sp (SO.sp (SO.sp (SO.sp (SO.sp SO.s)))))))))))
instance ahx:Dt Lu:=by
 refine Dt.mp fun x y h=>?_
 obtain ⟨⟨_,_,_,_,_⟩,⟨_,_,_,_,_⟩,_,_⟩:=x
 obtain ⟨⟨_,_,_,_,_⟩,⟨_,_,_,_,_⟩,_,_⟩:=y
 dsimp only at h
 cases h
 rfl
def sI:ah cQ:=wA (fun x=>(x.X,x.H)) (cy (aK .i64) (aK .i64))
instance ac8:SO sI (Unit) (fun x v=>[.int .i64 x.X,.int .i64 x.H]) (fun x v=>[]):=SO.mp (SO.ip SO.i)
instance ac9:Dt sI:=by
 refine Dt.mp fun x y h=>?_
 obtain ⟨_,_⟩:=x
 obtain ⟨_,_⟩:=y
 dsimp only at h
 cases h
 rfl
def HA:ah bY:=wA (fun x=>(x.aA.aA.aE,x.aA.aA.aH,x.aA.aA.To,x.aA.aA.aI,x.aA.aA.aG,x.aA.aF.aE,x.aA.aF.aH,x.aA.aF.To,x.aA.aF.aI,x.aA.aF.aG,x.aA.aE,x.aA.ab,x.aF.aA.aE,x.aF.aA.aH,x.aF.aA.To,x.aF.aA.aI,x.aF.aA.aG,x.aF.aF.aE,x.aF.aF.aH,x.aF.aF.To,x.aF.aF.aI,x.aF.aF.aG,x.aF.aE,x.aF.ab,x.aX)) (cy (aK .i64) (cy (bB (aK .i64)) (cy (bB (aK .i64)) (cy (bB (aK .i64)) (cy (bB (bB (aK .i64))) (cy (aK .i64) (cy (bB (aK .i64)) (cy (bB (aK .i64)) (cy (bB (aK .i64)) (cy (bB (bB (aK .i64))) (cy (bB (aK .i64)) (cy (bB (aK .i64)) (cy (aK .i64) (cy (bB (aK .i64)) (cy (bB (aK .i64)) (cy (bB (aK .i64)) (cy (bB (bB (aK .i64))) (cy (aK .i64) (cy (bB (aK .i64)) (cy (bB (aK .i64)) (cy (bB (aK .i64)) (cy (bB (bB (aK .i64))) (cy (bB (aK .i64)) (cy (bB (aK .i64)) (bB (aK .i64))))))))))))))))))))))))))
instance ada:SO HA (Value×Value×Value×Value×Value×Value×Value×Value×Value×Value×Value×Value×Value×Value×Value×Value×Value×Value×Value×Value×Value) (fun x v=>[.int .i64 x.aA.aA.aE,v.1,v.2.1,v.2.2.1,v.2.2.2.1,.int .i64 x.aA.aF.aE,v.2.2.2.2.1,v.2.2.2.2.2.1,v.2.2.2.2.2.2.1,v.2.2.2.2.2.2.2.1,v.2.2.2.2.2.2.2.2.1,v.2.2.2.2.2.2.2.2.2.1,.int .i64 x.aF.aA.aE,v.2.2.2.2.2.2.2.2.2.2.1,v.2.2.2.2.2.2.2.2.2.2.2.1,v.2.2.2.2.2.2.2.2.2.2.2.2.1,v.2.2.2.2.2.2.2.2.2.2.2.2.2.1,.int .i64 x.aF.aF.aE,v.2.2.2.2.2.2.2.2.2.2.2.2.2.2.1,v.2.2.2.2.2.2.2.2.2.2.2.2.2.2.2.1,v.2.2.2.2.2.2.2.2.2.2.2.2.2.2.2.2.1,v.2.2.2.2.2.2.2.2.2.2.2.2.2.2.2.2.2.1,v.2.2.2.2.2.2.2.2.2.2.2.2.2.2.2.2.2.2.1,v.2.2.2.2.2.2.2.2.2.2.2.2.2.2.2.2.2.2.2.1,v.2.2.2.2.2.2.2.2.2.2.2.2.2.2.2.2.2.2.2.2]) (fun x v=>[.rd false (bB (aK .i64)) v.1 x.aA.aA.aH,.rd false (bB (aK .i64)) v.2.1 x.aA.aA.To,.rd false (bB (aK .i64)) v.2.2.1 x.aA.aA.aI,.rd false (bB (bB (aK .i64))) v.2.2.2.1 x.aA.aA.aG,.rd false (bB (aK .i64)) v.2.2.2.2.1 x.aA.aF.aH,.rd false (bB (aK .i64)) v.2.2.2.2.2.1 x.aA.aF.To,.rd false (bB (aK .i64)) v.2.2.2.2.2.2.1 x.aA.aF.aI,.rd false (bB (bB (aK .i64))) v.2.2.2.2.2.2.2.1 x.aA.aF.aG,.rd false (bB (aK .i64)) v.2.2.2.2.2.2.2.2.1 x.aA.aE,.rd false (bB (aK .i64)) v.2.2.2.2.2.2.2.2.2.1 x.aA.ab,.rd false (bB (aK .i64)) v.2.2.2.2.2.2.2.2.2.2.1 x.aF.aA.aH,.rd false (bB (aK .i64)) v.2.2.2.2.2.2.2.2.2.2.2.1 x.aF.aA.To,.rd false (bB (aK .i64)) v.2.2.2.2.2.2.2.2.2.2.2.2.1 x.aF.aA.aI,.rd false (bB (bB (aK .i64))) v.2.2.2.2.2.2.2.2.2.2.2.2.2.1 x.aF.aA.aG,.rd false (bB (aK .i64)) v.2.2.2.2.2.2.2.2.2.2.2.2.2.2.1 x.aF.aF.aH,.rd false (bB (aK .i64)) v.2.2.2.2.2.2.2.2.2.2.2.2.2.2.2.1 x.aF.aF.To,.rd false (bB (aK .i64)) v.2.2.2.2.2.2.2.2.2.2.2.2.2.2.2.2.1 x.aF.aF.aI,.rd false (bB (bB (aK .i64))) v.2.2.2.2.2.2.2.2.2.2.2.2.2.2.2.2.2.1 x.aF.aF.aG,.rd false (bB (aK .i64)) v.2.2.2.2.2.2.2.2.2.2.2.2.2.2.2.2.2.2.1 x.aF.aE,.rd false (bB (aK .i64)) v.2.2.2.2.2.2.2.2.2.2.2.2.2.2.2.2.2.2.2.1 x.aF.ab,.rd false (bB (aK .i64)) v.2.2.2.2.2.2.2.2.2.2.2.2.2.2.2.2.2.2.2.2 x.aX]):=SO.mp (SO.ip (SO.sp (SO.sp (SO.sp (SO.sp (SO.ip (SO.sp (SO.sp (SO.sp (SO.sp (SO.sp (SO.sp (SO.ip (SO.sp (SO.sp (SO.sp (SO.sp (SO.ip (SO.sp (SO.sp (SO.sp (SO.sp (SO.sp (SO.sp SO.s))))))))))))))))))))))))
instance adb:Dt HA:=by
 refine Dt.mp fun x y h=>?_
 obtain ⟨⟨⟨_,_,_,_,_⟩,⟨_,_,_,_,_⟩,_,_⟩,⟨⟨_,_,_,_,_⟩,⟨_,_,_,_,_⟩,_,_⟩,_⟩:=x
 obtain ⟨⟨⟨_,_,_,_,_⟩,⟨_,_,_,_,_⟩,_,_⟩,⟨⟨_,_,_,_,_⟩,⟨_,_,_,_,_⟩,_,_⟩,_⟩:=y
 dsimp only at h
 cases h
 rfl
end Go.Proofs.YtcnehblmgfbfoaaGreat
