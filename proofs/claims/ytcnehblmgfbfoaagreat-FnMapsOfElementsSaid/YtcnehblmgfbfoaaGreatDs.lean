/- Structs that are pointed to out of slices. No condition. -/
import Derived.Test.YtcnehblmgfbfoaaGreatDi
import Derived.Test.YtcnehblmgfbfoaaGreatMo
import Derived.Test.YtcnehblmgfbfoaaGreatDp
namespace Go.Proofs.YtcnehblmgfbfoaaGreat
open Go Go.Li Go.Dk
set_option linter.unusedVariables false
def QP:ah aH:=An (fun x=>(x.aD,x.aG,x.To,x.aI,x.aB)) (jb (aN .i64) (jb (aV (aN .i64)) (jb (aV (aN .i64)) (jb (aV (aN .i64)) (aV (aV (aN .i64)))))))
instance aoS:SO QP (Value×Value×Value×Value) (fun x v=>[.int .i64 x.aD,v.1,v.2.1,v.2.2.1,v.2.2.2]) (fun x v=>[.rd false (aV (aN .i64)) v.1 x.aG,.rd false (aV (aN .i64)) v.2.1 x.To,.rd false (aV (aN .i64)) v.2.2.1 x.aI,.rd false (aV (aV (aN .i64))) v.2.2.2 x.aB]):=SO.mp (SO.ip (SO.sp (SO.sp (SO.sp SO.s))))
instance aoT:Dt QP:=by
 refine Dt.mp fun x y h=>?_
 obtain ⟨_,_,_,_,_⟩:=x
 obtain ⟨_,_,_,_,_⟩:=y
 dsimp only at h
 cases h
 rfl
def QQ:ah aY:=An (fun x=>(x.aF.aD,x.aF.aG,x.aF.To,x.aF.aI,x.aF.aB,x.aM.aD,x.aM.aG,x.aM.To,x.aM.aI,x.aM.aB,x.aD,x.bc)) (jb (aN .i64) (jb (aV (aN .i64)) (jb (aV (aN .i64)) (jb (aV (aN .i64)) (jb (aV (aV (aN .i64))) (jb (aN .i64) (jb (aV (aN .i64)) (jb (aV (aN .i64)) (jb (aV (aN .i64)) (jb (aV (aV (aN .i64))) (jb (aV (aN .i64)) (aV (aN .i64)))))))))))))
instance aoU:SO QQ (Value×Value×Value×Value×Value×Value×Value×Value×Value×Value) (fun x v=>[.int .i64 x.aF.aD,v.1,v.2.1,v.2.2.1,v.2.2.2.1,.int .i64 x.aM.aD,v.2.2.2.2.1,v.2.2.2.2.2.1,v.2.2.2.2.2.2.1,v.2.2.2.2.2.2.2.1,v.2.2.2.2.2.2.2.2.1,v.2.2.2.2.2.2.2.2.2]) (fun x v=>[.rd false (aV (aN .i64)) v.1 x.aF.aG,.rd false (aV (aN .i64)) v.2.1 x.aF.To,.rd false (aV (aN .i64)) v.2.2.1 x.aF.aI,.rd false (aV (aV (aN .i64))) v.2.2.2.1 x.aF.aB,.rd false (aV (aN .i64)) v.2.2.2.2.1 x.aM.aG,.rd false (aV (aN .i64)) v.2.2.2.2.2.1 x.aM.To,.rd false (aV (aN .i64)) v.2.2.2.2.2.2.1 x.aM.aI,.rd false (aV (aV (aN .i64))) v.2.2.2.2.2.2.2.1 x.aM.aB,.rd false (aV (aN .i64)) v.2.2.2.2.2.2.2.2.1 x.aD,.rd false (aV (aN .i64)) v.2.2.2.2.2.2.2.2.2 x.bc]):=SO.mp (SO.ip (SO.sp (SO.sp (SO.sp (SO.sp (SO.ip (SO.sp (SO.sp (SO.sp (SO.sp (SO.sp SO.s)))))))))))
instance aoV:Dt QQ:=by
 refine Dt.mp fun x y h=>?_
 obtain ⟨⟨_,_,_,_,_⟩,⟨_,_,_,_,_⟩,_,_⟩:=x
 obtain ⟨⟨_,_,_,_,_⟩,⟨_,_,_,_,_⟩,_,_⟩:=y
 dsimp only at h
 cases h
 rfl
def QR:ah aK:=An (fun x=>(x.aC.aD,x.aC.aG,x.aC.To,x.aC.aI,x.aC.aB,x.aP,x.aO)) (jb (aN .i64) (jb (aV (aN .i64)) (jb (aV (aN .i64)) (jb (aV (aN .i64)) (jb (aV (aV (aN .i64))) (jb (aV (aN .i64)) (aV (aV (aN .i64)))))))))
instance aoW:SO QR (Value×Value×Value×Value×Value×Value) (fun x v=>[.int .i64 x.aC.aD,v.1,v.2.1,v.2.2.1,v.2.2.2.1,v.2.2.2.2.1,v.2.2.2.2.2]) (fun x v=>[.rd false (aV (aN .i64)) v.1 x.aC.aG,.rd false (aV (aN .i64)) v.2.1 x.aC.To,.rd false (aV (aN .i64)) v.2.2.1 x.aC.aI,.rd false (aV (aV (aN .i64))) v.2.2.2.1 x.aC.aB,.rd false (aV (aN .i64)) v.2.2.2.2.1 x.aP,.rd false (aV (aV (aN .i64))) v.2.2.2.2.2 x.aO]):=SO.mp (SO.ip (SO.sp (SO.sp (SO.sp (SO.sp (SO.sp SO.s))))))
instance aoX:Dt QR:=by
 refine Dt.mp fun x y h=>?_
 obtain ⟨⟨_,_,_,_,_⟩,_,_⟩:=x
 obtain ⟨⟨_,_,_,_,_⟩,_,_⟩:=y
 dsimp only at h
 cases h
 rfl
def vY:ah cG:=An (fun x=>(x.aG,x.To,x.rv)) (jb (aN .i64) (jb (aN .i64) (aV (aN .i64))))
instance aj7:SO vY (Value) (fun x v=>[.int .i64 x.aG,.int .i64 x.To,v]) (fun x v=>[.rd false (aV (aN .i64)) v x.rv]):=SO.mp (SO.ip (SO.ip SO.s))
instance aj8:Dt vY:=by
 refine Dt.mp fun x y h=>?_
 obtain ⟨_,_,_⟩:=x
 obtain ⟨_,_,_⟩:=y
 dsimp only at h
 cases h
 rfl
end Go.Proofs.YtcnehblmgfbfoaaGreat
