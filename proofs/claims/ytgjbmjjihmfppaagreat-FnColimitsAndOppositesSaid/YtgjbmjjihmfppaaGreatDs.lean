/- Structs that are pointed to out of slices. No condition. -/
import Derived.Test.YtgjbmjjihmfppaaGreatDi
import Derived.Test.YtgjbmjjihmfppaaGreatMo
import Derived.Test.YtgjbmjjihmfppaaGreatDp
namespace Go.Proofs.YtgjbmjjihmfppaaGreat
open Go Go.Li Go.Dk
set_option linter.unusedVariables false
def P4:ag aG:=xW (fun x=>(x.aA,x.aD,x.To,x.aH,x.aB)) (gx (aM .i64) (gx (bJ (aM .i64)) (gx (bJ (aM .i64)) (gx (bJ (aM .i64)) (bJ (bJ (aM .i64)))))))
instance amb:SO P4 (Value×Value×Value×Value) (fun x v=>[.int .i64 x.aA,v.1,v.2.1,v.2.2.1,v.2.2.2]) (fun x v=>[.rd false (bJ (aM .i64)) v.1 x.aD,.rd false (bJ (aM .i64)) v.2.1 x.To,.rd false (bJ (aM .i64)) v.2.2.1 x.aH,.rd false (bJ (bJ (aM .i64))) v.2.2.2 x.aB]):=SO.mp (SO.ip (SO.sp (SO.sp (SO.sp SO.s))))
instance amc:Dt P4:=by
 refine Dt.mp fun x y h=>?_
 obtain ⟨_,_,_,_,_⟩:=x
 obtain ⟨_,_,_,_,_⟩:=y
 dsimp only at h
 cases h
 rfl
def Is:ag aI:=xW (fun x=>(x.aC.aA,x.aC.aD,x.aC.To,x.aC.aH,x.aC.aB,x.aE.aA,x.aE.aD,x.aE.To,x.aE.aH,x.aE.aB,x.aA,x.ab)) (gx (aM .i64) (gx (bJ (aM .i64)) (gx (bJ (aM .i64)) (gx (bJ (aM .i64)) (gx (bJ (bJ (aM .i64))) (gx (aM .i64) (gx (bJ (aM .i64)) (gx (bJ (aM .i64)) (gx (bJ (aM .i64)) (gx (bJ (bJ (aM .i64))) (gx (bJ (aM .i64)) (bJ (aM .i64)))))))))))))
instance amd:SO Is (Value×Value×Value×Value×Value×Value×Value×Value×Value×Value) (fun x v=>[.int .i64 x.aC.aA,v.1,v.2.1,v.2.2.1,v.2.2.2.1,.int .i64 x.aE.aA,v.2.2.2.2.1,v.2.2.2.2.2.1,v.2.2.2.2.2.2.1,v.2.2.2.2.2.2.2.1,v.2.2.2.2.2.2.2.2.1,v.2.2.2.2.2.2.2.2.2]) (fun x v=>[.rd false (bJ (aM .i64)) v.1 x.aC.aD,.rd false (bJ (aM .i64)) v.2.1 x.aC.To,.rd false (bJ (aM .i64)) v.2.2.1 x.aC.aH,.rd false (bJ (bJ (aM .i64))) v.2.2.2.1 x.aC.aB,.rd false (bJ (aM .i64)) v.2.2.2.2.1 x.aE.aD,.rd false (bJ (aM .i64)) v.2.2.2.2.2.1 x.aE.To,.rd false (bJ (aM .i64)) v.2.2.2.2.2.2.1 x.aE.aH,.rd false (bJ (bJ (aM .i64))) v.2.2.2.2.2.2.2.1 x.aE.aB,.rd false (bJ (aM .i64)) v.2.2.2.2.2.2.2.2.1 x.aA,.rd false (bJ (aM .i64)) v.2.2.2.2.2.2.2.2.2 x.ab]):=SO.mp (SO.ip (SO.sp (SO.sp (SO.sp (SO.sp (SO.ip (SO.sp (SO.sp (SO.sp (SO.sp (SO.sp SO.s)))))))))))
instance ame:Dt Is:=by
 refine Dt.mp fun x y h=>?_
 obtain ⟨⟨_,_,_,_,_⟩,⟨_,_,_,_,_⟩,_,_⟩:=x
 obtain ⟨⟨_,_,_,_,_⟩,⟨_,_,_,_,_⟩,_,_⟩:=y
 dsimp only at h
 cases h
 rfl
def uy:ag aI:=xW (fun x=>(x.aC.aA,x.aC.aD,x.aC.To,x.aC.aH,x.aC.aB,x.aE.aA,x.aE.aD,x.aE.To,x.aE.aH,x.aE.aB,x.aA,x.ab)) (gx (aM .i64) (gx (aJ 2 (aM .i64)) (gx (aJ 2 (aM .i64)) (gx (aJ 2 (aM .i64)) (gx (aJ 24 (aJ 2 (aM .i64))) (gx (aM .i64) (gx (aJ 2 (aM .i64)) (gx (aJ 2 (aM .i64)) (gx (aJ 2 (aM .i64)) (gx (aJ 24 (aJ 2 (aM .i64))) (gx (aJ 2 (aM .i64)) (aJ 2 (aM .i64)))))))))))))
instance amf:n5 uy (Value×Value×Value×Value×Value×Value×Value×Value×Value×Value) (fun x v=>[.int .i64 x.aC.aA,v.1,v.2.1,v.2.2.1,v.2.2.2.1,.int .i64 x.aE.aA,v.2.2.2.2.1,v.2.2.2.2.2.1,v.2.2.2.2.2.2.1,v.2.2.2.2.2.2.2.1,v.2.2.2.2.2.2.2.2.1,v.2.2.2.2.2.2.2.2.2]) (fun x v=>[.own (aJ 2 (aM .i64)) v.1 x.aC.aD,.own (aJ 2 (aM .i64)) v.2.1 x.aC.To,.own (aJ 2 (aM .i64)) v.2.2.1 x.aC.aH,.own (aJ 24 (aJ 2 (aM .i64))) v.2.2.2.1 x.aC.aB,.own (aJ 2 (aM .i64)) v.2.2.2.2.1 x.aE.aD,.own (aJ 2 (aM .i64)) v.2.2.2.2.2.1 x.aE.To,.own (aJ 2 (aM .i64)) v.2.2.2.2.2.2.1 x.aE.aH,.own (aJ 24 (aJ 2 (aM .i64))) v.2.2.2.2.2.2.2.1 x.aE.aB,.own (aJ 2 (aM .i64)) v.2.2.2.2.2.2.2.2.1 x.aA,.own (aJ 2 (aM .i64)) v.2.2.2.2.2.2.2.2.2 x.ab]):=n5.mp (n5.ip (n5.sp (n5.sp (n5.sp (n5.sp (n5.ip (n5.sp (n5.sp (n5.sp (n5.sp (n5.sp n5.s)))))))))))
instance amg:Uz uy Is:=⟨Le.map (Le.pair (Le.refl _) (Le.pair (Le.own (Le.refl _) 2) (Le.pair (Le.own (Le.refl _) 2) (Le.pair (Le.own (Le.refl _) 2) (Le.pair (Le.own (Le.own (Le.refl _) 2) 24) (Le.pair (Le.refl _) (Le.pair (Le.own (Le.refl _) 2) (Le.pair (Le.own (Le.refl _) 2) (Le.pair (Le.own (Le.refl _) 2) (Le.pair (Le.own (Le.own (Le.refl _) 2) 24) (Le.pair (Le.own (Le.refl _) 2) (Le.own (Le.refl _) 2)))))))))))),inferInstance⟩
def kp:ag bG:=xW (fun x=>(x.dy,x.br)) (gx (aM .i64) (bJ (aM .i64)))
instance amh:SO kp (Value) (fun x v=>[.int .i64 x.dy,v]) (fun x v=>[.rd false (bJ (aM .i64)) v x.br]):=SO.mp (SO.ip SO.s)
instance ami:Dt kp:=by
 refine Dt.mp fun x y h=>?_
 obtain ⟨_,_⟩:=x
 obtain ⟨_,_⟩:=y
 dsimp only at h
 cases h
 rfl
def rq:ag bG:=xW (fun x=>(x.dy,x.br)) (gx (aM .i64) (aJ 2 (aM .i64)))
instance amj:n5 rq (Value) (fun x v=>[.int .i64 x.dy,v]) (fun x v=>[.own (aJ 2 (aM .i64)) v x.br]):=n5.mp (n5.ip n5.s)
instance amk:Uz rq kp:=⟨Le.map (Le.pair (Le.refl _) (Le.own (Le.refl _) 2)),inferInstance⟩
def wu:ag bQ:=xW (fun x=>(x.aD,x.To,x.mh)) (gx (aM .i64) (gx (aM .i64) (bJ (aM .i64))))
instance aib:SO wu (Value) (fun x v=>[.int .i64 x.aD,.int .i64 x.To,v]) (fun x v=>[.rd false (bJ (aM .i64)) v x.mh]):=SO.mp (SO.ip (SO.ip SO.s))
instance aic:Dt wu:=by
 refine Dt.mp fun x y h=>?_
 obtain ⟨_,_,_⟩:=x
 obtain ⟨_,_,_⟩:=y
 dsimp only at h
 cases h
 rfl
end Go.Proofs.YtgjbmjjihmfppaaGreat
