/- Structs that are pointed to out of slices. No condition. -/
import Derived.Test.YtbmchcnkbonmkaaGreatDi
import Derived.Test.YtbmchcnkbonmkaaGreatMo
import Derived.Test.YtbmchcnkbonmkaaGreatDp
namespace Go.Proofs.YtbmchcnkbonmkaaGreat
open Go Go.Li Go.Dk
set_option linter.unusedVariables false
def Qu:ai aG:=wa (fun x=>(x.aA,x.aC,x.To,x.aH,x.aB)) (fy (aL .i64) (fy (bG (aL .i64)) (fy (bG (aL .i64)) (fy (bG (aL .i64)) (bG (bG (aL .i64)))))))
instance alY:SO Qu (Value×Value×Value×Value) (fun x v=>[.int .i64 x.aA,v.1,v.2.1,v.2.2.1,v.2.2.2]) (fun x v=>[.rd false (bG (aL .i64)) v.1 x.aC,.rd false (bG (aL .i64)) v.2.1 x.To,.rd false (bG (aL .i64)) v.2.2.1 x.aH,.rd false (bG (bG (aL .i64))) v.2.2.2 x.aB]):=SO.mp (SO.ip (SO.sp (SO.sp (SO.sp SO.s))))
instance alZ:Dt Qu:=by
 refine Dt.mp fun x y h=>?_
 obtain ⟨_,_,_,_,_⟩:=x
 obtain ⟨_,_,_,_,_⟩:=y
 dsimp only at h
 cases h
 rfl
def Qv:ai aJ:=wa (fun x=>(x.aE.aA,x.aE.aC,x.aE.To,x.aE.aH,x.aE.aB,x.aF.aA,x.aF.aC,x.aF.To,x.aF.aH,x.aF.aB,x.aA,x.ah)) (fy (aL .i64) (fy (bG (aL .i64)) (fy (bG (aL .i64)) (fy (bG (aL .i64)) (fy (bG (bG (aL .i64))) (fy (aL .i64) (fy (bG (aL .i64)) (fy (bG (aL .i64)) (fy (bG (aL .i64)) (fy (bG (bG (aL .i64))) (fy (bG (aL .i64)) (bG (aL .i64)))))))))))))
instance al0:SO Qv (Value×Value×Value×Value×Value×Value×Value×Value×Value×Value) (fun x v=>[.int .i64 x.aE.aA,v.1,v.2.1,v.2.2.1,v.2.2.2.1,.int .i64 x.aF.aA,v.2.2.2.2.1,v.2.2.2.2.2.1,v.2.2.2.2.2.2.1,v.2.2.2.2.2.2.2.1,v.2.2.2.2.2.2.2.2.1,v.2.2.2.2.2.2.2.2.2]) (fun x v=>[.rd false (bG (aL .i64)) v.1 x.aE.aC,.rd false (bG (aL .i64)) v.2.1 x.aE.To,.rd false (bG (aL .i64)) v.2.2.1 x.aE.aH,.rd false (bG (bG (aL .i64))) v.2.2.2.1 x.aE.aB,.rd false (bG (aL .i64)) v.2.2.2.2.1 x.aF.aC,.rd false (bG (aL .i64)) v.2.2.2.2.2.1 x.aF.To,.rd false (bG (aL .i64)) v.2.2.2.2.2.2.1 x.aF.aH,.rd false (bG (bG (aL .i64))) v.2.2.2.2.2.2.2.1 x.aF.aB,.rd false (bG (aL .i64)) v.2.2.2.2.2.2.2.2.1 x.aA,.rd false (bG (aL .i64)) v.2.2.2.2.2.2.2.2.2 x.ah]):=SO.mp (SO.ip (SO.sp (SO.sp (SO.sp (SO.sp (SO.ip (SO.sp (SO.sp (SO.sp (SO.sp (SO.sp SO.s)))))))))))
instance al1:Dt Qv:=by
 refine Dt.mp fun x y h=>?_
 obtain ⟨⟨_,_,_,_,_⟩,⟨_,_,_,_,_⟩,_,_⟩:=x
 obtain ⟨⟨_,_,_,_,_⟩,⟨_,_,_,_,_⟩,_,_⟩:=y
 dsimp only at h
 cases h
 rfl
def uQ:ai aJ:=wa (fun x=>(x.aE.aA,x.aE.aC,x.aE.To,x.aE.aH,x.aE.aB,x.aF.aA,x.aF.aC,x.aF.To,x.aF.aH,x.aF.aB,x.aA,x.ah)) (fy (aL .i64) (fy (aI 2 (aL .i64)) (fy (aI 2 (aL .i64)) (fy (aI 2 (aL .i64)) (fy (aI 24 (aI 2 (aL .i64))) (fy (aL .i64) (fy (aI 2 (aL .i64)) (fy (aI 2 (aL .i64)) (fy (aI 2 (aL .i64)) (fy (aI 24 (aI 2 (aL .i64))) (fy (aI 2 (aL .i64)) (aI 2 (aL .i64)))))))))))))
instance al2:mx uQ (Value×Value×Value×Value×Value×Value×Value×Value×Value×Value) (fun x v=>[.int .i64 x.aE.aA,v.1,v.2.1,v.2.2.1,v.2.2.2.1,.int .i64 x.aF.aA,v.2.2.2.2.1,v.2.2.2.2.2.1,v.2.2.2.2.2.2.1,v.2.2.2.2.2.2.2.1,v.2.2.2.2.2.2.2.2.1,v.2.2.2.2.2.2.2.2.2]) (fun x v=>[.own (aI 2 (aL .i64)) v.1 x.aE.aC,.own (aI 2 (aL .i64)) v.2.1 x.aE.To,.own (aI 2 (aL .i64)) v.2.2.1 x.aE.aH,.own (aI 24 (aI 2 (aL .i64))) v.2.2.2.1 x.aE.aB,.own (aI 2 (aL .i64)) v.2.2.2.2.1 x.aF.aC,.own (aI 2 (aL .i64)) v.2.2.2.2.2.1 x.aF.To,.own (aI 2 (aL .i64)) v.2.2.2.2.2.2.1 x.aF.aH,.own (aI 24 (aI 2 (aL .i64))) v.2.2.2.2.2.2.2.1 x.aF.aB,.own (aI 2 (aL .i64)) v.2.2.2.2.2.2.2.2.1 x.aA,.own (aI 2 (aL .i64)) v.2.2.2.2.2.2.2.2.2 x.ah]):=mx.mp (mx.ip (mx.sp (mx.sp (mx.sp (mx.sp (mx.ip (mx.sp (mx.sp (mx.sp (mx.sp (mx.sp mx.s)))))))))))
instance al3:Sw uQ Qv:=⟨Le.map (Le.pair (Le.refl _) (Le.pair (Le.own (Le.refl _) 2) (Le.pair (Le.own (Le.refl _) 2) (Le.pair (Le.own (Le.refl _) 2) (Le.pair (Le.own (Le.own (Le.refl _) 2) 24) (Le.pair (Le.refl _) (Le.pair (Le.own (Le.refl _) 2) (Le.pair (Le.own (Le.refl _) 2) (Le.pair (Le.own (Le.refl _) 2) (Le.pair (Le.own (Le.own (Le.refl _) 2) 24) (Le.pair (Le.own (Le.refl _) 2) (Le.own (Le.refl _) 2)))))))))))),inferInstance⟩
def uR:ai bD:=wa (fun x=>(x.da,x.ay)) (fy (aL .i64) (bG (aL .i64)))
instance al4:SO uR (Value) (fun x v=>[.int .i64 x.da,v]) (fun x v=>[.rd false (bG (aL .i64)) v x.ay]):=SO.mp (SO.ip SO.s)
instance al5:Dt uR:=by
 refine Dt.mp fun x y h=>?_
 obtain ⟨_,_⟩:=x
 obtain ⟨_,_⟩:=y
 dsimp only at h
 cases h
 rfl
def sd:ai bD:=wa (fun x=>(x.da,x.ay)) (fy (aL .i64) (aI 2 (aL .i64)))
instance al6:mx sd (Value) (fun x v=>[.int .i64 x.da,v]) (fun x v=>[.own (aI 2 (aL .i64)) v x.ay]):=mx.mp (mx.ip mx.s)
instance al7:Sw sd uR:=⟨Le.map (Le.pair (Le.refl _) (Le.own (Le.refl _) 2)),inferInstance⟩
def FM:ai bF:=wa (fun x=>(x.dw,x.Second)) (fy (aL .i64) (aL .i64))
instance al8:SO FM (Unit) (fun x v=>[.int .i64 x.dw,.int .i64 x.Second]) (fun x v=>[]):=SO.mp (SO.ip SO.i)
instance al9:Dt FM:=by
 refine Dt.mp fun x y h=>?_
 obtain ⟨_,_⟩:=x
 obtain ⟨_,_⟩:=y
 dsimp only at h
 cases h
 rfl
def DR:ai bF:=wa (fun x=>(x.dw,x.Second)) (fy (aL .i64) (aL .i64))
instance ama:mx DR (Unit) (fun x v=>[.int .i64 x.dw,.int .i64 x.Second]) (fun x v=>[]):=mx.mp (mx.ip mx.i)
instance amb:Sw DR FM:=⟨Le.map (Le.pair (Le.refl _) (Le.refl _)),inferInstance⟩
def wE:ai bJ:=wa (fun x=>(x.aC,x.To,x.mh)) (fy (aL .i64) (fy (aL .i64) (bG (aL .i64))))
instance aid:SO wE (Value) (fun x v=>[.int .i64 x.aC,.int .i64 x.To,v]) (fun x v=>[.rd false (bG (aL .i64)) v x.mh]):=SO.mp (SO.ip (SO.ip SO.s))
instance aie:Dt wE:=by
 refine Dt.mp fun x y h=>?_
 obtain ⟨_,_,_⟩:=x
 obtain ⟨_,_,_⟩:=y
 dsimp only at h
 cases h
 rfl
end Go.Proofs.YtbmchcnkbonmkaaGreat
