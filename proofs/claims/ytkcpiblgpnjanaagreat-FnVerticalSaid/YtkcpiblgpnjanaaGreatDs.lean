/- Structs that are pointed to out of slices. No condition. -/
import Derived.Test.YtkcpiblgpnjanaaGreatDi
import Derived.Test.YtkcpiblgpnjanaaGreatMo
import Derived.Test.YtkcpiblgpnjanaaGreatDp
namespace Go.Proofs.YtkcpiblgpnjanaaGreat
open Go Go.Li Go.Dk
set_option linter.unusedVariables false
def Px:ah aI:=yy (fun x=>(x.aE,x.aG,x.To,x.aJ,x.aF)) (cy (aB .i64) (cy (aD (aB .i64)) (cy (aD (aB .i64)) (cy (aD (aB .i64)) (aD (aD (aB .i64)))))))
instance ak2:SO Px (Value×Value×Value×Value) (fun x v=>[.int .i64 x.aE,v.1,v.2.1,v.2.2.1,v.2.2.2]) (fun x v=>[.rd false (aD (aB .i64)) v.1 x.aG,.rd false (aD (aB .i64)) v.2.1 x.To,.rd false (aD (aB .i64)) v.2.2.1 x.aJ,.rd false (aD (aD (aB .i64))) v.2.2.2 x.aF]):=SO.mp (SO.ip (SO.sp (SO.sp (SO.sp SO.s))))
instance ak3:Dt Px:=by
 refine Dt.mp fun x y h=>?_
 obtain ⟨_,_,_,_,_⟩:=x
 obtain ⟨_,_,_,_,_⟩:=y
 dsimp only at h
 cases h
 rfl
def Hq:ah aN:=yy (fun x=>(x.aA.aE,x.aA.aG,x.aA.To,x.aA.aJ,x.aA.aF,x.aC.aE,x.aC.aG,x.aC.To,x.aC.aJ,x.aC.aF,x.aE,x.ae)) (cy (aB .i64) (cy (aD (aB .i64)) (cy (aD (aB .i64)) (cy (aD (aB .i64)) (cy (aD (aD (aB .i64))) (cy (aB .i64) (cy (aD (aB .i64)) (cy (aD (aB .i64)) (cy (aD (aB .i64)) (cy (aD (aD (aB .i64))) (cy (aD (aB .i64)) (aD (aB .i64)))))))))))))
instance ak4:SO Hq (Value×Value×Value×Value×Value×Value×Value×Value×Value×Value) (fun x v=>[.int .i64 x.aA.aE,v.1,v.2.1,v.2.2.1,v.2.2.2.1,.int .i64 x.aC.aE,v.2.2.2.2.1,v.2.2.2.2.2.1,v.2.2.2.2.2.2.1,v.2.2.2.2.2.2.2.1,v.2.2.2.2.2.2.2.2.1,v.2.2.2.2.2.2.2.2.2]) (fun x v=>[.rd false (aD (aB .i64)) v.1 x.aA.aG,.rd false (aD (aB .i64)) v.2.1 x.aA.To,.rd false (aD (aB .i64)) v.2.2.1 x.aA.aJ,.rd false (aD (aD (aB .i64))) v.2.2.2.1 x.aA.aF,.rd false (aD (aB .i64)) v.2.2.2.2.1 x.aC.aG,.rd false (aD (aB .i64)) v.2.2.2.2.2.1 x.aC.To,.rd false (aD (aB .i64)) v.2.2.2.2.2.2.1 x.aC.aJ,.rd false (aD (aD (aB .i64))) v.2.2.2.2.2.2.2.1 x.aC.aF,.rd false (aD (aB .i64)) v.2.2.2.2.2.2.2.2.1 x.aE,.rd false (aD (aB .i64)) v.2.2.2.2.2.2.2.2.2 x.ae]):=SO.mp (SO.ip (SO.sp (SO.sp (SO.sp (SO.sp (SO.ip (SO.sp (SO.sp (SO.sp (SO.sp (SO.sp SO.s)))))))))))
instance ak5:Dt Hq:=by
 refine Dt.mp fun x y h=>?_
 obtain ⟨⟨_,_,_,_,_⟩,⟨_,_,_,_,_⟩,_,_⟩:=x
 obtain ⟨⟨_,_,_,_,_⟩,⟨_,_,_,_,_⟩,_,_⟩:=y
 dsimp only at h
 cases h
 rfl
def tj:ah aN:=yy (fun x=>(x.aA.aE,x.aA.aG,x.aA.To,x.aA.aJ,x.aA.aF,x.aC.aE,x.aC.aG,x.aC.To,x.aC.aJ,x.aC.aF,x.aE,x.ae)) (cy (aB .i64) (cy (aK 2 (aB .i64)) (cy (aK 2 (aB .i64)) (cy (aK 2 (aB .i64)) (cy (aK 24 (aK 2 (aB .i64))) (cy (aB .i64) (cy (aK 2 (aB .i64)) (cy (aK 2 (aB .i64)) (cy (aK 2 (aB .i64)) (cy (aK 24 (aK 2 (aB .i64))) (cy (aK 2 (aB .i64)) (aK 2 (aB .i64)))))))))))))
instance ak6:pr tj (Value×Value×Value×Value×Value×Value×Value×Value×Value×Value) (fun x v=>[.int .i64 x.aA.aE,v.1,v.2.1,v.2.2.1,v.2.2.2.1,.int .i64 x.aC.aE,v.2.2.2.2.1,v.2.2.2.2.2.1,v.2.2.2.2.2.2.1,v.2.2.2.2.2.2.2.1,v.2.2.2.2.2.2.2.2.1,v.2.2.2.2.2.2.2.2.2]) (fun x v=>[.own (aK 2 (aB .i64)) v.1 x.aA.aG,.own (aK 2 (aB .i64)) v.2.1 x.aA.To,.own (aK 2 (aB .i64)) v.2.2.1 x.aA.aJ,.own (aK 24 (aK 2 (aB .i64))) v.2.2.2.1 x.aA.aF,.own (aK 2 (aB .i64)) v.2.2.2.2.1 x.aC.aG,.own (aK 2 (aB .i64)) v.2.2.2.2.2.1 x.aC.To,.own (aK 2 (aB .i64)) v.2.2.2.2.2.2.1 x.aC.aJ,.own (aK 24 (aK 2 (aB .i64))) v.2.2.2.2.2.2.2.1 x.aC.aF,.own (aK 2 (aB .i64)) v.2.2.2.2.2.2.2.2.1 x.aE,.own (aK 2 (aB .i64)) v.2.2.2.2.2.2.2.2.2 x.ae]):=pr.mp (pr.ip (pr.sp (pr.sp (pr.sp (pr.sp (pr.ip (pr.sp (pr.sp (pr.sp (pr.sp (pr.sp pr.s)))))))))))
instance ak7:Yd tj Hq:=⟨Le.map (Le.pair (Le.refl _) (Le.pair (Le.own (Le.refl _) 2) (Le.pair (Le.own (Le.refl _) 2) (Le.pair (Le.own (Le.refl _) 2) (Le.pair (Le.own (Le.own (Le.refl _) 2) 24) (Le.pair (Le.refl _) (Le.pair (Le.own (Le.refl _) 2) (Le.pair (Le.own (Le.refl _) 2) (Le.pair (Le.own (Le.refl _) 2) (Le.pair (Le.own (Le.own (Le.refl _) 2) 24) (Le.pair (Le.own (Le.refl _) 2) (Le.own (Le.refl _) 2)))))))))))),inferInstance⟩
def Py:ah aP:=yy (fun x=>(x.aA.aA.aE,x.aA.aA.aG,x.aA.aA.To,x.aA.aA.aJ,x.aA.aA.aF,x.aA.aC.aE,x.aA.aC.aG,x.aA.aC.To,x.aA.aC.aJ,x.aA.aC.aF,x.aA.aE,x.aA.ae,x.aC.aA.aE,x.aC.aA.aG,x.aC.aA.To,x.aC.aA.aJ,x.aC.aA.aF,x.aC.aC.aE,x.aC.aC.aG,x.aC.aC.To,x.aC.aC.aJ,x.aC.aC.aF,x.aC.aE,x.aC.ae,x.ag)) (cy (aB .i64) (cy (aD (aB .i64)) (cy (aD (aB .i64)) (cy (aD (aB .i64)) (cy (aD (aD (aB .i64))) (cy (aB .i64) (cy (aD (aB .i64)) (cy (aD (aB .i64)) (cy (aD (aB .i64)) (cy (aD (aD (aB .i64))) (cy (aD (aB .i64)) (cy (aD (aB .i64)) (cy (aB .i64) (cy (aD (aB .i64)) (cy (aD (aB .i64)) (cy (aD (aB .i64)) (cy (aD (aD (aB .i64))) (cy (aB .i64) (cy (aD (aB .i64)) (cy (aD (aB .i64)) (cy (aD (aB .i64)) (cy (aD (aD (aB .i64))) (cy (aD (aB .i64)) (cy (aD (aB .i64)) (aD (aB .i64))))))))))))))))))))))))))
instance ak8:SO Py (Value×Value×Value×Value×Value×Value×Value×Value×Value×Value×Value×Value×Value×Value×Value×Value×Value×Value×Value×Value×Value) (fun x v=>[.int .i64 x.aA.aA.aE,v.1,v.2.1,v.2.2.1,v.2.2.2.1,.int .i64 x.aA.aC.aE,v.2.2.2.2.1,v.2.2.2.2.2.1,v.2.2.2.2.2.2.1,v.2.2.2.2.2.2.2.1,v.2.2.2.2.2.2.2.2.1,v.2.2.2.2.2.2.2.2.2.1,.int .i64 x.aC.aA.aE,v.2.2.2.2.2.2.2.2.2.2.1,v.2.2.2.2.2.2.2.2.2.2.2.1,v.2.2.2.2.2.2.2.2.2.2.2.2.1,v.2.2.2.2.2.2.2.2.2.2.2.2.2.1,.int .i64 x.aC.aC.aE,v.2.2.2.2.2.2.2.2.2.2.2.2.2.2.1,v.2.2.2.2.2.2.2.2.2.2.2.2.2.2.2.1,v.2.2.2.2.2.2.2.2.2.2.2.2.2.2.2.2.1,v.2.2.2.2.2.2.2.2.2.2.2.2.2.2.2.2.2.1,v.2.2.2.2.2.2.2.2.2.2.2.2.2.2.2.2.2.2.1,v.2.2.2.2.2.2.2.2.2.2.2.2.2.2.2.2.2.2.2.1,v.2.2.2.2.2.2.2.2.2.2.2.2.2.2.2.2.2.2.2.2]) (fun x v=>[.rd false (aD (aB .i64)) v.1 x.aA.aA.aG,.rd false (aD (aB .i64)) v.2.1 x.aA.aA.To,.rd false (aD (aB .i64)) v.2.2.1 x.aA.aA.aJ,.rd false (aD (aD (aB .i64))) v.2.2.2.1 x.aA.aA.aF,.rd false (aD (aB .i64)) v.2.2.2.2.1 x.aA.aC.aG,.rd false (aD (aB .i64)) v.2.2.2.2.2.1 x.aA.aC.To,.rd false (aD (aB .i64)) v.2.2.2.2.2.2.1 x.aA.aC.aJ,.rd false (aD (aD (aB .i64))) v.2.2.2.2.2.2.2.1 x.aA.aC.aF,.rd false (aD (aB .i64)) v.2.2.2.2.2.2.2.2.1 x.aA.aE,.rd false (aD (aB .i64)) v.2.2.2.2.2.2.2.2.2.1 x.aA.ae,.rd false (aD (aB .i64)) v.2.2.2.2.2.2.2.2.2.2.1 x.aC.aA.aG,.rd false (aD (aB .i64)) v.2.2.2.2.2.2.2.2.2.2.2.1 x.aC.aA.To,.rd false (aD (aB .i64)) v.2.2.2.2.2.2.2.2.2.2.2.2.1 x.aC.aA.aJ,.rd false (aD (aD (aB .i64))) v.2.2.2.2.2.2.2.2.2.2.2.2.2.1 x.aC.aA.aF,.rd false (aD (aB .i64)) v.2.2.2.2.2.2.2.2.2.2.2.2.2.2.1 x.aC.aC.aG,.rd false (aD (aB .i64)) v.2.2.2.2.2.2.2.2.2.2.2.2.2.2.2.1 x.aC.aC.To,.rd false (aD (aB .i64)) v.2.2.2.2.2.2.2.2.2.2.2.2.2.2.2.2.1 x.aC.aC.aJ,.rd false (aD (aD (aB .i64))) v.2.2.2.2.2.2.2.2.2.2.2.2.2.2.2.2.2.1 x.aC.aC.aF,.rd false (aD (aB .i64)) v.2.2.2.2.2.2.2.2.2.2.2.2.2.2.2.2.2.2.1 x.aC.aE,.rd false (aD (aB .i64)) v.2.2.2.2.2.2.2.2.2.2.2.2.2.2.2.2.2.2.2.1 x.aC.ae,.rd false (aD (aB .i64)) v.2.2.2.2.2.2.2.2.2.2.2.2.2.2.2.2.2.2.2.2 x.ag]):=SO.mp (SO.ip (SO.sp (SO.sp (SO.sp (SO.sp (SO.ip (SO.sp (SO.sp (SO.sp (SO.sp (SO.sp (SO.sp (SO.ip (SO.sp (SO.sp (SO.sp (SO.sp (SO.ip (SO.sp (SO.sp (SO.sp (SO.sp (SO.sp (SO.sp SO.s))))))))))))))))))))))))
instance ak9:Dt Py:=by
 refine Dt.mp fun x y h=>?_
 obtain ⟨⟨⟨_,_,_,_,_⟩,⟨_,_,_,_,_⟩,_,_⟩,⟨⟨_,_,_,_,_⟩,⟨_,_,_,_,_⟩,_,_⟩,_⟩:=x
 obtain ⟨⟨⟨_,_,_,_,_⟩,⟨_,_,_,_,_⟩,_,_⟩,⟨⟨_,_,_,_,_⟩,⟨_,_,_,_,_⟩,_,_⟩,_⟩:=y
 dsimp only at h
 cases h
 rfl
def vi:ah bY:=yy (fun x=>(x.aG,x.To,x.lu)) (cy (aB .i64) (cy (aB .i64) (aD (aB .i64))))
instance agZ:SO vi (Value) (fun x v=>[.int .i64 x.aG,.int .i64 x.To,v]) (fun x v=>[.rd false (aD (aB .i64)) v x.lu]):=SO.mp (SO.ip (SO.ip SO.s))
instance ag0:Dt vi:=by
 refine Dt.mp fun x y h=>?_
 obtain ⟨_,_,_⟩:=x
 obtain ⟨_,_,_⟩:=y
 dsimp only at h
 cases h
 rfl
end Go.Proofs.YtkcpiblgpnjanaaGreat
