/- Structs that are pointed to out of slices. No condition. -/
import Derived.Test.YtkcpiblgpnjanaaGreatDi
import Derived.Test.YtkcpiblgpnjanaaGreatMo
import Derived.Test.YtkcpiblgpnjanaaGreatDp
namespace Go.Proofs.YtkcpiblgpnjanaaGreat
open Go Go.Li Go.Dk
set_option linter.unusedVariables false
def O5:ag aI:=ym (fun x=>(x.aC,x.aG,x.To,x.aJ,x.aF)) (de (aA .i64) (de (aD (aA .i64)) (de (aD (aA .i64)) (de (aD (aA .i64)) (aD (aD (aA .i64)))))))
instance akU:SO O5 (Value×Value×Value×Value) (fun x v=>[.int .i64 x.aC,v.1,v.2.1,v.2.2.1,v.2.2.2]) (fun x v=>[.rd false (aD (aA .i64)) v.1 x.aG,.rd false (aD (aA .i64)) v.2.1 x.To,.rd false (aD (aA .i64)) v.2.2.1 x.aJ,.rd false (aD (aD (aA .i64))) v.2.2.2 x.aF]):=SO.mp (SO.ip (SO.sp (SO.sp (SO.sp SO.s))))
instance akV:Dt O5:=by
 refine Dt.mp fun x y h=>?_
 obtain ⟨_,_,_,_,_⟩:=x
 obtain ⟨_,_,_,_,_⟩:=y
 dsimp only at h
 cases h
 rfl
def He:ag aL:=ym (fun x=>(x.aB.aC,x.aB.aG,x.aB.To,x.aB.aJ,x.aB.aF,x.aE.aC,x.aE.aG,x.aE.To,x.aE.aJ,x.aE.aF,x.aC,x.af)) (de (aA .i64) (de (aD (aA .i64)) (de (aD (aA .i64)) (de (aD (aA .i64)) (de (aD (aD (aA .i64))) (de (aA .i64) (de (aD (aA .i64)) (de (aD (aA .i64)) (de (aD (aA .i64)) (de (aD (aD (aA .i64))) (de (aD (aA .i64)) (aD (aA .i64)))))))))))))
instance akW:SO He (Value×Value×Value×Value×Value×Value×Value×Value×Value×Value) (fun x v=>[.int .i64 x.aB.aC,v.1,v.2.1,v.2.2.1,v.2.2.2.1,.int .i64 x.aE.aC,v.2.2.2.2.1,v.2.2.2.2.2.1,v.2.2.2.2.2.2.1,v.2.2.2.2.2.2.2.1,v.2.2.2.2.2.2.2.2.1,v.2.2.2.2.2.2.2.2.2]) (fun x v=>[.rd false (aD (aA .i64)) v.1 x.aB.aG,.rd false (aD (aA .i64)) v.2.1 x.aB.To,.rd false (aD (aA .i64)) v.2.2.1 x.aB.aJ,.rd false (aD (aD (aA .i64))) v.2.2.2.1 x.aB.aF,.rd false (aD (aA .i64)) v.2.2.2.2.1 x.aE.aG,.rd false (aD (aA .i64)) v.2.2.2.2.2.1 x.aE.To,.rd false (aD (aA .i64)) v.2.2.2.2.2.2.1 x.aE.aJ,.rd false (aD (aD (aA .i64))) v.2.2.2.2.2.2.2.1 x.aE.aF,.rd false (aD (aA .i64)) v.2.2.2.2.2.2.2.2.1 x.aC,.rd false (aD (aA .i64)) v.2.2.2.2.2.2.2.2.2 x.af]):=SO.mp (SO.ip (SO.sp (SO.sp (SO.sp (SO.sp (SO.ip (SO.sp (SO.sp (SO.sp (SO.sp (SO.sp SO.s)))))))))))
instance akX:Dt He:=by
 refine Dt.mp fun x y h=>?_
 obtain ⟨⟨_,_,_,_,_⟩,⟨_,_,_,_,_⟩,_,_⟩:=x
 obtain ⟨⟨_,_,_,_,_⟩,⟨_,_,_,_,_⟩,_,_⟩:=y
 dsimp only at h
 cases h
 rfl
def tI:ag aL:=ym (fun x=>(x.aB.aC,x.aB.aG,x.aB.To,x.aB.aJ,x.aB.aF,x.aE.aC,x.aE.aG,x.aE.To,x.aE.aJ,x.aE.aF,x.aC,x.af)) (de (aA .i64) (de (aK 2 (aA .i64)) (de (aK 2 (aA .i64)) (de (aK 2 (aA .i64)) (de (aK 24 (aK 2 (aA .i64))) (de (aA .i64) (de (aK 2 (aA .i64)) (de (aK 2 (aA .i64)) (de (aK 2 (aA .i64)) (de (aK 24 (aK 2 (aA .i64))) (de (aK 2 (aA .i64)) (aK 2 (aA .i64)))))))))))))
instance akY:qg tI (Value×Value×Value×Value×Value×Value×Value×Value×Value×Value) (fun x v=>[.int .i64 x.aB.aC,v.1,v.2.1,v.2.2.1,v.2.2.2.1,.int .i64 x.aE.aC,v.2.2.2.2.1,v.2.2.2.2.2.1,v.2.2.2.2.2.2.1,v.2.2.2.2.2.2.2.1,v.2.2.2.2.2.2.2.2.1,v.2.2.2.2.2.2.2.2.2]) (fun x v=>[.own (aK 2 (aA .i64)) v.1 x.aB.aG,.own (aK 2 (aA .i64)) v.2.1 x.aB.To,.own (aK 2 (aA .i64)) v.2.2.1 x.aB.aJ,.own (aK 24 (aK 2 (aA .i64))) v.2.2.2.1 x.aB.aF,.own (aK 2 (aA .i64)) v.2.2.2.2.1 x.aE.aG,.own (aK 2 (aA .i64)) v.2.2.2.2.2.1 x.aE.To,.own (aK 2 (aA .i64)) v.2.2.2.2.2.2.1 x.aE.aJ,.own (aK 24 (aK 2 (aA .i64))) v.2.2.2.2.2.2.2.1 x.aE.aF,.own (aK 2 (aA .i64)) v.2.2.2.2.2.2.2.2.1 x.aC,.own (aK 2 (aA .i64)) v.2.2.2.2.2.2.2.2.2 x.af]):=qg.mp (qg.ip (qg.sp (qg.sp (qg.sp (qg.sp (qg.ip (qg.sp (qg.sp (qg.sp (qg.sp (qg.sp qg.s)))))))))))
instance akZ:X6 tI He:=⟨Le.map (Le.pair (Le.refl _) (Le.pair (Le.own (Le.refl _) 2) (Le.pair (Le.own (Le.refl _) 2) (Le.pair (Le.own (Le.refl _) 2) (Le.pair (Le.own (Le.own (Le.refl _) 2) 24) (Le.pair (Le.refl _) (Le.pair (Le.own (Le.refl _) 2) (Le.pair (Le.own (Le.refl _) 2) (Le.pair (Le.own (Le.refl _) 2) (Le.pair (Le.own (Le.own (Le.refl _) 2) 24) (Le.pair (Le.own (Le.refl _) 2) (Le.own (Le.refl _) 2)))))))))))),inferInstance⟩
def O6:ag aV:=ym (fun x=>(x.aB.aB.aC,x.aB.aB.aG,x.aB.aB.To,x.aB.aB.aJ,x.aB.aB.aF,x.aB.aE.aC,x.aB.aE.aG,x.aB.aE.To,x.aB.aE.aJ,x.aB.aE.aF,x.aB.aC,x.aB.af,x.aE.aB.aC,x.aE.aB.aG,x.aE.aB.To,x.aE.aB.aJ,x.aE.aB.aF,x.aE.aE.aC,x.aE.aE.aG,x.aE.aE.To,x.aE.aE.aJ,x.aE.aE.aF,x.aE.aC,x.aE.af,x.au)) (de (aA .i64) (de (aD (aA .i64)) (de (aD (aA .i64)) (de (aD (aA .i64)) (de (aD (aD (aA .i64))) (de (aA .i64) (de (aD (aA .i64)) (de (aD (aA .i64)) (de (aD (aA .i64)) (de (aD (aD (aA .i64))) (de (aD (aA .i64)) (de (aD (aA .i64)) (de (aA .i64) (de (aD (aA .i64)) (de (aD (aA .i64)) (de (aD (aA .i64)) (de (aD (aD (aA .i64))) (de (aA .i64) (de (aD (aA .i64)) (de (aD (aA .i64)) (de (aD (aA .i64)) (de (aD (aD (aA .i64))) (de (aD (aA .i64)) (de (aD (aA .i64)) (aD (aA .i64))))))))))))))))))))))))))
instance ak0:SO O6 (Value×Value×Value×Value×Value×Value×Value×Value×Value×Value×Value×Value×Value×Value×Value×Value×Value×Value×Value×Value×Value) (fun x v=>[.int .i64 x.aB.aB.aC,v.1,v.2.1,v.2.2.1,v.2.2.2.1,.int .i64 x.aB.aE.aC,v.2.2.2.2.1,v.2.2.2.2.2.1,v.2.2.2.2.2.2.1,v.2.2.2.2.2.2.2.1,v.2.2.2.2.2.2.2.2.1,v.2.2.2.2.2.2.2.2.2.1,.int .i64 x.aE.aB.aC,v.2.2.2.2.2.2.2.2.2.2.1,v.2.2.2.2.2.2.2.2.2.2.2.1,v.2.2.2.2.2.2.2.2.2.2.2.2.1,v.2.2.2.2.2.2.2.2.2.2.2.2.2.1,.int .i64 x.aE.aE.aC,v.2.2.2.2.2.2.2.2.2.2.2.2.2.2.1,v.2.2.2.2.2.2.2.2.2.2.2.2.2.2.2.1,v.2.2.2.2.2.2.2.2.2.2.2.2.2.2.2.2.1,v.2.2.2.2.2.2.2.2.2.2.2.2.2.2.2.2.2.1,v.2.2.2.2.2.2.2.2.2.2.2.2.2.2.2.2.2.2.1,v.2.2.2.2.2.2.2.2.2.2.2.2.2.2.2.2.2.2.2.1,v.2.2.2.2.2.2.2.2.2.2.2.2.2.2.2.2.2.2.2.2]) (fun x v=>[.rd false (aD (aA .i64)) v.1 x.aB.aB.aG,.rd false (aD (aA .i64)) v.2.1 x.aB.aB.To,.rd false (aD (aA .i64)) v.2.2.1 x.aB.aB.aJ,.rd false (aD (aD (aA .i64))) v.2.2.2.1 x.aB.aB.aF,.rd false (aD (aA .i64)) v.2.2.2.2.1 x.aB.aE.aG,.rd false (aD (aA .i64)) v.2.2.2.2.2.1 x.aB.aE.To,.rd false (aD (aA .i64)) v.2.2.2.2.2.2.1 x.aB.aE.aJ,.rd false (aD (aD (aA .i64))) v.2.2.2.2.2.2.2.1 x.aB.aE.aF,.rd false (aD (aA .i64)) v.2.2.2.2.2.2.2.2.1 x.aB.aC,.rd false (aD (aA .i64)) v.2.2.2.2.2.2.2.2.2.1 x.aB.af,.rd false (aD (aA .i64)) v.2.2.2.2.2.2.2.2.2.2.1 x.aE.aB.aG,.rd false (aD (aA .i64)) v.2.2.2.2.2.2.2.2.2.2.2.1 x.aE.aB.To,.rd false (aD (aA .i64)) v.2.2.2.2.2.2.2.2.2.2.2.2.1 x.aE.aB.aJ,.rd false (aD (aD (aA .i64))) v.2.2.2.2.2.2.2.2.2.2.2.2.2.1 x.aE.aB.aF,.rd false (aD (aA .i64)) v.2.2.2.2.2.2.2.2.2.2.2.2.2.2.1 x.aE.aE.aG,.rd false (aD (aA .i64)) v.2.2.2.2.2.2.2.2.2.2.2.2.2.2.2.1 x.aE.aE.To,.rd false (aD (aA .i64)) v.2.2.2.2.2.2.2.2.2.2.2.2.2.2.2.2.1 x.aE.aE.aJ,.rd false (aD (aD (aA .i64))) v.2.2.2.2.2.2.2.2.2.2.2.2.2.2.2.2.2.1 x.aE.aE.aF,.rd false (aD (aA .i64)) v.2.2.2.2.2.2.2.2.2.2.2.2.2.2.2.2.2.2.1 x.aE.aC,.rd false (aD (aA .i64)) v.2.2.2.2.2.2.2.2.2.2.2.2.2.2.2.2.2.2.2.1 x.aE.af,.rd false (aD (aA .i64)) v.2.2.2.2.2.2.2.2.2.2.2.2.2.2.2.2.2.2.2.2 x.au]):=SO.mp (SO.ip (SO.sp (SO.sp (SO.sp (SO.sp (SO.ip (SO.sp (SO.sp (SO.sp (SO.sp (SO.sp (SO.sp (SO.ip (SO.sp (SO.sp (SO.sp (SO.sp (SO.ip (SO.sp (SO.sp (SO.sp (SO.sp (SO.sp (SO.sp SO.s))))))))))))))))))))))))
instance ak1:Dt O6:=by
 refine Dt.mp fun x y h=>?_
 obtain ⟨⟨⟨_,_,_,_,_⟩,⟨_,_,_,_,_⟩,_,_⟩,⟨⟨_,_,_,_,_⟩,⟨_,_,_,_,_⟩,_,_⟩,_⟩:=x
 obtain ⟨⟨⟨_,_,_,_,_⟩,⟨_,_,_,_,_⟩,_,_⟩,⟨⟨_,_,_,_,_⟩,⟨_,_,_,_,_⟩,_,_⟩,_⟩:=y
 dsimp only at h
 cases h
 rfl
def vw:ag bS:=ym (fun x=>(x.aG,x.To,x.l3)) (de (aA .i64) (de (aA .i64) (aD (aA .i64))))
instance agT:SO vw (Value) (fun x v=>[.int .i64 x.aG,.int .i64 x.To,v]) (fun x v=>[.rd false (aD (aA .i64)) v x.l3]):=SO.mp (SO.ip (SO.ip SO.s))
instance agU:Dt vw:=by
 refine Dt.mp fun x y h=>?_
 obtain ⟨_,_,_⟩:=x
 obtain ⟨_,_,_⟩:=y
 dsimp only at h
 cases h
 rfl
end Go.Proofs.YtkcpiblgpnjanaaGreat
