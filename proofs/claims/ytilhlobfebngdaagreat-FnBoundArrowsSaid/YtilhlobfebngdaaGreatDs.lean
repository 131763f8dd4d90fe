/- Structs that are pointed to out of slices. No condition. -/
import Derived.Test.YtilhlobfebngdaaGreatDi
import Derived.Test.YtilhlobfebngdaaGreatMo
import Derived.Test.YtilhlobfebngdaaGreatDp
namespace Go.Proofs.YtilhlobfebngdaaGreat
open Go Go.Li Go.Dk
set_option linter.unusedVariables false
def SM:ai aF:=yE (fun x=>(x.aA,x.aE,x.To,x.aH,x.aC)) (bo (aL .i64) (bo (bE (aL .i64)) (bo (bE (aL .i64)) (bo (bE (aL .i64)) (bE (bE (aL .i64)))))))
instance aq8:SO SM (Value×Value×Value×Value) (fun x v=>[.int .i64 x.aA,v.1,v.2.1,v.2.2.1,v.2.2.2]) (fun x v=>[.rd false (bE (aL .i64)) v.1 x.aE,.rd false (bE (aL .i64)) v.2.1 x.To,.rd false (bE (aL .i64)) v.2.2.1 x.aH,.rd false (bE (bE (aL .i64))) v.2.2.2 x.aC]):=SO.mp (SO.ip (SO.sp (SO.sp (SO.sp SO.s))))
instance aq9:Dt SM:=by
 refine Dt.mp fun x y h=>?_
 obtain ⟨_,_,_,_,_⟩:=x
 obtain ⟨_,_,_,_,_⟩:=y
 dsimp only at h
 cases h
 rfl
def Kz:ai aP:=yE (fun x=>(x.aB.aA,x.aB.aE,x.aB.To,x.aB.aH,x.aB.aC,x.aG.aA,x.aG.aE,x.aG.To,x.aG.aH,x.aG.aC,x.aA,x.ab)) (bo (aL .i64) (bo (bE (aL .i64)) (bo (bE (aL .i64)) (bo (bE (aL .i64)) (bo (bE (bE (aL .i64))) (bo (aL .i64) (bo (bE (aL .i64)) (bo (bE (aL .i64)) (bo (bE (aL .i64)) (bo (bE (bE (aL .i64))) (bo (bE (aL .i64)) (bE (aL .i64)))))))))))))
instance ara:SO Kz (Value×Value×Value×Value×Value×Value×Value×Value×Value×Value) (fun x v=>[.int .i64 x.aB.aA,v.1,v.2.1,v.2.2.1,v.2.2.2.1,.int .i64 x.aG.aA,v.2.2.2.2.1,v.2.2.2.2.2.1,v.2.2.2.2.2.2.1,v.2.2.2.2.2.2.2.1,v.2.2.2.2.2.2.2.2.1,v.2.2.2.2.2.2.2.2.2]) (fun x v=>[.rd false (bE (aL .i64)) v.1 x.aB.aE,.rd false (bE (aL .i64)) v.2.1 x.aB.To,.rd false (bE (aL .i64)) v.2.2.1 x.aB.aH,.rd false (bE (bE (aL .i64))) v.2.2.2.1 x.aB.aC,.rd false (bE (aL .i64)) v.2.2.2.2.1 x.aG.aE,.rd false (bE (aL .i64)) v.2.2.2.2.2.1 x.aG.To,.rd false (bE (aL .i64)) v.2.2.2.2.2.2.1 x.aG.aH,.rd false (bE (bE (aL .i64))) v.2.2.2.2.2.2.2.1 x.aG.aC,.rd false (bE (aL .i64)) v.2.2.2.2.2.2.2.2.1 x.aA,.rd false (bE (aL .i64)) v.2.2.2.2.2.2.2.2.2 x.ab]):=SO.mp (SO.ip (SO.sp (SO.sp (SO.sp (SO.sp (SO.ip (SO.sp (SO.sp (SO.sp (SO.sp (SO.sp SO.s)))))))))))
instance arb:Dt Kz:=by
 refine Dt.mp fun x y h=>?_
 obtain ⟨⟨_,_,_,_,_⟩,⟨_,_,_,_,_⟩,_,_⟩:=x
 obtain ⟨⟨_,_,_,_,_⟩,⟨_,_,_,_,_⟩,_,_⟩:=y
 dsimp only at h
 cases h
 rfl
def vr:ai aP:=yE (fun x=>(x.aB.aA,x.aB.aE,x.aB.To,x.aB.aH,x.aB.aC,x.aG.aA,x.aG.aE,x.aG.To,x.aG.aH,x.aG.aC,x.aA,x.ab)) (bo (aL .i64) (bo (aI 2 (aL .i64)) (bo (aI 2 (aL .i64)) (bo (aI 2 (aL .i64)) (bo (aI 24 (aI 2 (aL .i64))) (bo (aL .i64) (bo (aI 2 (aL .i64)) (bo (aI 2 (aL .i64)) (bo (aI 2 (aL .i64)) (bo (aI 24 (aI 2 (aL .i64))) (bo (aI 2 (aL .i64)) (aI 2 (aL .i64)))))))))))))
instance arc:j9 vr (Value×Value×Value×Value×Value×Value×Value×Value×Value×Value) (fun x v=>[.int .i64 x.aB.aA,v.1,v.2.1,v.2.2.1,v.2.2.2.1,.int .i64 x.aG.aA,v.2.2.2.2.1,v.2.2.2.2.2.1,v.2.2.2.2.2.2.1,v.2.2.2.2.2.2.2.1,v.2.2.2.2.2.2.2.2.1,v.2.2.2.2.2.2.2.2.2]) (fun x v=>[.own (aI 2 (aL .i64)) v.1 x.aB.aE,.own (aI 2 (aL .i64)) v.2.1 x.aB.To,.own (aI 2 (aL .i64)) v.2.2.1 x.aB.aH,.own (aI 24 (aI 2 (aL .i64))) v.2.2.2.1 x.aB.aC,.own (aI 2 (aL .i64)) v.2.2.2.2.1 x.aG.aE,.own (aI 2 (aL .i64)) v.2.2.2.2.2.1 x.aG.To,.own (aI 2 (aL .i64)) v.2.2.2.2.2.2.1 x.aG.aH,.own (aI 24 (aI 2 (aL .i64))) v.2.2.2.2.2.2.2.1 x.aG.aC,.own (aI 2 (aL .i64)) v.2.2.2.2.2.2.2.2.1 x.aA,.own (aI 2 (aL .i64)) v.2.2.2.2.2.2.2.2.2 x.ab]):=j9.mp (j9.ip (j9.sp (j9.sp (j9.sp (j9.sp (j9.ip (j9.sp (j9.sp (j9.sp (j9.sp (j9.sp j9.s)))))))))))
instance ard:Xu vr Kz:=⟨Le.map (Le.pair (Le.refl _) (Le.pair (Le.own (Le.refl _) 2) (Le.pair (Le.own (Le.refl _) 2) (Le.pair (Le.own (Le.refl _) 2) (Le.pair (Le.own (Le.own (Le.refl _) 2) 24) (Le.pair (Le.refl _) (Le.pair (Le.own (Le.refl _) 2) (Le.pair (Le.own (Le.refl _) 2) (Le.pair (Le.own (Le.refl _) 2) (Le.pair (Le.own (Le.own (Le.refl _) 2) 24) (Le.pair (Le.own (Le.refl _) 2) (Le.own (Le.refl _) 2)))))))))))),inferInstance⟩
def SN:ai bT:=yE (fun x=>(x.On.aB.aA,x.On.aB.aE,x.On.aB.To,x.On.aB.aH,x.On.aB.aC,x.On.aG.aA,x.On.aG.aE,x.On.aG.To,x.On.aG.aH,x.On.aG.aC,x.On.aA,x.On.ab,x.Unit,x.cn)) (bo (aL .i64) (bo (bE (aL .i64)) (bo (bE (aL .i64)) (bo (bE (aL .i64)) (bo (bE (bE (aL .i64))) (bo (aL .i64) (bo (bE (aL .i64)) (bo (bE (aL .i64)) (bo (bE (aL .i64)) (bo (bE (bE (aL .i64))) (bo (bE (aL .i64)) (bo (bE (aL .i64)) (bo (bE (aL .i64)) (bE (aL .i64)))))))))))))))
instance are:SO SN (Value×Value×Value×Value×Value×Value×Value×Value×Value×Value×Value×Value) (fun x v=>[.int .i64 x.On.aB.aA,v.1,v.2.1,v.2.2.1,v.2.2.2.1,.int .i64 x.On.aG.aA,v.2.2.2.2.1,v.2.2.2.2.2.1,v.2.2.2.2.2.2.1,v.2.2.2.2.2.2.2.1,v.2.2.2.2.2.2.2.2.1,v.2.2.2.2.2.2.2.2.2.1,v.2.2.2.2.2.2.2.2.2.2.1,v.2.2.2.2.2.2.2.2.2.2.2]) (fun x v=>[.rd false (bE (aL .i64)) v.1 x.On.aB.aE,.rd false (bE (aL .i64)) v.2.1 x.On.aB.To,.rd false (bE (aL .i64)) v.2.2.1 x.On.aB.aH,.rd false (bE (bE (aL .i64))) v.2.2.2.1 x.On.aB.aC,.rd false (bE (aL .i64)) v.2.2.2.2.1 x.On.aG.aE,.rd false (bE (aL .i64)) v.2.2.2.2.2.1 x.On.aG.To,.rd false (bE (aL .i64)) v.2.2.2.2.2.2.1 x.On.aG.aH,.rd false (bE (bE (aL .i64))) v.2.2.2.2.2.2.2.1 x.On.aG.aC,.rd false (bE (aL .i64)) v.2.2.2.2.2.2.2.2.1 x.On.aA,.rd false (bE (aL .i64)) v.2.2.2.2.2.2.2.2.2.1 x.On.ab,.rd false (bE (aL .i64)) v.2.2.2.2.2.2.2.2.2.2.1 x.Unit,.rd false (bE (aL .i64)) v.2.2.2.2.2.2.2.2.2.2.2 x.cn]):=SO.mp (SO.ip (SO.sp (SO.sp (SO.sp (SO.sp (SO.ip (SO.sp (SO.sp (SO.sp (SO.sp (SO.sp (SO.sp (SO.sp SO.s)))))))))))))
instance arf:Dt SN:=by
 refine Dt.mp fun x y h=>?_
 obtain ⟨⟨⟨_,_,_,_,_⟩,⟨_,_,_,_,_⟩,_,_⟩,_,_⟩:=x
 obtain ⟨⟨⟨_,_,_,_,_⟩,⟨_,_,_,_,_⟩,_,_⟩,_,_⟩:=y
 dsimp only at h
 cases h
 rfl
def DL:ai bT:=yE (fun x=>(x.On.aB.aA,x.On.aB.aE,x.On.aB.To,x.On.aB.aH,x.On.aB.aC,x.On.aG.aA,x.On.aG.aE,x.On.aG.To,x.On.aG.aH,x.On.aG.aC,x.On.aA,x.On.ab,x.Unit,x.cn)) (bo (aL .i64) (bo (aI 2 (aL .i64)) (bo (aI 2 (aL .i64)) (bo (aI 2 (aL .i64)) (bo (aI 24 (aI 2 (aL .i64))) (bo (aL .i64) (bo (aI 2 (aL .i64)) (bo (aI 2 (aL .i64)) (bo (aI 2 (aL .i64)) (bo (aI 24 (aI 2 (aL .i64))) (bo (aI 2 (aL .i64)) (bo (aI 2 (aL .i64)) (bo (aI 2 (aL .i64)) (aI 2 (aL .i64)))))))))))))))
instance arh:j9 DL (Value×Value×Value×Value×Value×Value×Value×Value×Value×Value×Value×Value) (fun x v=>[.int .i64 x.On.aB.aA,v.1,v.2.1,v.2.2.1,v.2.2.2.1,.int .i64 x.On.aG.aA,v.2.2.2.2.1,v.2.2.2.2.2.1,v.2.2.2.2.2.2.1,v.2.2.2.2.2.2.2.1,v.2.2.2.2.2.2.2.2.1,v.2.2.2.2.2.2.2.2.2.1,v.2.2.2.2.2.2.2.2.2.2.1,v.2.2.2.2.2.2.2.2.2.2.2]) (fun x v=>[.own (aI 2 (aL .i64)) v.1 x.On.aB.aE,.own (aI 2 (aL .i64)) v.2.1 x.On.aB.To,.own (aI 2 (aL .i64)) v.2.2.1 x.On.aB.aH,.own (aI 24 (aI 2 (aL .i64))) v.2.2.2.1 x.On.aB.aC,.own (aI 2 (aL .i64)) v.2.2.2.2.1 x.On.aG.aE,.own (aI 2 (aL .i64)) v.2.2.2.2.2.1 x.On.aG.To,.own (aI 2 (aL .i64)) v.2.2.2.2.2.2.1 x.On.aG.aH,.own (aI 24 (aI 2 (aL .i64))) v.2.2.2.2.2.2.2.1 x.On.aG.aC,.own (aI 2 (aL .i64)) v.2.2.2.2.2.2.2.2.1 x.On.aA,.own (aI 2 (aL .i64)) v.2.2.2.2.2.2.2.2.2.1 x.On.ab,.own (aI 2 (aL .i64)) v.2.2.2.2.2.2.2.2.2.2.1 x.Unit,.own (aI 2 (aL .i64)) v.2.2.2.2.2.2.2.2.2.2.2 x.cn]):=j9.mp (j9.ip (j9.sp (j9.sp (j9.sp (j9.sp (j9.ip (j9.sp (j9.sp (j9.sp (j9.sp (j9.sp (j9.sp (j9.sp j9.s)))))))))))))
instance arj:Xu DL SN:=⟨Le.map (Le.pair (Le.refl _) (Le.pair (Le.own (Le.refl _) 2) (Le.pair (Le.own (Le.refl _) 2) (Le.pair (Le.own (Le.refl _) 2) (Le.pair (Le.own (Le.own (Le.refl _) 2) 24) (Le.pair (Le.refl _) (Le.pair (Le.own (Le.refl _) 2) (Le.pair (Le.own (Le.refl _) 2) (Le.pair (Le.own (Le.refl _) 2) (Le.pair (Le.own (Le.own (Le.refl _) 2) 24) (Le.pair (Le.own (Le.refl _) 2) (Le.pair (Le.own (Le.refl _) 2) (Le.pair (Le.own (Le.refl _) 2) (Le.own (Le.refl _) 2)))))))))))))),inferInstance⟩
def Ot:ai bU:=yE (fun x=>(x.aB.aB.aA,x.aB.aB.aE,x.aB.aB.To,x.aB.aB.aH,x.aB.aB.aC,x.aB.aG.aA,x.aB.aG.aE,x.aB.aG.To,x.aB.aG.aH,x.aB.aG.aC,x.aB.aA,x.aB.ab,x.aG.aB.aA,x.aG.aB.aE,x.aG.aB.To,x.aG.aB.aH,x.aG.aB.aC,x.aG.aG.aA,x.aG.aG.aE,x.aG.aG.To,x.aG.aG.aH,x.aG.aG.aC,x.aG.aA,x.aG.ab,x.bj)) (bo (aL .i64) (bo (bE (aL .i64)) (bo (bE (aL .i64)) (bo (bE (aL .i64)) (bo (bE (bE (aL .i64))) (bo (aL .i64) (bo (bE (aL .i64)) (bo (bE (aL .i64)) (bo (bE (aL .i64)) (bo (bE (bE (aL .i64))) (bo (bE (aL .i64)) (bo (bE (aL .i64)) (bo (aL .i64) (bo (bE (aL .i64)) (bo (bE (aL .i64)) (bo (bE (aL .i64)) (bo (bE (bE (aL .i64))) (bo (aL .i64) (bo (bE (aL .i64)) (bo (bE (aL .i64)) (bo (bE (aL .i64)) (bo (bE (bE (aL .i64))) (bo (bE (aL .i64)) (bo (bE (aL .i64)) (bE (aL .i64))))))))))))))))))))))))))
instance amA:SO Ot (Value×Value×Value×Value×Value×Value×Value×Value×Value×Value×Value×Value×Value×Value×Value×Value×Value×Value×Value×Value×Value) (fun x v=>[.int .i64 x.aB.aB.aA,v.1,v.2.1,v.2.2.1,v.2.2.2.1,.int .i64 x.aB.aG.aA,v.2.2.2.2.1,v.2.2.2.2.2.1,v.2.2.2.2.2.2.1,v.2.2.2.2.2.2.2.1,v.2.2.2.2.2.2.2.2.1,v.2.2.2.2.2.2.2.2.2.1,.int .i64 x.aG.aB.aA,v.2.2.2.2.2.2.2.2.2.2.1,v.2.2.2.2.2.2.2.2.2.2.2.1,v.2.2.2.2.2.2.2.2.2.2.2.2.1,v.2.2.2.2.2.2.2.2.2.2.2.2.2.1,.int .i64 x.aG.aG.aA,v.2.2.2.2.2.2.2.2.2.2.2.2.2.2.1,v.2.2.2.2.2.2.2.2.2.2.2.2.2.2.2.1,v.2.2.2.2.2.2.2.2.2.2.2.2.2.2.2.2.1,v.2.2.2.2.2.2.2.2.2.2.2.2.2.2.2.2.2.1,v.2.2.2.2.2.2.2.2.2.2.2.2.2.2.2.2.2.2.1,v.2.2.2.2.2.2.2.2.2.2.2.2.2.2.2.2.2.2.2.1,v.2.2.2.2.2.2.2.2.2.2.2.2.2.2.2.2.2.2.2.2]) (fun x v=>[.rd false (bE (aL .i64)) v.1 x.aB.aB.aE,.rd false (bE (aL .i64)) v.2.1 x.aB.aB.To,.rd false (bE (aL .i64)) v.2.2.1 x.aB.aB.aH,.rd false (bE (bE (aL .i64))) v.2.2.2.1 x.aB.aB.aC,.rd false (bE (aL .i64)) v.2.2.2.2.1 x.aB.aG.aE,.rd false (bE (aL .i64)) v.2.2.2.2.2.1 x.aB.aG.To,.rd false (bE (aL .i64)) v.2.2.2.2.2.2.1 x.aB.aG.aH,.rd false (bE (bE (aL .i64))) v.2.2.2.2.2.2.2.1 x.aB.aG.aC,.rd false (bE (aL .i64)) v.2.2.2.2.2.2.2.2.1 x.aB.aA,.rd false (bE (aL .i64)) v.2.2.2.2.2.2.2.2.2.1 x.aB.ab,.rd false (bE (aL .i64)) v.2.2.2.2.2.2.2.2.2.2.1 x.aG.aB.aE,.rd false (bE (aL .i64)) v.2.2.2.2.2.2.2.2.2.2.2.1 x.aG.aB.To,.rd false (bE (aL .i64)) v.2.2.2.2.2.2.2.2.2.2.2.2.1 x.aG.aB.aH,.rd false (bE (bE (aL .i64))) v.2.2.2.2.2.2.2.2.2.2.2.2.2.1 x.aG.aB.aC,.rd false (bE (aL .i64)) v.2.2.2.2.2.2.2.2.2.2.2.2.2.2.1 x.aG.aG.aE,.rd false (bE (aL .i64)) v.2.2.2.2.2.2.2.2.2.2.2.2.2.2.2.1 x.aG.aG.To,.rd false (bE (aL .i64)) v.2.2.2.2.2.2.2.2.2.2.2.2.2.2.2.2.1 x.aG.aG.aH,.rd false (bE (bE (aL .i64))) v.2.2.2.2.2.2.2.2.2.2.2.2.2.2.2.2.2.1 x.aG.aG.aC,.rd false (bE (aL .i64)) v.2.2.2.2.2.2.2.2.2.2.2.2.2.2.2.2.2.2.1 x.aG.aA,.rd false (bE (aL .i64)) v.2.2.2.2.2.2.2.2.2.2.2.2.2.2.2.2.2.2.2.1 x.aG.ab,.rd false (bE (aL .i64)) v.2.2.2.2.2.2.2.2.2.2.2.2.2.2.2.2.2.2.2.2 x.bj]):=SO.mp (SO.ip (SO.sp (SO.sp (SO.sp (SO.sp (SO.ip (SO.sp (SO.sp (SO.sp (SO.sp (SO.sp (SO.sp (SO.ip (SO.sp (SO.sp (SO.sp (SO.sp (SO.ip (SO.sp (SO.sp (SO.sp (SO.sp (SO.sp (SO.sp SO.s))))))))))))))))))))))))
instance amB:Dt Ot:=by
 refine Dt.mp fun x y h=>?_
 obtain ⟨⟨⟨_,_,_,_,_⟩,⟨_,_,_,_,_⟩,_,_⟩,⟨⟨_,_,_,_,_⟩,⟨_,_,_,_,_⟩,_,_⟩,_⟩:=x
 obtain ⟨⟨⟨_,_,_,_,_⟩,⟨_,_,_,_,_⟩,_,_⟩,⟨⟨_,_,_,_,_⟩,⟨_,_,_,_,_⟩,_,_⟩,_⟩:=y
 dsimp only at h
 cases h
 rfl
def xY:ai bZ:=yE (fun x=>(x.aE,x.To,x.mh)) (bo (aL .i64) (bo (aL .i64) (bE (aL .i64))))
instance amC:SO xY (Value) (fun x v=>[.int .i64 x.aE,.int .i64 x.To,v]) (fun x v=>[.rd false (bE (aL .i64)) v x.mh]):=SO.mp (SO.ip (SO.ip SO.s))
instance amD:Dt xY:=by
 refine Dt.mp fun x y h=>?_
 obtain ⟨_,_,_⟩:=x
 obtain ⟨_,_,_⟩:=y
 dsimp only at h
 cases h
 rfl
end Go.Proofs.YtilhlobfebngdaaGreat
