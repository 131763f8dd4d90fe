/- Structs that are pointed to out of slices. No condition. -/
import Derived.Test.YtgjbmjjihmfppaaGreatDi
import Derived.Test.YtgjbmjjihmfppaaGreatMo
import Derived.Test.YtgjbmjjihmfppaaGreatDp
namespace Go.Proofs.YtgjbmjjihmfppaaGreat
open Go Go.Li Go.Dk
set_option linter.unusedVariables false
def Qx:ah aG:=yn (fun x=>(x.aA,x.aE,x.To,x.aH,x.aB)) (gn (aM .i64) (gn (bL (aM .i64)) (gn (bL (aM .i64)) (gn (bL (aM .i64)) (bL (bL (aM .i64)))))))
instance amW:SO Qx (Value×Value×Value×Value) (fun x v=>[.int .i64 x.aA,v.1,v.2.1,v.2.2.1,v.2.2.2]) (fun x v=>[.rd false (bL (aM .i64)) v.1 x.aE,.rd false (bL (aM .i64)) v.2.1 x.To,.rd false (bL (aM .i64)) v.2.2.1 x.aH,.rd false (bL (bL (aM .i64))) v.2.2.2 x.aB]):=SO.mp (SO.ip (SO.sp (SO.sp (SO.sp SO.s))))
instance amX:Dt Qx:=by
 refine Dt.mp fun x y h=>?_
 obtain ⟨_,_,_,_,_⟩:=x
 obtain ⟨_,_,_,_,_⟩:=y
 dsimp only at h
 cases h
 rfl
def IS:ah aI:=yn (fun x=>(x.aC.aA,x.aC.aE,x.aC.To,x.aC.aH,x.aC.aB,x.aD.aA,x.aD.aE,x.aD.To,x.aD.aH,x.aD.aB,x.aA,x.ab)) (gn (aM .i64) (gn (bL (aM .i64)) (gn (bL (aM .i64)) (gn (bL (aM .i64)) (gn (bL (bL (aM .i64))) (gn (aM .i64) (gn (bL (aM .i64)) (gn (bL (aM .i64)) (gn (bL (aM .i64)) (gn (bL (bL (aM .i64))) (gn (bL (aM .i64)) (bL (aM .i64)))))))))))))
instance amY:SO IS (Value×Value×Value×Value×Value×Value×Value×Value×Value×Value) (fun x v=>[.int .i64 x.aC.aA,v.1,v.2.1,v.2.2.1,v.2.2.2.1,.int .i64 x.aD.aA,v.2.2.2.2.1,v.2.2.2.2.2.1,v.2.2.2.2.2.2.1,v.2.2.2.2.2.2.2.1,v.2.2.2.2.2.2.2.2.1,v.2.2.2.2.2.2.2.2.2]) (fun x v=>[.rd false (bL (aM .i64)) v.1 x.aC.aE,.rd false (bL (aM .i64)) v.2.1 x.aC.To,.rd false (bL (aM .i64)) v.2.2.1 x.aC.aH,.rd false (bL (bL (aM .i64))) v.2.2.2.1 x.aC.aB,.rd false (bL (aM .i64)) v.2.2.2.2.1 x.aD.aE,.rd false (bL (aM .i64)) v.2.2.2.2.2.1 x.aD.To,.rd false (bL (aM .i64)) v.2.2.2.2.2.2.1 x.aD.aH,.rd false (bL (bL (aM .i64))) v.2.2.2.2.2.2.2.1 x.aD.aB,.rd false (bL (aM .i64)) v.2.2.2.2.2.2.2.2.1 x.aA,.rd false (bL (aM .i64)) v.2.2.2.2.2.2.2.2.2 x.ab]):=SO.mp (SO.ip (SO.sp (SO.sp (SO.sp (SO.sp (SO.ip (SO.sp (SO.sp (SO.sp (SO.sp (SO.sp SO.s)))))))))))
instance amZ:Dt IS:=by
 refine Dt.mp fun x y h=>?_
 obtain ⟨⟨_,_,_,_,_⟩,⟨_,_,_,_,_⟩,_,_⟩:=x
 obtain ⟨⟨_,_,_,_,_⟩,⟨_,_,_,_,_⟩,_,_⟩:=y
 dsimp only at h
 cases h
 rfl
def uP:ah aI:=yn (fun x=>(x.aC.aA,x.aC.aE,x.aC.To,x.aC.aH,x.aC.aB,x.aD.aA,x.aD.aE,x.aD.To,x.aD.aH,x.aD.aB,x.aA,x.ab)) (gn (aM .i64) (gn (aJ 2 (aM .i64)) (gn (aJ 2 (aM .i64)) (gn (aJ 2 (aM .i64)) (gn (aJ 24 (aJ 2 (aM .i64))) (gn (aM .i64) (gn (aJ 2 (aM .i64)) (gn (aJ 2 (aM .i64)) (gn (aJ 2 (aM .i64)) (gn (aJ 24 (aJ 2 (aM .i64))) (gn (aJ 2 (aM .i64)) (aJ 2 (aM .i64)))))))))))))
instance am0:ny uP (Value×Value×Value×Value×Value×Value×Value×Value×Value×Value) (fun x v=>[.int .i64 x.aC.aA,v.1,v.2.1,v.2.2.1,v.2.2.2.1,.int .i64 x.aD.aA,v.2.2.2.2.1,v.2.2.2.2.2.1,v.2.2.2.2.2.2.1,v.2.2.2.2.2.2.2.1,v.2.2.2.2.2.2.2.2.1,v.2.2.2.2.2.2.2.2.2]) (fun x v=>[.own (aJ 2 (aM .i64)) v.1 x.aC.aE,.own (aJ 2 (aM .i64)) v.2.1 x.aC.To,.own (aJ 2 (aM .i64)) v.2.2.1 x.aC.aH,.own (aJ 24 (aJ 2 (aM .i64))) v.2.2.2.1 x.aC.aB,.own (aJ 2 (aM .i64)) v.2.2.2.2.1 x.aD.aE,.own (aJ 2 (aM .i64)) v.2.2.2.2.2.1 x.aD.To,.own (aJ 2 (aM .i64)) v.2.2.2.2.2.2.1 x.aD.aH,.own (aJ 24 (aJ 2 (aM .i64))) v.2.2.2.2.2.2.2.1 x.aD.aB,.own (aJ 2 (aM .i64)) v.2.2.2.2.2.2.2.2.1 x.aA,.own (aJ 2 (aM .i64)) v.2.2.2.2.2.2.2.2.2 x.ab]):=ny.mp (ny.ip (ny.sp (ny.sp (ny.sp (ny.sp (ny.ip (ny.sp (ny.sp (ny.sp (ny.sp (ny.sp ny.s)))))))))))
instance am1:Vj uP IS:=⟨Le.map (Le.pair (Le.refl _) (Le.pair (Le.own (Le.refl _) 2) (Le.pair (Le.own (Le.refl _) 2) (Le.pair (Le.own (Le.refl _) 2) (Le.pair (Le.own (Le.own (Le.refl _) 2) 24) (Le.pair (Le.refl _) (Le.pair (Le.own (Le.refl _) 2) (Le.pair (Le.own (Le.refl _) 2) (Le.pair (Le.own (Le.refl _) 2) (Le.pair (Le.own (Le.own (Le.refl _) 2) 24) (Le.pair (Le.own (Le.refl _) 2) (Le.own (Le.refl _) 2)))))))))))),inferInstance⟩
def kj:ah aZ:=yn (fun x=>(x.cn,x.bb)) (gn (aM .i64) (bL (aM .i64)))
instance am2:SO kj (Value) (fun x v=>[.int .i64 x.cn,v]) (fun x v=>[.rd false (bL (aM .i64)) v x.bb]):=SO.mp (SO.ip SO.s)
instance am3:Dt kj:=by
 refine Dt.mp fun x y h=>?_
 obtain ⟨_,_⟩:=x
 obtain ⟨_,_⟩:=y
 dsimp only at h
 cases h
 rfl
def ru:ah aZ:=yn (fun x=>(x.cn,x.bb)) (gn (aM .i64) (aJ 2 (aM .i64)))
instance am4:ny ru (Value) (fun x v=>[.int .i64 x.cn,v]) (fun x v=>[.own (aJ 2 (aM .i64)) v x.bb]):=ny.mp (ny.ip ny.s)
instance am5:Vj ru kj:=⟨Le.map (Le.pair (Le.refl _) (Le.own (Le.refl _) 2)),inferInstance⟩
def wT:ah bR:=yn (fun x=>(x.aE,x.To,x.mf)) (gn (aM .i64) (gn (aM .i64) (bL (aM .i64))))
instance aiS:SO wT (Value) (fun x v=>[.int .i64 x.aE,.int .i64 x.To,v]) (fun x v=>[.rd false (bL (aM .i64)) v x.mf]):=SO.mp (SO.ip (SO.ip SO.s))
instance aiT:Dt wT:=by
 refine Dt.mp fun x y h=>?_
 obtain ⟨_,_,_⟩:=x
 obtain ⟨_,_,_⟩:=y
 dsimp only at h
 cases h
 rfl
end Go.Proofs.YtgjbmjjihmfppaaGreat
