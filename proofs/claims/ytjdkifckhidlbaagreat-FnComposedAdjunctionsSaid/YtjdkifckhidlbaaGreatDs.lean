/- Structs that are pointed to out of slices. No condition. -/
import Derived.Test.YtjdkifckhidlbaaGreatDi
import Derived.Test.YtjdkifckhidlbaaGreatMo
import Derived.Test.YtjdkifckhidlbaaGreatDp
namespace Go.Proofs.YtjdkifckhidlbaaGreat
open Go Go.Li Go.Dk
set_option linter.unusedVariables false
def Qe:ah aI:=zt (fun x=>(x.aA,x.aH,x.To,x.aJ,x.aE)) (cy (aM .i64) (cy (bY (aM .i64)) (cy (bY (aM .i64)) (cy (bY (aM .i64)) (bY (bY (aM .i64)))))))
instance anY:SO Qe (Value×Value×Value×Value) (fun x v=>[.int .i64 x.aA,v.1,v.2.1,v.2.2.1,v.2.2.2]) (fun x v=>[.rd false (bY (aM .i64)) v.1 x.aH,.rd false (bY (aM .i64)) v.2.1 x.To,.rd false (bY (aM .i64)) v.2.2.1 x.aJ,.rd false (bY (bY (aM .i64))) v.2.2.2 x.aE]):=SO.mp (SO.ip (SO.sp (SO.sp (SO.sp SO.s))))
instance anZ:Dt Qe:=by
 refine Dt.mp fun x y h=>?_
 obtain ⟨_,_,_,_,_⟩:=x
 obtain ⟨_,_,_,_,_⟩:=y
 dsimp only at h
 cases h
 rfl
def LX:ah aO:=zt (fun x=>(x.aB.aA,x.aB.aH,x.aB.To,x.aB.aJ,x.aB.aE,x.aF.aA,x.aF.aH,x.aF.To,x.aF.aJ,x.aF.aE,x.aA,x.ae)) (cy (aM .i64) (cy (bY (aM .i64)) (cy (bY (aM .i64)) (cy (bY (aM .i64)) (cy (bY (bY (aM .i64))) (cy (aM .i64) (cy (bY (aM .i64)) (cy (bY (aM .i64)) (cy (bY (aM .i64)) (cy (bY (bY (aM .i64))) (cy (bY (aM .i64)) (bY (aM .i64)))))))))))))
instance an0:SO LX (Value×Value×Value×Value×Value×Value×Value×Value×Value×Value) (fun x v=>[.int .i64 x.aB.aA,v.1,v.2.1,v.2.2.1,v.2.2.2.1,.int .i64 x.aF.aA,v.2.2.2.2.1,v.2.2.2.2.2.1,v.2.2.2.2.2.2.1,v.2.2.2.2.2.2.2.1,v.2.2.2.2.2.2.2.2.1,v.2.2.2.2.2.2.2.2.2]) (fun x v=>[.rd false (bY (aM .i64)) v.1 x.aB.aH,.rd false (bY (aM .i64)) v.2.1 x.aB.To,.rd false (bY (aM .i64)) v.2.2.1 x.aB.aJ,.rd false (bY (bY (aM .i64))) v.2.2.2.1 x.aB.aE,.rd false (bY (aM .i64)) v.2.2.2.2.1 x.aF.aH,.rd false (bY (aM .i64)) v.2.2.2.2.2.1 x.aF.To,.rd false (bY (aM .i64)) v.2.2.2.2.2.2.1 x.aF.aJ,.rd false (bY (bY (aM .i64))) v.2.2.2.2.2.2.2.1 x.aF.aE,.rd false (bY (aM .i64)) v.2.2.2.2.2.2.2.2.1 x.aA,.rd false (bY (aM .i64)) v.2.2.2.2.2.2.2.2.2 x.ae]):=SO.mp (SO.ip (SO.sp (SO.sp (SO.sp (SO.sp (SO.ip (SO.sp (SO.sp (SO.sp (SO.sp (SO.sp SO.s)))))))))))
instance an1:Dt LX:=by
 refine Dt.mp fun x y h=>?_
 obtain ⟨⟨_,_,_,_,_⟩,⟨_,_,_,_,_⟩,_,_⟩:=x
 obtain ⟨⟨_,_,_,_,_⟩,⟨_,_,_,_,_⟩,_,_⟩:=y
 dsimp only at h
 cases h
 rfl
def uP:ah aO:=zt (fun x=>(x.aB.aA,x.aB.aH,x.aB.To,x.aB.aJ,x.aB.aE,x.aF.aA,x.aF.aH,x.aF.To,x.aF.aJ,x.aF.aE,x.aA,x.ae)) (cy (aM .i64) (cy (aK 2 (aM .i64)) (cy (aK 2 (aM .i64)) (cy (aK 2 (aM .i64)) (cy (aK 24 (aK 2 (aM .i64))) (cy (aM .i64) (cy (aK 2 (aM .i64)) (cy (aK 2 (aM .i64)) (cy (aK 2 (aM .i64)) (cy (aK 24 (aK 2 (aM .i64))) (cy (aK 2 (aM .i64)) (aK 2 (aM .i64)))))))))))))
instance an2:ri uP (Value×Value×Value×Value×Value×Value×Value×Value×Value×Value) (fun x v=>[.int .i64 x.aB.aA,v.1,v.2.1,v.2.2.1,v.2.2.2.1,.int .i64 x.aF.aA,v.2.2.2.2.1,v.2.2.2.2.2.1,v.2.2.2.2.2.2.1,v.2.2.2.2.2.2.2.1,v.2.2.2.2.2.2.2.2.1,v.2.2.2.2.2.2.2.2.2]) (fun x v=>[.own (aK 2 (aM .i64)) v.1 x.aB.aH,.own (aK 2 (aM .i64)) v.2.1 x.aB.To,.own (aK 2 (aM .i64)) v.2.2.1 x.aB.aJ,.own (aK 24 (aK 2 (aM .i64))) v.2.2.2.1 x.aB.aE,.own (aK 2 (aM .i64)) v.2.2.2.2.1 x.aF.aH,.own (aK 2 (aM .i64)) v.2.2.2.2.2.1 x.aF.To,.own (aK 2 (aM .i64)) v.2.2.2.2.2.2.1 x.aF.aJ,.own (aK 24 (aK 2 (aM .i64))) v.2.2.2.2.2.2.2.1 x.aF.aE,.own (aK 2 (aM .i64)) v.2.2.2.2.2.2.2.2.1 x.aA,.own (aK 2 (aM .i64)) v.2.2.2.2.2.2.2.2.2 x.ae]):=ri.mp (ri.ip (ri.sp (ri.sp (ri.sp (ri.sp (ri.ip (ri.sp (ri.sp (ri.sp (ri.sp (ri.sp ri.s)))))))))))
instance an3:RTs uP LX:=⟨Le.map (Le.pair (Le.refl _) (Le.pair (Le.own (Le.refl _) 2) (Le.pair (Le.own (Le.refl _) 2) (Le.pair (Le.own (Le.refl _) 2) (Le.pair (Le.own (Le.own (Le.refl _) 2) 24) (Le.pair (Le.refl _) (Le.pair (Le.own (Le.refl _) 2) (Le.pair (Le.own (Le.refl _) 2) (Le.pair (Le.own (Le.refl _) 2) (Le.pair (Le.own (Le.own (Le.refl _) 2) 24) (Le.pair (Le.own (Le.refl _) 2) (Le.own (Le.refl _) 2)))))))))))),inferInstance⟩
def Qf:ah bZ:=zt (fun x=>(x.aB.aB.aA,x.aB.aB.aH,x.aB.aB.To,x.aB.aB.aJ,x.aB.aB.aE,x.aB.aF.aA,x.aB.aF.aH,x.aB.aF.To,x.aB.aF.aJ,x.aB.aF.aE,x.aB.aA,x.aB.ae,x.aF.aB.aA,x.aF.aB.aH,x.aF.aB.To,x.aF.aB.aJ,x.aF.aB.aE,x.aF.aF.aA,x.aF.aF.aH,x.aF.aF.To,x.aF.aF.aJ,x.aF.aF.aE,x.aF.aA,x.aF.ae,x.an)) (cy (aM .i64) (cy (bY (aM .i64)) (cy (bY (aM .i64)) (cy (bY (aM .i64)) (cy (bY (bY (aM .i64))) (cy (aM .i64) (cy (bY (aM .i64)) (cy (bY (aM .i64)) (cy (bY (aM .i64)) (cy (bY (bY (aM .i64))) (cy (bY (aM .i64)) (cy (bY (aM .i64)) (cy (aM .i64) (cy (bY (aM .i64)) (cy (bY (aM .i64)) (cy (bY (aM .i64)) (cy (bY (bY (aM .i64))) (cy (aM .i64) (cy (bY (aM .i64)) (cy (bY (aM .i64)) (cy (bY (aM .i64)) (cy (bY (bY (aM .i64))) (cy (bY (aM .i64)) (cy (bY (aM .i64)) (bY (aM .i64))))))))))))))))))))))))))
instance an4:SO Qf (Value×Value×Value×Value×Value×Value×Value×Value×Value×Value×Value×Value×Value×Value×Value×Value×Value×Value×Value×Value×Value) (fun x v=>[.int .i64 x.aB.aB.aA,v.1,v.2.1,v.2.2.1,v.2.2.2.1,.int .i64 x.aB.aF.aA,v.2.2.2.2.1,v.2.2.2.2.2.1,v.2.2.2.2.2.2.1,v.2.2.2.2.2.2.2.1,v.2.2.2.2.2.2.2.2.1,v.2.2.2.2.2.2.2.2.2.1,.int .i64 x.aF.aB.aA,v.2.2.2.2.2.2.2.2.2.2.1,v.2.2.2.2.2.2.2.2.2.2.2.1,v.2.2.2.2.2.2.2.2.2.2.2.2.1,v.2.2.2.2.2.2.2.2.2.2.2.2.2.1,.int .i64 x.aF.aF.aA,v.2.2.2.2.2.2.2.2.2.2.2.2.2.2.1,v.2.2.2.2.2.2.2.2.2.2.2.2.2.2.2.1,v.2.2.2.2.2.2.2.2.2.2.2.2.2.2.2.2.1,v.2.2.2.2.2.2.2.2.2.2.2.2.2.2.2.2.2.1,v.2.2.2.2.2.2.2.2.2.2.2.2.2.2.2.2.2.2.1,v.2.2.2.2.2.2.2.2.2.2.2.2.2.2.2.2.2.2.2.1,v.2.2.2.2.2.2.2.2.2.2.2.2.2.2.2.2.2.2.2.2]) (fun x v=>[.rd false (bY (aM .i64)) v.1 x.aB.aB.aH,.rd false (bY (aM .i64)) v.2.1 x.aB.aB.To,.rd false (bY (aM .i64)) v.2.2.1 x.aB.aB.aJ,.rd false (bY (bY (aM .i64))) v.2.2.2.1 x.aB.aB.aE,.rd false (bY (aM .i64)) v.2.2.2.2.1 x.aB.aF.aH,.rd false (bY (aM .i64)) v.2.2.2.2.2.1 x.aB.aF.To,.rd false (bY (aM .i64)) v.2.2.2.2.2.2.1 x.aB.aF.aJ,.rd false (bY (bY (aM .i64))) v.2.2.2.2.2.2.2.1 x.aB.aF.aE,.rd false (bY (aM .i64)) v.2.2.2.2.2.2.2.2.1 x.aB.aA,.rd false (bY (aM .i64)) v.2.2.2.2.2.2.2.2.2.1 x.aB.ae,.rd false (bY (aM .i64)) v.2.2.2.2.2.2.2.2.2.2.1 x.aF.aB.aH,.rd false (bY (aM .i64)) v.2.2.2.2.2.2.2.2.2.2.2.1 x.aF.aB.To,.rd false (bY (aM .i64)) v.2.2.2.2.2.2.2.2.2.2.2.2.1 x.aF.aB.aJ,.rd false (bY (bY (aM .i64))) v.2.2.2.2.2.2.2.2.2.2.2.2.2.1 x.aF.aB.aE,.rd false (bY (aM .i64)) v.2.2.2.2.2.2.2.2.2.2.2.2.2.2.1 x.aF.aF.aH,.rd false (bY (aM .i64)) v.2.2.2.2.2.2.2.2.2.2.2.2.2.2.2.1 x.aF.aF.To,.rd false (bY (aM .i64)) v.2.2.2.2.2.2.2.2.2.2.2.2.2.2.2.2.1 x.aF.aF.aJ,.rd false (bY (bY (aM .i64))) v.2.2.2.2.2.2.2.2.2.2.2.2.2.2.2.2.2.1 x.aF.aF.aE,.rd false (bY (aM .i64)) v.2.2.2.2.2.2.2.2.2.2.2.2.2.2.2.2.2.2.1 x.aF.aA,.rd false (bY (aM .i64)) v.2.2.2.2.2.2.2.2.2.2.2.2.2.2.2.2.2.2.2.1 x.aF.ae,.rd false (bY (aM .i64)) v.2.2.2.2.2.2.2.2.2.2.2.2.2.2.2.2.2.2.2.2 x.an]):=SO.mp (SO.ip (SO.sp (SO.sp (SO.sp (SO.sp (SO.ip (SO.sp (SO.sp (SO.sp (SO.sp (SO.sp (SO.sp (SO.ip (SO.sp (SO.sp (SO.sp (SO.sp (SO.ip (SO.sp (SO.sp (SO.sp (SO.sp (SO.sp (SO.sp SO.s))))))))))))))))))))))))
instance an5:Dt Qf:=by
 refine Dt.mp fun x y h=>?_
 obtain ⟨⟨⟨_,_,_,_,_⟩,⟨_,_,_,_,_⟩,_,_⟩,⟨⟨_,_,_,_,_⟩,⟨_,_,_,_,_⟩,_,_⟩,_⟩:=x
 obtain ⟨⟨⟨_,_,_,_,_⟩,⟨_,_,_,_,_⟩,_,_⟩,⟨⟨_,_,_,_,_⟩,⟨_,_,_,_,_⟩,_,_⟩,_⟩:=y
 dsimp only at h
 cases h
 rfl
def wH:ah cE:=zt (fun x=>(x.aH,x.To,x.nk)) (cy (aM .i64) (cy (aM .i64) (bY (aM .i64))))
instance ajo:SO wH (Value) (fun x v=>[.int .i64 x.aH,.int .i64 x.To,v]) (fun x v=>[.rd false (bY (aM .i64)) v x.nk]):=SO.mp (SO.ip (SO.ip SO.s))
instance ajp:Dt wH:=by
 refine Dt.mp fun x y h=>?_
 obtain ⟨_,_,_⟩:=x
 obtain ⟨_,_,_⟩:=y
 dsimp only at h
 cases h
 rfl
end Go.Proofs.YtjdkifckhidlbaaGreat
