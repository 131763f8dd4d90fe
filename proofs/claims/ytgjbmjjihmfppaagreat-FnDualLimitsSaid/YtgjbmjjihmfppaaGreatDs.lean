/- Structs that are pointed to out of slices. No condition. -/
import Derived.Test.YtgjbmjjihmfppaaGreatDi
import Derived.Test.YtgjbmjjihmfppaaGreatMo
import Derived.Test.YtgjbmjjihmfppaaGreatDp
namespace Go.Proofs.YtgjbmjjihmfppaaGreat
open Go Go.Li Go.Dk
set_option linter.unusedVariables false
def N8:af aG:=wq (fun x=>(x.aA,x.aD,x.To,x.aJ,x.aB)) (gh (aC .i64) (gh (aE (aC .i64)) (gh (aE (aC .i64)) (gh (aE (aC .i64)) (aE (aE (aC .i64)))))))
instance ajF:SO N8 (Value×Value×Value×Value) (fun x v=>[.int .i64 x.aA,v.1,v.2.1,v.2.2.1,v.2.2.2]) (fun x v=>[.rd false (aE (aC .i64)) v.1 x.aD,.rd false (aE (aC .i64)) v.2.1 x.To,.rd false (aE (aC .i64)) v.2.2.1 x.aJ,.rd false (aE (aE (aC .i64))) v.2.2.2 x.aB]):=SO.mp (SO.ip (SO.sp (SO.sp (SO.sp SO.s))))
instance ajG:Dt N8:=by
 refine Dt.mp fun x y h=>?_
 obtain ⟨_,_,_,_,_⟩:=x
 obtain ⟨_,_,_,_,_⟩:=y
 dsimp only at h
 cases h
 rfl
def N9:af aN:=wq (fun x=>(x.aH.aA,x.aH.aD,x.aH.To,x.aH.aJ,x.aH.aB,x.aI.aA,x.aI.aD,x.aI.To,x.aI.aJ,x.aI.aB,x.aA,x.aj)) (gh (aC .i64) (gh (aE (aC .i64)) (gh (aE (aC .i64)) (gh (aE (aC .i64)) (gh (aE (aE (aC .i64))) (gh (aC .i64) (gh (aE (aC .i64)) (gh (aE (aC .i64)) (gh (aE (aC .i64)) (gh (aE (aE (aC .i64))) (gh (aE (aC .i64)) (aE (aC .i64)))))))))))))
instance ajH:SO N9 (Value×Value×Value×Value×Value×Value×Value×Value×Value×Value) (fun x v=>[.int .i64 x.aH.aA,v.1,v.2.1,v.2.2.1,v.2.2.2.1,.int .i64 x.aI.aA,v.2.2.2.2.1,v.2.2.2.2.2.1,v.2.2.2.2.2.2.1,v.2.2.2.2.2.2.2.1,v.2.2.2.2.2.2.2.2.1,v.2.2.2.2.2.2.2.2.2]) (fun x v=>[.rd false (aE (aC .i64)) v.1 x.aH.aD,.rd false (aE (aC .i64)) v.2.1 x.aH.To,.rd false (aE (aC .i64)) v.2.2.1 x.aH.aJ,.rd false (aE (aE (aC .i64))) v.2.2.2.1 x.aH.aB,.rd false (aE (aC .i64)) v.2.2.2.2.1 x.aI.aD,.rd false (aE (aC .i64)) v.2.2.2.2.2.1 x.aI.To,.rd false (aE (aC .i64)) v.2.2.2.2.2.2.1 x.aI.aJ,.rd false (aE (aE (aC .i64))) v.2.2.2.2.2.2.2.1 x.aI.aB,.rd false (aE (aC .i64)) v.2.2.2.2.2.2.2.2.1 x.aA,.rd false (aE (aC .i64)) v.2.2.2.2.2.2.2.2.2 x.aj]):=SO.mp (SO.ip (SO.sp (SO.sp (SO.sp (SO.sp (SO.ip (SO.sp (SO.sp (SO.sp (SO.sp (SO.sp SO.s)))))))))))
instance ajI:Dt N9:=by
 refine Dt.mp fun x y h=>?_
 obtain ⟨⟨_,_,_,_,_⟩,⟨_,_,_,_,_⟩,_,_⟩:=x
 obtain ⟨⟨_,_,_,_,_⟩,⟨_,_,_,_,_⟩,_,_⟩:=y
 dsimp only at h
 cases h
 rfl
def sU:af aN:=wq (fun x=>(x.aH.aA,x.aH.aD,x.aH.To,x.aH.aJ,x.aH.aB,x.aI.aA,x.aI.aD,x.aI.To,x.aI.aJ,x.aI.aB,x.aA,x.aj)) (gh (aC .i64) (gh (aK 2 (aC .i64)) (gh (aK 2 (aC .i64)) (gh (aK 2 (aC .i64)) (gh (aK 24 (aK 2 (aC .i64))) (gh (aC .i64) (gh (aK 2 (aC .i64)) (gh (aK 2 (aC .i64)) (gh (aK 2 (aC .i64)) (gh (aK 24 (aK 2 (aC .i64))) (gh (aK 2 (aC .i64)) (aK 2 (aC .i64)))))))))))))
instance ajJ:ny sU (Value×Value×Value×Value×Value×Value×Value×Value×Value×Value) (fun x v=>[.int .i64 x.aH.aA,v.1,v.2.1,v.2.2.1,v.2.2.2.1,.int .i64 x.aI.aA,v.2.2.2.2.1,v.2.2.2.2.2.1,v.2.2.2.2.2.2.1,v.2.2.2.2.2.2.2.1,v.2.2.2.2.2.2.2.2.1,v.2.2.2.2.2.2.2.2.2]) (fun x v=>[.own (aK 2 (aC .i64)) v.1 x.aH.aD,.own (aK 2 (aC .i64)) v.2.1 x.aH.To,.own (aK 2 (aC .i64)) v.2.2.1 x.aH.aJ,.own (aK 24 (aK 2 (aC .i64))) v.2.2.2.1 x.aH.aB,.own (aK 2 (aC .i64)) v.2.2.2.2.1 x.aI.aD,.own (aK 2 (aC .i64)) v.2.2.2.2.2.1 x.aI.To,.own (aK 2 (aC .i64)) v.2.2.2.2.2.2.1 x.aI.aJ,.own (aK 24 (aK 2 (aC .i64))) v.2.2.2.2.2.2.2.1 x.aI.aB,.own (aK 2 (aC .i64)) v.2.2.2.2.2.2.2.2.1 x.aA,.own (aK 2 (aC .i64)) v.2.2.2.2.2.2.2.2.2 x.aj]):=ny.mp (ny.ip (ny.sp (ny.sp (ny.sp (ny.sp (ny.ip (ny.sp (ny.sp (ny.sp (ny.sp (ny.sp ny.s)))))))))))
instance ajK:Ss sU N9:=⟨Le.map (Le.pair (Le.refl _) (Le.pair (Le.own (Le.refl _) 2) (Le.pair (Le.own (Le.refl _) 2) (Le.pair (Le.own (Le.refl _) 2) (Le.pair (Le.own (Le.own (Le.refl _) 2) 24) (Le.pair (Le.refl _) (Le.pair (Le.own (Le.refl _) 2) (Le.pair (Le.own (Le.refl _) 2) (Le.pair (Le.own (Le.refl _) 2) (Le.pair (Le.own (Le.own (Le.refl _) 2) 24) (Le.pair (Le.own (Le.refl _) 2) (Le.own (Le.refl _) 2)))))))))))),inferInstance⟩
def sW:af bD:=wq (fun x=>(x.ef,x.cf)) (gh (aC .i64) (aE (aC .i64)))
instance ajL:SO sW (Value) (fun x v=>[.int .i64 x.ef,v]) (fun x v=>[.rd false (aE (aC .i64)) v x.cf]):=SO.mp (SO.ip SO.s)
instance ajM:Dt sW:=by
 refine Dt.mp fun x y h=>?_
 obtain ⟨_,_⟩:=x
 obtain ⟨_,_⟩:=y
 dsimp only at h
 cases h
 rfl
def rV:af bD:=wq (fun x=>(x.ef,x.cf)) (gh (aC .i64) (aK 2 (aC .i64)))
instance ajN:ny rV (Value) (fun x v=>[.int .i64 x.ef,v]) (fun x v=>[.own (aK 2 (aC .i64)) v x.cf]):=ny.mp (ny.ip ny.s)
instance ajO:Ss rV sW:=⟨Le.map (Le.pair (Le.refl _) (Le.own (Le.refl _) 2)),inferInstance⟩
def uY:af bG:=wq (fun x=>(x.aD,x.To,x.l7)) (gh (aC .i64) (gh (aC .i64) (aE (aC .i64))))
instance afY:SO uY (Value) (fun x v=>[.int .i64 x.aD,.int .i64 x.To,v]) (fun x v=>[.rd false (aE (aC .i64)) v x.l7]):=SO.mp (SO.ip (SO.ip SO.s))
instance afZ:Dt uY:=by
 refine Dt.mp fun x y h=>?_
 obtain ⟨_,_,_⟩:=x
 obtain ⟨_,_,_⟩:=y
 dsimp only at h
 cases h
 rfl
end Go.Proofs.YtgjbmjjihmfppaaGreat
