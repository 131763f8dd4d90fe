/- Structs that are pointed to out of slices. No condition. -/
import Derived.Test.YtkhdhnpokfibjaaGreatDi
import Derived.Test.YtkhdhnpokfibjaaGreatMo
import Derived.Test.YtkhdhnpokfibjaaGreatDp
namespace Go.Proofs.YtkhdhnpokfibjaaGreat
open Go Go.Li Go.Dk
set_option linter.unusedVariables false
def sS27:STy aI:=sMap (fun x=>(x.aD,x.aG,x.To,x.aJ,x.aF)) (sPair (aC .i64) (sPair (aE (aC .i64)) (sPair (aE (aC .i64)) (sPair (aE (aC .i64)) (aE (aE (aC .i64)))))))
instance soS27:SO sS27 (Value×Value×Value×Value) (fun x v=>[.int .i64 x.aD,v.1,v.2.1,v.2.2.1,v.2.2.2]) (fun x v=>[.rd false (aE (aC .i64)) v.1 x.aG,.rd false (aE (aC .i64)) v.2.1 x.To,.rd false (aE (aC .i64)) v.2.2.1 x.aJ,.rd false (aE (aE (aC .i64))) v.2.2.2 x.aF]):=SO.mp (SO.ip (SO.sp (SO.sp (SO.sp SO.s))))
instance dtS27:Dt sS27:=by
 refine Dt.mp fun x y h=>?_
 obtain ⟨_,_,_,_,_⟩:=x
 obtain ⟨_,_,_,_,_⟩:=y
 dsimp only at h
 cases h
 rfl
def sS29:STy aN:=sMap (fun x=>(x.aA.aD,x.aA.aG,x.aA.To,x.aA.aJ,x.aA.aF,x.aB.aD,x.aB.aG,x.aB.To,x.aB.aJ,x.aB.aF,x.aD,x.Arrows)) (sPair (aC .i64) (sPair (aE (aC .i64)) (sPair (aE (aC .i64)) (sPair (aE (aC .i64)) (sPair (aE (aE (aC .i64))) (sPair (aC .i64) (sPair (aE (aC .i64)) (sPair (aE (aC .i64)) (sPair (aE (aC .i64)) (sPair (aE (aE (aC .i64))) (sPair (aE (aC .i64)) (aE (aC .i64)))))))))))))
instance soS29:SO sS29 (Value×Value×Value×Value×Value×Value×Value×Value×Value×Value) (fun x v=>[.int .i64 x.aA.aD,v.1,v.2.1,v.2.2.1,v.2.2.2.1,.int .i64 x.aB.aD,v.2.2.2.2.1,v.2.2.2.2.2.1,v.2.2.2.2.2.2.1,v.2.2.2.2.2.2.2.1,v.2.2.2.2.2.2.2.2.1,v.2.2.2.2.2.2.2.2.2]) (fun x v=>[.rd false (aE (aC .i64)) v.1 x.aA.aG,.rd false (aE (aC .i64)) v.2.1 x.aA.To,.rd false (aE (aC .i64)) v.2.2.1 x.aA.aJ,.rd false (aE (aE (aC .i64))) v.2.2.2.1 x.aA.aF,.rd false (aE (aC .i64)) v.2.2.2.2.1 x.aB.aG,.rd false (aE (aC .i64)) v.2.2.2.2.2.1 x.aB.To,.rd false (aE (aC .i64)) v.2.2.2.2.2.2.1 x.aB.aJ,.rd false (aE (aE (aC .i64))) v.2.2.2.2.2.2.2.1 x.aB.aF,.rd false (aE (aC .i64)) v.2.2.2.2.2.2.2.2.1 x.aD,.rd false (aE (aC .i64)) v.2.2.2.2.2.2.2.2.2 x.Arrows]):=SO.mp (SO.ip (SO.sp (SO.sp (SO.sp (SO.sp (SO.ip (SO.sp (SO.sp (SO.sp (SO.sp (SO.sp SO.s)))))))))))
instance dtS29:Dt sS29:=by
 refine Dt.mp fun x y h=>?_
 obtain ⟨⟨_,_,_,_,_⟩,⟨_,_,_,_,_⟩,_,_⟩:=x
 obtain ⟨⟨_,_,_,_,_⟩,⟨_,_,_,_,_⟩,_,_⟩:=y
 dsimp only at h
 cases h
 rfl
def sO29:STy aN:=sMap (fun x=>(x.aA.aD,x.aA.aG,x.aA.To,x.aA.aJ,x.aA.aF,x.aB.aD,x.aB.aG,x.aB.To,x.aB.aJ,x.aB.aF,x.aD,x.Arrows)) (sPair (aC .i64) (sPair (aK 2 (aC .i64)) (sPair (aK 2 (aC .i64)) (sPair (aK 2 (aC .i64)) (sPair (aK 24 (aK 2 (aC .i64))) (sPair (aC .i64) (sPair (aK 2 (aC .i64)) (sPair (aK 2 (aC .i64)) (sPair (aK 2 (aC .i64)) (sPair (aK 24 (aK 2 (aC .i64))) (sPair (aK 2 (aC .i64)) (aK 2 (aC .i64)))))))))))))
instance soO29:SOo sO29 (Value×Value×Value×Value×Value×Value×Value×Value×Value×Value) (fun x v=>[.int .i64 x.aA.aD,v.1,v.2.1,v.2.2.1,v.2.2.2.1,.int .i64 x.aB.aD,v.2.2.2.2.1,v.2.2.2.2.2.1,v.2.2.2.2.2.2.1,v.2.2.2.2.2.2.2.1,v.2.2.2.2.2.2.2.2.1,v.2.2.2.2.2.2.2.2.2]) (fun x v=>[.own (aK 2 (aC .i64)) v.1 x.aA.aG,.own (aK 2 (aC .i64)) v.2.1 x.aA.To,.own (aK 2 (aC .i64)) v.2.2.1 x.aA.aJ,.own (aK 24 (aK 2 (aC .i64))) v.2.2.2.1 x.aA.aF,.own (aK 2 (aC .i64)) v.2.2.2.2.1 x.aB.aG,.own (aK 2 (aC .i64)) v.2.2.2.2.2.1 x.aB.To,.own (aK 2 (aC .i64)) v.2.2.2.2.2.2.1 x.aB.aJ,.own (aK 24 (aK 2 (aC .i64))) v.2.2.2.2.2.2.2.1 x.aB.aF,.own (aK 2 (aC .i64)) v.2.2.2.2.2.2.2.2.1 x.aD,.own (aK 2 (aC .i64)) v.2.2.2.2.2.2.2.2.2 x.Arrows]):=SOo.mp (SOo.ip (SOo.sp (SOo.sp (SOo.sp (SOo.sp (SOo.ip (SOo.sp (SOo.sp (SOo.sp (SOo.sp (SOo.sp SOo.s)))))))))))
instance rtO29:RTs sO29 sS29:=⟨Le.map (Le.pair (Le.refl _) (Le.pair (Le.own (Le.refl _) 2) (Le.pair (Le.own (Le.refl _) 2) (Le.pair (Le.own (Le.refl _) 2) (Le.pair (Le.own (Le.own (Le.refl _) 2) 24) (Le.pair (Le.refl _) (Le.pair (Le.own (Le.refl _) 2) (Le.pair (Le.own (Le.refl _) 2) (Le.pair (Le.own (Le.refl _) 2) (Le.pair (Le.own (Le.own (Le.refl _) 2) 24) (Le.pair (Le.own (Le.refl _) 2) (Le.own (Le.refl _) 2)))))))))))),inferInstance⟩
def sS31:STy aM:=sMap (fun x=>(x.aA.aA.aD,x.aA.aA.aG,x.aA.aA.To,x.aA.aA.aJ,x.aA.aA.aF,x.aA.aB.aD,x.aA.aB.aG,x.aA.aB.To,x.aA.aB.aJ,x.aA.aB.aF,x.aA.aD,x.aA.Arrows,x.aB.aA.aD,x.aB.aA.aG,x.aB.aA.To,x.aB.aA.aJ,x.aB.aA.aF,x.aB.aB.aD,x.aB.aB.aG,x.aB.aB.To,x.aB.aB.aJ,x.aB.aB.aF,x.aB.aD,x.aB.Arrows,x.Components)) (sPair (aC .i64) (sPair (aE (aC .i64)) (sPair (aE (aC .i64)) (sPair (aE (aC .i64)) (sPair (aE (aE (aC .i64))) (sPair (aC .i64) (sPair (aE (aC .i64)) (sPair (aE (aC .i64)) (sPair (aE (aC .i64)) (sPair (aE (aE (aC .i64))) (sPair (aE (aC .i64)) (sPair (aE (aC .i64)) (sPair (aC .i64) (sPair (aE (aC .i64)) (sPair (aE (aC .i64)) (sPair (aE (aC .i64)) (sPair (aE (aE (aC .i64))) (sPair (aC .i64) (sPair (aE (aC .i64)) (sPair (aE (aC .i64)) (sPair (aE (aC .i64)) (sPair (aE (aE (aC .i64))) (sPair (aE (aC .i64)) (sPair (aE (aC .i64)) (aE (aC .i64))))))))))))))))))))))))))
instance soS31:SO sS31 (Value×Value×Value×Value×Value×Value×Value×Value×Value×Value×Value×Value×Value×Value×Value×Value×Value×Value×Value×Value×Value) (fun x v=>[.int .i64 x.aA.aA.aD,v.1,v.2.1,v.2.2.1,v.2.2.2.1,.int .i64 x.aA.aB.aD,v.2.2.2.2.1,v.2.2.2.2.2.1,v.2.2.2.2.2.2.1,v.2.2.2.2.2.2.2.1,v.2.2.2.2.2.2.2.2.1,v.2.2.2.2.2.2.2.2.2.1,.int .i64 x.aB.aA.aD,v.2.2.2.2.2.2.2.2.2.2.1,v.2.2.2.2.2.2.2.2.2.2.2.1,v.2.2.2.2.2.2.2.2.2.2.2.2.1,v.2.2.2.2.2.2.2.2.2.2.2.2.2.1,.int .i64 x.aB.aB.aD,v.2.2.2.2.2.2.2.2.2.2.2.2.2.2.1,v.2.2.2.2.2.2.2.2.2.2.2.2.2.2.2.1,v.2.2.2.2.2.2.2.2.2.2.2.2.2.2.2.2.1,v.2.2.2.2.2.2.2.2.2.2.2.2.2.2.2.2.2.1,v.2.2.2.2.2.2.2.2.2.2.2.2.2.2.2.2.2.2.1,v.2.2.2.2.2.2.2.2.2.2.2.2.2.2.2.2.2.2.2.1,v.2.2.2.2.2.2.2.2.2.2.2.2.2.2.2.2.2.2.2.2]) (fun x v=>[.rd false (aE (aC .i64)) v.1 x.aA.aA.aG,.rd false (aE (aC .i64)) v.2.1 x.aA.aA.To,.rd false (aE (aC .i64)) v.2.2.1 x.aA.aA.aJ,.rd false (aE (aE (aC .i64))) v.2.2.2.1 x.aA.aA.aF,.rd false (aE (aC .i64)) v.2.2.2.2.1 x.aA.aB.aG,.rd false (aE (aC .i64)) v.2.2.2.2.2.1 x.aA.aB.To,.rd false (aE (aC .i64)) v.2.2.2.2.2.2.1 x.aA.aB.aJ,.rd false (aE (aE (aC .i64))) v.2.2.2.2.2.2.2.1 x.aA.aB.aF,.rd false (aE (aC .i64)) v.2.2.2.2.2.2.2.2.1 x.aA.aD,.rd false (aE (aC .i64)) v.2.2.2.2.2.2.2.2.2.1 x.aA.Arrows,.rd false (aE (aC .i64)) v.2.2.2.2.2.2.2.2.2.2.1 x.aB.aA.aG,.rd false (aE (aC .i64)) v.2.2.2.2.2.2.2.2.2.2.2.1 x.aB.aA.To,.rd false (aE (aC .i64)) v.2.2.2.2.2.2.2.2.2.2.2.2.1 x.aB.aA.aJ,.rd false (aE (aE (aC .i64))) v.2.2.2.2.2.2.2.2.2.2.2.2.2.1 x.aB.aA.aF,.rd false (aE (aC .i64)) v.2.2.2.2.2.2.2.2.2.2.2.2.2.2.1 x.aB.aB.aG,.rd false (aE (aC .i64)) v.2.2.2.2.2.2.2.2.2.2.2.2.2.2.2.1 x.aB.aB.To,.rd false (aE (aC .i64)) v.2.2.2.2.2.2.2.2.2.2.2.2.2.2.2.2.1 x.aB.aB.aJ,.rd false (aE (aE (aC .i64))) v.2.2.2.2.2.2.2.2.2.2.2.2.2.2.2.2.2.1 x.aB.aB.aF,.rd false (aE (aC .i64)) v.2.2.2.2.2.2.2.2.2.2.2.2.2.2.2.2.2.2.1 x.aB.aD,.rd false (aE (aC .i64)) v.2.2.2.2.2.2.2.2.2.2.2.2.2.2.2.2.2.2.2.1 x.aB.Arrows,.rd false (aE (aC .i64)) v.2.2.2.2.2.2.2.2.2.2.2.2.2.2.2.2.2.2.2.2 x.Components]):=SO.mp (SO.ip (SO.sp (SO.sp (SO.sp (SO.sp (SO.ip (SO.sp (SO.sp (SO.sp (SO.sp (SO.sp (SO.sp (SO.ip (SO.sp (SO.sp (SO.sp (SO.sp (SO.ip (SO.sp (SO.sp (SO.sp (SO.sp (SO.sp (SO.sp SO.s))))))))))))))))))))))))
instance dtS31:Dt sS31:=by
 refine Dt.mp fun x y h=>?_
 obtain ⟨⟨⟨_,_,_,_,_⟩,⟨_,_,_,_,_⟩,_,_⟩,⟨⟨_,_,_,_,_⟩,⟨_,_,_,_,_⟩,_,_⟩,_⟩:=x
 obtain ⟨⟨⟨_,_,_,_,_⟩,⟨_,_,_,_,_⟩,_,_⟩,⟨⟨_,_,_,_,_⟩,⟨_,_,_,_,_⟩,_,_⟩,_⟩:=y
 dsimp only at h
 cases h
 rfl
def sS158:STy cG:=sMap (fun x=>(x.aG,x.To,x.Edges)) (sPair (aC .i64) (sPair (aC .i64) (aE (aC .i64))))
instance soS158:SO sS158 (Value) (fun x v=>[.int .i64 x.aG,.int .i64 x.To,v]) (fun x v=>[.rd false (aE (aC .i64)) v x.Edges]):=SO.mp (SO.ip (SO.ip SO.s))
instance dtS158:Dt sS158:=by
 refine Dt.mp fun x y h=>?_
 obtain ⟨_,_,_⟩:=x
 obtain ⟨_,_,_⟩:=y
 dsimp only at h
 cases h
 rfl
end Go.Proofs.YtkhdhnpokfibjaaGreat
