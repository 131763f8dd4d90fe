/- Structs that are pointed to out of slices. No condition. -/
import Derived.Test.YtbhhmalgcnhniaaGreatDi
import Derived.Test.YtbhhmalgcnhniaaGreatMo
import Derived.Test.YtbhhmalgcnhniaaGreatDp
namespace Go.Proofs.YtbhhmalgcnhniaaGreat
open Go Go.Li Go.Dk
set_option linter.unusedVariables false
def On:ai aC:=yn (fun x=>(x.aD,x.aA,x.To,x.aF,x.aB)) (iq (aM .i64) (iq (bF (aM .i64)) (iq (bF (aM .i64)) (iq (bF (aM .i64)) (bF (bF (aM .i64)))))))
instance akj:SO On (Value×Value×Value×Value) (fun x v=>[.int .i64 x.aD,v.1,v.2.1,v.2.2.1,v.2.2.2]) (fun x v=>[.rd false (bF (aM .i64)) v.1 x.aA,.rd false (bF (aM .i64)) v.2.1 x.To,.rd false (bF (aM .i64)) v.2.2.1 x.aF,.rd false (bF (bF (aM .i64))) v.2.2.2 x.aB]):=SO.mp (SO.ip (SO.sp (SO.sp (SO.sp SO.s))))
instance akk:Dt On:=by
 refine Dt.mp fun x y h=>?_
 obtain ⟨_,_,_,_,_⟩:=x
 obtain ⟨_,_,_,_,_⟩:=y
 dsimp only at h
 cases h
 rfl
def JL:ai aO:=yn (fun x=>(x.aH.aD,x.aH.aA,x.aH.To,x.aH.aF,x.aH.aB,x.aL.aD,x.aL.aA,x.aL.To,x.aL.aF,x.aL.aB,x.aD,x.an)) (iq (aM .i64) (iq (bF (aM .i64)) (iq (bF (aM .i64)) (iq (bF (aM .i64)) (iq (bF (bF (aM .i64))) (iq (aM .i64) (iq (bF (aM .i64)) (iq (bF (aM .i64)) (iq (bF (aM .i64)) (iq (bF (bF (aM .i64))) (iq (bF (aM .i64)) (bF (aM .i64)))))))))))))
instance akl:SO JL (Value×Value×Value×Value×Value×Value×Value×Value×Value×Value) (fun x v=>[.int .i64 x.aH.aD,v.1,v.2.1,v.2.2.1,v.2.2.2.1,.int .i64 x.aL.aD,v.2.2.2.2.1,v.2.2.2.2.2.1,v.2.2.2.2.2.2.1,v.2.2.2.2.2.2.2.1,v.2.2.2.2.2.2.2.2.1,v.2.2.2.2.2.2.2.2.2]) (fun x v=>[.rd false (bF (aM .i64)) v.1 x.aH.aA,.rd false (bF (aM .i64)) v.2.1 x.aH.To,.rd false (bF (aM .i64)) v.2.2.1 x.aH.aF,.rd false (bF (bF (aM .i64))) v.2.2.2.1 x.aH.aB,.rd false (bF (aM .i64)) v.2.2.2.2.1 x.aL.aA,.rd false (bF (aM .i64)) v.2.2.2.2.2.1 x.aL.To,.rd false (bF (aM .i64)) v.2.2.2.2.2.2.1 x.aL.aF,.rd false (bF (bF (aM .i64))) v.2.2.2.2.2.2.2.1 x.aL.aB,.rd false (bF (aM .i64)) v.2.2.2.2.2.2.2.2.1 x.aD,.rd false (bF (aM .i64)) v.2.2.2.2.2.2.2.2.2 x.an]):=SO.mp (SO.ip (SO.sp (SO.sp (SO.sp (SO.sp (SO.ip (SO.sp (SO.sp (SO.sp (SO.sp (SO.sp SO.s)))))))))))
instance akm:Dt JL:=by
 refine Dt.mp fun x y h=>?_
 obtain ⟨⟨_,_,_,_,_⟩,⟨_,_,_,_,_⟩,_,_⟩:=x
 obtain ⟨⟨_,_,_,_,_⟩,⟨_,_,_,_,_⟩,_,_⟩:=y
 dsimp only at h
 cases h
 rfl
def rZ:ai aO:=yn (fun x=>(x.aH.aD,x.aH.aA,x.aH.To,x.aH.aF,x.aH.aB,x.aL.aD,x.aL.aA,x.aL.To,x.aL.aF,x.aL.aB,x.aD,x.an)) (iq (aM .i64) (iq (aJ 2 (aM .i64)) (iq (aJ 2 (aM .i64)) (iq (aJ 2 (aM .i64)) (iq (aJ 22 (aJ 2 (aM .i64))) (iq (aM .i64) (iq (aJ 2 (aM .i64)) (iq (aJ 2 (aM .i64)) (iq (aJ 2 (aM .i64)) (iq (aJ 22 (aJ 2 (aM .i64))) (iq (aJ 2 (aM .i64)) (aJ 2 (aM .i64)))))))))))))
instance akn:o9 rZ (Value×Value×Value×Value×Value×Value×Value×Value×Value×Value) (fun x v=>[.int .i64 x.aH.aD,v.1,v.2.1,v.2.2.1,v.2.2.2.1,.int .i64 x.aL.aD,v.2.2.2.2.1,v.2.2.2.2.2.1,v.2.2.2.2.2.2.1,v.2.2.2.2.2.2.2.1,v.2.2.2.2.2.2.2.2.1,v.2.2.2.2.2.2.2.2.2]) (fun x v=>[.own (aJ 2 (aM .i64)) v.1 x.aH.aA,.own (aJ 2 (aM .i64)) v.2.1 x.aH.To,.own (aJ 2 (aM .i64)) v.2.2.1 x.aH.aF,.own (aJ 22 (aJ 2 (aM .i64))) v.2.2.2.1 x.aH.aB,.own (aJ 2 (aM .i64)) v.2.2.2.2.1 x.aL.aA,.own (aJ 2 (aM .i64)) v.2.2.2.2.2.1 x.aL.To,.own (aJ 2 (aM .i64)) v.2.2.2.2.2.2.1 x.aL.aF,.own (aJ 22 (aJ 2 (aM .i64))) v.2.2.2.2.2.2.2.1 x.aL.aB,.own (aJ 2 (aM .i64)) v.2.2.2.2.2.2.2.2.1 x.aD,.own (aJ 2 (aM .i64)) v.2.2.2.2.2.2.2.2.2 x.an]):=o9.mp (o9.ip (o9.sp (o9.sp (o9.sp (o9.sp (o9.ip (o9.sp (o9.sp (o9.sp (o9.sp (o9.sp o9.s)))))))))))
instance ako:XD rZ JL:=⟨Le.map (Le.pair (Le.refl _) (Le.pair (Le.own (Le.refl _) 2) (Le.pair (Le.own (Le.refl _) 2) (Le.pair (Le.own (Le.refl _) 2) (Le.pair (Le.own (Le.own (Le.refl _) 2) 22) (Le.pair (Le.refl _) (Le.pair (Le.own (Le.refl _) 2) (Le.pair (Le.own (Le.refl _) 2) (Le.pair (Le.own (Le.refl _) 2) (Le.pair (Le.own (Le.own (Le.refl _) 2) 22) (Le.pair (Le.own (Le.refl _) 2) (Le.own (Le.refl _) 2)))))))))))),inferInstance⟩
def um:ai aY:=yn (fun x=>(x.aA,x.To,x.l8)) (iq (aM .i64) (iq (aM .i64) (bF (aM .i64))))
instance afV:SO um (Value) (fun x v=>[.int .i64 x.aA,.int .i64 x.To,v]) (fun x v=>[.rd false (bF (aM .i64)) v x.l8]):=SO.mp (SO.ip (SO.ip SO.s))
instance afW:Dt um:=by
 refine Dt.mp fun x y h=>?_
 obtain ⟨_,_,_⟩:=x
 obtain ⟨_,_,_⟩:=y
 dsimp only at h
 cases h
 rfl
end Go.Proofs.YtbhhmalgcnhniaaGreat
