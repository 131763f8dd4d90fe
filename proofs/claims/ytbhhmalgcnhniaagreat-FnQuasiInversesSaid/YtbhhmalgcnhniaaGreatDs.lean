/- Structs that are pointed to out of slices. No condition. -/
import Derived.Test.YtbhhmalgcnhniaaGreatDi
import Derived.Test.YtbhhmalgcnhniaaGreatMo
import Derived.Test.YtbhhmalgcnhniaaGreatDp
namespace Go.Proofs.YtbhhmalgcnhniaaGreat
open Go Go.Li Go.Dk
set_option linter.unusedVariables false
def Oi:ai aG:=yg (fun x=>(x.aA,x.aF,x.To,x.aH,x.aC)) (cj (aK .i64) (cj (bG (aK .i64)) (cj (bG (aK .i64)) (cj (bG (aK .i64)) (bG (bG (aK .i64)))))))
instance ak9:SO Oi (Value×Value×Value×Value) (fun x v=>[.int .i64 x.aA,v.1,v.2.1,v.2.2.1,v.2.2.2]) (fun x v=>[.rd false (bG (aK .i64)) v.1 x.aF,.rd false (bG (aK .i64)) v.2.1 x.To,.rd false (bG (aK .i64)) v.2.2.1 x.aH,.rd false (bG (bG (aK .i64))) v.2.2.2 x.aC]):=SO.mp (SO.ip (SO.sp (SO.sp (SO.sp SO.s))))
instance ala:Dt Oi:=by
 refine Dt.mp fun x y h=>?_
 obtain ⟨_,_,_,_,_⟩:=x
 obtain ⟨_,_,_,_,_⟩:=y
 dsimp only at h
 cases h
 rfl
def GV:ai aJ:=yg (fun x=>(x.aD.aA,x.aD.aF,x.aD.To,x.aD.aH,x.aD.aC,x.aB.aA,x.aB.aF,x.aB.To,x.aB.aH,x.aB.aC,x.aA,x.ab)) (cj (aK .i64) (cj (bG (aK .i64)) (cj (bG (aK .i64)) (cj (bG (aK .i64)) (cj (bG (bG (aK .i64))) (cj (aK .i64) (cj (bG (aK .i64)) (cj (bG (aK .i64)) (cj (bG (aK .i64)) (cj (bG (bG (aK .i64))) (cj (bG (aK .i64)) (bG (aK .i64)))))))))))))
instance ald:SO GV (Value×Value×Value×Value×Value×Value×Value×Value×Value×Value) (fun x v=>[.int .i64 x.aD.aA,v.1,v.2.1,v.2.2.1,v.2.2.2.1,.int .i64 x.aB.aA,v.2.2.2.2.1,v.2.2.2.2.2.1,v.2.2.2.2.2.2.1,v.2.2.2.2.2.2.2.1,v.2.2.2.2.2.2.2.2.1,v.2.2.2.2.2.2.2.2.2]) (fun x v=>[.rd false (bG (aK .i64)) v.1 x.aD.aF,.rd false (bG (aK .i64)) v.2.1 x.aD.To,.rd false (bG (aK .i64)) v.2.2.1 x.aD.aH,.rd false (bG (bG (aK .i64))) v.2.2.2.1 x.aD.aC,.rd false (bG (aK .i64)) v.2.2.2.2.1 x.aB.aF,.rd false (bG (aK .i64)) v.2.2.2.2.2.1 x.aB.To,.rd false (bG (aK .i64)) v.2.2.2.2.2.2.1 x.aB.aH,.rd false (bG (bG (aK .i64))) v.2.2.2.2.2.2.2.1 x.aB.aC,.rd false (bG (aK .i64)) v.2.2.2.2.2.2.2.2.1 x.aA,.rd false (bG (aK .i64)) v.2.2.2.2.2.2.2.2.2 x.ab]):=SO.mp (SO.ip (SO.sp (SO.sp (SO.sp (SO.sp (SO.ip (SO.sp (SO.sp (SO.sp (SO.sp (SO.sp SO.s)))))))))))
instance ale:Dt GV:=by
 refine Dt.mp fun x y h=>?_
 obtain ⟨⟨_,_,_,_,_⟩,⟨_,_,_,_,_⟩,_,_⟩:=x
 obtain ⟨⟨_,_,_,_,_⟩,⟨_,_,_,_,_⟩,_,_⟩:=y
 dsimp only at h
 cases h
 rfl
def tj:ai aJ:=yg (fun x=>(x.aD.aA,x.aD.aF,x.aD.To,x.aD.aH,x.aD.aC,x.aB.aA,x.aB.aF,x.aB.To,x.aB.aH,x.aB.aC,x.aA,x.ab)) (cj (aK .i64) (cj (aI 2 (aK .i64)) (cj (aI 2 (aK .i64)) (cj (aI 2 (aK .i64)) (cj (aI 22 (aI 2 (aK .i64))) (cj (aK .i64) (cj (aI 2 (aK .i64)) (cj (aI 2 (aK .i64)) (cj (aI 2 (aK .i64)) (cj (aI 22 (aI 2 (aK .i64))) (cj (aI 2 (aK .i64)) (aI 2 (aK .i64)))))))))))))
instance alf:o6 tj (Value×Value×Value×Value×Value×Value×Value×Value×Value×Value) (fun x v=>[.int .i64 x.aD.aA,v.1,v.2.1,v.2.2.1,v.2.2.2.1,.int .i64 x.aB.aA,v.2.2.2.2.1,v.2.2.2.2.2.1,v.2.2.2.2.2.2.1,v.2.2.2.2.2.2.2.1,v.2.2.2.2.2.2.2.2.1,v.2.2.2.2.2.2.2.2.2]) (fun x v=>[.own (aI 2 (aK .i64)) v.1 x.aD.aF,.own (aI 2 (aK .i64)) v.2.1 x.aD.To,.own (aI 2 (aK .i64)) v.2.2.1 x.aD.aH,.own (aI 22 (aI 2 (aK .i64))) v.2.2.2.1 x.aD.aC,.own (aI 2 (aK .i64)) v.2.2.2.2.1 x.aB.aF,.own (aI 2 (aK .i64)) v.2.2.2.2.2.1 x.aB.To,.own (aI 2 (aK .i64)) v.2.2.2.2.2.2.1 x.aB.aH,.own (aI 22 (aI 2 (aK .i64))) v.2.2.2.2.2.2.2.1 x.aB.aC,.own (aI 2 (aK .i64)) v.2.2.2.2.2.2.2.2.1 x.aA,.own (aI 2 (aK .i64)) v.2.2.2.2.2.2.2.2.2 x.ab]):=o6.mp (o6.ip (o6.sp (o6.sp (o6.sp (o6.sp (o6.ip (o6.sp (o6.sp (o6.sp (o6.sp (o6.sp o6.s)))))))))))
instance alg:XO tj GV:=⟨Le.map (Le.pair (Le.refl _) (Le.pair (Le.own (Le.refl _) 2) (Le.pair (Le.own (Le.refl _) 2) (Le.pair (Le.own (Le.refl _) 2) (Le.pair (Le.own (Le.own (Le.refl _) 2) 22) (Le.pair (Le.refl _) (Le.pair (Le.own (Le.refl _) 2) (Le.pair (Le.own (Le.refl _) 2) (Le.pair (Le.own (Le.refl _) 2) (Le.pair (Le.own (Le.own (Le.refl _) 2) 22) (Le.pair (Le.own (Le.refl _) 2) (Le.own (Le.refl _) 2)))))))))))),inferInstance⟩
def Oj:ai bE:=yg (fun x=>(x.aD.aD.aA,x.aD.aD.aF,x.aD.aD.To,x.aD.aD.aH,x.aD.aD.aC,x.aD.aB.aA,x.aD.aB.aF,x.aD.aB.To,x.aD.aB.aH,x.aD.aB.aC,x.aD.aA,x.aD.ab,x.aB.aD.aA,x.aB.aD.aF,x.aB.aD.To,x.aB.aD.aH,x.aB.aD.aC,x.aB.aB.aA,x.aB.aB.aF,x.aB.aB.To,x.aB.aB.aH,x.aB.aB.aC,x.aB.aA,x.aB.ab,x.ba)) (cj (aK .i64) (cj (bG (aK .i64)) (cj (bG (aK .i64)) (cj (bG (aK .i64)) (cj (bG (bG (aK .i64))) (cj (aK .i64) (cj (bG (aK .i64)) (cj (bG (aK .i64)) (cj (bG (aK .i64)) (cj (bG (bG (aK .i64))) (cj (bG (aK .i64)) (cj (bG (aK .i64)) (cj (aK .i64) (cj (bG (aK .i64)) (cj (bG (aK .i64)) (cj (bG (aK .i64)) (cj (bG (bG (aK .i64))) (cj (aK .i64) (cj (bG (aK .i64)) (cj (bG (aK .i64)) (cj (bG (aK .i64)) (cj (bG (bG (aK .i64))) (cj (bG (aK .i64)) (cj (bG (aK .i64)) (bG (aK .i64))))))))))))))))))))))))))
instance alh:SO Oj (Value×Value×Value×Value×Value×Value×Value×Value×Value×Value×Value×Value×Value×Value×Value×Value×Value×Value×Value×Value×Value) (fun x v=>[.int .i64 x.aD.aD.aA,v.1,v.2.1,v.2.2.1,v.2.2.2.1,.int .i64 x.aD.aB.aA,v.2.2.2.2.1,v.2.2.2.2.2.1,v.2.2.2.2.2.2.1,v.2.2.2.2.2.2.2.1,v.2.2.2.2.2.2.2.2.1,v.2.2.2.2.2.2.2.2.2.1,.int .i64 x.aB.aD.aA,v.2.2.2.2.2.2.2.2.2.2.1,v.2.2.2.2.2.2.2.2.2.2.2.1,v.2.2.2.2.2.2.2.2.2.2.2.2.1,v.2.2.2.2.2.2.2.2.2.2.2.2.2.1,.int .i64 x.aB.aB.aA,v.2.2.2.2.2.2.2.2.2.2.2.2.2.2.1,v.2.2.2.2.2.2.2.2.2.2.2.2.2.2.2.1,v.2.2.2.2.2.2.2.2.2.2.2.2.2.2.2.2.1,v.2.2.2.2.2.2.2.2.2.2.2.2.2.2.2.2.2.1,v.2.2.2.2.2.2.2.2.2.2.2.2.2.2.2.2.2.2.1,v.2.2.2.2.2.2.2.2.2.2.2.2.2.2.2.2.2.2.2.1,v.2.2.2.2.2.2.2.2.2.2.2.2.2.2.2.2.2.2.2.2]) (fun x v=>[.rd false (bG (aK .i64)) v.1 x.aD.aD.aF,.rd false (bG (aK .i64)) v.2.1 x.aD.aD.To,.rd false (bG (aK .i64)) v.2.2.1 x.aD.aD.aH,.rd false (bG (bG (aK .i64))) v.2.2.2.1 x.aD.aD.aC,.rd false (bG (aK .i64)) v.2.2.2.2.1 x.aD.aB.aF,.rd false (bG (aK .i64)) v.2.2.2.2.2.1 x.aD.aB.To,.rd false (bG (aK .i64)) v.2.2.2.2.2.2.1 x.aD.aB.aH,.rd false (bG (bG (aK .i64))) v.2.2.2.2.2.2.2.1 x.aD.aB.aC,.rd false (bG (aK .i64)) v.2.2.2.2.2.2.2.2.1 x.aD.aA,.rd false (bG (aK .i64)) v.2.2.2.2.2.2.2.2.2.1 x.aD.ab,.rd false (bG (aK .i64)) v.2.2.2.2.2.2.2.2.2.2.1 x.aB.aD.aF,.rd false (bG (aK .i64)) v.2.2.2.2.2.2.2.2.2.2.2.1 x.aB.aD.To,.rd false (bG (aK .i64)) v.2.2.2.2.2.2.2.2.2.2.2.2.1 x.aB.aD.aH,.rd false (bG (bG (aK .i64))) v.2.2.2.2.2.2.2.2.2.2.2.2.2.1 x.aB.aD.aC,.rd false (bG (aK .i64)) v.2.2.2.2.2.2.2.2.2.2.2.2.2.2.1 x.aB.aB.aF,.rd false (bG (aK .i64)) v.2.2.2.2.2.2.2.2.2.2.2.2.2.2.2.1 x.aB.aB.To,.rd false (bG (aK .i64)) v.2.2.2.2.2.2.2.2.2.2.2.2.2.2.2.2.1 x.aB.aB.aH,.rd false (bG (bG (aK .i64))) v.2.2.2.2.2.2.2.2.2.2.2.2.2.2.2.2.2.1 x.aB.aB.aC,.rd false (bG (aK .i64)) v.2.2.2.2.2.2.2.2.2.2.2.2.2.2.2.2.2.2.1 x.aB.aA,.rd false (bG (aK .i64)) v.2.2.2.2.2.2.2.2.2.2.2.2.2.2.2.2.2.2.2.1 x.aB.ab,.rd false (bG (aK .i64)) v.2.2.2.2.2.2.2.2.2.2.2.2.2.2.2.2.2.2.2.2 x.ba]):=SO.mp (SO.ip (SO.sp (SO.sp (SO.sp (SO.sp (SO.ip (SO.sp (SO.sp (SO.sp (SO.sp (SO.sp (SO.sp (SO.ip (SO.sp (SO.sp (SO.sp (SO.sp (SO.ip (SO.sp (SO.sp (SO.sp (SO.sp (SO.sp (SO.sp SO.s))))))))))))))))))))))))
instance ali:Dt Oj:=by
 refine Dt.mp fun x y h=>?_
 obtain ⟨⟨⟨_,_,_,_,_⟩,⟨_,_,_,_,_⟩,_,_⟩,⟨⟨_,_,_,_,_⟩,⟨_,_,_,_,_⟩,_,_⟩,_⟩:=x
 obtain ⟨⟨⟨_,_,_,_,_⟩,⟨_,_,_,_,_⟩,_,_⟩,⟨⟨_,_,_,_,_⟩,⟨_,_,_,_,_⟩,_,_⟩,_⟩:=y
 dsimp only at h
 cases h
 rfl
def vw:ai bH:=yg (fun x=>(x.aF,x.To,x.kq)) (cj (aK .i64) (cj (aK .i64) (bG (aK .i64))))
instance agz:SO vw (Value) (fun x v=>[.int .i64 x.aF,.int .i64 x.To,v]) (fun x v=>[.rd false (bG (aK .i64)) v x.kq]):=SO.mp (SO.ip (SO.ip SO.s))
instance agA:Dt vw:=by
 refine Dt.mp fun x y h=>?_
 obtain ⟨_,_,_⟩:=x
 obtain ⟨_,_,_⟩:=y
 dsimp only at h
 cases h
 rfl
end Go.Proofs.YtbhhmalgcnhniaaGreat
