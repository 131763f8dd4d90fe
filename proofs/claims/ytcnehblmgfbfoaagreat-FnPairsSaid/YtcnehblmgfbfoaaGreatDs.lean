/- Structs that are pointed to out of slices. No condition. -/
import Derived.Test.YtcnehblmgfbfoaaGreatDi
import Derived.Test.YtcnehblmgfbfoaaGreatMo
import Derived.Test.YtcnehblmgfbfoaaGreatDp
namespace Go.Proofs.YtcnehblmgfbfoaaGreat
open Go Go.Li Go.Dk
set_option linter.unusedVariables false
def My:ag aD:=xI (fun x=>(x.aA,x.aB,x.To,x.aF,x.aC)) (fj (aL .i64) (fj (bE (aL .i64)) (fj (bE (aL .i64)) (fj (bE (aL .i64)) (bE (bE (aL .i64)))))))
instance ag6:SO My (Value×Value×Value×Value) (fun x v=>[.int .i64 x.aA,v.1,v.2.1,v.2.2.1,v.2.2.2]) (fun x v=>[.rd false (bE (aL .i64)) v.1 x.aB,.rd false (bE (aL .i64)) v.2.1 x.To,.rd false (bE (aL .i64)) v.2.2.1 x.aF,.rd false (bE (bE (aL .i64))) v.2.2.2 x.aC]):=SO.mp (SO.ip (SO.sp (SO.sp (SO.sp SO.s))))
instance ag7:Dt My:=by
 refine Dt.mp fun x y h=>?_
 obtain ⟨_,_,_,_,_⟩:=x
 obtain ⟨_,_,_,_,_⟩:=y
 dsimp only at h
 cases h
 rfl
def C3:ag aN:=xI (fun x=>(x.aG.aA,x.aG.aB,x.aG.To,x.aG.aF,x.aG.aC,x.aH.aA,x.aH.aB,x.aH.To,x.aH.aF,x.aH.aC,x.aA,x.ae)) (fj (aL .i64) (fj (bE (aL .i64)) (fj (bE (aL .i64)) (fj (bE (aL .i64)) (fj (bE (bE (aL .i64))) (fj (aL .i64) (fj (bE (aL .i64)) (fj (bE (aL .i64)) (fj (bE (aL .i64)) (fj (bE (bE (aL .i64))) (fj (bE (aL .i64)) (bE (aL .i64)))))))))))))
instance ag8:SO C3 (Value×Value×Value×Value×Value×Value×Value×Value×Value×Value) (fun x v=>[.int .i64 x.aG.aA,v.1,v.2.1,v.2.2.1,v.2.2.2.1,.int .i64 x.aH.aA,v.2.2.2.2.1,v.2.2.2.2.2.1,v.2.2.2.2.2.2.1,v.2.2.2.2.2.2.2.1,v.2.2.2.2.2.2.2.2.1,v.2.2.2.2.2.2.2.2.2]) (fun x v=>[.rd false (bE (aL .i64)) v.1 x.aG.aB,.rd false (bE (aL .i64)) v.2.1 x.aG.To,.rd false (bE (aL .i64)) v.2.2.1 x.aG.aF,.rd false (bE (bE (aL .i64))) v.2.2.2.1 x.aG.aC,.rd false (bE (aL .i64)) v.2.2.2.2.1 x.aH.aB,.rd false (bE (aL .i64)) v.2.2.2.2.2.1 x.aH.To,.rd false (bE (aL .i64)) v.2.2.2.2.2.2.1 x.aH.aF,.rd false (bE (bE (aL .i64))) v.2.2.2.2.2.2.2.1 x.aH.aC,.rd false (bE (aL .i64)) v.2.2.2.2.2.2.2.2.1 x.aA,.rd false (bE (aL .i64)) v.2.2.2.2.2.2.2.2.2 x.ae]):=SO.mp (SO.ip (SO.sp (SO.sp (SO.sp (SO.sp (SO.ip (SO.sp (SO.sp (SO.sp (SO.sp (SO.sp SO.s)))))))))))
instance ag9:Dt C3:=by
 refine Dt.mp fun x y h=>?_
 obtain ⟨⟨_,_,_,_,_⟩,⟨_,_,_,_,_⟩,_,_⟩:=x
 obtain ⟨⟨_,_,_,_,_⟩,⟨_,_,_,_,_⟩,_,_⟩:=y
 dsimp only at h
 cases h
 rfl
def rh:ag aN:=xI (fun x=>(x.aG.aA,x.aG.aB,x.aG.To,x.aG.aF,x.aG.aC,x.aH.aA,x.aH.aB,x.aH.To,x.aH.aF,x.aH.aC,x.aA,x.ae)) (fj (aL .i64) (fj (aI 2 (aL .i64)) (fj (aI 2 (aL .i64)) (fj (aI 2 (aL .i64)) (fj (aI 22 (aI 2 (aL .i64))) (fj (aL .i64) (fj (aI 2 (aL .i64)) (fj (aI 2 (aL .i64)) (fj (aI 2 (aL .i64)) (fj (aI 22 (aI 2 (aL .i64))) (fj (aI 2 (aL .i64)) (aI 2 (aL .i64)))))))))))))
instance aha:oh rh (Value×Value×Value×Value×Value×Value×Value×Value×Value×Value) (fun x v=>[.int .i64 x.aG.aA,v.1,v.2.1,v.2.2.1,v.2.2.2.1,.int .i64 x.aH.aA,v.2.2.2.2.1,v.2.2.2.2.2.1,v.2.2.2.2.2.2.1,v.2.2.2.2.2.2.2.1,v.2.2.2.2.2.2.2.2.1,v.2.2.2.2.2.2.2.2.2]) (fun x v=>[.own (aI 2 (aL .i64)) v.1 x.aG.aB,.own (aI 2 (aL .i64)) v.2.1 x.aG.To,.own (aI 2 (aL .i64)) v.2.2.1 x.aG.aF,.own (aI 22 (aI 2 (aL .i64))) v.2.2.2.1 x.aG.aC,.own (aI 2 (aL .i64)) v.2.2.2.2.1 x.aH.aB,.own (aI 2 (aL .i64)) v.2.2.2.2.2.1 x.aH.To,.own (aI 2 (aL .i64)) v.2.2.2.2.2.2.1 x.aH.aF,.own (aI 22 (aI 2 (aL .i64))) v.2.2.2.2.2.2.2.1 x.aH.aC,.own (aI 2 (aL .i64)) v.2.2.2.2.2.2.2.2.1 x.aA,.own (aI 2 (aL .i64)) v.2.2.2.2.2.2.2.2.2 x.ae]):=oh.mp (oh.ip (oh.sp (oh.sp (oh.sp (oh.sp (oh.ip (oh.sp (oh.sp (oh.sp (oh.sp (oh.sp oh.s)))))))))))
instance ahb:Vw rh C3:=⟨Le.map (Le.pair (Le.refl _) (Le.pair (Le.own (Le.refl _) 2) (Le.pair (Le.own (Le.refl _) 2) (Le.pair (Le.own (Le.refl _) 2) (Le.pair (Le.own (Le.own (Le.refl _) 2) 22) (Le.pair (Le.refl _) (Le.pair (Le.own (Le.refl _) 2) (Le.pair (Le.own (Le.refl _) 2) (Le.pair (Le.own (Le.refl _) 2) (Le.pair (Le.own (Le.own (Le.refl _) 2) 22) (Le.pair (Le.own (Le.refl _) 2) (Le.own (Le.refl _) 2)))))))))))),inferInstance⟩
def tC:ag bA:=xI (fun x=>(x.aB,x.To,x.ko)) (fj (aL .i64) (fj (aL .i64) (bE (aL .i64))))
instance adm:SO tC (Value) (fun x v=>[.int .i64 x.aB,.int .i64 x.To,v]) (fun x v=>[.rd false (bE (aL .i64)) v x.ko]):=SO.mp (SO.ip (SO.ip SO.s))
instance adn:Dt tC:=by
 refine Dt.mp fun x y h=>?_
 obtain ⟨_,_,_⟩:=x
 obtain ⟨_,_,_⟩:=y
 dsimp only at h
 cases h
 rfl
end Go.Proofs.YtcnehblmgfbfoaaGreat
