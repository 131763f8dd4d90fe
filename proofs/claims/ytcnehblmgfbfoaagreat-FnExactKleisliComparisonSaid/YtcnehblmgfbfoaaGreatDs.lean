/- Structs that are pointed to out of slices. No condition. -/
import Derived.Test.YtcnehblmgfbfoaaGreatDi
import Derived.Test.YtcnehblmgfbfoaaGreatMo
import Derived.Test.YtcnehblmgfbfoaaGreatDp
namespace Go.Proofs.YtcnehblmgfbfoaaGreat
open Go Go.Li Go.Dk
set_option linter.unusedVariables false
def Ki:ag aH:=vR (fun x=>(x.aD,x.aF,x.To,x.aG,x.aC)) (cn (aJ .i64) (cn (bE (aJ .i64)) (cn (bE (aJ .i64)) (cn (bE (aJ .i64)) (bE (bE (aJ .i64)))))))
instance afq:SO Ki (Value×Value×Value×Value) (fun x v=>[.int .i64 x.aD,v.1,v.2.1,v.2.2.1,v.2.2.2]) (fun x v=>[.rd false (bE (aJ .i64)) v.1 x.aF,.rd false (bE (aJ .i64)) v.2.1 x.To,.rd false (bE (aJ .i64)) v.2.2.1 x.aG,.rd false (bE (bE (aJ .i64))) v.2.2.2 x.aC]):=SO.mp (SO.ip (SO.sp (SO.sp (SO.sp SO.s))))
instance afr:Dt Ki:=by
 refine Dt.mp fun x y h=>?_
 obtain ⟨_,_,_,_,_⟩:=x
 obtain ⟨_,_,_,_,_⟩:=y
 dsimp only at h
 cases h
 rfl
def Kj:ag aS:=vR (fun x=>(x.aB.aD,x.aB.aF,x.aB.To,x.aB.aG,x.aB.aC,x.aE.aD,x.aE.aF,x.aE.To,x.aE.aG,x.aE.aC,x.aD,x.ab)) (cn (aJ .i64) (cn (bE (aJ .i64)) (cn (bE (aJ .i64)) (cn (bE (aJ .i64)) (cn (bE (bE (aJ .i64))) (cn (aJ .i64) (cn (bE (aJ .i64)) (cn (bE (aJ .i64)) (cn (bE (aJ .i64)) (cn (bE (bE (aJ .i64))) (cn (bE (aJ .i64)) (bE (aJ .i64)))))))))))))
instance afs:SO Kj (Value×Value×Value×Value×Value×Value×Value×Value×Value×Value) (fun x v=>[.int .i64 x.aB.aD,v.1,v.2.1,v.2.2.1,v.2.2.2.1,.int .i64 x.aE.aD,v.2.2.2.2.1,v.2.2.2.2.2.1,v.2.2.2.2.2.2.1,v.2.2.2.2.2.2.2.1,v.2.2.2.2.2.2.2.2.1,v.2.2.2.2.2.2.2.2.2]) (fun x v=>[.rd false (bE (aJ .i64)) v.1 x.aB.aF,.rd false (bE (aJ .i64)) v.2.1 x.aB.To,.rd false (bE (aJ .i64)) v.2.2.1 x.aB.aG,.rd false (bE (bE (aJ .i64))) v.2.2.2.1 x.aB.aC,.rd false (bE (aJ .i64)) v.2.2.2.2.1 x.aE.aF,.rd false (bE (aJ .i64)) v.2.2.2.2.2.1 x.aE.To,.rd false (bE (aJ .i64)) v.2.2.2.2.2.2.1 x.aE.aG,.rd false (bE (bE (aJ .i64))) v.2.2.2.2.2.2.2.1 x.aE.aC,.rd false (bE (aJ .i64)) v.2.2.2.2.2.2.2.2.1 x.aD,.rd false (bE (aJ .i64)) v.2.2.2.2.2.2.2.2.2 x.ab]):=SO.mp (SO.ip (SO.sp (SO.sp (SO.sp (SO.sp (SO.ip (SO.sp (SO.sp (SO.sp (SO.sp (SO.sp SO.s)))))))))))
instance afu:Dt Kj:=by
 refine Dt.mp fun x y h=>?_
 obtain ⟨⟨_,_,_,_,_⟩,⟨_,_,_,_,_⟩,_,_⟩:=x
 obtain ⟨⟨_,_,_,_,_⟩,⟨_,_,_,_,_⟩,_,_⟩:=y
 dsimp only at h
 cases h
 rfl
def rq:ag bW:=vR (fun x=>(x.X,x.H)) (cn (aJ .i64) (aJ .i64))
instance abf:SO rq (Unit) (fun x v=>[.int .i64 x.X,.int .i64 x.H]) (fun x v=>[]):=SO.mp (SO.ip SO.i)
instance abg:Dt rq:=by
 refine Dt.mp fun x y h=>?_
 obtain ⟨_,_⟩:=x
 obtain ⟨_,_⟩:=y
 dsimp only at h
 cases h
 rfl
def Gu:ag bO:=vR (fun x=>(x.aB.aB.aD,x.aB.aB.aF,x.aB.aB.To,x.aB.aB.aG,x.aB.aB.aC,x.aB.aE.aD,x.aB.aE.aF,x.aB.aE.To,x.aB.aE.aG,x.aB.aE.aC,x.aB.aD,x.aB.ab,x.aE.aB.aD,x.aE.aB.aF,x.aE.aB.To,x.aE.aB.aG,x.aE.aB.aC,x.aE.aE.aD,x.aE.aE.aF,x.aE.aE.To,x.aE.aE.aG,x.aE.aE.aC,x.aE.aD,x.aE.ab,x.bb)) (cn (aJ .i64) (cn (bE (aJ .i64)) (cn (bE (aJ .i64)) (cn (bE (aJ .i64)) (cn (bE (bE (aJ .i64))) (cn (aJ .i64) (cn (bE (aJ .i64)) (cn (bE (aJ .i64)) (cn (bE (aJ .i64)) (cn (bE (bE (aJ .i64))) (cn (bE (aJ .i64)) (cn (bE (aJ .i64)) (cn (aJ .i64) (cn (bE (aJ .i64)) (cn (bE (aJ .i64)) (cn (bE (aJ .i64)) (cn (bE (bE (aJ .i64))) (cn (aJ .i64) (cn (bE (aJ .i64)) (cn (bE (aJ .i64)) (cn (bE (aJ .i64)) (cn (bE (bE (aJ .i64))) (cn (bE (aJ .i64)) (cn (bE (aJ .i64)) (bE (aJ .i64))))))))))))))))))))))))))
instance abh:SO Gu (Value×Value×Value×Value×Value×Value×Value×Value×Value×Value×Value×Value×Value×Value×Value×Value×Value×Value×Value×Value×Value) (fun x v=>[.int .i64 x.aB.aB.aD,v.1,v.2.1,v.2.2.1,v.2.2.2.1,.int .i64 x.aB.aE.aD,v.2.2.2.2.1,v.2.2.2.2.2.1,v.2.2.2.2.2.2.1,v.2.2.2.2.2.2.2.1,v.2.2.2.2.2.2.2.2.1,v.2.2.2.2.2.2.2.2.2.1,.int .i64 x.aE.aB.aD,v.2.2.2.2.2.2.2.2.2.2.1,v.2.2.2.2.2.2.2.2.2.2.2.1,v.2.2.2.2.2.2.2.2.2.2.2.2.1,v.2.2.2.2.2.2.2.2.2.2.2.2.2.1,.int .i64 x.aE.aE.aD,v.2.2.2.2.2.2.2.2.2.2.2.2.2.2.1,v.2.2.2.2.2.2.2.2.2.2.2.2.2.2.2.1,v.2.2.2.2.2.2.2.2.2.2.2.2.2.2.2.2.1,v.2.2.2.2.2.2.2.2.2.2.2.2.2.2.2.2.2.1,v.2.2.2.2.2.2.2.2.2.2.2.2.2.2.2.2.2.2.1,v.2.2.2.2.2.2.2.2.2.2.2.2.2.2.2.2.2.2.2.1,v.2.2.2.2.2.2.2.2.2.2.2.2.2.2.2.2.2.2.2.2]) (fun x v=>[.rd false (bE (aJ .i64)) v.1 x.aB.aB.aF,.rd false (bE (aJ .i64)) v.2.1 x.aB.aB.To,.rd false (bE (aJ .i64)) v.2.2.1 x.aB.aB.aG,.rd false (bE (bE (aJ .i64))) v.2.2.2.1 x.aB.aB.aC,.rd false (bE (aJ .i64)) v.2.2.2.2.1 x.aB.aE.aF,.rd false (bE (aJ .i64)) v.2.2.2.2.2.1 x.aB.aE.To,.rd false (bE (aJ .i64)) v.2.2.2.2.2.2.1 x.aB.aE.aG,.rd false (bE (bE (aJ .i64))) v.2.2.2.2.2.2.2.1 x.aB.aE.aC,.rd false (bE (aJ .i64)) v.2.2.2.2.2.2.2.2.1 x.aB.aD,.rd false (bE (aJ .i64)) v.2.2.2.2.2.2.2.2.2.1 x.aB.ab,.rd false (bE (aJ .i64)) v.2.2.2.2.2.2.2.2.2.2.1 x.aE.aB.aF,.rd false (bE (aJ .i64)) v.2.2.2.2.2.2.2.2.2.2.2.1 x.aE.aB.To,.rd false (bE (aJ .i64)) v.2.2.2.2.2.2.2.2.2.2.2.2.1 x.aE.aB.aG,.rd false (bE (bE (aJ .i64))) v.2.2.2.2.2.2.2.2.2.2.2.2.2.1 x.aE.aB.aC,.rd false (bE (aJ .i64)) v.2.2.2.2.2.2.2.2.2.2.2.2.2.2.1 x.aE.aE.aF,.rd false (bE (aJ .i64)) v.2.2.2.2.2.2.2.2.2.2.2.2.2.2.2.1 x.aE.aE.To,.rd false (bE (aJ .i64)) v.2.2.2.2.2.2.2.2.2.2.2.2.2.2.2.2.1 x.aE.aE.aG,.rd false (bE (bE (aJ .i64))) v.2.2.2.2.2.2.2.2.2.2.2.2.2.2.2.2.2.1 x.aE.aE.aC,.rd false (bE (aJ .i64)) v.2.2.2.2.2.2.2.2.2.2.2.2.2.2.2.2.2.2.1 x.aE.aD,.rd false (bE (aJ .i64)) v.2.2.2.2.2.2.2.2.2.2.2.2.2.2.2.2.2.2.2.1 x.aE.ab,.rd false (bE (aJ .i64)) v.2.2.2.2.2.2.2.2.2.2.2.2.2.2.2.2.2.2.2.2 x.bb]):=SO.mp (SO.ip (SO.sp (SO.sp (SO.sp (SO.sp (SO.ip (SO.sp (SO.sp (SO.sp (SO.sp (SO.sp (SO.sp (SO.ip (SO.sp (SO.sp (SO.sp (SO.sp (SO.ip (SO.sp (SO.sp (SO.sp (SO.sp (SO.sp (SO.sp SO.s))))))))))))))))))))))))
instance abi:Dt Gu:=by
 refine Dt.mp fun x y h=>?_
 obtain ⟨⟨⟨_,_,_,_,_⟩,⟨_,_,_,_,_⟩,_,_⟩,⟨⟨_,_,_,_,_⟩,⟨_,_,_,_,_⟩,_,_⟩,_⟩:=x
 obtain ⟨⟨⟨_,_,_,_,_⟩,⟨_,_,_,_,_⟩,_,_⟩,⟨⟨_,_,_,_,_⟩,⟨_,_,_,_,_⟩,_,_⟩,_⟩:=y
 dsimp only at h
 cases h
 rfl
end Go.Proofs.YtcnehblmgfbfoaaGreat
