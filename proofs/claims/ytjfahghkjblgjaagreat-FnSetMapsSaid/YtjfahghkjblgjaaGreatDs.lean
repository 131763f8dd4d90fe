/- Structs that are pointed to out of slices. No condition. -/
import Derived.Test.YtjfahghkjblgjaaGreatDi
import Derived.Test.YtjfahghkjblgjaaGreatMo
import Derived.Test.YtjfahghkjblgjaaGreatDg
namespace Go.Proofs.YtjfahghkjblgjaaGreat
open Go Go.Li Go.Dk
set_option linter.unusedVariables false
def sS29:STy MSetFunctor:=sMap (fun x=>(x.Shape.Objects,x.Shape.From,x.Shape.To,x.Shape.Identity,x.Shape.Composites,x.Sizes,x.Actions)) (sPair (sInt .i64) (sPair (sImm (sInt .i64)) (sPair (sImm (sInt .i64)) (sPair (sImm (sInt .i64)) (sPair (sImm (sImm (sInt .i64))) (sPair (sImm (sInt .i64)) (sImm (sImm (sInt .i64)))))))))
instance soS29:SO sS29 (Value×Value×Value×Value×Value×Value) (fun x v=>[.int .i64 x.Shape.Objects,v.1,v.2.1,v.2.2.1,v.2.2.2.1,v.2.2.2.2.1,v.2.2.2.2.2]) (fun x v=>[.rd false (sImm (sInt .i64)) v.1 x.Shape.From,.rd false (sImm (sInt .i64)) v.2.1 x.Shape.To,.rd false (sImm (sInt .i64)) v.2.2.1 x.Shape.Identity,.rd false (sImm (sImm (sInt .i64))) v.2.2.2.1 x.Shape.Composites,.rd false (sImm (sInt .i64)) v.2.2.2.2.1 x.Sizes,.rd false (sImm (sImm (sInt .i64))) v.2.2.2.2.2 x.Actions]):=SO.mp (SO.ip (SO.sp (SO.sp (SO.sp (SO.sp (SO.sp SO.s))))))
instance dtS29:Dt sS29:=by
 refine Dt.mp fun x y h=>?_
 obtain ⟨⟨_,_,_,_,_⟩,_,_⟩:=x
 obtain ⟨⟨_,_,_,_,_⟩,_,_⟩:=y
 dsimp only at h
 cases h
 rfl
def sS31:STy MSetMap:=sMap (fun x=>(x.Source.Shape.Objects,x.Source.Shape.From,x.Source.Shape.To,x.Source.Shape.Identity,x.Source.Shape.Composites,x.Source.Sizes,x.Source.Actions,x.Target.Shape.Objects,x.Target.Shape.From,x.Target.Shape.To,x.Target.Shape.Identity,x.Target.Shape.Composites,x.Target.Sizes,x.Target.Actions,x.Parts)) (sPair (sInt .i64) (sPair (sImm (sInt .i64)) (sPair (sImm (sInt .i64)) (sPair (sImm (sInt .i64)) (sPair (sImm (sImm (sInt .i64))) (sPair (sImm (sInt .i64)) (sPair (sImm (sImm (sInt .i64))) (sPair (sInt .i64) (sPair (sImm (sInt .i64)) (sPair (sImm (sInt .i64)) (sPair (sImm (sInt .i64)) (sPair (sImm (sImm (sInt .i64))) (sPair (sImm (sInt .i64)) (sPair (sImm (sImm (sInt .i64))) (sImm (sImm (sInt .i64)))))))))))))))))
instance soS31:SO sS31 (Value×Value×Value×Value×Value×Value×Value×Value×Value×Value×Value×Value×Value) (fun x v=>[.int .i64 x.Source.Shape.Objects,v.1,v.2.1,v.2.2.1,v.2.2.2.1,v.2.2.2.2.1,v.2.2.2.2.2.1,.int .i64 x.Target.Shape.Objects,v.2.2.2.2.2.2.1,v.2.2.2.2.2.2.2.1,v.2.2.2.2.2.2.2.2.1,v.2.2.2.2.2.2.2.2.2.1,v.2.2.2.2.2.2.2.2.2.2.1,v.2.2.2.2.2.2.2.2.2.2.2.1,v.2.2.2.2.2.2.2.2.2.2.2.2]) (fun x v=>[.rd false (sImm (sInt .i64)) v.1 x.Source.Shape.From,.rd false (sImm (sInt .i64)) v.2.1 x.Source.Shape.To,.rd false (sImm (sInt .i64)) v.2.2.1 x.Source.Shape.Identity,.rd false (sImm (sImm (sInt .i64))) v.2.2.2.1 x.Source.Shape.Composites,.rd false (sImm (sInt .i64)) v.2.2.2.2.1 x.Source.Sizes,.rd false (sImm (sImm (sInt .i64))) v.2.2.2.2.2.1 x.Source.Actions,.rd false (sImm (sInt .i64)) v.2.2.2.2.2.2.1 x.Target.Shape.From,.rd false (sImm (sInt .i64)) v.2.2.2.2.2.2.2.1 x.Target.Shape.To,.rd false (sImm (sInt .i64)) v.2.2.2.2.2.2.2.2.1 x.Target.Shape.Identity,.rd false (sImm (sImm (sInt .i64))) v.2.2.2.2.2.2.2.2.2.1 x.Target.Shape.Composites,.rd false (sImm (sInt .i64)) v.2.2.2.2.2.2.2.2.2.2.1 x.Target.Sizes,.rd false (sImm (sImm (sInt .i64))) v.2.2.2.2.2.2.2.2.2.2.2.1 x.Target.Actions,.rd false (sImm (sImm (sInt .i64))) v.2.2.2.2.2.2.2.2.2.2.2.2 x.Parts]):=SO.mp (SO.ip (SO.sp (SO.sp (SO.sp (SO.sp (SO.sp (SO.sp (SO.ip (SO.sp (SO.sp (SO.sp (SO.sp (SO.sp (SO.sp SO.s))))))))))))))
instance dtS31:Dt sS31:=by
 refine Dt.mp fun x y h=>?_
 obtain ⟨⟨⟨_,_,_,_,_⟩,_,_⟩,⟨⟨_,_,_,_,_⟩,_,_⟩,_⟩:=x
 obtain ⟨⟨⟨_,_,_,_,_⟩,_,_⟩,⟨⟨_,_,_,_,_⟩,_,_⟩,_⟩:=y
 dsimp only at h
 cases h
 rfl
def sS129:STy ML03Path:=sMap (fun x=>(x.From,x.To,x.Edges)) (sPair (sInt .i64) (sPair (sInt .i64) (sImm (sInt .i64))))
instance soS129:SO sS129 (Value) (fun x v=>[.int .i64 x.From,.int .i64 x.To,v]) (fun x v=>[.rd false (sImm (sInt .i64)) v x.Edges]):=SO.mp (SO.ip (SO.ip SO.s))
instance dtS129:Dt sS129:=by
 refine Dt.mp fun x y h=>?_
 obtain ⟨_,_,_⟩:=x
 obtain ⟨_,_,_⟩:=y
 dsimp only at h
 cases h
 rfl
end Go.Proofs.YtjfahghkjblgjaaGreat
