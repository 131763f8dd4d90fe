/- Structs that are pointed to out of slices. No condition. -/
import Derived.Test.YtgjbmjjihmfppaaGreatDi
import Derived.Test.YtgjbmjjihmfppaaGreatMo
import Derived.Test.YtgjbmjjihmfppaaGreatDp
namespace Go.Proofs.YtgjbmjjihmfppaaGreat
open Go Go.Li Go.Dk
set_option linter.unusedVariables false
def O2:ah aI:=xd (fun x=>(x.aA,x.aF,x.To,x.aJ,x.aD)) (fx (aC .i64) (fx (aB (aC .i64)) (fx (aB (aC .i64)) (fx (aB (aC .i64)) (aB (aB (aC .i64)))))))
instance akz:SO O2 (Value×Value×Value×Value) (fun x v=>[.int .i64 x.aA,v.1,v.2.1,v.2.2.1,v.2.2.2]) (fun x v=>[.rd false (aB (aC .i64)) v.1 x.aF,.rd false (aB (aC .i64)) v.2.1 x.To,.rd false (aB (aC .i64)) v.2.2.1 x.aJ,.rd false (aB (aB (aC .i64))) v.2.2.2 x.aD]):=SO.mp (SO.ip (SO.sp (SO.sp (SO.sp SO.s))))
instance akA:Dt O2:=by
 refine Dt.mp fun x y h=>?_
 obtain ⟨_,_,_,_,_⟩:=x
 obtain ⟨_,_,_,_,_⟩:=y
 dsimp only at h
 cases h
 rfl
def Ht:ah aM:=xd (fun x=>(x.aE.aA,x.aE.aF,x.aE.To,x.aE.aJ,x.aE.aD,x.aH.aA,x.aH.aF,x.aH.To,x.aH.aJ,x.aH.aD,x.aA,x.ab)) (fx (aC .i64) (fx (aB (aC .i64)) (fx (aB (aC .i64)) (fx (aB (aC .i64)) (fx (aB (aB (aC .i64))) (fx (aC .i64) (fx (aB (aC .i64)) (fx (aB (aC .i64)) (fx (aB (aC .i64)) (fx (aB (aB (aC .i64))) (fx (aB (aC .i64)) (aB (aC .i64)))))))))))))
instance akB:SO Ht (Value×Value×Value×Value×Value×Value×Value×Value×Value×Value) (fun x v=>[.int .i64 x.aE.aA,v.1,v.2.1,v.2.2.1,v.2.2.2.1,.int .i64 x.aH.aA,v.2.2.2.2.1,v.2.2.2.2.2.1,v.2.2.2.2.2.2.1,v.2.2.2.2.2.2.2.1,v.2.2.2.2.2.2.2.2.1,v.2.2.2.2.2.2.2.2.2]) (fun x v=>[.rd false (aB (aC .i64)) v.1 x.aE.aF,.rd false (aB (aC .i64)) v.2.1 x.aE.To,.rd false (aB (aC .i64)) v.2.2.1 x.aE.aJ,.rd false (aB (aB (aC .i64))) v.2.2.2.1 x.aE.aD,.rd false (aB (aC .i64)) v.2.2.2.2.1 x.aH.aF,.rd false (aB (aC .i64)) v.2.2.2.2.2.1 x.aH.To,.rd false (aB (aC .i64)) v.2.2.2.2.2.2.1 x.aH.aJ,.rd false (aB (aB (aC .i64))) v.2.2.2.2.2.2.2.1 x.aH.aD,.rd false (aB (aC .i64)) v.2.2.2.2.2.2.2.2.1 x.aA,.rd false (aB (aC .i64)) v.2.2.2.2.2.2.2.2.2 x.ab]):=SO.mp (SO.ip (SO.sp (SO.sp (SO.sp (SO.sp (SO.ip (SO.sp (SO.sp (SO.sp (SO.sp (SO.sp SO.s)))))))))))
instance akC:Dt Ht:=by
 refine Dt.mp fun x y h=>?_
 obtain ⟨⟨_,_,_,_,_⟩,⟨_,_,_,_,_⟩,_,_⟩:=x
 obtain ⟨⟨_,_,_,_,_⟩,⟨_,_,_,_,_⟩,_,_⟩:=y
 dsimp only at h
 cases h
 rfl
def tM:ah aM:=xd (fun x=>(x.aE.aA,x.aE.aF,x.aE.To,x.aE.aJ,x.aE.aD,x.aH.aA,x.aH.aF,x.aH.To,x.aH.aJ,x.aH.aD,x.aA,x.ab)) (fx (aC .i64) (fx (aL 2 (aC .i64)) (fx (aL 2 (aC .i64)) (fx (aL 2 (aC .i64)) (fx (aL 24 (aL 2 (aC .i64))) (fx (aC .i64) (fx (aL 2 (aC .i64)) (fx (aL 2 (aC .i64)) (fx (aL 2 (aC .i64)) (fx (aL 24 (aL 2 (aC .i64))) (fx (aL 2 (aC .i64)) (aL 2 (aC .i64)))))))))))))
instance akD:nh tM (Value×Value×Value×Value×Value×Value×Value×Value×Value×Value) (fun x v=>[.int .i64 x.aE.aA,v.1,v.2.1,v.2.2.1,v.2.2.2.1,.int .i64 x.aH.aA,v.2.2.2.2.1,v.2.2.2.2.2.1,v.2.2.2.2.2.2.1,v.2.2.2.2.2.2.2.1,v.2.2.2.2.2.2.2.2.1,v.2.2.2.2.2.2.2.2.2]) (fun x v=>[.own (aL 2 (aC .i64)) v.1 x.aE.aF,.own (aL 2 (aC .i64)) v.2.1 x.aE.To,.own (aL 2 (aC .i64)) v.2.2.1 x.aE.aJ,.own (aL 24 (aL 2 (aC .i64))) v.2.2.2.1 x.aE.aD,.own (aL 2 (aC .i64)) v.2.2.2.2.1 x.aH.aF,.own (aL 2 (aC .i64)) v.2.2.2.2.2.1 x.aH.To,.own (aL 2 (aC .i64)) v.2.2.2.2.2.2.1 x.aH.aJ,.own (aL 24 (aL 2 (aC .i64))) v.2.2.2.2.2.2.2.1 x.aH.aD,.own (aL 2 (aC .i64)) v.2.2.2.2.2.2.2.2.1 x.aA,.own (aL 2 (aC .i64)) v.2.2.2.2.2.2.2.2.2 x.ab]):=nh.mp (nh.ip (nh.sp (nh.sp (nh.sp (nh.sp (nh.ip (nh.sp (nh.sp (nh.sp (nh.sp (nh.sp nh.s)))))))))))
instance akE:Ti tM Ht:=⟨Le.map (Le.pair (Le.refl _) (Le.pair (Le.own (Le.refl _) 2) (Le.pair (Le.own (Le.refl _) 2) (Le.pair (Le.own (Le.refl _) 2) (Le.pair (Le.own (Le.own (Le.refl _) 2) 24) (Le.pair (Le.refl _) (Le.pair (Le.own (Le.refl _) 2) (Le.pair (Le.own (Le.refl _) 2) (Le.pair (Le.own (Le.refl _) 2) (Le.pair (Le.own (Le.own (Le.refl _) 2) 24) (Le.pair (Le.own (Le.refl _) 2) (Le.own (Le.refl _) 2)))))))))))),inferInstance⟩
def kz:ah bE:=xd (fun x=>(x.fv,x.bw)) (fx (aC .i64) (aB (aC .i64)))
instance akF:SO kz (Value) (fun x v=>[.int .i64 x.fv,v]) (fun x v=>[.rd false (aB (aC .i64)) v x.bw]):=SO.mp (SO.ip SO.s)
instance akG:Dt kz:=by
 refine Dt.mp fun x y h=>?_
 obtain ⟨_,_⟩:=x
 obtain ⟨_,_⟩:=y
 dsimp only at h
 cases h
 rfl
def qt:ah bE:=xd (fun x=>(x.fv,x.bw)) (fx (aC .i64) (aL 2 (aC .i64)))
instance akH:nh qt (Value) (fun x v=>[.int .i64 x.fv,v]) (fun x v=>[.own (aL 2 (aC .i64)) v x.bw]):=nh.mp (nh.ip nh.s)
instance akI:Ti qt kz:=⟨Le.map (Le.pair (Le.refl _) (Le.own (Le.refl _) 2)),inferInstance⟩
def vC:ah bP:=xd (fun x=>(x.aF,x.To,x.lq)) (fx (aC .i64) (fx (aC .i64) (aB (aC .i64))))
instance agz:SO vC (Value) (fun x v=>[.int .i64 x.aF,.int .i64 x.To,v]) (fun x v=>[.rd false (aB (aC .i64)) v x.lq]):=SO.mp (SO.ip (SO.ip SO.s))
instance agA:Dt vC:=by
 refine Dt.mp fun x y h=>?_
 obtain ⟨_,_,_⟩:=x
 obtain ⟨_,_,_⟩:=y
 dsimp only at h
 cases h
 rfl
end Go.Proofs.YtgjbmjjihmfppaaGreat
