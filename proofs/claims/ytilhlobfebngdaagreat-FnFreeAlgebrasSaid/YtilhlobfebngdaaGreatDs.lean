/- Structs that are pointed to out of slices. No condition. -/
import Derived.Test.YtilhlobfebngdaaGreatDi
import Derived.Test.YtilhlobfebngdaaGreatMo
import Derived.Test.YtilhlobfebngdaaGreatDp
namespace Go.Proofs.YtilhlobfebngdaaGreat
open Go Go.Li Go.Dk
set_option linter.unusedVariables false
def Qu:an aI:=xH (fun x=>(x.aA,x.aG,x.To,x.aJ,x.aE)) (bo (aN .i64) (bo (bH (aN .i64)) (bo (bH (aN .i64)) (bo (bH (aN .i64)) (bH (bH (aN .i64)))))))
instance anw:SO Qu (Value×Value×Value×Value) (fun x v=>[.int .i64 x.aA,v.1,v.2.1,v.2.2.1,v.2.2.2]) (fun x v=>[.rd false (bH (aN .i64)) v.1 x.aG,.rd false (bH (aN .i64)) v.2.1 x.To,.rd false (bH (aN .i64)) v.2.2.1 x.aJ,.rd false (bH (bH (aN .i64))) v.2.2.2 x.aE]):=SO.mp (SO.ip (SO.sp (SO.sp (SO.sp SO.s))))
instance anx:Dt Qu:=by
 refine Dt.mp fun x y h=>?_
 obtain ⟨_,_,_,_,_⟩:=x
 obtain ⟨_,_,_,_,_⟩:=y
 dsimp only at h
 cases h
 rfl
def I8:an aQ:=xH (fun x=>(x.aB.aA,x.aB.aG,x.aB.To,x.aB.aJ,x.aB.aE,x.aH.aA,x.aH.aG,x.aH.To,x.aH.aJ,x.aH.aE,x.aA,x.ab)) (bo (aN .i64) (bo (bH (aN .i64)) (bo (bH (aN .i64)) (bo (bH (aN .i64)) (bo (bH (bH (aN .i64))) (bo (aN .i64) (bo (bH (aN .i64)) (bo (bH (aN .i64)) (bo (bH (aN .i64)) (bo (bH (bH (aN .i64))) (bo (bH (aN .i64)) (bH (aN .i64)))))))))))))
instance anz:SO I8 (Value×Value×Value×Value×Value×Value×Value×Value×Value×Value) (fun x v=>[.int .i64 x.aB.aA,v.1,v.2.1,v.2.2.1,v.2.2.2.1,.int .i64 x.aH.aA,v.2.2.2.2.1,v.2.2.2.2.2.1,v.2.2.2.2.2.2.1,v.2.2.2.2.2.2.2.1,v.2.2.2.2.2.2.2.2.1,v.2.2.2.2.2.2.2.2.2]) (fun x v=>[.rd false (bH (aN .i64)) v.1 x.aB.aG,.rd false (bH (aN .i64)) v.2.1 x.aB.To,.rd false (bH (aN .i64)) v.2.2.1 x.aB.aJ,.rd false (bH (bH (aN .i64))) v.2.2.2.1 x.aB.aE,.rd false (bH (aN .i64)) v.2.2.2.2.1 x.aH.aG,.rd false (bH (aN .i64)) v.2.2.2.2.2.1 x.aH.To,.rd false (bH (aN .i64)) v.2.2.2.2.2.2.1 x.aH.aJ,.rd false (bH (bH (aN .i64))) v.2.2.2.2.2.2.2.1 x.aH.aE,.rd false (bH (aN .i64)) v.2.2.2.2.2.2.2.2.1 x.aA,.rd false (bH (aN .i64)) v.2.2.2.2.2.2.2.2.2 x.ab]):=SO.mp (SO.ip (SO.sp (SO.sp (SO.sp (SO.sp (SO.ip (SO.sp (SO.sp (SO.sp (SO.sp (SO.sp SO.s)))))))))))
instance anA:Dt I8:=by
 refine Dt.mp fun x y h=>?_
 obtain ⟨⟨_,_,_,_,_⟩,⟨_,_,_,_,_⟩,_,_⟩:=x
 obtain ⟨⟨_,_,_,_,_⟩,⟨_,_,_,_,_⟩,_,_⟩:=y
 dsimp only at h
 cases h
 rfl
def uo:an aQ:=xH (fun x=>(x.aB.aA,x.aB.aG,x.aB.To,x.aB.aJ,x.aB.aE,x.aH.aA,x.aH.aG,x.aH.To,x.aH.aJ,x.aH.aE,x.aA,x.ab)) (bo (aN .i64) (bo (aL 2 (aN .i64)) (bo (aL 2 (aN .i64)) (bo (aL 2 (aN .i64)) (bo (aL 24 (aL 2 (aN .i64))) (bo (aN .i64) (bo (aL 2 (aN .i64)) (bo (aL 2 (aN .i64)) (bo (aL 2 (aN .i64)) (bo (aL 24 (aL 2 (aN .i64))) (bo (aL 2 (aN .i64)) (aL 2 (aN .i64)))))))))))))
instance anB:j4 uo (Value×Value×Value×Value×Value×Value×Value×Value×Value×Value) (fun x v=>[.int .i64 x.aB.aA,v.1,v.2.1,v.2.2.1,v.2.2.2.1,.int .i64 x.aH.aA,v.2.2.2.2.1,v.2.2.2.2.2.1,v.2.2.2.2.2.2.1,v.2.2.2.2.2.2.2.1,v.2.2.2.2.2.2.2.2.1,v.2.2.2.2.2.2.2.2.2]) (fun x v=>[.own (aL 2 (aN .i64)) v.1 x.aB.aG,.own (aL 2 (aN .i64)) v.2.1 x.aB.To,.own (aL 2 (aN .i64)) v.2.2.1 x.aB.aJ,.own (aL 24 (aL 2 (aN .i64))) v.2.2.2.1 x.aB.aE,.own (aL 2 (aN .i64)) v.2.2.2.2.1 x.aH.aG,.own (aL 2 (aN .i64)) v.2.2.2.2.2.1 x.aH.To,.own (aL 2 (aN .i64)) v.2.2.2.2.2.2.1 x.aH.aJ,.own (aL 24 (aL 2 (aN .i64))) v.2.2.2.2.2.2.2.1 x.aH.aE,.own (aL 2 (aN .i64)) v.2.2.2.2.2.2.2.2.1 x.aA,.own (aL 2 (aN .i64)) v.2.2.2.2.2.2.2.2.2 x.ab]):=j4.mp (j4.ip (j4.sp (j4.sp (j4.sp (j4.sp (j4.ip (j4.sp (j4.sp (j4.sp (j4.sp (j4.sp j4.s)))))))))))
instance anC:Vb uo I8:=⟨Le.map (Le.pair (Le.refl _) (Le.pair (Le.own (Le.refl _) 2) (Le.pair (Le.own (Le.refl _) 2) (Le.pair (Le.own (Le.refl _) 2) (Le.pair (Le.own (Le.own (Le.refl _) 2) 24) (Le.pair (Le.refl _) (Le.pair (Le.own (Le.refl _) 2) (Le.pair (Le.own (Le.refl _) 2) (Le.pair (Le.own (Le.refl _) 2) (Le.pair (Le.own (Le.own (Le.refl _) 2) 24) (Le.pair (Le.own (Le.refl _) 2) (Le.own (Le.refl _) 2)))))))))))),inferInstance⟩
def Qv:an bV:=xH (fun x=>(x.On.aB.aA,x.On.aB.aG,x.On.aB.To,x.On.aB.aJ,x.On.aB.aE,x.On.aH.aA,x.On.aH.aG,x.On.aH.To,x.On.aH.aJ,x.On.aH.aE,x.On.aA,x.On.ab,x.Unit,x.bz)) (bo (aN .i64) (bo (bH (aN .i64)) (bo (bH (aN .i64)) (bo (bH (aN .i64)) (bo (bH (bH (aN .i64))) (bo (aN .i64) (bo (bH (aN .i64)) (bo (bH (aN .i64)) (bo (bH (aN .i64)) (bo (bH (bH (aN .i64))) (bo (bH (aN .i64)) (bo (bH (aN .i64)) (bo (bH (aN .i64)) (bH (aN .i64)))))))))))))))
instance anD:SO Qv (Value×Value×Value×Value×Value×Value×Value×Value×Value×Value×Value×Value) (fun x v=>[.int .i64 x.On.aB.aA,v.1,v.2.1,v.2.2.1,v.2.2.2.1,.int .i64 x.On.aH.aA,v.2.2.2.2.1,v.2.2.2.2.2.1,v.2.2.2.2.2.2.1,v.2.2.2.2.2.2.2.1,v.2.2.2.2.2.2.2.2.1,v.2.2.2.2.2.2.2.2.2.1,v.2.2.2.2.2.2.2.2.2.2.1,v.2.2.2.2.2.2.2.2.2.2.2]) (fun x v=>[.rd false (bH (aN .i64)) v.1 x.On.aB.aG,.rd false (bH (aN .i64)) v.2.1 x.On.aB.To,.rd false (bH (aN .i64)) v.2.2.1 x.On.aB.aJ,.rd false (bH (bH (aN .i64))) v.2.2.2.1 x.On.aB.aE,.rd false (bH (aN .i64)) v.2.2.2.2.1 x.On.aH.aG,.rd false (bH (aN .i64)) v.2.2.2.2.2.1 x.On.aH.To,.rd false (bH (aN .i64)) v.2.2.2.2.2.2.1 x.On.aH.aJ,.rd false (bH (bH (aN .i64))) v.2.2.2.2.2.2.2.1 x.On.aH.aE,.rd false (bH (aN .i64)) v.2.2.2.2.2.2.2.2.1 x.On.aA,.rd false (bH (aN .i64)) v.2.2.2.2.2.2.2.2.2.1 x.On.ab,.rd false (bH (aN .i64)) v.2.2.2.2.2.2.2.2.2.2.1 x.Unit,.rd false (bH (aN .i64)) v.2.2.2.2.2.2.2.2.2.2.2 x.bz]):=SO.mp (SO.ip (SO.sp (SO.sp (SO.sp (SO.sp (SO.ip (SO.sp (SO.sp (SO.sp (SO.sp (SO.sp (SO.sp (SO.sp SO.s)))))))))))))
instance anE:Dt Qv:=by
 refine Dt.mp fun x y h=>?_
 obtain ⟨⟨⟨_,_,_,_,_⟩,⟨_,_,_,_,_⟩,_,_⟩,_,_⟩:=x
 obtain ⟨⟨⟨_,_,_,_,_⟩,⟨_,_,_,_,_⟩,_,_⟩,_,_⟩:=y
 dsimp only at h
 cases h
 rfl
def CF:an bV:=xH (fun x=>(x.On.aB.aA,x.On.aB.aG,x.On.aB.To,x.On.aB.aJ,x.On.aB.aE,x.On.aH.aA,x.On.aH.aG,x.On.aH.To,x.On.aH.aJ,x.On.aH.aE,x.On.aA,x.On.ab,x.Unit,x.bz)) (bo (aN .i64) (bo (aL 2 (aN .i64)) (bo (aL 2 (aN .i64)) (bo (aL 2 (aN .i64)) (bo (aL 24 (aL 2 (aN .i64))) (bo (aN .i64) (bo (aL 2 (aN .i64)) (bo (aL 2 (aN .i64)) (bo (aL 2 (aN .i64)) (bo (aL 24 (aL 2 (aN .i64))) (bo (aL 2 (aN .i64)) (bo (aL 2 (aN .i64)) (bo (aL 2 (aN .i64)) (aL 2 (aN .i64)))))))))))))))
instance anF:j4 CF (Value×Value×Value×Value×Value×Value×Value×Value×Value×Value×Value×Value) (fun x v=>[.int .i64 x.On.aB.aA,v.1,v.2.1,v.2.2.1,v.2.2.2.1,.int .i64 x.On.aH.aA,v.2.2.2.2.1,v.2.2.2.2.2.1,v.2.2.2.2.2.2.1,v.2.2.2.2.2.2.2.1,v.2.2.2.2.2.2.2.2.1,v.2.2.2.2.2.2.2.2.2.1,v.2.2.2.2.2.2.2.2.2.2.1,v.2.2.2.2.2.2.2.2.2.2.2]) (fun x v=>[.own (aL 2 (aN .i64)) v.1 x.On.aB.aG,.own (aL 2 (aN .i64)) v.2.1 x.On.aB.To,.own (aL 2 (aN .i64)) v.2.2.1 x.On.aB.aJ,.own (aL 24 (aL 2 (aN .i64))) v.2.2.2.1 x.On.aB.aE,.own (aL 2 (aN .i64)) v.2.2.2.2.1 x.On.aH.aG,.own (aL 2 (aN .i64)) v.2.2.2.2.2.1 x.On.aH.To,.own (aL 2 (aN .i64)) v.2.2.2.2.2.2.1 x.On.aH.aJ,.own (aL 24 (aL 2 (aN .i64))) v.2.2.2.2.2.2.2.1 x.On.aH.aE,.own (aL 2 (aN .i64)) v.2.2.2.2.2.2.2.2.1 x.On.aA,.own (aL 2 (aN .i64)) v.2.2.2.2.2.2.2.2.2.1 x.On.ab,.own (aL 2 (aN .i64)) v.2.2.2.2.2.2.2.2.2.2.1 x.Unit,.own (aL 2 (aN .i64)) v.2.2.2.2.2.2.2.2.2.2.2 x.bz]):=j4.mp (j4.ip (j4.sp (j4.sp (j4.sp (j4.sp (j4.ip (j4.sp (j4.sp (j4.sp (j4.sp (j4.sp (j4.sp (j4.sp j4.s)))))))))))))
instance anG:Vb CF Qv:=⟨Le.map (Le.pair (Le.refl _) (Le.pair (Le.own (Le.refl _) 2) (Le.pair (Le.own (Le.refl _) 2) (Le.pair (Le.own (Le.refl _) 2) (Le.pair (Le.own (Le.own (Le.refl _) 2) 24) (Le.pair (Le.refl _) (Le.pair (Le.own (Le.refl _) 2) (Le.pair (Le.own (Le.refl _) 2) (Le.pair (Le.own (Le.refl _) 2) (Le.pair (Le.own (Le.own (Le.refl _) 2) 24) (Le.pair (Le.own (Le.refl _) 2) (Le.pair (Le.own (Le.refl _) 2) (Le.pair (Le.own (Le.refl _) 2) (Le.own (Le.refl _) 2)))))))))))))),inferInstance⟩
def MD:an bT:=xH (fun x=>(x.aB.aB.aA,x.aB.aB.aG,x.aB.aB.To,x.aB.aB.aJ,x.aB.aB.aE,x.aB.aH.aA,x.aB.aH.aG,x.aB.aH.To,x.aB.aH.aJ,x.aB.aH.aE,x.aB.aA,x.aB.ab,x.aH.aB.aA,x.aH.aB.aG,x.aH.aB.To,x.aH.aB.aJ,x.aH.aB.aE,x.aH.aH.aA,x.aH.aH.aG,x.aH.aH.To,x.aH.aH.aJ,x.aH.aH.aE,x.aH.aA,x.aH.ab,x.bh)) (bo (aN .i64) (bo (bH (aN .i64)) (bo (bH (aN .i64)) (bo (bH (aN .i64)) (bo (bH (bH (aN .i64))) (bo (aN .i64) (bo (bH (aN .i64)) (bo (bH (aN .i64)) (bo (bH (aN .i64)) (bo (bH (bH (aN .i64))) (bo (bH (aN .i64)) (bo (bH (aN .i64)) (bo (aN .i64) (bo (bH (aN .i64)) (bo (bH (aN .i64)) (bo (bH (aN .i64)) (bo (bH (bH (aN .i64))) (bo (aN .i64) (bo (bH (aN .i64)) (bo (bH (aN .i64)) (bo (bH (aN .i64)) (bo (bH (bH (aN .i64))) (bo (bH (aN .i64)) (bo (bH (aN .i64)) (bH (aN .i64))))))))))))))))))))))))))
instance ai3:SO MD (Value×Value×Value×Value×Value×Value×Value×Value×Value×Value×Value×Value×Value×Value×Value×Value×Value×Value×Value×Value×Value) (fun x v=>[.int .i64 x.aB.aB.aA,v.1,v.2.1,v.2.2.1,v.2.2.2.1,.int .i64 x.aB.aH.aA,v.2.2.2.2.1,v.2.2.2.2.2.1,v.2.2.2.2.2.2.1,v.2.2.2.2.2.2.2.1,v.2.2.2.2.2.2.2.2.1,v.2.2.2.2.2.2.2.2.2.1,.int .i64 x.aH.aB.aA,v.2.2.2.2.2.2.2.2.2.2.1,v.2.2.2.2.2.2.2.2.2.2.2.1,v.2.2.2.2.2.2.2.2.2.2.2.2.1,v.2.2.2.2.2.2.2.2.2.2.2.2.2.1,.int .i64 x.aH.aH.aA,v.2.2.2.2.2.2.2.2.2.2.2.2.2.2.1,v.2.2.2.2.2.2.2.2.2.2.2.2.2.2.2.1,v.2.2.2.2.2.2.2.2.2.2.2.2.2.2.2.2.1,v.2.2.2.2.2.2.2.2.2.2.2.2.2.2.2.2.2.1,v.2.2.2.2.2.2.2.2.2.2.2.2.2.2.2.2.2.2.1,v.2.2.2.2.2.2.2.2.2.2.2.2.2.2.2.2.2.2.2.1,v.2.2.2.2.2.2.2.2.2.2.2.2.2.2.2.2.2.2.2.2]) (fun x v=>[.rd false (bH (aN .i64)) v.1 x.aB.aB.aG,.rd false (bH (aN .i64)) v.2.1 x.aB.aB.To,.rd false (bH (aN .i64)) v.2.2.1 x.aB.aB.aJ,.rd false (bH (bH (aN .i64))) v.2.2.2.1 x.aB.aB.aE,.rd false (bH (aN .i64)) v.2.2.2.2.1 x.aB.aH.aG,.rd false (bH (aN .i64)) v.2.2.2.2.2.1 x.aB.aH.To,.rd false (bH (aN .i64)) v.2.2.2.2.2.2.1 x.aB.aH.aJ,.rd false (bH (bH (aN .i64))) v.2.2.2.2.2.2.2.1 x.aB.aH.aE,.rd false (bH (aN .i64)) v.2.2.2.2.2.2.2.2.1 x.aB.aA,.rd false (bH (aN .i64)) v.2.2.2.2.2.2.2.2.2.1 x.aB.ab,.rd false (bH (aN .i64)) v.2.2.2.2.2.2.2.2.2.2.1 x.aH.aB.aG,.rd false (bH (aN .i64)) v.2.2.2.2.2.2.2.2.2.2.2.1 x.aH.aB.To,.rd false (bH (aN .i64)) v.2.2.2.2.2.2.2.2.2.2.2.2.1 x.aH.aB.aJ,.rd false (bH (bH (aN .i64))) v.2.2.2.2.2.2.2.2.2.2.2.2.2.1 x.aH.aB.aE,.rd false (bH (aN .i64)) v.2.2.2.2.2.2.2.2.2.2.2.2.2.2.1 x.aH.aH.aG,.rd false (bH (aN .i64)) v.2.2.2.2.2.2.2.2.2.2.2.2.2.2.2.1 x.aH.aH.To,.rd false (bH (aN .i64)) v.2.2.2.2.2.2.2.2.2.2.2.2.2.2.2.2.1 x.aH.aH.aJ,.rd false (bH (bH (aN .i64))) v.2.2.2.2.2.2.2.2.2.2.2.2.2.2.2.2.2.1 x.aH.aH.aE,.rd false (bH (aN .i64)) v.2.2.2.2.2.2.2.2.2.2.2.2.2.2.2.2.2.2.1 x.aH.aA,.rd false (bH (aN .i64)) v.2.2.2.2.2.2.2.2.2.2.2.2.2.2.2.2.2.2.2.1 x.aH.ab,.rd false (bH (aN .i64)) v.2.2.2.2.2.2.2.2.2.2.2.2.2.2.2.2.2.2.2.2 x.bh]):=SO.mp (SO.ip (SO.sp (SO.sp (SO.sp (SO.sp (SO.ip (SO.sp (SO.sp (SO.sp (SO.sp (SO.sp (SO.sp (SO.ip (SO.sp (SO.sp (SO.sp (SO.sp (SO.ip (SO.sp (SO.sp (SO.sp (SO.sp (SO.sp (SO.sp SO.s))))))))))))))))))))))))
instance ai4:Dt MD:=by
 refine Dt.mp fun x y h=>?_
 obtain ⟨⟨⟨_,_,_,_,_⟩,⟨_,_,_,_,_⟩,_,_⟩,⟨⟨_,_,_,_,_⟩,⟨_,_,_,_,_⟩,_,_⟩,_⟩:=x
 obtain ⟨⟨⟨_,_,_,_,_⟩,⟨_,_,_,_,_⟩,_,_⟩,⟨⟨_,_,_,_,_⟩,⟨_,_,_,_,_⟩,_,_⟩,_⟩:=y
 dsimp only at h
 cases h
 rfl
def wZ:an bX:=xH (fun x=>(x.aG,x.To,x.l8)) (bo (aN .i64) (bo (aN .i64) (bH (aN .i64))))
instance ai5:SO wZ (Value) (fun x v=>[.int .i64 x.aG,.int .i64 x.To,v]) (fun x v=>[.rd false (bH (aN .i64)) v x.l8]):=SO.mp (SO.ip (SO.ip SO.s))
instance ai6:Dt wZ:=by
 refine Dt.mp fun x y h=>?_
 obtain ⟨_,_,_⟩:=x
 obtain ⟨_,_,_⟩:=y
 dsimp only at h
 cases h
 rfl
end Go.Proofs.YtilhlobfebngdaaGreat
