/- Structs that are pointed to out of slices. No condition. -/
import Derived.Test.YtjdkifckhidlbaaGreatDi
import Derived.Test.YtjdkifckhidlbaaGreatMo
import Derived.Test.YtjdkifckhidlbaaGreatDp
namespace Go.Proofs.YtjdkifckhidlbaaGreat
open Go Go.Li Go.Dk
set_option linter.unusedVariables false
def Mo:ai aI:=xf (fun x=>(x.aA,x.aG,x.To,x.aJ,x.aB)) (ch (aN .i64) (ch (bT (aN .i64)) (ch (bT (aN .i64)) (ch (bT (aN .i64)) (bT (bT (aN .i64)))))))
instance ajb:SO Mo (Value×Value×Value×Value) (fun x v=>[.int .i64 x.aA,v.1,v.2.1,v.2.2.1,v.2.2.2]) (fun x v=>[.rd false (bT (aN .i64)) v.1 x.aG,.rd false (bT (aN .i64)) v.2.1 x.To,.rd false (bT (aN .i64)) v.2.2.1 x.aJ,.rd false (bT (bT (aN .i64))) v.2.2.2 x.aB]):=SO.mp (SO.ip (SO.sp (SO.sp (SO.sp SO.s))))
instance ajc:Dt Mo:=by
 refine Dt.mp fun x y h=>?_
 obtain ⟨_,_,_,_,_⟩:=x
 obtain ⟨_,_,_,_,_⟩:=y
 dsimp only at h
 cases h
 rfl
def IF:ai aP:=xf (fun x=>(x.aE.aA,x.aE.aG,x.aE.To,x.aE.aJ,x.aE.aB,x.aH.aA,x.aH.aG,x.aH.To,x.aH.aJ,x.aH.aB,x.aA,x.ae)) (ch (aN .i64) (ch (bT (aN .i64)) (ch (bT (aN .i64)) (ch (bT (aN .i64)) (ch (bT (bT (aN .i64))) (ch (aN .i64) (ch (bT (aN .i64)) (ch (bT (aN .i64)) (ch (bT (aN .i64)) (ch (bT (bT (aN .i64))) (ch (bT (aN .i64)) (bT (aN .i64)))))))))))))
instance ajd:SO IF (Value×Value×Value×Value×Value×Value×Value×Value×Value×Value) (fun x v=>[.int .i64 x.aE.aA,v.1,v.2.1,v.2.2.1,v.2.2.2.1,.int .i64 x.aH.aA,v.2.2.2.2.1,v.2.2.2.2.2.1,v.2.2.2.2.2.2.1,v.2.2.2.2.2.2.2.1,v.2.2.2.2.2.2.2.2.1,v.2.2.2.2.2.2.2.2.2]) (fun x v=>[.rd false (bT (aN .i64)) v.1 x.aE.aG,.rd false (bT (aN .i64)) v.2.1 x.aE.To,.rd false (bT (aN .i64)) v.2.2.1 x.aE.aJ,.rd false (bT (bT (aN .i64))) v.2.2.2.1 x.aE.aB,.rd false (bT (aN .i64)) v.2.2.2.2.1 x.aH.aG,.rd false (bT (aN .i64)) v.2.2.2.2.2.1 x.aH.To,.rd false (bT (aN .i64)) v.2.2.2.2.2.2.1 x.aH.aJ,.rd false (bT (bT (aN .i64))) v.2.2.2.2.2.2.2.1 x.aH.aB,.rd false (bT (aN .i64)) v.2.2.2.2.2.2.2.2.1 x.aA,.rd false (bT (aN .i64)) v.2.2.2.2.2.2.2.2.2 x.ae]):=SO.mp (SO.ip (SO.sp (SO.sp (SO.sp (SO.sp (SO.ip (SO.sp (SO.sp (SO.sp (SO.sp (SO.sp SO.s)))))))))))
instance aje:Dt IF:=by
 refine Dt.mp fun x y h=>?_
 obtain ⟨⟨_,_,_,_,_⟩,⟨_,_,_,_,_⟩,_,_⟩:=x
 obtain ⟨⟨_,_,_,_,_⟩,⟨_,_,_,_,_⟩,_,_⟩:=y
 dsimp only at h
 cases h
 rfl
def sK:ai aP:=xf (fun x=>(x.aE.aA,x.aE.aG,x.aE.To,x.aE.aJ,x.aE.aB,x.aH.aA,x.aH.aG,x.aH.To,x.aH.aJ,x.aH.aB,x.aA,x.ae)) (ch (aN .i64) (ch (aL 2 (aN .i64)) (ch (aL 2 (aN .i64)) (ch (aL 2 (aN .i64)) (ch (aL 24 (aL 2 (aN .i64))) (ch (aN .i64) (ch (aL 2 (aN .i64)) (ch (aL 2 (aN .i64)) (ch (aL 2 (aN .i64)) (ch (aL 24 (aL 2 (aN .i64))) (ch (aL 2 (aN .i64)) (aL 2 (aN .i64)))))))))))))
instance ajf:pd sK (Value×Value×Value×Value×Value×Value×Value×Value×Value×Value) (fun x v=>[.int .i64 x.aE.aA,v.1,v.2.1,v.2.2.1,v.2.2.2.1,.int .i64 x.aH.aA,v.2.2.2.2.1,v.2.2.2.2.2.1,v.2.2.2.2.2.2.1,v.2.2.2.2.2.2.2.1,v.2.2.2.2.2.2.2.2.1,v.2.2.2.2.2.2.2.2.2]) (fun x v=>[.own (aL 2 (aN .i64)) v.1 x.aE.aG,.own (aL 2 (aN .i64)) v.2.1 x.aE.To,.own (aL 2 (aN .i64)) v.2.2.1 x.aE.aJ,.own (aL 24 (aL 2 (aN .i64))) v.2.2.2.1 x.aE.aB,.own (aL 2 (aN .i64)) v.2.2.2.2.1 x.aH.aG,.own (aL 2 (aN .i64)) v.2.2.2.2.2.1 x.aH.To,.own (aL 2 (aN .i64)) v.2.2.2.2.2.2.1 x.aH.aJ,.own (aL 24 (aL 2 (aN .i64))) v.2.2.2.2.2.2.2.1 x.aH.aB,.own (aL 2 (aN .i64)) v.2.2.2.2.2.2.2.2.1 x.aA,.own (aL 2 (aN .i64)) v.2.2.2.2.2.2.2.2.2 x.ae]):=pd.mp (pd.ip (pd.sp (pd.sp (pd.sp (pd.sp (pd.ip (pd.sp (pd.sp (pd.sp (pd.sp (pd.sp pd.s)))))))))))
instance ajg:VL sK IF:=⟨Le.map (Le.pair (Le.refl _) (Le.pair (Le.own (Le.refl _) 2) (Le.pair (Le.own (Le.refl _) 2) (Le.pair (Le.own (Le.refl _) 2) (Le.pair (Le.own (Le.own (Le.refl _) 2) 24) (Le.pair (Le.refl _) (Le.pair (Le.own (Le.refl _) 2) (Le.pair (Le.own (Le.refl _) 2) (Le.pair (Le.own (Le.refl _) 2) (Le.pair (Le.own (Le.own (Le.refl _) 2) 24) (Le.pair (Le.own (Le.refl _) 2) (Le.own (Le.refl _) 2)))))))))))),inferInstance⟩
def Mp:ai cD:=xf (fun x=>(x.aE.aE.aA,x.aE.aE.aG,x.aE.aE.To,x.aE.aE.aJ,x.aE.aE.aB,x.aE.aH.aA,x.aE.aH.aG,x.aE.aH.To,x.aE.aH.aJ,x.aE.aH.aB,x.aE.aA,x.aE.ae,x.aH.aE.aA,x.aH.aE.aG,x.aH.aE.To,x.aH.aE.aJ,x.aH.aE.aB,x.aH.aH.aA,x.aH.aH.aG,x.aH.aH.To,x.aH.aH.aJ,x.aH.aH.aB,x.aH.aA,x.aH.ae,x.bc)) (ch (aN .i64) (ch (bT (aN .i64)) (ch (bT (aN .i64)) (ch (bT (aN .i64)) (ch (bT (bT (aN .i64))) (ch (aN .i64) (ch (bT (aN .i64)) (ch (bT (aN .i64)) (ch (bT (aN .i64)) (ch (bT (bT (aN .i64))) (ch (bT (aN .i64)) (ch (bT (aN .i64)) (ch (aN .i64) (ch (bT (aN .i64)) (ch (bT (aN .i64)) (ch (bT (aN .i64)) (ch (bT (bT (aN .i64))) (ch (aN .i64) (ch (bT (aN .i64)) (ch (bT (aN .i64)) (ch (bT (aN .i64)) (ch (bT (bT (aN .i64))) (ch (bT (aN .i64)) (ch (bT (aN .i64)) (bT (aN .i64))))))))))))))))))))))))))
instance ajh:SO Mp (Value×Value×Value×Value×Value×Value×Value×Value×Value×Value×Value×Value×Value×Value×Value×Value×Value×Value×Value×Value×Value) (fun x v=>[.int .i64 x.aE.aE.aA,v.1,v.2.1,v.2.2.1,v.2.2.2.1,.int .i64 x.aE.aH.aA,v.2.2.2.2.1,v.2.2.2.2.2.1,v.2.2.2.2.2.2.1,v.2.2.2.2.2.2.2.1,v.2.2.2.2.2.2.2.2.1,v.2.2.2.2.2.2.2.2.2.1,.int .i64 x.aH.aE.aA,v.2.2.2.2.2.2.2.2.2.2.1,v.2.2.2.2.2.2.2.2.2.2.2.1,v.2.2.2.2.2.2.2.2.2.2.2.2.1,v.2.2.2.2.2.2.2.2.2.2.2.2.2.1,.int .i64 x.aH.aH.aA,v.2.2.2.2.2.2.2.2.2.2.2.2.2.2.1,v.2.2.2.2.2.2.2.2.2.2.2.2.2.2.2.1,v.2.2.2.2.2.2.2.2.2.2.2.2.2.2.2.2.1,v.2.2.2.2.2.2.2.2.2.2.2.2.2.2.2.2.2.1,v.2.2.2.2.2.2.2.2.2.2.2.2.2.2.2.2.2.2.1,v.2.2.2.2.2.2.2.2.2.2.2.2.2.2.2.2.2.2.2.1,v.2.2.2.2.2.2.2.2.2.2.2.2.2.2.2.2.2.2.2.2]) (fun x v=>[.rd false (bT (aN .i64)) v.1 x.aE.aE.aG,.rd false (bT (aN .i64)) v.2.1 x.aE.aE.To,.rd false (bT (aN .i64)) v.2.2.1 x.aE.aE.aJ,.rd false (bT (bT (aN .i64))) v.2.2.2.1 x.aE.aE.aB,.rd false (bT (aN .i64)) v.2.2.2.2.1 x.aE.aH.aG,.rd false (bT (aN .i64)) v.2.2.2.2.2.1 x.aE.aH.To,.rd false (bT (aN .i64)) v.2.2.2.2.2.2.1 x.aE.aH.aJ,.rd false (bT (bT (aN .i64))) v.2.2.2.2.2.2.2.1 x.aE.aH.aB,.rd false (bT (aN .i64)) v.2.2.2.2.2.2.2.2.1 x.aE.aA,.rd false (bT (aN .i64)) v.2.2.2.2.2.2.2.2.2.1 x.aE.ae,.rd false (bT (aN .i64)) v.2.2.2.2.2.2.2.2.2.2.1 x.aH.aE.aG,.rd false (bT (aN .i64)) v.2.2.2.2.2.2.2.2.2.2.2.1 x.aH.aE.To,.rd false (bT (aN .i64)) v.2.2.2.2.2.2.2.2.2.2.2.2.1 x.aH.aE.aJ,.rd false (bT (bT (aN .i64))) v.2.2.2.2.2.2.2.2.2.2.2.2.2.1 x.aH.aE.aB,.rd false (bT (aN .i64)) v.2.2.2.2.2.2.2.2.2.2.2.2.2.2.1 x.aH.aH.aG,.rd false (bT (aN .i64)) v.2.2.2.2.2.2.2.2.2.2.2.2.2.2.2.1 x.aH.aH.To,.rd false (bT (aN .i64)) v.2.2.2.2.2.2.2.2.2.2.2.2.2.2.2.2.1 x.aH.aH.aJ,.rd false (bT (bT (aN .i64))) v.2.2.2.2.2.2.2.2.2.2.2.2.2.2.2.2.2.1 x.aH.aH.aB,.rd false (bT (aN .i64)) v.2.2.2.2.2.2.2.2.2.2.2.2.2.2.2.2.2.2.1 x.aH.aA,.rd false (bT (aN .i64)) v.2.2.2.2.2.2.2.2.2.2.2.2.2.2.2.2.2.2.2.1 x.aH.ae,.rd false (bT (aN .i64)) v.2.2.2.2.2.2.2.2.2.2.2.2.2.2.2.2.2.2.2.2 x.bc]):=SO.mp (SO.ip (SO.sp (SO.sp (SO.sp (SO.sp (SO.ip (SO.sp (SO.sp (SO.sp (SO.sp (SO.sp (SO.sp (SO.ip (SO.sp (SO.sp (SO.sp (SO.sp (SO.ip (SO.sp (SO.sp (SO.sp (SO.sp (SO.sp (SO.sp SO.s))))))))))))))))))))))))
instance aji:Dt Mp:=by
 refine Dt.mp fun x y h=>?_
 obtain ⟨⟨⟨_,_,_,_,_⟩,⟨_,_,_,_,_⟩,_,_⟩,⟨⟨_,_,_,_,_⟩,⟨_,_,_,_,_⟩,_,_⟩,_⟩:=x
 obtain ⟨⟨⟨_,_,_,_,_⟩,⟨_,_,_,_,_⟩,_,_⟩,⟨⟨_,_,_,_,_⟩,⟨_,_,_,_,_⟩,_,_⟩,_⟩:=y
 dsimp only at h
 cases h
 rfl
def uC:ai cC:=xf (fun x=>(x.aG,x.To,x.ly)) (ch (aN .i64) (ch (aN .i64) (bT (aN .i64))))
instance aeG:SO uC (Value) (fun x v=>[.int .i64 x.aG,.int .i64 x.To,v]) (fun x v=>[.rd false (bT (aN .i64)) v x.ly]):=SO.mp (SO.ip (SO.ip SO.s))
instance aeH:Dt uC:=by
 refine Dt.mp fun x y h=>?_
 obtain ⟨_,_,_⟩:=x
 obtain ⟨_,_,_⟩:=y
 dsimp only at h
 cases h
 rfl
end Go.Proofs.YtjdkifckhidlbaaGreat
