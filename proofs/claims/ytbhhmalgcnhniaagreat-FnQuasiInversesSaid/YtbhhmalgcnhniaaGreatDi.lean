/- Closed facts on types, as instances. No condition. -/
import Derived.Test.YtbhhmalgcnhniaaGreatDp
import Derived.Test.YtbhhmalgcnhniaaGreatLn
import Derived.Test.YtbhhmalgcnhniaaGreatChecked
import Derived.KernelRfl
namespace Go.Proofs.YtbhhmalgcnhniaaGreat
open Go Go.Li Go.Dk
set_option linter.unusedVariables false
set_option maxRecDepth 100000
noncomputable def i2:TypeInfo:=(Tryz.prog.info? 2).getD default
theorem zx:Tryz.prog.info? 2=some i2:=by kernel_rfl
theorem LB:i2.size=1:=by kernel_rfl
theorem TJ:i2.size≠0:=by rw [LB]; decide
theorem Yg:i2.zero=some (.int .i64 0):=by kernel_rfl
theorem by2:i2.bytes=8:=by kernel_rfl
noncomputable def i3:TypeInfo:=(Tryz.prog.info? 3).getD default
theorem Qr:Tryz.prog.info? 3=some i3:=by kernel_rfl
theorem Yh:i3.size=1:=by kernel_rfl
theorem ne3:i3.size≠0:=by rw [Yh]; decide
theorem zr3:i3.zero=some (.int .i64 0):=by kernel_rfl
theorem by3:i3.bytes=8:=by kernel_rfl
noncomputable def i5:TypeInfo:=(Tryz.prog.info? 5).getD default
theorem W1:Tryz.prog.info? 5=some i5:=by kernel_rfl
theorem Yi:i5.size=1:=by kernel_rfl
theorem ne5:i5.size≠0:=by rw [Yi]; decide
theorem zr5:i5.zero=some (.int .u8 0):=by kernel_rfl
theorem by5:i5.bytes=1:=by kernel_rfl
noncomputable def i22:TypeInfo:=(Tryz.prog.info? 22).getD default
theorem qp:Tryz.prog.info? 22=some i22:=by kernel_rfl
theorem GH:i22.size=1:=by kernel_rfl
theorem zy:i22.size≠0:=by rw [GH]; decide
theorem TK:i22.zero=some (.slice none 0 0):=by kernel_rfl
theorem Zt:i22.bytes=24:=by kernel_rfl
noncomputable def i23:TypeInfo:=(Tryz.prog.info? 23).getD default
theorem LC:Tryz.prog.info? 23=some i23:=by kernel_rfl
theorem TL:i23.size=1:=by kernel_rfl
theorem Zu:i23.size≠0:=by rw [TL]; decide
theorem alq:i23.zero=some (.slice none 0 0):=by kernel_rfl
theorem alr:i23.bytes=24:=by kernel_rfl
noncomputable def i32:TypeInfo:=(Tryz.prog.info? 32).getD default
theorem yD:Tryz.prog.info? 32=some i32:=by kernel_rfl
theorem N0:i32.size=5:=by kernel_rfl
theorem TM:i32.size≠0:=by rw [N0]; decide
theorem TN:i32.zero=some (.agg #[.int .i64 ((0:Int)),.slice none 0 0,.slice none 0 0,.slice none 0 0,.slice none 0 0]):=by kernel_rfl
noncomputable def i34:TypeInfo:=(Tryz.prog.info? 34).getD default
theorem sx:Tryz.prog.info? 34=some i34:=by kernel_rfl
theorem D9:i34.size=12:=by kernel_rfl
theorem JN:i34.size≠0:=by rw [D9]; decide
theorem JO:i34.zero=some (.agg #[.int .i64 ((0:Int)),.slice none 0 0,.slice none 0 0,.slice none 0 0,.slice none 0 0,.int .i64 ((0:Int)),.slice none 0 0,.slice none 0 0,.slice none 0 0,.slice none 0 0,.slice none 0 0,.slice none 0 0]):=by kernel_rfl
noncomputable def i41:TypeInfo:=(Tryz.prog.info? 41).getD default
theorem TO:Tryz.prog.info? 41=some i41:=by kernel_rfl
theorem Zv:i41.size=1:=by kernel_rfl
theorem Zw:i41.size≠0:=by rw [Zv]; decide
theorem als:i41.zero=some (.slice none 0 0):=by kernel_rfl
theorem alu:i41.bytes=24:=by kernel_rfl
noncomputable def i65:TypeInfo:=(Tryz.prog.info? 65).getD default
theorem C4:Tryz.prog.info? 65=some i65:=by kernel_rfl
theorem N1:i65.size=25:=by kernel_rfl
theorem alv:i65.size≠0:=by rw [N1]; decide
theorem TP:i65.zero=some (.agg #[.int .i64 ((0:Int)),.slice none 0 0,.slice none 0 0,.slice none 0 0,.slice none 0 0,.int .i64 ((0:Int)),.slice none 0 0,.slice none 0 0,.slice none 0 0,.slice none 0 0,.slice none 0 0,.slice none 0 0,.int .i64 ((0:Int)),.slice none 0 0,.slice none 0 0,.slice none 0 0,.slice none 0 0,.int .i64 ((0:Int)),.slice none 0 0,.slice none 0 0,.slice none 0 0,.slice none 0 0,.slice none 0 0,.slice none 0 0,.slice none 0 0]):=by kernel_rfl
noncomputable def i69:TypeInfo:=(Tryz.prog.info? 69).getD default
theorem C5:Tryz.prog.info? 69=some i69:=by kernel_rfl
theorem N2:i69.size=26:=by kernel_rfl
theorem alw:i69.size≠0:=by rw [N2]; decide
theorem TQ:i69.zero=some (.agg #[.int .i64 ((0:Int)),.slice none 0 0,.slice none 0 0,.slice none 0 0,.slice none 0 0,.int .i64 ((0:Int)),.slice none 0 0,.slice none 0 0,.slice none 0 0,.slice none 0 0,.slice none 0 0,.slice none 0 0,.int .i64 ((0:Int)),.slice none 0 0,.slice none 0 0,.slice none 0 0,.slice none 0 0,.int .i64 ((0:Int)),.slice none 0 0,.slice none 0 0,.slice none 0 0,.slice none 0 0,.slice none 0 0,.slice none 0 0,.slice none 0 0,.slice none 0 0]):=by kernel_rfl
noncomputable def i85:TypeInfo:=(Tryz.prog.info? 85).getD default
theorem GI:Tryz.prog.info? 85=some i85:=by kernel_rfl
theorem N3:i85.size=1:=by kernel_rfl
theorem Zx:i85.size≠0:=by rw [N3]; decide
theorem Zy:i85.zero=some (.pointer none):=by kernel_rfl
theorem alx:i85.bytes=8:=by kernel_rfl
noncomputable def i88:TypeInfo:=(Tryz.prog.info? 88).getD default
theorem LD:Tryz.prog.info? 88=some i88:=by kernel_rfl
theorem N4:i88.size=1:=by kernel_rfl
theorem aly:i88.size≠0:=by rw [N4]; decide
theorem Zz:i88.zero=some (.pointer none):=by kernel_rfl
theorem alz:i88.bytes=8:=by kernel_rfl
noncomputable def i126:TypeInfo:=(Tryz.prog.info? 126).getD default
theorem BC:Tryz.prog.info? 126=some i126:=by kernel_rfl
theorem JP:i126.size=2:=by kernel_rfl
theorem ai6:i126.size≠0:=by rw [JP]; decide
theorem Qs:i126.zero=some (.agg #[.int .i64 ((0:Int)),.int .i64 ((0:Int))]):=by kernel_rfl
noncomputable def i140:TypeInfo:=(Tryz.prog.info? 140).getD default
theorem RA:Tryz.prog.info? 140=some i140:=by kernel_rfl
theorem W2:i140.size=1:=by kernel_rfl
theorem ai7:i140.size≠0:=by rw [W2]; decide
theorem W3:i140.zero=some (.agg #[.pointer none]):=by kernel_rfl
noncomputable def i158:TypeInfo:=(Tryz.prog.info? 158).getD default
theorem I0:Tryz.prog.info? 158=some i158:=by kernel_rfl
theorem JR:i158.size=1:=by kernel_rfl
theorem ai8:i158.size≠0:=by rw [JR]; decide
theorem W4:i158.zero=some (.pointer none):=by kernel_rfl
theorem ai9:i158.bytes=8:=by kernel_rfl
noncomputable def i160:TypeInfo:=(Tryz.prog.info? 160).getD default
theorem I1:Tryz.prog.info? 160=some i160:=by kernel_rfl
theorem Qt:i160.size=1:=by kernel_rfl
theorem W5:i160.size≠0:=by rw [Qt]; decide
theorem aja:i160.zero=some (.int .u64 0):=by kernel_rfl
theorem ajb:i160.bytes=8:=by kernel_rfl
noncomputable def i162:TypeInfo:=(Tryz.prog.info? 162).getD default
theorem RB:Tryz.prog.info? 162=some i162:=by kernel_rfl
theorem W6:i162.size=3:=by kernel_rfl
theorem ajc:i162.size≠0:=by rw [W6]; decide
theorem W7:i162.zero=some (.agg #[.slice none 0 0,.int .i64 ((0:Int)),.int .u64 ((0:Int))]):=by kernel_rfl
noncomputable def i227:TypeInfo:=(Tryz.prog.info? 227).getD default
theorem vj:Tryz.prog.info? 227=some i227:=by kernel_rfl
theorem BD:i227.size=3:=by kernel_rfl
theorem ajd:i227.size≠0:=by rw [BD]; decide
theorem Fy:i227.zero=some (.agg #[.int .i64 ((0:Int)),.int .i64 ((0:Int)),.slice none 0 0]):=by kernel_rfl
instance lk2:LK Tryz.prog 2 none:=⟨_,Tryz.underlying2,rfl⟩
instance lk3:LK Tryz.prog 3 none:=⟨_,Tryz.underlying3,rfl⟩
instance lk5:LK Tryz.prog 5 none:=⟨_,Tryz.underlying5,rfl⟩
instance alA:LK Tryz.prog 22 none:=⟨_,Tryz.underlying22,rfl⟩
instance alB:LK Tryz.prog 23 none:=⟨_,Tryz.underlying23,rfl⟩
instance alC:LK Tryz.prog 32 (some 5):=⟨_,_,Tryz.underlying32,rfl,yD,N0⟩
instance alD:LK Tryz.prog 34 (some 12):=⟨_,_,Tryz.underlying34,rfl,sx,D9⟩
instance alE:LK Tryz.prog 41 none:=⟨_,Tryz.underlying41,rfl⟩
instance alF:LK Tryz.prog 65 (some 25):=⟨_,_,Tryz.underlying65,rfl,C4,N1⟩
instance alG:LK Tryz.prog 69 (some 26):=⟨_,_,Tryz.underlying69,rfl,C5,N2⟩
instance alH:LK Tryz.prog 85 none:=⟨_,Tryz.underlying85,rfl⟩
instance alI:LK Tryz.prog 88 none:=⟨_,Tryz.underlying88,rfl⟩
instance aje:LK Tryz.prog 126 (some 2):=⟨_,_,Tryz.underlying126,rfl,BC,JP⟩
instance ajf:LK Tryz.prog 158 none:=⟨_,Tryz.underlying158,rfl⟩
instance ajg:LK Tryz.prog 160 none:=⟨_,Tryz.underlying160,rfl⟩
instance ajh:LK Tryz.prog 227 (some 3):=⟨_,_,Tryz.underlying227,rfl,vj,BD⟩
instance alJ:wj Tryz.prog 22:=⟨_,_,Tryz.underlying22,zx,LB⟩
instance alK:K5 Tryz.prog 22 2:=⟨Tryz.underlying22,_,_,zx,Yg,LB⟩
instance alL:uw Tryz.prog 22 Int 2 (aK .i64) 0 8:=⟨Tryz.underlying22,rfl,_,_,zx,Yg,LB,rfl,by2,fun _=>⟨rfl,rfl⟩⟩
instance alM:wj Tryz.prog 23:=⟨_,_,Tryz.underlying23,qp,GH⟩
instance alN:K5 Tryz.prog 23 22:=⟨Tryz.underlying23,_,_,qp,TK,GH⟩
instance alO:uw Tryz.prog 23 (List Int) 22 (aI 2 (aK .i64)) [] 24:=⟨Tryz.underlying23,rfl,_,_,qp,TK,GH,rfl,Zt,fun _=>D2⟩
instance alP:wj Tryz.prog 41:=⟨_,_,Tryz.underlying41,W1,Yi⟩
instance aji:IL Tryz.prog 116 12:=⟨_,_,Tryz.underlying116,sx,D9⟩
instance ajj:Qf Tryz.prog 116 34 12:=⟨Tryz.underlying116,_,_,sx,JO,D9,by decide⟩
theorem ZA:i34.bytes=256:=by kernel_rfl
instance ajk:Ay Tryz.prog 116 34 12 256:=⟨Tryz.underlying116,_,_,sx,JO,rfl,D9,ZA,by decide⟩
instance ajl:wj Tryz.prog 151:=⟨_,_,Tryz.underlying151,GI,N3⟩
instance ajm:FX Tryz.prog 151 85:=⟨Tryz.underlying151,_,_,GI,Zy,N3⟩
instance ajn:wj Tryz.prog 208:=⟨_,_,Tryz.underlying208,I0,JR⟩
instance ajo:FX Tryz.prog 208 158:=⟨Tryz.underlying208,_,_,I0,W4,JR⟩
instance ajp:wj Tryz.prog 214:=⟨_,_,Tryz.underlying214,LD,N4⟩
instance ajq:FX Tryz.prog 214 88:=⟨Tryz.underlying214,_,_,LD,Zz,N4⟩
instance ajr:IL Tryz.prog 224 3:=⟨_,_,Tryz.underlying224,vj,BD⟩
instance ajs:Qf Tryz.prog 224 227 3:=⟨Tryz.underlying224,_,_,vj,Fy,BD,by decide⟩
theorem W8:i227.bytes=40:=by kernel_rfl
instance ajt:Ay Tryz.prog 224 227 3 40:=⟨Tryz.underlying224,_,_,vj,Fy,rfl,BD,W8,by decide⟩
instance so2:wk Tryz.prog 2 1:=⟨_,zx,LB⟩
instance so3:wk Tryz.prog 3 1:=⟨_,Qr,Yh⟩
instance alQ:wk Tryz.prog 22 1:=⟨_,qp,GH⟩
instance alR:wk Tryz.prog 23 1:=⟨_,LC,TL⟩
instance alS:wk Tryz.prog 32 5:=⟨_,yD,N0⟩
instance alT:wk Tryz.prog 34 12:=⟨_,sx,D9⟩
instance alU:wk Tryz.prog 65 25:=⟨_,C4,N1⟩
instance alV:wk Tryz.prog 69 26:=⟨_,C5,N2⟩
instance aju:wk Tryz.prog 126 2:=⟨_,BC,JP⟩
instance ajv:wk Tryz.prog 160 1:=⟨_,I1,Qt⟩
instance ajw:wk Tryz.prog 227 3:=⟨_,vj,BD⟩
instance alW:B1 Tryz.prog 32 [.int .i64 ((0:Int)),.slice none 0 0,.slice none 0 0,.slice none 0 0,.slice none 0 0]:=⟨_,_,yD,TN,rfl⟩
instance alX:B1 Tryz.prog 34 [.int .i64 ((0:Int)),.slice none 0 0,.slice none 0 0,.slice none 0 0,.slice none 0 0,.int .i64 ((0:Int)),.slice none 0 0,.slice none 0 0,.slice none 0 0,.slice none 0 0,.slice none 0 0,.slice none 0 0]:=⟨_,_,sx,JO,rfl⟩
instance alY:B1 Tryz.prog 65 [.int .i64 ((0:Int)),.slice none 0 0,.slice none 0 0,.slice none 0 0,.slice none 0 0,.int .i64 ((0:Int)),.slice none 0 0,.slice none 0 0,.slice none 0 0,.slice none 0 0,.slice none 0 0,.slice none 0 0,.int .i64 ((0:Int)),.slice none 0 0,.slice none 0 0,.slice none 0 0,.slice none 0 0,.int .i64 ((0:Int)),.slice none 0 0,.slice none 0 0,.slice none 0 0,.slice none 0 0,.slice none 0 0,.slice none 0 0,.slice none 0 0]:=⟨_,_,C4,TP,rfl⟩
instance alZ:B1 Tryz.prog 69 [.int .i64 ((0:Int)),.slice none 0 0,.slice none 0 0,.slice none 0 0,.slice none 0 0,.int .i64 ((0:Int)),.slice none 0 0,.slice none 0 0,.slice none 0 0,.slice none 0 0,.slice none 0 0,.slice none 0 0,.int .i64 ((0:Int)),.slice none 0 0,.slice none 0 0,.slice none 0 0,.slice none 0 0,.int .i64 ((0:Int)),.slice none 0 0,.slice none 0 0,.slice none 0 0,.slice none 0 0,.slice none 0 0,.slice none 0 0,.slice none 0 0,.slice none 0 0]:=⟨_,_,C5,TQ,rfl⟩
instance ajx:B1 Tryz.prog 126 [.int .i64 ((0:Int)),.int .i64 ((0:Int))]:=⟨_,_,BC,Qs,rfl⟩
instance ajy:B1 Tryz.prog 227 [.int .i64 ((0:Int)),.int .i64 ((0:Int)),.slice none 0 0]:=⟨_,_,vj,Fy,rfl⟩
instance afI:ry Tryz.prog 32 0 0:=⟨_,_,_,Tryz.underlying32,rfl,zx,TJ,rfl⟩
instance afJ:ry Tryz.prog 32 1 1:=⟨_,_,_,Tryz.underlying32,rfl,qp,zy,rfl⟩
instance afK:ry Tryz.prog 32 2 2:=⟨_,_,_,Tryz.underlying32,rfl,qp,zy,rfl⟩
instance afL:ry Tryz.prog 32 3 3:=⟨_,_,_,Tryz.underlying32,rfl,qp,zy,rfl⟩
instance afM:ry Tryz.prog 32 4 4:=⟨_,_,_,Tryz.underlying32,rfl,LC,Zu,rfl⟩
instance afN:ry Tryz.prog 34 0 0:=⟨_,_,_,Tryz.underlying34,rfl,yD,TM,rfl⟩
instance afO:ry Tryz.prog 34 1 5:=⟨_,_,_,Tryz.underlying34,rfl,yD,TM,rfl⟩
instance afP:ry Tryz.prog 34 2 10:=⟨_,_,_,Tryz.underlying34,rfl,qp,zy,rfl⟩
instance afQ:ry Tryz.prog 34 3 11:=⟨_,_,_,Tryz.underlying34,rfl,qp,zy,rfl⟩
instance afR:ry Tryz.prog 65 0 0:=⟨_,_,_,Tryz.underlying65,rfl,sx,JN,rfl⟩
instance afS:ry Tryz.prog 65 1 12:=⟨_,_,_,Tryz.underlying65,rfl,sx,JN,rfl⟩
instance afT:ry Tryz.prog 65 2 24:=⟨_,_,_,Tryz.underlying65,rfl,qp,zy,rfl⟩
instance afU:ry Tryz.prog 69 0 0:=⟨_,_,_,Tryz.underlying69,rfl,sx,JN,rfl⟩
instance afV:ry Tryz.prog 69 1 12:=⟨_,_,_,Tryz.underlying69,rfl,sx,JN,rfl⟩
instance afW:ry Tryz.prog 69 2 24:=⟨_,_,_,Tryz.underlying69,rfl,qp,zy,rfl⟩
instance afX:ry Tryz.prog 69 3 25:=⟨_,_,_,Tryz.underlying69,rfl,qp,zy,rfl⟩
instance adT:ry Tryz.prog 140 0 0:=⟨_,_,_,Tryz.underlying140,rfl,GI,Zx,rfl⟩
instance adU:ry Tryz.prog 162 0 0:=⟨_,_,_,Tryz.underlying162,rfl,TO,Zw,rfl⟩
instance adV:ry Tryz.prog 162 1 1:=⟨_,_,_,Tryz.underlying162,rfl,Qr,ne3,rfl⟩
instance adW:ry Tryz.prog 162 2 2:=⟨_,_,_,Tryz.underlying162,rfl,I1,W5,rfl⟩
instance adX:ry Tryz.prog 227 0 0:=⟨_,_,_,Tryz.underlying227,rfl,zx,TJ,rfl⟩
instance adY:ry Tryz.prog 227 1 1:=⟨_,_,_,Tryz.underlying227,rfl,zx,TJ,rfl⟩
instance adZ:ry Tryz.prog 227 2 2:=⟨_,_,_,Tryz.underlying227,rfl,qp,zy,rfl⟩
instance ajz:K6 Tryz.prog 228 Int Bool inferInstance (Value.int .i64) Value.bool:=⟨_,_,_,Tryz.underlying228,Tryz.underlying2,Ky.int⟩
instance ZB:IQ Tryz.prog 3 160 .u64:=⟨by rw [Tryz.underlying3]; rfl,Tryz.underlying160⟩
instance afY:IQ Tryz.prog 5 2 .i64:=⟨by rw [Tryz.underlying5]; rfl,Tryz.underlying2⟩
instance ZC:IQ Tryz.prog 5 160 .u64:=⟨by rw [Tryz.underlying5]; rfl,Tryz.underlying160⟩
instance ZD:IQ Tryz.prog 160 2 .i64:=⟨by rw [Tryz.underlying160]; rfl,Tryz.underlying2⟩
instance al0:Af Tryz.prog 32 [.int .i64 ((0:Int)),.slice none 0 0,.slice none 0 0,.slice none 0 0,.slice none 0 0] [(0,1),(1,1),(2,1),(3,1),(4,1)]:=⟨_,_,_,Tryz.underlying32,by kernel_rfl,yD,TN,rfl⟩
instance al1:Af Tryz.prog 34 [.int .i64 ((0:Int)),.slice none 0 0,.slice none 0 0,.slice none 0 0,.slice none 0 0,.int .i64 ((0:Int)),.slice none 0 0,.slice none 0 0,.slice none 0 0,.slice none 0 0,.slice none 0 0,.slice none 0 0] [(0,5),(5,5),(10,1),(11,1)]:=⟨_,_,_,Tryz.underlying34,by kernel_rfl,sx,JO,rfl⟩
instance al2:Af Tryz.prog 65 [.int .i64 ((0:Int)),.slice none 0 0,.slice none 0 0,.slice none 0 0,.slice none 0 0,.int .i64 ((0:Int)),.slice none 0 0,.slice none 0 0,.slice none 0 0,.slice none 0 0,.slice none 0 0,.slice none 0 0,.int .i64 ((0:Int)),.slice none 0 0,.slice none 0 0,.slice none 0 0,.slice none 0 0,.int .i64 ((0:Int)),.slice none 0 0,.slice none 0 0,.slice none 0 0,.slice none 0 0,.slice none 0 0,.slice none 0 0,.slice none 0 0] [(0,12),(12,12),(24,1)]:=⟨_,_,_,Tryz.underlying65,by kernel_rfl,C4,TP,rfl⟩
instance al3:Af Tryz.prog 69 [.int .i64 ((0:Int)),.slice none 0 0,.slice none 0 0,.slice none 0 0,.slice none 0 0,.int .i64 ((0:Int)),.slice none 0 0,.slice none 0 0,.slice none 0 0,.slice none 0 0,.slice none 0 0,.slice none 0 0,.int .i64 ((0:Int)),.slice none 0 0,.slice none 0 0,.slice none 0 0,.slice none 0 0,.int .i64 ((0:Int)),.slice none 0 0,.slice none 0 0,.slice none 0 0,.slice none 0 0,.slice none 0 0,.slice none 0 0,.slice none 0 0,.slice none 0 0] [(0,12),(12,12),(24,1),(25,1)]:=⟨_,_,_,Tryz.underlying69,by kernel_rfl,C5,TQ,rfl⟩
instance ajA:Af Tryz.prog 126 [.int .i64 ((0:Int)),.int .i64 ((0:Int))] [(0,1),(1,1)]:=⟨_,_,_,Tryz.underlying126,by kernel_rfl,BC,Qs,rfl⟩
instance ajB:Af Tryz.prog 140 [.pointer none] [(0,1)]:=⟨_,_,_,Tryz.underlying140,by kernel_rfl,RA,W3,rfl⟩
instance ajC:Af Tryz.prog 162 [.slice none 0 0,.int .i64 ((0:Int)),.int .u64 ((0:Int))] [(0,1),(1,1),(2,1)]:=⟨_,_,_,Tryz.underlying162,by kernel_rfl,RB,W7,rfl⟩
instance ajD:Af Tryz.prog 227 [.int .i64 ((0:Int)),.int .i64 ((0:Int)),.slice none 0 0] [(0,1),(1,1),(2,1)]:=⟨_,_,_,Tryz.underlying227,by kernel_rfl,vj,Fy,rfl⟩
instance ajE:SI Tryz.prog 126 .i64 .i64:=⟨_,_,Tryz.underlying126,by decide,by decide,Tryz.underlying2,Tryz.underlying2,rfl,rfl,by kernel_rfl,by kernel_rfl⟩
instance al4:bm Tryz.prog 16:=⟨_,_,Tryz.func16,rfl,by kernel_rfl⟩
instance al5:bm Tryz.prog 20:=⟨_,_,Tryz.func20,rfl,by kernel_rfl⟩
instance al6:bm Tryz.prog 23:=⟨_,_,Tryz.func23,rfl,by kernel_rfl⟩
instance al7:bm Tryz.prog 30:=⟨_,_,Tryz.func30,rfl,by kernel_rfl⟩
instance al8:bm Tryz.prog 42:=⟨_,_,Tryz.func42,rfl,by kernel_rfl⟩
instance al9:bm Tryz.prog 43:=⟨_,_,Tryz.func43,rfl,by kernel_rfl⟩
instance ama:bm Tryz.prog 44:=⟨_,_,Tryz.func44,rfl,by kernel_rfl⟩
instance amb:bm Tryz.prog 45:=⟨_,_,Tryz.func45,rfl,by kernel_rfl⟩
instance amc:bm Tryz.prog 46:=⟨_,_,Tryz.func46,rfl,by kernel_rfl⟩
instance amd:bm Tryz.prog 47:=⟨_,_,Tryz.func47,rfl,by kernel_rfl⟩
instance ame:bm Tryz.prog 48:=⟨_,_,Tryz.func48,rfl,by kernel_rfl⟩
instance amf:bm Tryz.prog 49:=⟨_,_,Tryz.func49,rfl,by kernel_rfl⟩
instance amg:bm Tryz.prog 50:=⟨_,_,Tryz.func50,rfl,by kernel_rfl⟩
instance amh:bm Tryz.prog 56:=⟨_,_,Tryz.func56,rfl,by kernel_rfl⟩
instance ami:bm Tryz.prog 62:=⟨_,_,Tryz.func62,rfl,by kernel_rfl⟩
instance amj:bm Tryz.prog 63:=⟨_,_,Tryz.func63,rfl,by kernel_rfl⟩
instance amk:bm Tryz.prog 64:=⟨_,_,Tryz.func64,rfl,by kernel_rfl⟩
instance aml:bm Tryz.prog 65:=⟨_,_,Tryz.func65,rfl,by kernel_rfl⟩
instance amm:bm Tryz.prog 68:=⟨_,_,Tryz.func68,rfl,by kernel_rfl⟩
instance amn:bm Tryz.prog 69:=⟨_,_,Tryz.func69,rfl,by kernel_rfl⟩
instance amo:bm Tryz.prog 78:=⟨_,_,Tryz.func78,rfl,by kernel_rfl⟩
instance amp:bm Tryz.prog 79:=⟨_,_,Tryz.func79,rfl,by kernel_rfl⟩
instance amq:bm Tryz.prog 80:=⟨_,_,Tryz.func80,rfl,by kernel_rfl⟩
instance amr:bm Tryz.prog 81:=⟨_,_,Tryz.func81,rfl,by kernel_rfl⟩
instance ams:bm Tryz.prog 82:=⟨_,_,Tryz.func82,rfl,by kernel_rfl⟩
instance amt:bm Tryz.prog 83:=⟨_,_,Tryz.func83,rfl,by kernel_rfl⟩
instance amu:bm Tryz.prog 85:=⟨_,_,Tryz.func85,rfl,by kernel_rfl⟩
instance amv:bm Tryz.prog 86:=⟨_,_,Tryz.func86,rfl,by kernel_rfl⟩
instance amw:bm Tryz.prog 87:=⟨_,_,Tryz.func87,rfl,by kernel_rfl⟩
instance amx:bm Tryz.prog 89:=⟨_,_,Tryz.func89,rfl,by kernel_rfl⟩
instance amy:bm Tryz.prog 90:=⟨_,_,Tryz.func90,rfl,by kernel_rfl⟩
instance amz:bm Tryz.prog 91:=⟨_,_,Tryz.func91,rfl,by kernel_rfl⟩
instance amA:bm Tryz.prog 93:=⟨_,_,Tryz.func93,rfl,by kernel_rfl⟩
instance amB:bm Tryz.prog 97:=⟨_,_,Tryz.func97,rfl,by kernel_rfl⟩
instance amC:bm Tryz.prog 98:=⟨_,_,Tryz.func98,rfl,by kernel_rfl⟩
instance amD:bm Tryz.prog 99:=⟨_,_,Tryz.func99,rfl,by kernel_rfl⟩
instance ajF:bm Tryz.prog 101:=⟨_,_,Tryz.func101,rfl,by kernel_rfl⟩
instance ajG:bm Tryz.prog 102:=⟨_,_,Tryz.func102,rfl,by kernel_rfl⟩
instance ajH:bm Tryz.prog 105:=⟨_,_,Tryz.func105,rfl,by kernel_rfl⟩
instance ajI:bm Tryz.prog 108:=⟨_,_,Tryz.func108,rfl,by kernel_rfl⟩
instance ajJ:bm Tryz.prog 109:=⟨_,_,Tryz.func109,rfl,by kernel_rfl⟩
instance ajK:bm Tryz.prog 110:=⟨_,_,Tryz.func110,rfl,by kernel_rfl⟩
instance ajL:bm Tryz.prog 113:=⟨_,_,Tryz.func113,rfl,by kernel_rfl⟩
instance ajM:bm Tryz.prog 117:=⟨_,_,Tryz.func117,rfl,by kernel_rfl⟩
instance ajN:bm Tryz.prog 120:=⟨_,_,Tryz.func120,rfl,by kernel_rfl⟩
instance ajO:bm Tryz.prog 121:=⟨_,_,Tryz.func121,rfl,by kernel_rfl⟩
instance ajP:bm Tryz.prog 122:=⟨_,_,Tryz.func122,rfl,by kernel_rfl⟩
instance ajQ:bm Tryz.prog 124:=⟨_,_,Tryz.func124,rfl,by kernel_rfl⟩
instance ajR:bm Tryz.prog 125:=⟨_,_,Tryz.func125,rfl,by kernel_rfl⟩
instance ajS:bm Tryz.prog 126:=⟨_,_,Tryz.func126,rfl,by kernel_rfl⟩
instance ajT:bm Tryz.prog 127:=⟨_,_,Tryz.func127,rfl,by kernel_rfl⟩
instance ajU:bm Tryz.prog 128:=⟨_,_,Tryz.func128,rfl,by kernel_rfl⟩
instance ajV:bm Tryz.prog 129:=⟨_,_,Tryz.func129,rfl,by kernel_rfl⟩
instance ajW:bm Tryz.prog 130:=⟨_,_,Tryz.func130,rfl,by kernel_rfl⟩
instance ajX:bm Tryz.prog 131:=⟨_,_,Tryz.func131,rfl,by kernel_rfl⟩
instance ajY:bm Tryz.prog 132:=⟨_,_,Tryz.func132,rfl,by kernel_rfl⟩
instance ajZ:bm Tryz.prog 133:=⟨_,_,Tryz.func133,rfl,by kernel_rfl⟩
instance aj0:bm Tryz.prog 136:=⟨_,_,Tryz.func136,rfl,by kernel_rfl⟩
instance aj1:bm Tryz.prog 137:=⟨_,_,Tryz.func137,rfl,by kernel_rfl⟩
instance aj2:bm Tryz.prog 138:=⟨_,_,Tryz.func138,rfl,by kernel_rfl⟩
instance aj3:bm Tryz.prog 139:=⟨_,_,Tryz.func139,rfl,by kernel_rfl⟩
instance aj4:bm Tryz.prog 142:=⟨_,_,Tryz.func142,rfl,by kernel_rfl⟩
instance aj5:bm Tryz.prog 146:=⟨_,_,Tryz.func146,rfl,by kernel_rfl⟩
instance aj6:bm Tryz.prog 147:=⟨_,_,Tryz.func147,rfl,by kernel_rfl⟩
instance aj7:bm Tryz.prog 148:=⟨_,_,Tryz.func148,rfl,by kernel_rfl⟩
instance aj8:bm Tryz.prog 149:=⟨_,_,Tryz.func149,rfl,by kernel_rfl⟩
instance aj9:bm Tryz.prog 151:=⟨_,_,Tryz.func151,rfl,by kernel_rfl⟩
instance aka:bm Tryz.prog 152:=⟨_,_,Tryz.func152,rfl,by kernel_rfl⟩
instance akb:bm Tryz.prog 153:=⟨_,_,Tryz.func153,rfl,by kernel_rfl⟩
instance akc:bm Tryz.prog 154:=⟨_,_,Tryz.func154,rfl,by kernel_rfl⟩
instance akd:bm Tryz.prog 155:=⟨_,_,Tryz.func155,rfl,by kernel_rfl⟩
instance ake:bm Tryz.prog 158:=⟨_,_,Tryz.func158,rfl,by kernel_rfl⟩
instance akf:bm Tryz.prog 159:=⟨_,_,Tryz.func159,rfl,by kernel_rfl⟩
instance akg:bm Tryz.prog 161:=⟨_,_,Tryz.func161,rfl,by kernel_rfl⟩
instance akh:bm Tryz.prog 162:=⟨_,_,Tryz.func162,rfl,by kernel_rfl⟩
instance aki:bm Tryz.prog 163:=⟨_,_,Tryz.func163,rfl,by kernel_rfl⟩
instance akj:bm Tryz.prog 164:=⟨_,_,Tryz.func164,rfl,by kernel_rfl⟩
instance akk:bm Tryz.prog 165:=⟨_,_,Tryz.func165,rfl,by kernel_rfl⟩
instance akl:bm Tryz.prog 166:=⟨_,_,Tryz.func166,rfl,by kernel_rfl⟩
instance akm:bm Tryz.prog 167:=⟨_,_,Tryz.func167,rfl,by kernel_rfl⟩
instance akn:bm Tryz.prog 169:=⟨_,_,Tryz.func169,rfl,by kernel_rfl⟩
instance ako:bm Tryz.prog 173:=⟨_,_,Tryz.func173,rfl,by kernel_rfl⟩
instance akp:bm Tryz.prog 176:=⟨_,_,Tryz.func176,rfl,by kernel_rfl⟩
instance akq:bm Tryz.prog 177:=⟨_,_,Tryz.func177,rfl,by kernel_rfl⟩
instance akr:bm Tryz.prog 182:=⟨_,_,Tryz.func182,rfl,by kernel_rfl⟩
instance aks:bm Tryz.prog 183:=⟨_,_,Tryz.func183,rfl,by kernel_rfl⟩
instance akt:bm Tryz.prog 188:=⟨_,_,Tryz.func188,rfl,by kernel_rfl⟩
instance aku:bm Tryz.prog 190:=⟨_,_,Tryz.func190,rfl,by kernel_rfl⟩
instance akv:bm Tryz.prog 191:=⟨_,_,Tryz.func191,rfl,by kernel_rfl⟩
instance akw:bm Tryz.prog 192:=⟨_,_,Tryz.func192,rfl,by kernel_rfl⟩
instance akx:bm Tryz.prog 193:=⟨_,_,Tryz.func193,rfl,by kernel_rfl⟩
instance aky:bm Tryz.prog 194:=⟨_,_,Tryz.func194,rfl,by kernel_rfl⟩
instance akz:bm Tryz.prog 195:=⟨_,_,Tryz.func195,rfl,by kernel_rfl⟩
instance akA:bm Tryz.prog 196:=⟨_,_,Tryz.func196,rfl,by kernel_rfl⟩
instance akB:bm Tryz.prog 197:=⟨_,_,Tryz.func197,rfl,by kernel_rfl⟩
instance akC:bm Tryz.prog 198:=⟨_,_,Tryz.func198,rfl,by kernel_rfl⟩
instance akD:bm Tryz.prog 199:=⟨_,_,Tryz.func199,rfl,by kernel_rfl⟩
instance akE:bm Tryz.prog 200:=⟨_,_,Tryz.func200,rfl,by kernel_rfl⟩
instance akF:bm Tryz.prog 201:=⟨_,_,Tryz.func201,rfl,by kernel_rfl⟩
instance akG:bm Tryz.prog 202:=⟨_,_,Tryz.func202,rfl,by kernel_rfl⟩
instance akH:bm Tryz.prog 203:=⟨_,_,Tryz.func203,rfl,by kernel_rfl⟩
instance akI:bm Tryz.prog 204:=⟨_,_,Tryz.func204,rfl,by kernel_rfl⟩
instance akJ:bm Tryz.prog 208:=⟨_,_,Tryz.func208,rfl,by kernel_rfl⟩
instance akK:bm Tryz.prog 209:=⟨_,_,Tryz.func209,rfl,by kernel_rfl⟩
instance akL:bm Tryz.prog 210:=⟨_,_,Tryz.func210,rfl,by kernel_rfl⟩
instance akM:bm Tryz.prog 211:=⟨_,_,Tryz.func211,rfl,by kernel_rfl⟩
instance akN:bm Tryz.prog 212:=⟨_,_,Tryz.func212,rfl,by kernel_rfl⟩
instance akO:bm Tryz.prog 213:=⟨_,_,Tryz.func213,rfl,by kernel_rfl⟩
instance akP:bm Tryz.prog 214:=⟨_,_,Tryz.func214,rfl,by kernel_rfl⟩
instance akQ:bm Tryz.prog 215:=⟨_,_,Tryz.func215,rfl,by kernel_rfl⟩
instance akR:bm Tryz.prog 216:=⟨_,_,Tryz.func216,rfl,by kernel_rfl⟩
instance akS:bm Tryz.prog 217:=⟨_,_,Tryz.func217,rfl,by kernel_rfl⟩
instance akT:bm Tryz.prog 218:=⟨_,_,Tryz.func218,rfl,by kernel_rfl⟩
instance akU:bm Tryz.prog 219:=⟨_,_,Tryz.func219,rfl,by kernel_rfl⟩
instance akV:bm Tryz.prog 220:=⟨_,_,Tryz.func220,rfl,by kernel_rfl⟩
instance akW:bm Tryz.prog 221:=⟨_,_,Tryz.func221,rfl,by kernel_rfl⟩
instance akX:bm Tryz.prog 228:=⟨_,_,Tryz.func228,rfl,by kernel_rfl⟩
instance akY:bm Tryz.prog 229:=⟨_,_,Tryz.func229,rfl,by kernel_rfl⟩
instance akZ:bm Tryz.prog 230:=⟨_,_,Tryz.func230,rfl,by kernel_rfl⟩
instance ak0:bm Tryz.prog 231:=⟨_,_,Tryz.func231,rfl,by kernel_rfl⟩
instance ak1:bm Tryz.prog 232:=⟨_,_,Tryz.func232,rfl,by kernel_rfl⟩
instance ak2:bm Tryz.prog 233:=⟨_,_,Tryz.func233,rfl,by kernel_rfl⟩
instance ak3:bm Tryz.prog 234:=⟨_,_,Tryz.func234,rfl,by kernel_rfl⟩
instance ak4:bm Tryz.prog 236:=⟨_,_,Tryz.func236,rfl,by kernel_rfl⟩
instance ak5:bm Tryz.prog 237:=⟨_,_,Tryz.func237,rfl,by kernel_rfl⟩
instance ak6:bm Tryz.prog 240:=⟨_,_,Tryz.func240,rfl,by kernel_rfl⟩
instance ak7:bm Tryz.prog 243:=⟨_,_,Tryz.func243,rfl,by kernel_rfl⟩
end Go.Proofs.YtbhhmalgcnhniaaGreat
