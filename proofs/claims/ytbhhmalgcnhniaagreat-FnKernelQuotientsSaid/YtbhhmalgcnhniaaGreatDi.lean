/- Closed facts on types, as instances. No condition. -/
import Derived.Test.YtbhhmalgcnhniaaGreatDp
import Derived.Test.YtbhhmalgcnhniaaGreatLn
import Derived.Test.YtbhhmalgcnhniaaGreatChecked
import Derived.KernelRfl
namespace Go.Proofs.YtbhhmalgcnhniaaGreat
open Go Go.Li Go.Dk
set_option linter.unusedVariables false
set_option maxRecDepth 100000
noncomputable def i2:TypeInfo:=(Tryz.prog.info? 2).getD default
theorem sg:Tryz.prog.info? 2=some i2:=by kernel_rfl
theorem CG:i2.size=1:=by kernel_rfl
theorem Ts:i2.size≠0:=by rw [CG]; decide
theorem Lu:i2.zero=some (.int .i64 0):=by kernel_rfl
theorem X6:i2.bytes=8:=by kernel_rfl
noncomputable def i3:TypeInfo:=(Tryz.prog.info? 3).getD default
theorem Qi:Tryz.prog.info? 3=some i3:=by kernel_rfl
theorem X7:i3.size=1:=by kernel_rfl
theorem ne3:i3.size≠0:=by rw [X7]; decide
theorem zr3:i3.zero=some (.int .i64 0):=by kernel_rfl
theorem by3:i3.bytes=8:=by kernel_rfl
noncomputable def i5:TypeInfo:=(Tryz.prog.info? 5).getD default
theorem W7:Tryz.prog.info? 5=some i5:=by kernel_rfl
theorem X8:i5.size=1:=by kernel_rfl
theorem ne5:i5.size≠0:=by rw [X8]; decide
theorem zr5:i5.zero=some (.int .u8 0):=by kernel_rfl
theorem by5:i5.bytes=1:=by kernel_rfl
noncomputable def i22:TypeInfo:=(Tryz.prog.info? 22).getD default
theorem rB:Tryz.prog.info? 22=some i22:=by kernel_rfl
theorem Gb:i22.size=1:=by kernel_rfl
theorem DJ:i22.size≠0:=by rw [Gb]; decide
theorem N8:i22.zero=some (.slice none 0 0):=by kernel_rfl
theorem ZC:i22.bytes=24:=by kernel_rfl
noncomputable def i23:TypeInfo:=(Tryz.prog.info? 23).getD default
theorem Lv:Tryz.prog.info? 23=some i23:=by kernel_rfl
theorem Tt:i23.size=1:=by kernel_rfl
theorem ZD:i23.size≠0:=by rw [Tt]; decide
theorem akv:i23.zero=some (.slice none 0 0):=by kernel_rfl
theorem akw:i23.bytes=24:=by kernel_rfl
noncomputable def i32:TypeInfo:=(Tryz.prog.info? 32).getD default
theorem xG:Tryz.prog.info? 32=some i32:=by kernel_rfl
theorem N9:i32.size=5:=by kernel_rfl
theorem Tu:i32.size≠0:=by rw [N9]; decide
theorem Tv:i32.zero=some (.agg #[.int .i64 ((0:Int)),.slice none 0 0,.slice none 0 0,.slice none 0 0,.slice none 0 0]):=by kernel_rfl
noncomputable def i34:TypeInfo:=(Tryz.prog.info? 34).getD default
theorem vO:Tryz.prog.info? 34=some i34:=by kernel_rfl
theorem DK:i34.size=12:=by kernel_rfl
theorem akx:i34.size≠0:=by rw [DK]; decide
theorem JD:i34.zero=some (.agg #[.int .i64 ((0:Int)),.slice none 0 0,.slice none 0 0,.slice none 0 0,.slice none 0 0,.int .i64 ((0:Int)),.slice none 0 0,.slice none 0 0,.slice none 0 0,.slice none 0 0,.slice none 0 0,.slice none 0 0]):=by kernel_rfl
noncomputable def i41:TypeInfo:=(Tryz.prog.info? 41).getD default
theorem Tx:Tryz.prog.info? 41=some i41:=by kernel_rfl
theorem ZE:i41.size=1:=by kernel_rfl
theorem ZF:i41.size≠0:=by rw [ZE]; decide
theorem aky:i41.zero=some (.slice none 0 0):=by kernel_rfl
theorem akz:i41.bytes=24:=by kernel_rfl
noncomputable def i88:TypeInfo:=(Tryz.prog.info? 88).getD default
theorem Lw:Tryz.prog.info? 88=some i88:=by kernel_rfl
theorem Oa:i88.size=1:=by kernel_rfl
theorem akA:i88.size≠0:=by rw [Oa]; decide
theorem ZG:i88.zero=some (.pointer none):=by kernel_rfl
theorem akB:i88.bytes=8:=by kernel_rfl
noncomputable def i126:TypeInfo:=(Tryz.prog.info? 126).getD default
theorem AV:Tryz.prog.info? 126=some i126:=by kernel_rfl
theorem JE:i126.size=2:=by kernel_rfl
theorem aip:i126.size≠0:=by rw [JE]; decide
theorem Qj:i126.zero=some (.agg #[.int .i64 ((0:Int)),.int .i64 ((0:Int))]):=by kernel_rfl
noncomputable def i128:TypeInfo:=(Tryz.prog.info? 128).getD default
theorem adj:Tryz.prog.info? 128=some i128:=by kernel_rfl
theorem W8:i128.size=1:=by kernel_rfl
theorem aiq:i128.size≠0:=by rw [W8]; decide
theorem air:i128.zero=some (.slice none 0 0):=by kernel_rfl
theorem ais:i128.bytes=24:=by kernel_rfl
noncomputable def i160:TypeInfo:=(Tryz.prog.info? 160).getD default
theorem Iu:Tryz.prog.info? 160=some i160:=by kernel_rfl
theorem Qk:i160.size=1:=by kernel_rfl
theorem W9:i160.size≠0:=by rw [Qk]; decide
theorem ait:i160.zero=some (.int .u64 0):=by kernel_rfl
theorem aiu:i160.bytes=8:=by kernel_rfl
noncomputable def i162:TypeInfo:=(Tryz.prog.info? 162).getD default
theorem Rk:Tryz.prog.info? 162=some i162:=by kernel_rfl
theorem Xa:i162.size=3:=by kernel_rfl
theorem aiv:i162.size≠0:=by rw [Xa]; decide
theorem Xb:i162.zero=some (.agg #[.slice none 0 0,.int .i64 ((0:Int)),.int .u64 ((0:Int))]):=by kernel_rfl
noncomputable def i227:TypeInfo:=(Tryz.prog.info? 227).getD default
theorem ud:Tryz.prog.info? 227=some i227:=by kernel_rfl
theorem AW:i227.size=3:=by kernel_rfl
theorem aiw:i227.size≠0:=by rw [AW]; decide
theorem EW:i227.zero=some (.agg #[.int .i64 ((0:Int)),.int .i64 ((0:Int)),.slice none 0 0]):=by kernel_rfl
instance lk2:LK Tryz.prog 2 none:=⟨_,Tryz.underlying2,rfl⟩
instance lk3:LK Tryz.prog 3 none:=⟨_,Tryz.underlying3,rfl⟩
instance lk5:LK Tryz.prog 5 none:=⟨_,Tryz.underlying5,rfl⟩
instance akC:LK Tryz.prog 22 none:=⟨_,Tryz.underlying22,rfl⟩
instance akD:LK Tryz.prog 23 none:=⟨_,Tryz.underlying23,rfl⟩
instance akE:LK Tryz.prog 32 (some 5):=⟨_,_,Tryz.underlying32,rfl,xG,N9⟩
instance akF:LK Tryz.prog 34 (some 12):=⟨_,_,Tryz.underlying34,rfl,vO,DK⟩
instance akG:LK Tryz.prog 41 none:=⟨_,Tryz.underlying41,rfl⟩
instance akH:LK Tryz.prog 88 none:=⟨_,Tryz.underlying88,rfl⟩
instance aix:LK Tryz.prog 126 (some 2):=⟨_,_,Tryz.underlying126,rfl,AV,JE⟩
instance aiy:LK Tryz.prog 128 none:=⟨_,Tryz.underlying128,rfl⟩
instance aiz:LK Tryz.prog 160 none:=⟨_,Tryz.underlying160,rfl⟩
instance aiA:LK Tryz.prog 227 (some 3):=⟨_,_,Tryz.underlying227,rfl,ud,AW⟩
instance akI:vf Tryz.prog 22:=⟨_,_,Tryz.underlying22,sg,CG⟩
instance akJ:Ib Tryz.prog 22 2:=⟨Tryz.underlying22,_,_,sg,Lu,CG⟩
instance akK:sH Tryz.prog 22 Int 2 (aM .i64) 0 8:=⟨Tryz.underlying22,rfl,_,_,sg,Lu,CG,rfl,X6,fun _=>⟨rfl,rfl⟩⟩
instance akL:vf Tryz.prog 23:=⟨_,_,Tryz.underlying23,rB,Gb⟩
instance akM:Ib Tryz.prog 23 22:=⟨Tryz.underlying23,_,_,rB,N8,Gb⟩
instance akN:sH Tryz.prog 23 (List Int) 22 (aJ 2 (aM .i64)) [] 24:=⟨Tryz.underlying23,rfl,_,_,rB,N8,Gb,rfl,ZC,fun _=>DB⟩
instance akO:vf Tryz.prog 41:=⟨_,_,Tryz.underlying41,W7,X8⟩
instance aiB:Ic Tryz.prog 116 12:=⟨_,_,Tryz.underlying116,vO,DK⟩
instance aiC:P6 Tryz.prog 116 34 12:=⟨Tryz.underlying116,_,_,vO,JD,DK,by decide⟩
theorem ZH:i34.bytes=256:=by kernel_rfl
instance aiD:zN Tryz.prog 116 34 12 256:=⟨Tryz.underlying116,_,_,vO,JD,rfl,DK,ZH,by decide⟩
instance aiE:vf Tryz.prog 128:=⟨_,_,Tryz.underlying128,sg,CG⟩
instance aiF:Ib Tryz.prog 128 2:=⟨Tryz.underlying128,_,_,sg,Lu,CG⟩
instance aiG:sH Tryz.prog 128 Int 2 (aM .i64) 0 8:=⟨Tryz.underlying128,rfl,_,_,sg,Lu,CG,rfl,X6,fun _=>⟨rfl,rfl⟩⟩
instance aiH:vf Tryz.prog 181:=⟨_,_,Tryz.underlying181,sg,CG⟩
instance aiI:vf Tryz.prog 214:=⟨_,_,Tryz.underlying214,Lw,Oa⟩
instance aiJ:KY Tryz.prog 214 88:=⟨Tryz.underlying214,_,_,Lw,ZG,Oa⟩
instance aiK:Ic Tryz.prog 224 3:=⟨_,_,Tryz.underlying224,ud,AW⟩
instance aiL:P6 Tryz.prog 224 227 3:=⟨Tryz.underlying224,_,_,ud,EW,AW,by decide⟩
theorem Xc:i227.bytes=40:=by kernel_rfl
instance aiM:zN Tryz.prog 224 227 3 40:=⟨Tryz.underlying224,_,_,ud,EW,rfl,AW,Xc,by decide⟩
instance so2:wS Tryz.prog 2 1:=⟨_,sg,CG⟩
instance so3:wS Tryz.prog 3 1:=⟨_,Qi,X7⟩
instance akP:wS Tryz.prog 22 1:=⟨_,rB,Gb⟩
instance akQ:wS Tryz.prog 23 1:=⟨_,Lv,Tt⟩
instance akR:wS Tryz.prog 32 5:=⟨_,xG,N9⟩
instance akS:wS Tryz.prog 34 12:=⟨_,vO,DK⟩
instance aiN:wS Tryz.prog 126 2:=⟨_,AV,JE⟩
instance aiO:wS Tryz.prog 160 1:=⟨_,Iu,Qk⟩
instance aiP:wS Tryz.prog 227 3:=⟨_,ud,AW⟩
instance akT:Cr Tryz.prog 22 [.slice none 0 0]:=⟨_,_,rB,N8,rfl⟩
instance akU:Cr Tryz.prog 32 [.int .i64 ((0:Int)),.slice none 0 0,.slice none 0 0,.slice none 0 0,.slice none 0 0]:=⟨_,_,xG,Tv,rfl⟩
instance akV:Cr Tryz.prog 34 [.int .i64 ((0:Int)),.slice none 0 0,.slice none 0 0,.slice none 0 0,.slice none 0 0,.int .i64 ((0:Int)),.slice none 0 0,.slice none 0 0,.slice none 0 0,.slice none 0 0,.slice none 0 0,.slice none 0 0]:=⟨_,_,vO,JD,rfl⟩
instance aiQ:Cr Tryz.prog 126 [.int .i64 ((0:Int)),.int .i64 ((0:Int))]:=⟨_,_,AV,Qj,rfl⟩
instance aiR:Cr Tryz.prog 227 [.int .i64 ((0:Int)),.int .i64 ((0:Int)),.slice none 0 0]:=⟨_,_,ud,EW,rfl⟩
instance afb:uB Tryz.prog 32 0 0:=⟨_,_,_,Tryz.underlying32,rfl,sg,Ts,rfl⟩
instance afc:uB Tryz.prog 32 1 1:=⟨_,_,_,Tryz.underlying32,rfl,rB,DJ,rfl⟩
instance afd:uB Tryz.prog 32 2 2:=⟨_,_,_,Tryz.underlying32,rfl,rB,DJ,rfl⟩
instance afe:uB Tryz.prog 32 3 3:=⟨_,_,_,Tryz.underlying32,rfl,rB,DJ,rfl⟩
instance aff:uB Tryz.prog 32 4 4:=⟨_,_,_,Tryz.underlying32,rfl,Lv,ZD,rfl⟩
instance afg:uB Tryz.prog 34 0 0:=⟨_,_,_,Tryz.underlying34,rfl,xG,Tu,rfl⟩
instance afh:uB Tryz.prog 34 1 5:=⟨_,_,_,Tryz.underlying34,rfl,xG,Tu,rfl⟩
instance afi:uB Tryz.prog 34 2 10:=⟨_,_,_,Tryz.underlying34,rfl,rB,DJ,rfl⟩
instance afj:uB Tryz.prog 34 3 11:=⟨_,_,_,Tryz.underlying34,rfl,rB,DJ,rfl⟩
instance adk:uB Tryz.prog 162 0 0:=⟨_,_,_,Tryz.underlying162,rfl,Tx,ZF,rfl⟩
instance adl:uB Tryz.prog 162 1 1:=⟨_,_,_,Tryz.underlying162,rfl,Qi,ne3,rfl⟩
instance adm:uB Tryz.prog 162 2 2:=⟨_,_,_,Tryz.underlying162,rfl,Iu,W9,rfl⟩
instance adn:uB Tryz.prog 227 0 0:=⟨_,_,_,Tryz.underlying227,rfl,sg,Ts,rfl⟩
instance ado:uB Tryz.prog 227 1 1:=⟨_,_,_,Tryz.underlying227,rfl,sg,Ts,rfl⟩
instance adp:uB Tryz.prog 227 2 2:=⟨_,_,_,Tryz.underlying227,rfl,rB,DJ,rfl⟩
instance afk:XK Tryz.prog 34 2 10:=⟨_,_,_,Tryz.underlying34,rfl,Tryz.underlying22,rfl,rfl⟩
instance aiS:Fa Tryz.prog 187 Int Int inferInstance (Value.int .i64) (Value.int .i64):=⟨_,_,_,Tryz.underlying187,Tryz.underlying2,Ky.int⟩
instance ZI:Ih Tryz.prog 3 160 .u64:=⟨by rw [Tryz.underlying3]; rfl,Tryz.underlying160⟩
instance afl:Ih Tryz.prog 5 2 .i64:=⟨by rw [Tryz.underlying5]; rfl,Tryz.underlying2⟩
instance ZJ:Ih Tryz.prog 5 160 .u64:=⟨by rw [Tryz.underlying5]; rfl,Tryz.underlying160⟩
instance ZK:Ih Tryz.prog 160 2 .i64:=⟨by rw [Tryz.underlying160]; rfl,Tryz.underlying2⟩
instance aiT:P8 Tryz.prog 187 Int (Value.int .i64) 0:=⟨_,_,_,Tryz.underlying187,sg,Lu⟩
instance bl4:Sm Tryz.prog 4:=⟨Tryz.underlying4⟩
instance akW:Cs Tryz.prog 32 [.int .i64 ((0:Int)),.slice none 0 0,.slice none 0 0,.slice none 0 0,.slice none 0 0] [(0,1),(1,1),(2,1),(3,1),(4,1)]:=⟨_,_,_,Tryz.underlying32,by kernel_rfl,xG,Tv,rfl⟩
instance akX:Cs Tryz.prog 34 [.int .i64 ((0:Int)),.slice none 0 0,.slice none 0 0,.slice none 0 0,.slice none 0 0,.int .i64 ((0:Int)),.slice none 0 0,.slice none 0 0,.slice none 0 0,.slice none 0 0,.slice none 0 0,.slice none 0 0] [(0,5),(5,5),(10,1),(11,1)]:=⟨_,_,_,Tryz.underlying34,by kernel_rfl,vO,JD,rfl⟩
instance aiU:Cs Tryz.prog 126 [.int .i64 ((0:Int)),.int .i64 ((0:Int))] [(0,1),(1,1)]:=⟨_,_,_,Tryz.underlying126,by kernel_rfl,AV,Qj,rfl⟩
instance aiV:Cs Tryz.prog 162 [.slice none 0 0,.int .i64 ((0:Int)),.int .u64 ((0:Int))] [(0,1),(1,1),(2,1)]:=⟨_,_,_,Tryz.underlying162,by kernel_rfl,Rk,Xb,rfl⟩
instance aiW:Cs Tryz.prog 227 [.int .i64 ((0:Int)),.int .i64 ((0:Int)),.slice none 0 0] [(0,1),(1,1),(2,1)]:=⟨_,_,_,Tryz.underlying227,by kernel_rfl,ud,EW,rfl⟩
instance aiX:Sn Tryz.prog 126 .i64 .i64:=⟨_,_,Tryz.underlying126,by decide,by decide,Tryz.underlying2,Tryz.underlying2,rfl,rfl,by kernel_rfl,by kernel_rfl⟩
instance akY:bu Tryz.prog 16:=⟨_,_,Tryz.func16,rfl,by kernel_rfl⟩
instance akZ:bu Tryz.prog 20:=⟨_,_,Tryz.func20,rfl,by kernel_rfl⟩
instance ak0:bu Tryz.prog 27:=⟨_,_,Tryz.func27,rfl,by kernel_rfl⟩
instance ak1:bu Tryz.prog 29:=⟨_,_,Tryz.func29,rfl,by kernel_rfl⟩
instance ak2:bu Tryz.prog 30:=⟨_,_,Tryz.func30,rfl,by kernel_rfl⟩
instance ak3:bu Tryz.prog 31:=⟨_,_,Tryz.func31,rfl,by kernel_rfl⟩
instance ak4:bu Tryz.prog 32:=⟨_,_,Tryz.func32,rfl,by kernel_rfl⟩
instance ak5:bu Tryz.prog 33:=⟨_,_,Tryz.func33,rfl,by kernel_rfl⟩
instance ak6:bu Tryz.prog 34:=⟨_,_,Tryz.func34,rfl,by kernel_rfl⟩
instance ak7:bu Tryz.prog 35:=⟨_,_,Tryz.func35,rfl,by kernel_rfl⟩
instance ak8:bu Tryz.prog 36:=⟨_,_,Tryz.func36,rfl,by kernel_rfl⟩
instance ak9:bu Tryz.prog 37:=⟨_,_,Tryz.func37,rfl,by kernel_rfl⟩
instance ala:bu Tryz.prog 38:=⟨_,_,Tryz.func38,rfl,by kernel_rfl⟩
instance ald:bu Tryz.prog 39:=⟨_,_,Tryz.func39,rfl,by kernel_rfl⟩
instance ale:bu Tryz.prog 40:=⟨_,_,Tryz.func40,rfl,by kernel_rfl⟩
instance alf:bu Tryz.prog 41:=⟨_,_,Tryz.func41,rfl,by kernel_rfl⟩
instance alg:bu Tryz.prog 56:=⟨_,_,Tryz.func56,rfl,by kernel_rfl⟩
instance alh:bu Tryz.prog 78:=⟨_,_,Tryz.func78,rfl,by kernel_rfl⟩
instance ali:bu Tryz.prog 79:=⟨_,_,Tryz.func79,rfl,by kernel_rfl⟩
instance alj:bu Tryz.prog 80:=⟨_,_,Tryz.func80,rfl,by kernel_rfl⟩
instance alk:bu Tryz.prog 81:=⟨_,_,Tryz.func81,rfl,by kernel_rfl⟩
instance alm:bu Tryz.prog 82:=⟨_,_,Tryz.func82,rfl,by kernel_rfl⟩
instance aln:bu Tryz.prog 85:=⟨_,_,Tryz.func85,rfl,by kernel_rfl⟩
instance alo:bu Tryz.prog 86:=⟨_,_,Tryz.func86,rfl,by kernel_rfl⟩
instance alp:bu Tryz.prog 87:=⟨_,_,Tryz.func87,rfl,by kernel_rfl⟩
instance alq:bu Tryz.prog 89:=⟨_,_,Tryz.func89,rfl,by kernel_rfl⟩
instance alr:bu Tryz.prog 90:=⟨_,_,Tryz.func90,rfl,by kernel_rfl⟩
instance als:bu Tryz.prog 91:=⟨_,_,Tryz.func91,rfl,by kernel_rfl⟩
instance alu:bu Tryz.prog 93:=⟨_,_,Tryz.func93,rfl,by kernel_rfl⟩
instance alv:bu Tryz.prog 97:=⟨_,_,Tryz.func97,rfl,by kernel_rfl⟩
instance alw:bu Tryz.prog 98:=⟨_,_,Tryz.func98,rfl,by kernel_rfl⟩
instance alx:bu Tryz.prog 99:=⟨_,_,Tryz.func99,rfl,by kernel_rfl⟩
instance aiY:bu Tryz.prog 101:=⟨_,_,Tryz.func101,rfl,by kernel_rfl⟩
instance aiZ:bu Tryz.prog 102:=⟨_,_,Tryz.func102,rfl,by kernel_rfl⟩
instance ai0:bu Tryz.prog 105:=⟨_,_,Tryz.func105,rfl,by kernel_rfl⟩
instance ai1:bu Tryz.prog 106:=⟨_,_,Tryz.func106,rfl,by kernel_rfl⟩
instance ai2:bu Tryz.prog 107:=⟨_,_,Tryz.func107,rfl,by kernel_rfl⟩
instance ai3:bu Tryz.prog 108:=⟨_,_,Tryz.func108,rfl,by kernel_rfl⟩
instance ai4:bu Tryz.prog 109:=⟨_,_,Tryz.func109,rfl,by kernel_rfl⟩
instance ai5:bu Tryz.prog 110:=⟨_,_,Tryz.func110,rfl,by kernel_rfl⟩
instance ai6:bu Tryz.prog 111:=⟨_,_,Tryz.func111,rfl,by kernel_rfl⟩
instance ai7:bu Tryz.prog 112:=⟨_,_,Tryz.func112,rfl,by kernel_rfl⟩
instance ai8:bu Tryz.prog 113:=⟨_,_,Tryz.func113,rfl,by kernel_rfl⟩
instance ai9:bu Tryz.prog 114:=⟨_,_,Tryz.func114,rfl,by kernel_rfl⟩
instance aja:bu Tryz.prog 115:=⟨_,_,Tryz.func115,rfl,by kernel_rfl⟩
instance ajb:bu Tryz.prog 116:=⟨_,_,Tryz.func116,rfl,by kernel_rfl⟩
instance ajc:bu Tryz.prog 117:=⟨_,_,Tryz.func117,rfl,by kernel_rfl⟩
instance ajd:bu Tryz.prog 118:=⟨_,_,Tryz.func118,rfl,by kernel_rfl⟩
instance aje:bu Tryz.prog 119:=⟨_,_,Tryz.func119,rfl,by kernel_rfl⟩
instance ajf:bu Tryz.prog 120:=⟨_,_,Tryz.func120,rfl,by kernel_rfl⟩
instance ajg:bu Tryz.prog 121:=⟨_,_,Tryz.func121,rfl,by kernel_rfl⟩
instance ajh:bu Tryz.prog 122:=⟨_,_,Tryz.func122,rfl,by kernel_rfl⟩
instance aji:bu Tryz.prog 123:=⟨_,_,Tryz.func123,rfl,by kernel_rfl⟩
instance ajj:bu Tryz.prog 124:=⟨_,_,Tryz.func124,rfl,by kernel_rfl⟩
instance ajk:bu Tryz.prog 137:=⟨_,_,Tryz.func137,rfl,by kernel_rfl⟩
instance ajl:bu Tryz.prog 138:=⟨_,_,Tryz.func138,rfl,by kernel_rfl⟩
instance ajm:bu Tryz.prog 139:=⟨_,_,Tryz.func139,rfl,by kernel_rfl⟩
instance ajn:bu Tryz.prog 142:=⟨_,_,Tryz.func142,rfl,by kernel_rfl⟩
instance ajo:bu Tryz.prog 146:=⟨_,_,Tryz.func146,rfl,by kernel_rfl⟩
instance ajp:bu Tryz.prog 147:=⟨_,_,Tryz.func147,rfl,by kernel_rfl⟩
instance ajq:bu Tryz.prog 151:=⟨_,_,Tryz.func151,rfl,by kernel_rfl⟩
instance ajr:bu Tryz.prog 152:=⟨_,_,Tryz.func152,rfl,by kernel_rfl⟩
instance ajs:bu Tryz.prog 153:=⟨_,_,Tryz.func153,rfl,by kernel_rfl⟩
instance ajt:bu Tryz.prog 154:=⟨_,_,Tryz.func154,rfl,by kernel_rfl⟩
instance aju:bu Tryz.prog 156:=⟨_,_,Tryz.func156,rfl,by kernel_rfl⟩
instance ajv:bu Tryz.prog 158:=⟨_,_,Tryz.func158,rfl,by kernel_rfl⟩
instance ajw:bu Tryz.prog 159:=⟨_,_,Tryz.func159,rfl,by kernel_rfl⟩
instance ajx:bu Tryz.prog 161:=⟨_,_,Tryz.func161,rfl,by kernel_rfl⟩
instance ajy:bu Tryz.prog 162:=⟨_,_,Tryz.func162,rfl,by kernel_rfl⟩
instance ajz:bu Tryz.prog 163:=⟨_,_,Tryz.func163,rfl,by kernel_rfl⟩
instance ajA:bu Tryz.prog 164:=⟨_,_,Tryz.func164,rfl,by kernel_rfl⟩
instance ajB:bu Tryz.prog 165:=⟨_,_,Tryz.func165,rfl,by kernel_rfl⟩
instance ajC:bu Tryz.prog 166:=⟨_,_,Tryz.func166,rfl,by kernel_rfl⟩
instance ajD:bu Tryz.prog 167:=⟨_,_,Tryz.func167,rfl,by kernel_rfl⟩
instance ajE:bu Tryz.prog 169:=⟨_,_,Tryz.func169,rfl,by kernel_rfl⟩
instance ajF:bu Tryz.prog 173:=⟨_,_,Tryz.func173,rfl,by kernel_rfl⟩
instance ajG:bu Tryz.prog 174:=⟨_,_,Tryz.func174,rfl,by kernel_rfl⟩
instance ajH:bu Tryz.prog 175:=⟨_,_,Tryz.func175,rfl,by kernel_rfl⟩
instance ajI:bu Tryz.prog 176:=⟨_,_,Tryz.func176,rfl,by kernel_rfl⟩
instance ajJ:bu Tryz.prog 177:=⟨_,_,Tryz.func177,rfl,by kernel_rfl⟩
instance ajK:bu Tryz.prog 178:=⟨_,_,Tryz.func178,rfl,by kernel_rfl⟩
instance ajL:bu Tryz.prog 179:=⟨_,_,Tryz.func179,rfl,by kernel_rfl⟩
instance ajM:bu Tryz.prog 180:=⟨_,_,Tryz.func180,rfl,by kernel_rfl⟩
instance ajN:bu Tryz.prog 181:=⟨_,_,Tryz.func181,rfl,by kernel_rfl⟩
instance ajO:bu Tryz.prog 182:=⟨_,_,Tryz.func182,rfl,by kernel_rfl⟩
instance ajP:bu Tryz.prog 183:=⟨_,_,Tryz.func183,rfl,by kernel_rfl⟩
instance ajQ:bu Tryz.prog 184:=⟨_,_,Tryz.func184,rfl,by kernel_rfl⟩
instance ajR:bu Tryz.prog 185:=⟨_,_,Tryz.func185,rfl,by kernel_rfl⟩
instance ajS:bu Tryz.prog 186:=⟨_,_,Tryz.func186,rfl,by kernel_rfl⟩
instance ajT:bu Tryz.prog 187:=⟨_,_,Tryz.func187,rfl,by kernel_rfl⟩
instance ajU:bu Tryz.prog 188:=⟨_,_,Tryz.func188,rfl,by kernel_rfl⟩
instance ajV:bu Tryz.prog 189:=⟨_,_,Tryz.func189,rfl,by kernel_rfl⟩
instance ajW:bu Tryz.prog 208:=⟨_,_,Tryz.func208,rfl,by kernel_rfl⟩
instance ajX:bu Tryz.prog 209:=⟨_,_,Tryz.func209,rfl,by kernel_rfl⟩
instance ajY:bu Tryz.prog 210:=⟨_,_,Tryz.func210,rfl,by kernel_rfl⟩
instance ajZ:bu Tryz.prog 211:=⟨_,_,Tryz.func211,rfl,by kernel_rfl⟩
instance aj0:bu Tryz.prog 212:=⟨_,_,Tryz.func212,rfl,by kernel_rfl⟩
instance aj1:bu Tryz.prog 213:=⟨_,_,Tryz.func213,rfl,by kernel_rfl⟩
instance aj2:bu Tryz.prog 214:=⟨_,_,Tryz.func214,rfl,by kernel_rfl⟩
instance aj3:bu Tryz.prog 215:=⟨_,_,Tryz.func215,rfl,by kernel_rfl⟩
instance aj4:bu Tryz.prog 217:=⟨_,_,Tryz.func217,rfl,by kernel_rfl⟩
instance aj5:bu Tryz.prog 218:=⟨_,_,Tryz.func218,rfl,by kernel_rfl⟩
instance aj6:bu Tryz.prog 219:=⟨_,_,Tryz.func219,rfl,by kernel_rfl⟩
instance aj7:bu Tryz.prog 220:=⟨_,_,Tryz.func220,rfl,by kernel_rfl⟩
instance aj8:bu Tryz.prog 221:=⟨_,_,Tryz.func221,rfl,by kernel_rfl⟩
instance aj9:bu Tryz.prog 223:=⟨_,_,Tryz.func223,rfl,by kernel_rfl⟩
instance aka:bu Tryz.prog 224:=⟨_,_,Tryz.func224,rfl,by kernel_rfl⟩
instance akb:bu Tryz.prog 225:=⟨_,_,Tryz.func225,rfl,by kernel_rfl⟩
instance akc:bu Tryz.prog 226:=⟨_,_,Tryz.func226,rfl,by kernel_rfl⟩
instance akd:bu Tryz.prog 227:=⟨_,_,Tryz.func227,rfl,by kernel_rfl⟩
instance ake:bu Tryz.prog 236:=⟨_,_,Tryz.func236,rfl,by kernel_rfl⟩
instance akf:bu Tryz.prog 237:=⟨_,_,Tryz.func237,rfl,by kernel_rfl⟩
instance akg:bu Tryz.prog 240:=⟨_,_,Tryz.func240,rfl,by kernel_rfl⟩
instance akh:bu Tryz.prog 243:=⟨_,_,Tryz.func243,rfl,by kernel_rfl⟩
end Go.Proofs.YtbhhmalgcnhniaaGreat
