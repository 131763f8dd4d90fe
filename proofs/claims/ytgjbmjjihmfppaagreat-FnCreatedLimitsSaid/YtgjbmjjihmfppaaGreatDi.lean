/- Closed facts on types, as instances. No condition. -/
import Derived.Test.YtgjbmjjihmfppaaGreatDp
import Derived.Test.YtgjbmjjihmfppaaGreatLn
import Derived.Test.YtgjbmjjihmfppaaGreatChecked
import Derived.KernelRfl
namespace Go.Proofs.YtgjbmjjihmfppaaGreat
open Go Go.Li Go.Dk
set_option linter.unusedVariables false
set_option maxRecDepth 100000
noncomputable def i2:TypeInfo:=(Tryz.prog.info? 2).getD default
theorem xY:Tryz.prog.info? 2=some i2:=by kernel_rfl
theorem NT:i2.size=1:=by kernel_rfl
theorem SM:i2.size≠0:=by rw [NT]; decide
theorem Wn:i2.zero=some (.int .i64 0):=by kernel_rfl
theorem by2:i2.bytes=8:=by kernel_rfl
noncomputable def i3:TypeInfo:=(Tryz.prog.info? 3).getD default
theorem L8:Tryz.prog.info? 3=some i3:=by kernel_rfl
theorem sz3:i3.size=1:=by kernel_rfl
theorem ne3:i3.size≠0:=by rw [sz3]; decide
theorem zr3:i3.zero=some (.int .i64 0):=by kernel_rfl
theorem by3:i3.bytes=8:=by kernel_rfl
noncomputable def i4:TypeInfo:=(Tryz.prog.info? 4).getD default
theorem EB:Tryz.prog.info? 4=some i4:=by kernel_rfl
theorem NU:i4.size=1:=by kernel_rfl
theorem ne4:i4.size≠0:=by rw [NU]; decide
theorem zr4:i4.zero=some (.bool false):=by kernel_rfl
theorem by4:i4.bytes=1:=by kernel_rfl
noncomputable def i5:TypeInfo:=(Tryz.prog.info? 5).getD default
theorem L9:Tryz.prog.info? 5=some i5:=by kernel_rfl
theorem SN:i5.size=1:=by kernel_rfl
theorem ne5:i5.size≠0:=by rw [SN]; decide
theorem zr5:i5.zero=some (.int .u8 0):=by kernel_rfl
theorem by5:i5.bytes=1:=by kernel_rfl
noncomputable def i22:TypeInfo:=(Tryz.prog.info? 22).getD default
theorem Wo:Tryz.prog.info? 22=some i22:=by kernel_rfl
theorem ach:i22.size=1:=by kernel_rfl
theorem aci:i22.size≠0:=by rw [ach]; decide
theorem anb:i22.zero=some (.slice none 0 0):=by kernel_rfl
theorem anc:i22.bytes=24:=by kernel_rfl
noncomputable def i24:TypeInfo:=(Tryz.prog.info? 24).getD default
theorem s9:Tryz.prog.info? 24=some i24:=by kernel_rfl
theorem It:i24.size=1:=by kernel_rfl
theorem DV:i24.size≠0:=by rw [It]; decide
theorem Qj:i24.zero=some (.slice none 0 0):=by kernel_rfl
theorem acj:i24.bytes=24:=by kernel_rfl
noncomputable def i25:TypeInfo:=(Tryz.prog.info? 25).getD default
theorem Iu:Tryz.prog.info? 25=some i25:=by kernel_rfl
theorem Wp:i25.size=1:=by kernel_rfl
theorem Wq:i25.size≠0:=by rw [Wp]; decide
theorem ane:i25.zero=some (.slice none 0 0):=by kernel_rfl
theorem anf:i25.bytes=24:=by kernel_rfl
noncomputable def i27:TypeInfo:=(Tryz.prog.info? 27).getD default
theorem Ah:Tryz.prog.info? 27=some i27:=by kernel_rfl
theorem Qk:i27.size=5:=by kernel_rfl
theorem Wr:i27.size≠0:=by rw [Qk]; decide
theorem Ws:i27.zero=some (.agg #[.int .i64 ((0:Int)),.slice none 0 0,.slice none 0 0,.slice none 0 0,.slice none 0 0]):=by kernel_rfl
noncomputable def i29:TypeInfo:=(Tryz.prog.info? 29).getD default
theorem tW:Tryz.prog.info? 29=some i29:=by kernel_rfl
theorem FP:i29.size=12:=by kernel_rfl
theorem Ma:i29.size≠0:=by rw [FP]; decide
theorem Mb:i29.zero=some (.agg #[.int .i64 ((0:Int)),.slice none 0 0,.slice none 0 0,.slice none 0 0,.slice none 0 0,.int .i64 ((0:Int)),.slice none 0 0,.slice none 0 0,.slice none 0 0,.slice none 0 0,.slice none 0 0,.slice none 0 0]):=by kernel_rfl
noncomputable def i32:TypeInfo:=(Tryz.prog.info? 32).getD default
theorem yy:Tryz.prog.info? 32=some i32:=by kernel_rfl
theorem FQ:i32.size=2:=by kernel_rfl
theorem ang:i32.size≠0:=by rw [FQ]; decide
theorem Mc:i32.zero=some (.agg #[.int .i64 ((0:Int)),.slice none 0 0]):=by kernel_rfl
noncomputable def i54:TypeInfo:=(Tryz.prog.info? 54).getD default
theorem Iv:Tryz.prog.info? 54=some i54:=by kernel_rfl
theorem Ql:i54.size=1:=by kernel_rfl
theorem ack:i54.size≠0:=by rw [Ql]; decide
theorem acm:i54.zero=some (.pointer none):=by kernel_rfl
theorem anh:i54.bytes=8:=by kernel_rfl
noncomputable def i73:TypeInfo:=(Tryz.prog.info? 73).getD default
theorem EC:Tryz.prog.info? 73=some i73:=by kernel_rfl
theorem Md:i73.size=1:=by kernel_rfl
theorem ani:i73.size≠0:=by rw [Md]; decide
theorem Wt:i73.zero=some (.pointer none):=by kernel_rfl
theorem anj:i73.bytes=8:=by kernel_rfl
noncomputable def i79:TypeInfo:=(Tryz.prog.info? 79).getD default
theorem NW:Tryz.prog.info? 79=some i79:=by kernel_rfl
theorem Wu:i79.size=1:=by kernel_rfl
theorem acn:i79.size≠0:=by rw [Wu]; decide
theorem ank:i79.zero=some (.int .u64 0):=by kernel_rfl
theorem anl:i79.bytes=8:=by kernel_rfl
noncomputable def i81:TypeInfo:=(Tryz.prog.info? 81).getD default
theorem Wv:Tryz.prog.info? 81=some i81:=by kernel_rfl
theorem aco:i81.size=3:=by kernel_rfl
theorem anm:i81.size≠0:=by rw [aco]; decide
theorem acp:i81.zero=some (.agg #[.slice none 0 0,.int .i64 ((0:Int)),.int .u64 ((0:Int))]):=by kernel_rfl
noncomputable def i83:TypeInfo:=(Tryz.prog.info? 83).getD default
theorem Ch:Tryz.prog.info? 83=some i83:=by kernel_rfl
theorem Ww:i83.size=1:=by kernel_rfl
theorem Wx:i83.size≠0:=by rw [Ww]; decide
theorem Wy:i83.zero=some (.slice none 0 0):=by kernel_rfl
theorem ann:i83.bytes=24:=by kernel_rfl
noncomputable def i116:TypeInfo:=(Tryz.prog.info? 116).getD default
theorem T9:Tryz.prog.info? 116=some i116:=by kernel_rfl
theorem ZE:i116.size=27:=by kernel_rfl
theorem ak7:i116.size≠0:=by rw [ZE]; decide
theorem ZF:i116.zero=some (.agg #[.int .i64 ((0:Int)),.slice none 0 0,.slice none 0 0,.slice none 0 0,.slice none 0 0,.int .i64 ((0:Int)),.slice none 0 0,.slice none 0 0,.slice none 0 0,.slice none 0 0,.slice none 0 0,.slice none 0 0,.int .i64 ((0:Int)),.slice none 0 0,.slice none 0 0,.slice none 0 0,.slice none 0 0,.int .i64 ((0:Int)),.slice none 0 0,.slice none 0 0,.slice none 0 0,.slice none 0 0,.slice none 0 0,.slice none 0 0,.pointer none,.slice none 0 0,.slice none 0 0]):=by kernel_rfl
noncomputable def i125:TypeInfo:=(Tryz.prog.info? 125).getD default
theorem C4:Tryz.prog.info? 125=some i125:=by kernel_rfl
theorem Me:i125.size=2:=by kernel_rfl
theorem ak8:i125.size≠0:=by rw [Me]; decide
theorem SP:i125.zero=some (.agg #[.int .i64 ((0:Int)),.int .i64 ((0:Int))]):=by kernel_rfl
noncomputable def i143:TypeInfo:=(Tryz.prog.info? 143).getD default
theorem afW:Tryz.prog.info? 143=some i143:=by kernel_rfl
theorem ZG:i143.size=1:=by kernel_rfl
theorem ak9:i143.size≠0:=by rw [ZG]; decide
theorem ala:i143.zero=some (.nilFunc):=by kernel_rfl
theorem ald:i143.bytes=8:=by kernel_rfl
noncomputable def i166:TypeInfo:=(Tryz.prog.info? 166).getD default
theorem KU:Tryz.prog.info? 166=some i166:=by kernel_rfl
theorem SR:i166.size=1:=by kernel_rfl
theorem ale:i166.size≠0:=by rw [SR]; decide
theorem ZH:i166.zero=some (.nilFunc):=by kernel_rfl
theorem alf:i166.bytes=8:=by kernel_rfl
noncomputable def i176:TypeInfo:=(Tryz.prog.info? 176).getD default
theorem wE:Tryz.prog.info? 176=some i176:=by kernel_rfl
theorem C5:i176.size=3:=by kernel_rfl
theorem alg:i176.size≠0:=by rw [C5]; decide
theorem Hp:i176.zero=some (.agg #[.int .i64 ((0:Int)),.int .i64 ((0:Int)),.slice none 0 0]):=by kernel_rfl
noncomputable def i180:TypeInfo:=(Tryz.prog.info? 180).getD default
theorem Ua:Tryz.prog.info? 180=some i180:=by kernel_rfl
theorem ZI:i180.size=27:=by kernel_rfl
theorem alh:i180.size≠0:=by rw [ZI]; decide
theorem ZJ:i180.zero=some (.agg #[.int .i64 ((0:Int)),.slice none 0 0,.slice none 0 0,.slice none 0 0,.slice none 0 0,.int .i64 ((0:Int)),.slice none 0 0,.slice none 0 0,.slice none 0 0,.slice none 0 0,.slice none 0 0,.slice none 0 0,.int .i64 ((0:Int)),.slice none 0 0,.slice none 0 0,.slice none 0 0,.slice none 0 0,.int .i64 ((0:Int)),.slice none 0 0,.slice none 0 0,.slice none 0 0,.slice none 0 0,.slice none 0 0,.slice none 0 0,.bool (false),.int .i64 ((0:Int)),.slice none 0 0]):=by kernel_rfl
instance lk2:LK Tryz.prog 2 none:=⟨_,Tryz.underlying2,rfl⟩
instance lk3:LK Tryz.prog 3 none:=⟨_,Tryz.underlying3,rfl⟩
instance lk4:LK Tryz.prog 4 none:=⟨_,Tryz.underlying4,rfl⟩
instance lk5:LK Tryz.prog 5 none:=⟨_,Tryz.underlying5,rfl⟩
instance ano:LK Tryz.prog 22 none:=⟨_,Tryz.underlying22,rfl⟩
instance anp:LK Tryz.prog 24 none:=⟨_,Tryz.underlying24,rfl⟩
instance anq:LK Tryz.prog 25 none:=⟨_,Tryz.underlying25,rfl⟩
instance anr:LK Tryz.prog 27 (some 5):=⟨_,_,Tryz.underlying27,rfl,Ah,Qk⟩
instance ans:LK Tryz.prog 29 (some 12):=⟨_,_,Tryz.underlying29,rfl,tW,FP⟩
instance ant:LK Tryz.prog 32 (some 2):=⟨_,_,Tryz.underlying32,rfl,yy,FQ⟩
instance anu:LK Tryz.prog 54 none:=⟨_,Tryz.underlying54,rfl⟩
instance anv:LK Tryz.prog 73 none:=⟨_,Tryz.underlying73,rfl⟩
instance anw:LK Tryz.prog 79 none:=⟨_,Tryz.underlying79,rfl⟩
instance anx:LK Tryz.prog 83 none:=⟨_,Tryz.underlying83,rfl⟩
instance ali:LK Tryz.prog 125 (some 2):=⟨_,_,Tryz.underlying125,rfl,C4,Me⟩
instance alj:LK Tryz.prog 143 none:=⟨_,Tryz.underlying143,rfl⟩
instance alk:LK Tryz.prog 166 none:=⟨_,Tryz.underlying166,rfl⟩
instance alm:LK Tryz.prog 176 (some 3):=⟨_,_,Tryz.underlying176,rfl,wE,C5⟩
instance anz:yo Tryz.prog 22:=⟨_,_,Tryz.underlying22,L9,SN⟩
instance anA:HF Tryz.prog 22 5:=⟨Tryz.underlying22,_,_,L9,zr5,SN⟩
instance anB:tQ Tryz.prog 22 Int 5 (aM .u8) 0 1:=⟨Tryz.underlying22,rfl,_,_,L9,zr5,SN,rfl,by5,fun _=>⟨rfl,rfl⟩⟩
instance anC:yo Tryz.prog 24:=⟨_,_,Tryz.underlying24,xY,NT⟩
instance anD:HF Tryz.prog 24 2:=⟨Tryz.underlying24,_,_,xY,Wn,NT⟩
instance anE:tQ Tryz.prog 24 Int 2 (aM .i64) 0 8:=⟨Tryz.underlying24,rfl,_,_,xY,Wn,NT,rfl,by2,fun _=>⟨rfl,rfl⟩⟩
instance anF:yo Tryz.prog 25:=⟨_,_,Tryz.underlying25,s9,It⟩
instance anG:HF Tryz.prog 25 24:=⟨Tryz.underlying25,_,_,s9,Qj,It⟩
instance anH:tQ Tryz.prog 25 (List Int) 24 (aJ 2 (aM .i64)) [] 24:=⟨Tryz.underlying25,rfl,_,_,s9,Qj,It,rfl,acj,fun _=>Fy⟩
instance anI:Ek Tryz.prog 83 2:=⟨_,_,Tryz.underlying83,yy,FQ⟩
instance anJ:HG Tryz.prog 83 32 2:=⟨Tryz.underlying83,_,_,yy,Mc,FQ,by decide⟩
theorem acq:i32.bytes=32:=by kernel_rfl
instance anK:BQ Tryz.prog 83 32 2 32:=⟨Tryz.underlying83,_,_,yy,Mc,rfl,FQ,acq,by decide⟩
instance aln:Ek Tryz.prog 104 12:=⟨_,_,Tryz.underlying104,tW,FP⟩
instance alo:HG Tryz.prog 104 29 12:=⟨Tryz.underlying104,_,_,tW,Mb,FP,by decide⟩
theorem acr:i29.bytes=256:=by kernel_rfl
instance alp:BQ Tryz.prog 104 29 12 256:=⟨Tryz.underlying104,_,_,tW,Mb,rfl,FP,acr,by decide⟩
instance alq:yo Tryz.prog 120:=⟨_,_,Tryz.underlying120,Iv,Ql⟩
instance alr:KK Tryz.prog 120 54:=⟨Tryz.underlying120,_,_,Iv,acm,Ql⟩
instance als:yo Tryz.prog 135:=⟨_,_,Tryz.underlying135,EC,Md⟩
instance alu:KK Tryz.prog 135 73:=⟨Tryz.underlying135,_,_,EC,Wt,Md⟩
instance alv:yo Tryz.prog 170:=⟨_,_,Tryz.underlying170,EB,NU⟩
instance alw:HF Tryz.prog 170 4:=⟨Tryz.underlying170,_,_,EB,zr4,NU⟩
instance alx:tQ Tryz.prog 170 Bool 4 r6 false 1:=⟨Tryz.underlying170,rfl,_,_,EB,zr4,NU,rfl,by4,fun _=>⟨rfl,rfl⟩⟩
instance aly:Ek Tryz.prog 173 3:=⟨_,_,Tryz.underlying173,wE,C5⟩
instance alz:HG Tryz.prog 173 176 3:=⟨Tryz.underlying173,_,_,wE,Hp,C5,by decide⟩
theorem ZK:i176.bytes=40:=by kernel_rfl
instance alA:BQ Tryz.prog 173 176 3 40:=⟨Tryz.underlying173,_,_,wE,Hp,rfl,C5,ZK,by decide⟩
instance so2:vy Tryz.prog 2 1:=⟨_,xY,NT⟩
instance so3:vy Tryz.prog 3 1:=⟨_,L8,sz3⟩
instance so4:vy Tryz.prog 4 1:=⟨_,EB,NU⟩
instance anL:vy Tryz.prog 24 1:=⟨_,s9,It⟩
instance anM:vy Tryz.prog 25 1:=⟨_,Iu,Wp⟩
instance anN:vy Tryz.prog 27 5:=⟨_,Ah,Qk⟩
instance anO:vy Tryz.prog 29 12:=⟨_,tW,FP⟩
instance anP:vy Tryz.prog 32 2:=⟨_,yy,FQ⟩
instance anQ:vy Tryz.prog 73 1:=⟨_,EC,Md⟩
instance anR:vy Tryz.prog 79 1:=⟨_,NW,Wu⟩
instance anS:vy Tryz.prog 83 1:=⟨_,Ch,Ww⟩
instance alB:vy Tryz.prog 125 2:=⟨_,C4,Me⟩
instance alC:vy Tryz.prog 166 1:=⟨_,KU,SR⟩
instance alD:vy Tryz.prog 176 3:=⟨_,wE,C5⟩
instance zv2:zm Tryz.prog 2 [.int .i64 0]:=⟨_,_,xY,Wn,rfl⟩
instance anT:zm Tryz.prog 24 [.slice none 0 0]:=⟨_,_,s9,Qj,rfl⟩
instance anU:zm Tryz.prog 27 [.int .i64 ((0:Int)),.slice none 0 0,.slice none 0 0,.slice none 0 0,.slice none 0 0]:=⟨_,_,Ah,Ws,rfl⟩
instance anV:zm Tryz.prog 29 [.int .i64 ((0:Int)),.slice none 0 0,.slice none 0 0,.slice none 0 0,.slice none 0 0,.int .i64 ((0:Int)),.slice none 0 0,.slice none 0 0,.slice none 0 0,.slice none 0 0,.slice none 0 0,.slice none 0 0]:=⟨_,_,tW,Mb,rfl⟩
instance anW:zm Tryz.prog 32 [.int .i64 ((0:Int)),.slice none 0 0]:=⟨_,_,yy,Mc,rfl⟩
instance anX:zm Tryz.prog 73 [.pointer none]:=⟨_,_,EC,Wt,rfl⟩
instance anY:zm Tryz.prog 83 [.slice none 0 0]:=⟨_,_,Ch,Wy,rfl⟩
instance alE:zm Tryz.prog 125 [.int .i64 ((0:Int)),.int .i64 ((0:Int))]:=⟨_,_,C4,SP,rfl⟩
instance alF:zm Tryz.prog 166 [.nilFunc]:=⟨_,_,KU,ZH,rfl⟩
instance alG:zm Tryz.prog 176 [.int .i64 ((0:Int)),.int .i64 ((0:Int)),.slice none 0 0]:=⟨_,_,wE,Hp,rfl⟩
instance ahV:qw Tryz.prog 27 0 0:=⟨_,_,_,Tryz.underlying27,rfl,xY,SM,rfl⟩
instance ahW:qw Tryz.prog 27 1 1:=⟨_,_,_,Tryz.underlying27,rfl,s9,DV,rfl⟩
instance ahX:qw Tryz.prog 27 2 2:=⟨_,_,_,Tryz.underlying27,rfl,s9,DV,rfl⟩
instance ahY:qw Tryz.prog 27 3 3:=⟨_,_,_,Tryz.underlying27,rfl,s9,DV,rfl⟩
instance ahZ:qw Tryz.prog 27 4 4:=⟨_,_,_,Tryz.underlying27,rfl,Iu,Wq,rfl⟩
instance ah0:qw Tryz.prog 29 0 0:=⟨_,_,_,Tryz.underlying29,rfl,Ah,Wr,rfl⟩
instance ah1:qw Tryz.prog 29 1 5:=⟨_,_,_,Tryz.underlying29,rfl,Ah,Wr,rfl⟩
instance ah2:qw Tryz.prog 29 2 10:=⟨_,_,_,Tryz.underlying29,rfl,s9,DV,rfl⟩
instance ah3:qw Tryz.prog 29 3 11:=⟨_,_,_,Tryz.underlying29,rfl,s9,DV,rfl⟩
instance ah4:qw Tryz.prog 32 0 0:=⟨_,_,_,Tryz.underlying32,rfl,xY,SM,rfl⟩
instance ah5:qw Tryz.prog 32 1 1:=⟨_,_,_,Tryz.underlying32,rfl,s9,DV,rfl⟩
instance ah6:qw Tryz.prog 81 0 0:=⟨_,_,_,Tryz.underlying81,rfl,Wo,aci,rfl⟩
instance ah7:qw Tryz.prog 81 1 1:=⟨_,_,_,Tryz.underlying81,rfl,L8,ne3,rfl⟩
instance ah8:qw Tryz.prog 81 2 2:=⟨_,_,_,Tryz.underlying81,rfl,NW,acn,rfl⟩
instance afX:qw Tryz.prog 116 0 0:=⟨_,_,_,Tryz.underlying116,rfl,tW,Ma,rfl⟩
instance afY:qw Tryz.prog 116 1 12:=⟨_,_,_,Tryz.underlying116,rfl,tW,Ma,rfl⟩
instance afZ:qw Tryz.prog 116 2 24:=⟨_,_,_,Tryz.underlying116,rfl,Iv,ack,rfl⟩
instance af0:qw Tryz.prog 116 3 25:=⟨_,_,_,Tryz.underlying116,rfl,Ch,Wx,rfl⟩
instance af1:qw Tryz.prog 116 4 26:=⟨_,_,_,Tryz.underlying116,rfl,Ch,Wx,rfl⟩
instance af2:qw Tryz.prog 176 0 0:=⟨_,_,_,Tryz.underlying176,rfl,xY,SM,rfl⟩
instance af3:qw Tryz.prog 176 1 1:=⟨_,_,_,Tryz.underlying176,rfl,xY,SM,rfl⟩
instance af4:qw Tryz.prog 176 2 2:=⟨_,_,_,Tryz.underlying176,rfl,s9,DV,rfl⟩
instance af5:qw Tryz.prog 180 0 0:=⟨_,_,_,Tryz.underlying180,rfl,tW,Ma,rfl⟩
instance af6:qw Tryz.prog 180 1 12:=⟨_,_,_,Tryz.underlying180,rfl,tW,Ma,rfl⟩
instance af7:qw Tryz.prog 180 2 24:=⟨_,_,_,Tryz.underlying180,rfl,EB,ne4,rfl⟩
instance af8:qw Tryz.prog 180 3 25:=⟨_,_,_,Tryz.underlying180,rfl,L8,ne3,rfl⟩
instance af9:qw Tryz.prog 180 4 26:=⟨_,_,_,Tryz.underlying180,rfl,Iu,Wq,rfl⟩
instance alH:NX Tryz.prog 118 ByteArray inferInstance (fun s:ByteArray=>Value.string s):=⟨_,_,_,_,Tryz.underlying118,Tryz.underlying9,Ky.str,Ch,Wy⟩
instance ah9:HH Tryz.prog 2 5 .u8:=⟨by rw [Tryz.underlying2]; rfl,Tryz.underlying5⟩
instance aga:HH Tryz.prog 3 79 .u64:=⟨by rw [Tryz.underlying3]; rfl,Tryz.underlying79⟩
instance aia:HH Tryz.prog 5 2 .i64:=⟨by rw [Tryz.underlying5]; rfl,Tryz.underlying2⟩
instance agb:HH Tryz.prog 5 79 .u64:=⟨by rw [Tryz.underlying5]; rfl,Tryz.underlying79⟩
instance agc:HH Tryz.prog 79 2 .i64:=⟨by rw [Tryz.underlying79]; rfl,Tryz.underlying2⟩
instance agd:BSc Tryz.prog 22 9:=⟨_,Tryz.underlying22,Tryz.underlying5,Tryz.underlying9⟩
instance bl4:Vm Tryz.prog 4:=⟨Tryz.underlying4⟩
instance anZ:BP Tryz.prog 27 [.int .i64 ((0:Int)),.slice none 0 0,.slice none 0 0,.slice none 0 0,.slice none 0 0] [(0,1),(1,1),(2,1),(3,1),(4,1)]:=⟨_,_,_,Tryz.underlying27,by kernel_rfl,Ah,Ws,rfl⟩
instance an0:BP Tryz.prog 29 [.int .i64 ((0:Int)),.slice none 0 0,.slice none 0 0,.slice none 0 0,.slice none 0 0,.int .i64 ((0:Int)),.slice none 0 0,.slice none 0 0,.slice none 0 0,.slice none 0 0,.slice none 0 0,.slice none 0 0] [(0,5),(5,5),(10,1),(11,1)]:=⟨_,_,_,Tryz.underlying29,by kernel_rfl,tW,Mb,rfl⟩
instance an1:BP Tryz.prog 32 [.int .i64 ((0:Int)),.slice none 0 0] [(0,1),(1,1)]:=⟨_,_,_,Tryz.underlying32,by kernel_rfl,yy,Mc,rfl⟩
instance an2:BP Tryz.prog 81 [.slice none 0 0,.int .i64 ((0:Int)),.int .u64 ((0:Int))] [(0,1),(1,1),(2,1)]:=⟨_,_,_,Tryz.underlying81,by kernel_rfl,Wv,acp,rfl⟩
instance alJ:BP Tryz.prog 116 [.int .i64 ((0:Int)),.slice none 0 0,.slice none 0 0,.slice none 0 0,.slice none 0 0,.int .i64 ((0:Int)),.slice none 0 0,.slice none 0 0,.slice none 0 0,.slice none 0 0,.slice none 0 0,.slice none 0 0,.int .i64 ((0:Int)),.slice none 0 0,.slice none 0 0,.slice none 0 0,.slice none 0 0,.int .i64 ((0:Int)),.slice none 0 0,.slice none 0 0,.slice none 0 0,.slice none 0 0,.slice none 0 0,.slice none 0 0,.pointer none,.slice none 0 0,.slice none 0 0] [(0,12),(12,12),(24,1),(25,1),(26,1)]:=⟨_,_,_,Tryz.underlying116,by kernel_rfl,T9,ZF,rfl⟩
instance alK:BP Tryz.prog 125 [.int .i64 ((0:Int)),.int .i64 ((0:Int))] [(0,1),(1,1)]:=⟨_,_,_,Tryz.underlying125,by kernel_rfl,C4,SP,rfl⟩
instance alL:BP Tryz.prog 176 [.int .i64 ((0:Int)),.int .i64 ((0:Int)),.slice none 0 0] [(0,1),(1,1),(2,1)]:=⟨_,_,_,Tryz.underlying176,by kernel_rfl,wE,Hp,rfl⟩
instance alM:BP Tryz.prog 180 [.int .i64 ((0:Int)),.slice none 0 0,.slice none 0 0,.slice none 0 0,.slice none 0 0,.int .i64 ((0:Int)),.slice none 0 0,.slice none 0 0,.slice none 0 0,.slice none 0 0,.slice none 0 0,.slice none 0 0,.int .i64 ((0:Int)),.slice none 0 0,.slice none 0 0,.slice none 0 0,.slice none 0 0,.int .i64 ((0:Int)),.slice none 0 0,.slice none 0 0,.slice none 0 0,.slice none 0 0,.slice none 0 0,.slice none 0 0,.bool (false),.int .i64 ((0:Int)),.slice none 0 0] [(0,12),(12,12),(24,1),(25,1),(26,1)]:=⟨_,_,_,Tryz.underlying180,by kernel_rfl,Ua,ZJ,rfl⟩
instance alN:Vn Tryz.prog 125 .i64 .i64:=⟨_,_,Tryz.underlying125,by decide,by decide,Tryz.underlying2,Tryz.underlying2,rfl,rfl,by kernel_rfl,by kernel_rfl⟩
instance fn7:br Tryz.prog 7:=⟨_,_,Tryz.func7,rfl,by kernel_rfl⟩
instance an3:br Tryz.prog 14:=⟨_,_,Tryz.func14,rfl,by kernel_rfl⟩
instance an4:br Tryz.prog 20:=⟨_,_,Tryz.func20,rfl,by kernel_rfl⟩
instance an5:br Tryz.prog 22:=⟨_,_,Tryz.func22,rfl,by kernel_rfl⟩
instance an6:br Tryz.prog 24:=⟨_,_,Tryz.func24,rfl,by kernel_rfl⟩
instance an7:br Tryz.prog 28:=⟨_,_,Tryz.func28,rfl,by kernel_rfl⟩
instance an8:br Tryz.prog 30:=⟨_,_,Tryz.func30,rfl,by kernel_rfl⟩
instance an9:br Tryz.prog 31:=⟨_,_,Tryz.func31,rfl,by kernel_rfl⟩
instance aoa:br Tryz.prog 32:=⟨_,_,Tryz.func32,rfl,by kernel_rfl⟩
instance aob:br Tryz.prog 33:=⟨_,_,Tryz.func33,rfl,by kernel_rfl⟩
instance aoc:br Tryz.prog 34:=⟨_,_,Tryz.func34,rfl,by kernel_rfl⟩
instance aod:br Tryz.prog 35:=⟨_,_,Tryz.func35,rfl,by kernel_rfl⟩
instance aoe:br Tryz.prog 36:=⟨_,_,Tryz.func36,rfl,by kernel_rfl⟩
instance aof:br Tryz.prog 38:=⟨_,_,Tryz.func38,rfl,by kernel_rfl⟩
instance aog:br Tryz.prog 42:=⟨_,_,Tryz.func42,rfl,by kernel_rfl⟩
instance aoh:br Tryz.prog 45:=⟨_,_,Tryz.func45,rfl,by kernel_rfl⟩
instance aoi:br Tryz.prog 46:=⟨_,_,Tryz.func46,rfl,by kernel_rfl⟩
instance aoj:br Tryz.prog 47:=⟨_,_,Tryz.func47,rfl,by kernel_rfl⟩
instance aok:br Tryz.prog 49:=⟨_,_,Tryz.func49,rfl,by kernel_rfl⟩
instance aol:br Tryz.prog 50:=⟨_,_,Tryz.func50,rfl,by kernel_rfl⟩
instance aom:br Tryz.prog 51:=⟨_,_,Tryz.func51,rfl,by kernel_rfl⟩
instance aon:br Tryz.prog 52:=⟨_,_,Tryz.func52,rfl,by kernel_rfl⟩
instance aoo:br Tryz.prog 54:=⟨_,_,Tryz.func54,rfl,by kernel_rfl⟩
instance aoq:br Tryz.prog 55:=⟨_,_,Tryz.func55,rfl,by kernel_rfl⟩
instance aor:br Tryz.prog 56:=⟨_,_,Tryz.func56,rfl,by kernel_rfl⟩
instance aos:br Tryz.prog 58:=⟨_,_,Tryz.func58,rfl,by kernel_rfl⟩
instance aot:br Tryz.prog 59:=⟨_,_,Tryz.func59,rfl,by kernel_rfl⟩
instance aou:br Tryz.prog 60:=⟨_,_,Tryz.func60,rfl,by kernel_rfl⟩
instance aov:br Tryz.prog 61:=⟨_,_,Tryz.func61,rfl,by kernel_rfl⟩
instance aow:br Tryz.prog 62:=⟨_,_,Tryz.func62,rfl,by kernel_rfl⟩
instance aox:br Tryz.prog 63:=⟨_,_,Tryz.func63,rfl,by kernel_rfl⟩
instance aoy:br Tryz.prog 64:=⟨_,_,Tryz.func64,rfl,by kernel_rfl⟩
instance aoz:br Tryz.prog 65:=⟨_,_,Tryz.func65,rfl,by kernel_rfl⟩
instance aoA:br Tryz.prog 66:=⟨_,_,Tryz.func66,rfl,by kernel_rfl⟩
instance aoB:br Tryz.prog 67:=⟨_,_,Tryz.func67,rfl,by kernel_rfl⟩
instance aoC:br Tryz.prog 68:=⟨_,_,Tryz.func68,rfl,by kernel_rfl⟩
instance aoD:br Tryz.prog 69:=⟨_,_,Tryz.func69,rfl,by kernel_rfl⟩
instance aoE:br Tryz.prog 70:=⟨_,_,Tryz.func70,rfl,by kernel_rfl⟩
instance aoF:br Tryz.prog 71:=⟨_,_,Tryz.func71,rfl,by kernel_rfl⟩
instance aoG:br Tryz.prog 72:=⟨_,_,Tryz.func72,rfl,by kernel_rfl⟩
instance aoH:br Tryz.prog 73:=⟨_,_,Tryz.func73,rfl,by kernel_rfl⟩
instance aoI:br Tryz.prog 74:=⟨_,_,Tryz.func74,rfl,by kernel_rfl⟩
instance aoJ:br Tryz.prog 76:=⟨_,_,Tryz.func76,rfl,by kernel_rfl⟩
instance aoK:br Tryz.prog 77:=⟨_,_,Tryz.func77,rfl,by kernel_rfl⟩
instance aoL:br Tryz.prog 78:=⟨_,_,Tryz.func78,rfl,by kernel_rfl⟩
instance aoM:br Tryz.prog 79:=⟨_,_,Tryz.func79,rfl,by kernel_rfl⟩
instance aoN:br Tryz.prog 80:=⟨_,_,Tryz.func80,rfl,by kernel_rfl⟩
instance aoO:br Tryz.prog 81:=⟨_,_,Tryz.func81,rfl,by kernel_rfl⟩
instance aoP:br Tryz.prog 82:=⟨_,_,Tryz.func82,rfl,by kernel_rfl⟩
instance aoQ:br Tryz.prog 83:=⟨_,_,Tryz.func83,rfl,by kernel_rfl⟩
instance aoR:br Tryz.prog 84:=⟨_,_,Tryz.func84,rfl,by kernel_rfl⟩
instance aoS:br Tryz.prog 85:=⟨_,_,Tryz.func85,rfl,by kernel_rfl⟩
instance aoT:br Tryz.prog 86:=⟨_,_,Tryz.func86,rfl,by kernel_rfl⟩
instance aoU:br Tryz.prog 87:=⟨_,_,Tryz.func87,rfl,by kernel_rfl⟩
instance aoV:br Tryz.prog 88:=⟨_,_,Tryz.func88,rfl,by kernel_rfl⟩
instance aoW:br Tryz.prog 89:=⟨_,_,Tryz.func89,rfl,by kernel_rfl⟩
instance aoX:br Tryz.prog 90:=⟨_,_,Tryz.func90,rfl,by kernel_rfl⟩
instance aoY:br Tryz.prog 91:=⟨_,_,Tryz.func91,rfl,by kernel_rfl⟩
instance aoZ:br Tryz.prog 92:=⟨_,_,Tryz.func92,rfl,by kernel_rfl⟩
instance ao0:br Tryz.prog 93:=⟨_,_,Tryz.func93,rfl,by kernel_rfl⟩
instance ao1:br Tryz.prog 94:=⟨_,_,Tryz.func94,rfl,by kernel_rfl⟩
instance ao2:br Tryz.prog 95:=⟨_,_,Tryz.func95,rfl,by kernel_rfl⟩
instance ao3:br Tryz.prog 96:=⟨_,_,Tryz.func96,rfl,by kernel_rfl⟩
instance ao4:br Tryz.prog 97:=⟨_,_,Tryz.func97,rfl,by kernel_rfl⟩
instance ao5:br Tryz.prog 98:=⟨_,_,Tryz.func98,rfl,by kernel_rfl⟩
instance ao6:br Tryz.prog 99:=⟨_,_,Tryz.func99,rfl,by kernel_rfl⟩
instance alO:br Tryz.prog 100:=⟨_,_,Tryz.func100,rfl,by kernel_rfl⟩
instance alP:br Tryz.prog 101:=⟨_,_,Tryz.func101,rfl,by kernel_rfl⟩
instance alQ:br Tryz.prog 102:=⟨_,_,Tryz.func102,rfl,by kernel_rfl⟩
instance alR:br Tryz.prog 103:=⟨_,_,Tryz.func103,rfl,by kernel_rfl⟩
instance alS:br Tryz.prog 104:=⟨_,_,Tryz.func104,rfl,by kernel_rfl⟩
instance alT:br Tryz.prog 105:=⟨_,_,Tryz.func105,rfl,by kernel_rfl⟩
instance alU:br Tryz.prog 106:=⟨_,_,Tryz.func106,rfl,by kernel_rfl⟩
instance alV:br Tryz.prog 107:=⟨_,_,Tryz.func107,rfl,by kernel_rfl⟩
instance alW:br Tryz.prog 108:=⟨_,_,Tryz.func108,rfl,by kernel_rfl⟩
instance alX:br Tryz.prog 109:=⟨_,_,Tryz.func109,rfl,by kernel_rfl⟩
instance alY:br Tryz.prog 110:=⟨_,_,Tryz.func110,rfl,by kernel_rfl⟩
instance alZ:br Tryz.prog 111:=⟨_,_,Tryz.func111,rfl,by kernel_rfl⟩
instance al0:br Tryz.prog 112:=⟨_,_,Tryz.func112,rfl,by kernel_rfl⟩
instance al1:br Tryz.prog 113:=⟨_,_,Tryz.func113,rfl,by kernel_rfl⟩
instance al2:br Tryz.prog 114:=⟨_,_,Tryz.func114,rfl,by kernel_rfl⟩
instance al3:br Tryz.prog 115:=⟨_,_,Tryz.func115,rfl,by kernel_rfl⟩
instance al4:br Tryz.prog 116:=⟨_,_,Tryz.func116,rfl,by kernel_rfl⟩
instance al5:br Tryz.prog 117:=⟨_,_,Tryz.func117,rfl,by kernel_rfl⟩
instance al6:br Tryz.prog 118:=⟨_,_,Tryz.func118,rfl,by kernel_rfl⟩
instance al7:br Tryz.prog 119:=⟨_,_,Tryz.func119,rfl,by kernel_rfl⟩
instance al8:br Tryz.prog 120:=⟨_,_,Tryz.func120,rfl,by kernel_rfl⟩
instance al9:br Tryz.prog 121:=⟨_,_,Tryz.func121,rfl,by kernel_rfl⟩
instance ama:br Tryz.prog 122:=⟨_,_,Tryz.func122,rfl,by kernel_rfl⟩
instance amb:br Tryz.prog 123:=⟨_,_,Tryz.func123,rfl,by kernel_rfl⟩
instance amc:br Tryz.prog 124:=⟨_,_,Tryz.func124,rfl,by kernel_rfl⟩
instance amd:br Tryz.prog 125:=⟨_,_,Tryz.func125,rfl,by kernel_rfl⟩
instance ame:br Tryz.prog 126:=⟨_,_,Tryz.func126,rfl,by kernel_rfl⟩
instance amf:br Tryz.prog 127:=⟨_,_,Tryz.func127,rfl,by kernel_rfl⟩
instance amg:br Tryz.prog 128:=⟨_,_,Tryz.func128,rfl,by kernel_rfl⟩
instance amh:br Tryz.prog 129:=⟨_,_,Tryz.func129,rfl,by kernel_rfl⟩
instance ami:br Tryz.prog 130:=⟨_,_,Tryz.func130,rfl,by kernel_rfl⟩
instance amj:br Tryz.prog 131:=⟨_,_,Tryz.func131,rfl,by kernel_rfl⟩
instance amk:br Tryz.prog 132:=⟨_,_,Tryz.func132,rfl,by kernel_rfl⟩
instance aml:br Tryz.prog 133:=⟨_,_,Tryz.func133,rfl,by kernel_rfl⟩
instance amm:br Tryz.prog 134:=⟨_,_,Tryz.func134,rfl,by kernel_rfl⟩
instance amn:br Tryz.prog 135:=⟨_,_,Tryz.func135,rfl,by kernel_rfl⟩
instance amo:br Tryz.prog 136:=⟨_,_,Tryz.func136,rfl,by kernel_rfl⟩
instance amp:br Tryz.prog 137:=⟨_,_,Tryz.func137,rfl,by kernel_rfl⟩
instance amq:br Tryz.prog 138:=⟨_,_,Tryz.func138,rfl,by kernel_rfl⟩
instance amr:br Tryz.prog 139:=⟨_,_,Tryz.func139,rfl,by kernel_rfl⟩
instance ams:br Tryz.prog 140:=⟨_,_,Tryz.func140,rfl,by kernel_rfl⟩
instance amt:br Tryz.prog 141:=⟨_,_,Tryz.func141,rfl,by kernel_rfl⟩
instance amu:br Tryz.prog 142:=⟨_,_,Tryz.func142,rfl,by kernel_rfl⟩
instance amv:br Tryz.prog 143:=⟨_,_,Tryz.func143,rfl,by kernel_rfl⟩
instance amw:br Tryz.prog 144:=⟨_,_,Tryz.func144,rfl,by kernel_rfl⟩
instance amx:br Tryz.prog 145:=⟨_,_,Tryz.func145,rfl,by kernel_rfl⟩
instance amy:br Tryz.prog 146:=⟨_,_,Tryz.func146,rfl,by kernel_rfl⟩
instance amz:br Tryz.prog 147:=⟨_,_,Tryz.func147,rfl,by kernel_rfl⟩
instance amA:br Tryz.prog 148:=⟨_,_,Tryz.func148,rfl,by kernel_rfl⟩
instance amB:br Tryz.prog 149:=⟨_,_,Tryz.func149,rfl,by kernel_rfl⟩
instance amC:br Tryz.prog 150:=⟨_,_,Tryz.func150,rfl,by kernel_rfl⟩
instance amD:br Tryz.prog 151:=⟨_,_,Tryz.func151,rfl,by kernel_rfl⟩
instance amE:br Tryz.prog 152:=⟨_,_,Tryz.func152,rfl,by kernel_rfl⟩
instance amF:br Tryz.prog 153:=⟨_,_,Tryz.func153,rfl,by kernel_rfl⟩
instance amG:br Tryz.prog 154:=⟨_,_,Tryz.func154,rfl,by kernel_rfl⟩
instance amH:br Tryz.prog 155:=⟨_,_,Tryz.func155,rfl,by kernel_rfl⟩
instance amI:br Tryz.prog 156:=⟨_,_,Tryz.func156,rfl,by kernel_rfl⟩
instance amJ:br Tryz.prog 157:=⟨_,_,Tryz.func157,rfl,by kernel_rfl⟩
instance amK:br Tryz.prog 158:=⟨_,_,Tryz.func158,rfl,by kernel_rfl⟩
instance amL:br Tryz.prog 159:=⟨_,_,Tryz.func159,rfl,by kernel_rfl⟩
instance amM:br Tryz.prog 160:=⟨_,_,Tryz.func160,rfl,by kernel_rfl⟩
instance amN:br Tryz.prog 161:=⟨_,_,Tryz.func161,rfl,by kernel_rfl⟩
instance amO:br Tryz.prog 162:=⟨_,_,Tryz.func162,rfl,by kernel_rfl⟩
instance amP:br Tryz.prog 163:=⟨_,_,Tryz.func163,rfl,by kernel_rfl⟩
instance amQ:br Tryz.prog 164:=⟨_,_,Tryz.func164,rfl,by kernel_rfl⟩
instance amR:br Tryz.prog 165:=⟨_,_,Tryz.func165,rfl,by kernel_rfl⟩
instance amS:br Tryz.prog 166:=⟨_,_,Tryz.func166,rfl,by kernel_rfl⟩
instance amT:br Tryz.prog 167:=⟨_,_,Tryz.func167,rfl,by kernel_rfl⟩
instance amU:br Tryz.prog 168:=⟨_,_,Tryz.func168,rfl,by kernel_rfl⟩
end Go.Proofs.YtgjbmjjihmfppaaGreat
