/- Closed facts on types, as instances. No condition. -/
import Derived.Test.YtgjbmjjihmfppaaGreatDp
import Derived.Test.YtgjbmjjihmfppaaGreatLn
import Derived.Test.YtgjbmjjihmfppaaGreatChecked
import Derived.KernelRfl
namespace Go.Proofs.YtgjbmjjihmfppaaGreat
open Go Go.Li Go.Dk
set_option linter.unusedVariables false
set_option maxRecDepth 100000
noncomputable def i2:TypeInfo:=(Tryz.prog.info? 2).getD default
theorem vV:Tryz.prog.info? 2=some i2:=by kernel_rfl
theorem Lj:i2.size=1:=by kernel_rfl
theorem P5:i2.size≠0:=by rw [Lj]; decide
theorem TG:i2.zero=some (.int .i64 0):=by kernel_rfl
theorem by2:i2.bytes=8:=by kernel_rfl
noncomputable def i3:TypeInfo:=(Tryz.prog.info? 3).getD default
theorem Ju:Tryz.prog.info? 3=some i3:=by kernel_rfl
theorem XY:i3.size=1:=by kernel_rfl
theorem XZ:i3.size≠0:=by rw [XY]; decide
theorem zr3:i3.zero=some (.int .i64 0):=by kernel_rfl
theorem by3:i3.bytes=8:=by kernel_rfl
noncomputable def i4:TypeInfo:=(Tryz.prog.info? 4).getD default
theorem W8:Tryz.prog.info? 4=some i4:=by kernel_rfl
theorem sz4:i4.size=1:=by kernel_rfl
theorem ne4:i4.size≠0:=by rw [sz4]; decide
theorem zr4:i4.zero=some (.bool false):=by kernel_rfl
theorem by4:i4.bytes=1:=by kernel_rfl
noncomputable def i5:TypeInfo:=(Tryz.prog.info? 5).getD default
theorem W9:Tryz.prog.info? 5=some i5:=by kernel_rfl
theorem X0:i5.size=1:=by kernel_rfl
theorem ne5:i5.size≠0:=by rw [X0]; decide
theorem zr5:i5.zero=some (.int .u8 0):=by kernel_rfl
theorem by5:i5.bytes=1:=by kernel_rfl
noncomputable def i22:TypeInfo:=(Tryz.prog.info? 22).getD default
theorem TH:Tryz.prog.info? 22=some i22:=by kernel_rfl
theorem Zm:i22.size=1:=by kernel_rfl
theorem Zo:i22.size≠0:=by rw [Zm]; decide
theorem ajT:i22.zero=some (.slice none 0 0):=by kernel_rfl
theorem ajU:i22.bytes=24:=by kernel_rfl
noncomputable def i24:TypeInfo:=(Tryz.prog.info? 24).getD default
theorem rP:Tryz.prog.info? 24=some i24:=by kernel_rfl
theorem Gb:i24.size=1:=by kernel_rfl
theorem B7:i24.size≠0:=by rw [Gb]; decide
theorem NT:i24.zero=some (.slice none 0 0):=by kernel_rfl
theorem Zp:i24.bytes=24:=by kernel_rfl
noncomputable def i25:TypeInfo:=(Tryz.prog.info? 25).getD default
theorem Gc:Tryz.prog.info? 25=some i25:=by kernel_rfl
theorem TJ:i25.size=1:=by kernel_rfl
theorem TK:i25.size≠0:=by rw [TJ]; decide
theorem ajV:i25.zero=some (.slice none 0 0):=by kernel_rfl
theorem ajW:i25.bytes=24:=by kernel_rfl
noncomputable def i27:TypeInfo:=(Tryz.prog.info? 27).getD default
theorem yA:Tryz.prog.info? 27=some i27:=by kernel_rfl
theorem NU:i27.size=5:=by kernel_rfl
theorem TL:i27.size≠0:=by rw [NU]; decide
theorem TM:i27.zero=some (.agg #[.int .i64 ((0:Int)),.slice none 0 0,.slice none 0 0,.slice none 0 0,.slice none 0 0]):=by kernel_rfl
noncomputable def i29:TypeInfo:=(Tryz.prog.info? 29).getD default
theorem tT:Tryz.prog.info? 29=some i29:=by kernel_rfl
theorem DH:i29.size=12:=by kernel_rfl
theorem TN:i29.size≠0:=by rw [DH]; decide
theorem Jv:i29.zero=some (.agg #[.int .i64 ((0:Int)),.slice none 0 0,.slice none 0 0,.slice none 0 0,.slice none 0 0,.int .i64 ((0:Int)),.slice none 0 0,.slice none 0 0,.slice none 0 0,.slice none 0 0,.slice none 0 0,.slice none 0 0]):=by kernel_rfl
noncomputable def i32:TypeInfo:=(Tryz.prog.info? 32).getD default
theorem wK:Tryz.prog.info? 32=some i32:=by kernel_rfl
theorem DI:i32.size=2:=by kernel_rfl
theorem ajX:i32.size≠0:=by rw [DI]; decide
theorem Jw:i32.zero=some (.agg #[.int .i64 ((0:Int)),.slice none 0 0]):=by kernel_rfl
noncomputable def i54:TypeInfo:=(Tryz.prog.info? 54).getD default
theorem Lk:Tryz.prog.info? 54=some i54:=by kernel_rfl
theorem Zq:i54.size=1:=by kernel_rfl
theorem TO:i54.size≠0:=by rw [Zq]; decide
theorem ajY:i54.zero=some (.pointer none):=by kernel_rfl
theorem ajZ:i54.bytes=8:=by kernel_rfl
noncomputable def i73:TypeInfo:=(Tryz.prog.info? 73).getD default
theorem CN:Tryz.prog.info? 73=some i73:=by kernel_rfl
theorem Jx:i73.size=1:=by kernel_rfl
theorem aj0:i73.size≠0:=by rw [Jx]; decide
theorem TP:i73.zero=some (.pointer none):=by kernel_rfl
theorem aj1:i73.bytes=8:=by kernel_rfl
noncomputable def i79:TypeInfo:=(Tryz.prog.info? 79).getD default
theorem Ll:Tryz.prog.info? 79=some i79:=by kernel_rfl
theorem TQ:i79.size=1:=by kernel_rfl
theorem Zr:i79.size≠0:=by rw [TQ]; decide
theorem aj2:i79.zero=some (.int .u64 0):=by kernel_rfl
theorem aj3:i79.bytes=8:=by kernel_rfl
noncomputable def i81:TypeInfo:=(Tryz.prog.info? 81).getD default
theorem TR:Tryz.prog.info? 81=some i81:=by kernel_rfl
theorem Zs:i81.size=3:=by kernel_rfl
theorem aj4:i81.size≠0:=by rw [Zs]; decide
theorem Zt:i81.zero=some (.agg #[.slice none 0 0,.int .i64 ((0:Int)),.int .u64 ((0:Int))]):=by kernel_rfl
noncomputable def i83:TypeInfo:=(Tryz.prog.info? 83).getD default
theorem Lm:Tryz.prog.info? 83=some i83:=by kernel_rfl
theorem TS:i83.size=1:=by kernel_rfl
theorem aj5:i83.size≠0:=by rw [TS]; decide
theorem Zu:i83.zero=some (.slice none 0 0):=by kernel_rfl
theorem aj6:i83.bytes=24:=by kernel_rfl
noncomputable def i87:TypeInfo:=(Tryz.prog.info? 87).getD default
theorem Lo:Tryz.prog.info? 87=some i87:=by kernel_rfl
theorem Zv:i87.size=1:=by kernel_rfl
theorem aj7:i87.size≠0:=by rw [Zv]; decide
theorem Zw:i87.zero=some (.agg #[.pointer none]):=by kernel_rfl
noncomputable def i125:TypeInfo:=(Tryz.prog.info? 125).getD default
theorem Bj:Tryz.prog.info? 125=some i125:=by kernel_rfl
theorem Jy:i125.size=2:=by kernel_rfl
theorem aib:i125.size≠0:=by rw [Jy]; decide
theorem P6:i125.zero=some (.agg #[.int .i64 ((0:Int)),.int .i64 ((0:Int))]):=by kernel_rfl
noncomputable def i143:TypeInfo:=(Tryz.prog.info? 143).getD default
theorem acQ:Tryz.prog.info? 143=some i143:=by kernel_rfl
theorem Xa:i143.size=1:=by kernel_rfl
theorem aic:i143.size≠0:=by rw [Xa]; decide
theorem aid:i143.zero=some (.nilFunc):=by kernel_rfl
theorem aie:i143.bytes=8:=by kernel_rfl
noncomputable def i166:TypeInfo:=(Tryz.prog.info? 166).getD default
theorem Ir:Tryz.prog.info? 166=some i166:=by kernel_rfl
theorem P7:i166.size=1:=by kernel_rfl
theorem aif:i166.size≠0:=by rw [P7]; decide
theorem Xb:i166.zero=some (.nilFunc):=by kernel_rfl
theorem aih:i166.bytes=8:=by kernel_rfl
noncomputable def i176:TypeInfo:=(Tryz.prog.info? 176).getD default
theorem uO:Tryz.prog.info? 176=some i176:=by kernel_rfl
theorem Bo:i176.size=3:=by kernel_rfl
theorem aii:i176.size≠0:=by rw [Bo]; decide
theorem E7:i176.zero=some (.agg #[.int .i64 ((0:Int)),.int .i64 ((0:Int)),.slice none 0 0]):=by kernel_rfl
noncomputable def i180:TypeInfo:=(Tryz.prog.info? 180).getD default
theorem Rs:Tryz.prog.info? 180=some i180:=by kernel_rfl
theorem Xc:i180.size=27:=by kernel_rfl
theorem aij:i180.size≠0:=by rw [Xc]; decide
theorem Xd:i180.zero=some (.agg #[.int .i64 ((0:Int)),.slice none 0 0,.slice none 0 0,.slice none 0 0,.slice none 0 0,.int .i64 ((0:Int)),.slice none 0 0,.slice none 0 0,.slice none 0 0,.slice none 0 0,.slice none 0 0,.slice none 0 0,.int .i64 ((0:Int)),.slice none 0 0,.slice none 0 0,.slice none 0 0,.slice none 0 0,.int .i64 ((0:Int)),.slice none 0 0,.slice none 0 0,.slice none 0 0,.slice none 0 0,.slice none 0 0,.slice none 0 0,.bool (false),.int .i64 ((0:Int)),.slice none 0 0]):=by kernel_rfl
instance lk2:LK Tryz.prog 2 none:=⟨_,Tryz.underlying2,rfl⟩
instance lk3:LK Tryz.prog 3 none:=⟨_,Tryz.underlying3,rfl⟩
instance lk4:LK Tryz.prog 4 none:=⟨_,Tryz.underlying4,rfl⟩
instance lk5:LK Tryz.prog 5 none:=⟨_,Tryz.underlying5,rfl⟩
instance aj8:LK Tryz.prog 22 none:=⟨_,Tryz.underlying22,rfl⟩
instance aj9:LK Tryz.prog 24 none:=⟨_,Tryz.underlying24,rfl⟩
instance aka:LK Tryz.prog 25 none:=⟨_,Tryz.underlying25,rfl⟩
instance akb:LK Tryz.prog 27 (some 5):=⟨_,_,Tryz.underlying27,rfl,yA,NU⟩
instance akc:LK Tryz.prog 29 (some 12):=⟨_,_,Tryz.underlying29,rfl,tT,DH⟩
instance akd:LK Tryz.prog 32 (some 2):=⟨_,_,Tryz.underlying32,rfl,wK,DI⟩
instance ake:LK Tryz.prog 54 none:=⟨_,Tryz.underlying54,rfl⟩
instance akf:LK Tryz.prog 73 none:=⟨_,Tryz.underlying73,rfl⟩
instance akg:LK Tryz.prog 79 none:=⟨_,Tryz.underlying79,rfl⟩
instance akh:LK Tryz.prog 83 none:=⟨_,Tryz.underlying83,rfl⟩
instance aik:LK Tryz.prog 125 (some 2):=⟨_,_,Tryz.underlying125,rfl,Bj,Jy⟩
instance ail:LK Tryz.prog 143 none:=⟨_,Tryz.underlying143,rfl⟩
instance aim:LK Tryz.prog 166 none:=⟨_,Tryz.underlying166,rfl⟩
instance ain:LK Tryz.prog 176 (some 3):=⟨_,_,Tryz.underlying176,rfl,uO,Bo⟩
instance aki:vI Tryz.prog 22:=⟨_,_,Tryz.underlying22,W9,X0⟩
instance akj:vI Tryz.prog 24:=⟨_,_,Tryz.underlying24,vV,Lj⟩
instance akk:KF Tryz.prog 24 2:=⟨Tryz.underlying24,_,_,vV,TG,Lj⟩
instance akl:qS Tryz.prog 24 Int 2 (aC .i64) 0 8:=⟨Tryz.underlying24,rfl,_,_,vV,TG,Lj,rfl,by2,fun _=>⟨rfl,rfl⟩⟩
instance akm:vI Tryz.prog 25:=⟨_,_,Tryz.underlying25,rP,Gb⟩
instance akn:KF Tryz.prog 25 24:=⟨Tryz.underlying25,_,_,rP,NT,Gb⟩
instance ako:qS Tryz.prog 25 (List Int) 24 (aK 2 (aC .i64)) [] 24:=⟨Tryz.underlying25,rfl,_,_,rP,NT,Gb,rfl,Zp,fun _=>Dy⟩
instance akp:Cu Tryz.prog 83 2:=⟨_,_,Tryz.underlying83,wK,DI⟩
instance akq:Fm Tryz.prog 83 32 2:=⟨Tryz.underlying83,_,_,wK,Jw,DI,by decide⟩
theorem Zx:i32.bytes=32:=by kernel_rfl
instance akr:zY Tryz.prog 83 32 2 32:=⟨Tryz.underlying83,_,_,wK,Jw,rfl,DI,Zx,by decide⟩
instance aio:Cu Tryz.prog 104 12:=⟨_,_,Tryz.underlying104,tT,DH⟩
instance aip:Fm Tryz.prog 104 29 12:=⟨Tryz.underlying104,_,_,tT,Jv,DH,by decide⟩
theorem Zy:i29.bytes=256:=by kernel_rfl
instance aiq:zY Tryz.prog 104 29 12 256:=⟨Tryz.underlying104,_,_,tT,Jv,rfl,DH,Zy,by decide⟩
instance air:vI Tryz.prog 135:=⟨_,_,Tryz.underlying135,CN,Jx⟩
instance ais:KE Tryz.prog 135 73:=⟨Tryz.underlying135,_,_,CN,TP,Jx⟩
instance ait:Cu Tryz.prog 173 3:=⟨_,_,Tryz.underlying173,uO,Bo⟩
instance aiu:Fm Tryz.prog 173 176 3:=⟨Tryz.underlying173,_,_,uO,E7,Bo,by decide⟩
theorem Xe:i176.bytes=40:=by kernel_rfl
instance aiv:zY Tryz.prog 173 176 3 40:=⟨Tryz.underlying173,_,_,uO,E7,rfl,Bo,Xe,by decide⟩
instance so2:ur Tryz.prog 2 1:=⟨_,vV,Lj⟩
instance so3:ur Tryz.prog 3 1:=⟨_,Ju,XY⟩
instance aks:ur Tryz.prog 24 1:=⟨_,rP,Gb⟩
instance akt:ur Tryz.prog 25 1:=⟨_,Gc,TJ⟩
instance aku:ur Tryz.prog 27 5:=⟨_,yA,NU⟩
instance akv:ur Tryz.prog 29 12:=⟨_,tT,DH⟩
instance akw:ur Tryz.prog 32 2:=⟨_,wK,DI⟩
instance akx:ur Tryz.prog 73 1:=⟨_,CN,Jx⟩
instance aky:ur Tryz.prog 79 1:=⟨_,Ll,TQ⟩
instance akz:ur Tryz.prog 83 1:=⟨_,Lm,TS⟩
instance aiw:ur Tryz.prog 125 2:=⟨_,Bj,Jy⟩
instance aix:ur Tryz.prog 166 1:=⟨_,Ir,P7⟩
instance aiy:ur Tryz.prog 176 3:=⟨_,uO,Bo⟩
instance zv2:xB Tryz.prog 2 [.int .i64 0]:=⟨_,_,vV,TG,rfl⟩
instance akA:xB Tryz.prog 24 [.slice none 0 0]:=⟨_,_,rP,NT,rfl⟩
instance akB:xB Tryz.prog 27 [.int .i64 ((0:Int)),.slice none 0 0,.slice none 0 0,.slice none 0 0,.slice none 0 0]:=⟨_,_,yA,TM,rfl⟩
instance akC:xB Tryz.prog 29 [.int .i64 ((0:Int)),.slice none 0 0,.slice none 0 0,.slice none 0 0,.slice none 0 0,.int .i64 ((0:Int)),.slice none 0 0,.slice none 0 0,.slice none 0 0,.slice none 0 0,.slice none 0 0,.slice none 0 0]:=⟨_,_,tT,Jv,rfl⟩
instance akD:xB Tryz.prog 32 [.int .i64 ((0:Int)),.slice none 0 0]:=⟨_,_,wK,Jw,rfl⟩
instance akE:xB Tryz.prog 73 [.pointer none]:=⟨_,_,CN,TP,rfl⟩
instance akF:xB Tryz.prog 83 [.slice none 0 0]:=⟨_,_,Lm,Zu,rfl⟩
instance aiz:xB Tryz.prog 125 [.int .i64 ((0:Int)),.int .i64 ((0:Int))]:=⟨_,_,Bj,P6,rfl⟩
instance aiA:xB Tryz.prog 166 [.nilFunc]:=⟨_,_,Ir,Xb,rfl⟩
instance aiB:xB Tryz.prog 176 [.int .i64 ((0:Int)),.int .i64 ((0:Int)),.slice none 0 0]:=⟨_,_,uO,E7,rfl⟩
instance afl:rC Tryz.prog 27 0 0:=⟨_,_,_,Tryz.underlying27,rfl,vV,P5,rfl⟩
instance afm:rC Tryz.prog 27 1 1:=⟨_,_,_,Tryz.underlying27,rfl,rP,B7,rfl⟩
instance afn:rC Tryz.prog 27 2 2:=⟨_,_,_,Tryz.underlying27,rfl,rP,B7,rfl⟩
instance afo:rC Tryz.prog 27 3 3:=⟨_,_,_,Tryz.underlying27,rfl,rP,B7,rfl⟩
instance afp:rC Tryz.prog 27 4 4:=⟨_,_,_,Tryz.underlying27,rfl,Gc,TK,rfl⟩
instance afq:rC Tryz.prog 29 0 0:=⟨_,_,_,Tryz.underlying29,rfl,yA,TL,rfl⟩
instance afr:rC Tryz.prog 29 1 5:=⟨_,_,_,Tryz.underlying29,rfl,yA,TL,rfl⟩
instance afs:rC Tryz.prog 29 2 10:=⟨_,_,_,Tryz.underlying29,rfl,rP,B7,rfl⟩
instance afu:rC Tryz.prog 29 3 11:=⟨_,_,_,Tryz.underlying29,rfl,rP,B7,rfl⟩
instance afv:rC Tryz.prog 32 0 0:=⟨_,_,_,Tryz.underlying32,rfl,vV,P5,rfl⟩
instance afw:rC Tryz.prog 32 1 1:=⟨_,_,_,Tryz.underlying32,rfl,rP,B7,rfl⟩
instance afx:rC Tryz.prog 81 0 0:=⟨_,_,_,Tryz.underlying81,rfl,TH,Zo,rfl⟩
instance afy:rC Tryz.prog 81 1 1:=⟨_,_,_,Tryz.underlying81,rfl,Ju,XZ,rfl⟩
instance afz:rC Tryz.prog 81 2 2:=⟨_,_,_,Tryz.underlying81,rfl,Ll,Zr,rfl⟩
instance afA:rC Tryz.prog 87 0 0:=⟨_,_,_,Tryz.underlying87,rfl,Lk,TO,rfl⟩
instance acR:rC Tryz.prog 130 0 0:=⟨_,_,_,Tryz.underlying130,rfl,Lk,TO,rfl⟩
instance acS:rC Tryz.prog 176 0 0:=⟨_,_,_,Tryz.underlying176,rfl,vV,P5,rfl⟩
instance acT:rC Tryz.prog 176 1 1:=⟨_,_,_,Tryz.underlying176,rfl,vV,P5,rfl⟩
instance acU:rC Tryz.prog 176 2 2:=⟨_,_,_,Tryz.underlying176,rfl,rP,B7,rfl⟩
instance acV:rC Tryz.prog 180 0 0:=⟨_,_,_,Tryz.underlying180,rfl,tT,TN,rfl⟩
instance acW:rC Tryz.prog 180 1 12:=⟨_,_,_,Tryz.underlying180,rfl,tT,TN,rfl⟩
instance acX:rC Tryz.prog 180 2 24:=⟨_,_,_,Tryz.underlying180,rfl,W8,ne4,rfl⟩
instance acY:rC Tryz.prog 180 3 25:=⟨_,_,_,Tryz.underlying180,rfl,Ju,XZ,rfl⟩
instance acZ:rC Tryz.prog 180 4 26:=⟨_,_,_,Tryz.underlying180,rfl,Gc,TK,rfl⟩
instance ac0:Ic Tryz.prog 3 79 .u64:=⟨by rw [Tryz.underlying3]; rfl,Tryz.underlying79⟩
instance afB:Ic Tryz.prog 5 2 .i64:=⟨by rw [Tryz.underlying5]; rfl,Tryz.underlying2⟩
instance ac1:Ic Tryz.prog 5 79 .u64:=⟨by rw [Tryz.underlying5]; rfl,Tryz.underlying79⟩
instance ac2:Ic Tryz.prog 79 2 .i64:=⟨by rw [Tryz.underlying79]; rfl,Tryz.underlying2⟩
instance akG:zX Tryz.prog 27 [.int .i64 ((0:Int)),.slice none 0 0,.slice none 0 0,.slice none 0 0,.slice none 0 0] [(0,1),(1,1),(2,1),(3,1),(4,1)]:=⟨_,_,_,Tryz.underlying27,by kernel_rfl,yA,TM,rfl⟩
instance akH:zX Tryz.prog 29 [.int .i64 ((0:Int)),.slice none 0 0,.slice none 0 0,.slice none 0 0,.slice none 0 0,.int .i64 ((0:Int)),.slice none 0 0,.slice none 0 0,.slice none 0 0,.slice none 0 0,.slice none 0 0,.slice none 0 0] [(0,5),(5,5),(10,1),(11,1)]:=⟨_,_,_,Tryz.underlying29,by kernel_rfl,tT,Jv,rfl⟩
instance akI:zX Tryz.prog 32 [.int .i64 ((0:Int)),.slice none 0 0] [(0,1),(1,1)]:=⟨_,_,_,Tryz.underlying32,by kernel_rfl,wK,Jw,rfl⟩
instance akJ:zX Tryz.prog 81 [.slice none 0 0,.int .i64 ((0:Int)),.int .u64 ((0:Int))] [(0,1),(1,1),(2,1)]:=⟨_,_,_,Tryz.underlying81,by kernel_rfl,TR,Zt,rfl⟩
instance akK:zX Tryz.prog 87 [.pointer none] [(0,1)]:=⟨_,_,_,Tryz.underlying87,by kernel_rfl,Lo,Zw,rfl⟩
instance aiC:zX Tryz.prog 125 [.int .i64 ((0:Int)),.int .i64 ((0:Int))] [(0,1),(1,1)]:=⟨_,_,_,Tryz.underlying125,by kernel_rfl,Bj,P6,rfl⟩
instance aiD:zX Tryz.prog 176 [.int .i64 ((0:Int)),.int .i64 ((0:Int)),.slice none 0 0] [(0,1),(1,1),(2,1)]:=⟨_,_,_,Tryz.underlying176,by kernel_rfl,uO,E7,rfl⟩
instance aiE:zX Tryz.prog 180 [.int .i64 ((0:Int)),.slice none 0 0,.slice none 0 0,.slice none 0 0,.slice none 0 0,.int .i64 ((0:Int)),.slice none 0 0,.slice none 0 0,.slice none 0 0,.slice none 0 0,.slice none 0 0,.slice none 0 0,.int .i64 ((0:Int)),.slice none 0 0,.slice none 0 0,.slice none 0 0,.slice none 0 0,.int .i64 ((0:Int)),.slice none 0 0,.slice none 0 0,.slice none 0 0,.slice none 0 0,.slice none 0 0,.slice none 0 0,.bool (false),.int .i64 ((0:Int)),.slice none 0 0] [(0,12),(12,12),(24,1),(25,1),(26,1)]:=⟨_,_,_,Tryz.underlying180,by kernel_rfl,Rs,Xd,rfl⟩
instance aiF:Sy Tryz.prog 125 .i64 .i64:=⟨_,_,Tryz.underlying125,by decide,by decide,Tryz.underlying2,Tryz.underlying2,rfl,rfl,by kernel_rfl,by kernel_rfl⟩
instance akL:SB Tryz.prog 87:=⟨_,Tryz.underlying87,rfl⟩
instance Zz:PR Tryz.prog 87 (i87.methods.getD 0 default).name 184:=⟨i87,i87.methods.getD 0 default,_,_,_,Lo,by kernel_rfl,by kernel_rfl,by kernel_rfl,Tryz.underlying87,(fun _ h=>nomatch h),Tryz.func184,rfl,rfl⟩
instance fn7:bw Tryz.prog 7:=⟨_,_,Tryz.func7,rfl,by kernel_rfl⟩
instance fn8:bw Tryz.prog 8:=⟨_,_,Tryz.func8,rfl,by kernel_rfl⟩
instance fn9:bw Tryz.prog 9:=⟨_,_,Tryz.func9,rfl,by kernel_rfl⟩
instance akM:bw Tryz.prog 10:=⟨_,_,Tryz.func10,rfl,by kernel_rfl⟩
instance akN:bw Tryz.prog 11:=⟨_,_,Tryz.func11,rfl,by kernel_rfl⟩
instance akO:bw Tryz.prog 12:=⟨_,_,Tryz.func12,rfl,by kernel_rfl⟩
instance akP:bw Tryz.prog 13:=⟨_,_,Tryz.func13,rfl,by kernel_rfl⟩
instance akQ:bw Tryz.prog 14:=⟨_,_,Tryz.func14,rfl,by kernel_rfl⟩
instance akR:bw Tryz.prog 15:=⟨_,_,Tryz.func15,rfl,by kernel_rfl⟩
instance akS:bw Tryz.prog 16:=⟨_,_,Tryz.func16,rfl,by kernel_rfl⟩
instance akT:bw Tryz.prog 33:=⟨_,_,Tryz.func33,rfl,by kernel_rfl⟩
instance akU:bw Tryz.prog 34:=⟨_,_,Tryz.func34,rfl,by kernel_rfl⟩
instance akV:bw Tryz.prog 35:=⟨_,_,Tryz.func35,rfl,by kernel_rfl⟩
instance akW:bw Tryz.prog 36:=⟨_,_,Tryz.func36,rfl,by kernel_rfl⟩
instance akX:bw Tryz.prog 37:=⟨_,_,Tryz.func37,rfl,by kernel_rfl⟩
instance akY:bw Tryz.prog 38:=⟨_,_,Tryz.func38,rfl,by kernel_rfl⟩
instance akZ:bw Tryz.prog 39:=⟨_,_,Tryz.func39,rfl,by kernel_rfl⟩
instance ak0:bw Tryz.prog 40:=⟨_,_,Tryz.func40,rfl,by kernel_rfl⟩
instance ak1:bw Tryz.prog 41:=⟨_,_,Tryz.func41,rfl,by kernel_rfl⟩
instance ak2:bw Tryz.prog 42:=⟨_,_,Tryz.func42,rfl,by kernel_rfl⟩
instance ak3:bw Tryz.prog 43:=⟨_,_,Tryz.func43,rfl,by kernel_rfl⟩
instance ak4:bw Tryz.prog 44:=⟨_,_,Tryz.func44,rfl,by kernel_rfl⟩
instance ak5:bw Tryz.prog 53:=⟨_,_,Tryz.func53,rfl,by kernel_rfl⟩
instance ak6:bw Tryz.prog 61:=⟨_,_,Tryz.func61,rfl,by kernel_rfl⟩
instance ak7:bw Tryz.prog 62:=⟨_,_,Tryz.func62,rfl,by kernel_rfl⟩
instance ak8:bw Tryz.prog 63:=⟨_,_,Tryz.func63,rfl,by kernel_rfl⟩
instance ak9:bw Tryz.prog 64:=⟨_,_,Tryz.func64,rfl,by kernel_rfl⟩
instance ala:bw Tryz.prog 65:=⟨_,_,Tryz.func65,rfl,by kernel_rfl⟩
instance ald:bw Tryz.prog 66:=⟨_,_,Tryz.func66,rfl,by kernel_rfl⟩
instance ale:bw Tryz.prog 67:=⟨_,_,Tryz.func67,rfl,by kernel_rfl⟩
instance alf:bw Tryz.prog 68:=⟨_,_,Tryz.func68,rfl,by kernel_rfl⟩
instance alg:bw Tryz.prog 69:=⟨_,_,Tryz.func69,rfl,by kernel_rfl⟩
instance alh:bw Tryz.prog 70:=⟨_,_,Tryz.func70,rfl,by kernel_rfl⟩
instance ali:bw Tryz.prog 71:=⟨_,_,Tryz.func71,rfl,by kernel_rfl⟩
instance alj:bw Tryz.prog 72:=⟨_,_,Tryz.func72,rfl,by kernel_rfl⟩
instance alk:bw Tryz.prog 73:=⟨_,_,Tryz.func73,rfl,by kernel_rfl⟩
instance alm:bw Tryz.prog 74:=⟨_,_,Tryz.func74,rfl,by kernel_rfl⟩
instance aln:bw Tryz.prog 75:=⟨_,_,Tryz.func75,rfl,by kernel_rfl⟩
instance alo:bw Tryz.prog 76:=⟨_,_,Tryz.func76,rfl,by kernel_rfl⟩
instance alp:bw Tryz.prog 77:=⟨_,_,Tryz.func77,rfl,by kernel_rfl⟩
instance alq:bw Tryz.prog 78:=⟨_,_,Tryz.func78,rfl,by kernel_rfl⟩
instance alr:bw Tryz.prog 79:=⟨_,_,Tryz.func79,rfl,by kernel_rfl⟩
instance als:bw Tryz.prog 80:=⟨_,_,Tryz.func80,rfl,by kernel_rfl⟩
instance alu:bw Tryz.prog 81:=⟨_,_,Tryz.func81,rfl,by kernel_rfl⟩
instance alv:bw Tryz.prog 82:=⟨_,_,Tryz.func82,rfl,by kernel_rfl⟩
instance alw:bw Tryz.prog 83:=⟨_,_,Tryz.func83,rfl,by kernel_rfl⟩
instance alx:bw Tryz.prog 92:=⟨_,_,Tryz.func92,rfl,by kernel_rfl⟩
instance aly:bw Tryz.prog 93:=⟨_,_,Tryz.func93,rfl,by kernel_rfl⟩
instance alz:bw Tryz.prog 94:=⟨_,_,Tryz.func94,rfl,by kernel_rfl⟩
instance alA:bw Tryz.prog 95:=⟨_,_,Tryz.func95,rfl,by kernel_rfl⟩
instance alB:bw Tryz.prog 96:=⟨_,_,Tryz.func96,rfl,by kernel_rfl⟩
instance alC:bw Tryz.prog 99:=⟨_,_,Tryz.func99,rfl,by kernel_rfl⟩
instance aiG:bw Tryz.prog 101:=⟨_,_,Tryz.func101,rfl,by kernel_rfl⟩
instance aiH:bw Tryz.prog 102:=⟨_,_,Tryz.func102,rfl,by kernel_rfl⟩
instance aiI:bw Tryz.prog 103:=⟨_,_,Tryz.func103,rfl,by kernel_rfl⟩
instance aiJ:bw Tryz.prog 104:=⟨_,_,Tryz.func104,rfl,by kernel_rfl⟩
instance aiK:bw Tryz.prog 105:=⟨_,_,Tryz.func105,rfl,by kernel_rfl⟩
instance aiL:bw Tryz.prog 106:=⟨_,_,Tryz.func106,rfl,by kernel_rfl⟩
instance aiM:bw Tryz.prog 107:=⟨_,_,Tryz.func107,rfl,by kernel_rfl⟩
instance aiN:bw Tryz.prog 108:=⟨_,_,Tryz.func108,rfl,by kernel_rfl⟩
instance aiO:bw Tryz.prog 109:=⟨_,_,Tryz.func109,rfl,by kernel_rfl⟩
instance aiP:bw Tryz.prog 110:=⟨_,_,Tryz.func110,rfl,by kernel_rfl⟩
instance aiQ:bw Tryz.prog 111:=⟨_,_,Tryz.func111,rfl,by kernel_rfl⟩
instance aiR:bw Tryz.prog 112:=⟨_,_,Tryz.func112,rfl,by kernel_rfl⟩
instance aiS:bw Tryz.prog 113:=⟨_,_,Tryz.func113,rfl,by kernel_rfl⟩
instance aiT:bw Tryz.prog 114:=⟨_,_,Tryz.func114,rfl,by kernel_rfl⟩
instance aiU:bw Tryz.prog 115:=⟨_,_,Tryz.func115,rfl,by kernel_rfl⟩
instance aiV:bw Tryz.prog 116:=⟨_,_,Tryz.func116,rfl,by kernel_rfl⟩
instance aiW:bw Tryz.prog 117:=⟨_,_,Tryz.func117,rfl,by kernel_rfl⟩
instance aiX:bw Tryz.prog 118:=⟨_,_,Tryz.func118,rfl,by kernel_rfl⟩
instance aiY:bw Tryz.prog 119:=⟨_,_,Tryz.func119,rfl,by kernel_rfl⟩
instance aiZ:bw Tryz.prog 120:=⟨_,_,Tryz.func120,rfl,by kernel_rfl⟩
instance ai0:bw Tryz.prog 121:=⟨_,_,Tryz.func121,rfl,by kernel_rfl⟩
instance ai1:bw Tryz.prog 122:=⟨_,_,Tryz.func122,rfl,by kernel_rfl⟩
instance ai2:bw Tryz.prog 123:=⟨_,_,Tryz.func123,rfl,by kernel_rfl⟩
instance ai3:bw Tryz.prog 131:=⟨_,_,Tryz.func131,rfl,by kernel_rfl⟩
instance ai4:bw Tryz.prog 132:=⟨_,_,Tryz.func132,rfl,by kernel_rfl⟩
instance ai5:bw Tryz.prog 133:=⟨_,_,Tryz.func133,rfl,by kernel_rfl⟩
instance ai6:bw Tryz.prog 134:=⟨_,_,Tryz.func134,rfl,by kernel_rfl⟩
instance ai7:bw Tryz.prog 135:=⟨_,_,Tryz.func135,rfl,by kernel_rfl⟩
instance ai8:bw Tryz.prog 136:=⟨_,_,Tryz.func136,rfl,by kernel_rfl⟩
instance ai9:bw Tryz.prog 137:=⟨_,_,Tryz.func137,rfl,by kernel_rfl⟩
instance aja:bw Tryz.prog 138:=⟨_,_,Tryz.func138,rfl,by kernel_rfl⟩
instance ajb:bw Tryz.prog 139:=⟨_,_,Tryz.func139,rfl,by kernel_rfl⟩
instance ajc:bw Tryz.prog 140:=⟨_,_,Tryz.func140,rfl,by kernel_rfl⟩
instance ajd:bw Tryz.prog 141:=⟨_,_,Tryz.func141,rfl,by kernel_rfl⟩
instance aje:bw Tryz.prog 142:=⟨_,_,Tryz.func142,rfl,by kernel_rfl⟩
instance ajf:bw Tryz.prog 143:=⟨_,_,Tryz.func143,rfl,by kernel_rfl⟩
instance ajg:bw Tryz.prog 144:=⟨_,_,Tryz.func144,rfl,by kernel_rfl⟩
instance ajh:bw Tryz.prog 145:=⟨_,_,Tryz.func145,rfl,by kernel_rfl⟩
instance aji:bw Tryz.prog 146:=⟨_,_,Tryz.func146,rfl,by kernel_rfl⟩
instance ajj:bw Tryz.prog 147:=⟨_,_,Tryz.func147,rfl,by kernel_rfl⟩
instance ajk:bw Tryz.prog 148:=⟨_,_,Tryz.func148,rfl,by kernel_rfl⟩
instance ajl:bw Tryz.prog 149:=⟨_,_,Tryz.func149,rfl,by kernel_rfl⟩
instance ajm:bw Tryz.prog 150:=⟨_,_,Tryz.func150,rfl,by kernel_rfl⟩
instance ajn:bw Tryz.prog 151:=⟨_,_,Tryz.func151,rfl,by kernel_rfl⟩
instance ajo:bw Tryz.prog 153:=⟨_,_,Tryz.func153,rfl,by kernel_rfl⟩
instance ajp:bw Tryz.prog 154:=⟨_,_,Tryz.func154,rfl,by kernel_rfl⟩
instance ajq:bw Tryz.prog 155:=⟨_,_,Tryz.func155,rfl,by kernel_rfl⟩
instance ajr:bw Tryz.prog 156:=⟨_,_,Tryz.func156,rfl,by kernel_rfl⟩
instance ajs:bw Tryz.prog 157:=⟨_,_,Tryz.func157,rfl,by kernel_rfl⟩
instance ajt:bw Tryz.prog 158:=⟨_,_,Tryz.func158,rfl,by kernel_rfl⟩
instance aju:bw Tryz.prog 159:=⟨_,_,Tryz.func159,rfl,by kernel_rfl⟩
instance ajv:bw Tryz.prog 160:=⟨_,_,Tryz.func160,rfl,by kernel_rfl⟩
instance ajw:bw Tryz.prog 161:=⟨_,_,Tryz.func161,rfl,by kernel_rfl⟩
instance ajx:bw Tryz.prog 162:=⟨_,_,Tryz.func162,rfl,by kernel_rfl⟩
instance ajy:bw Tryz.prog 163:=⟨_,_,Tryz.func163,rfl,by kernel_rfl⟩
instance ajz:bw Tryz.prog 164:=⟨_,_,Tryz.func164,rfl,by kernel_rfl⟩
instance ajA:bw Tryz.prog 165:=⟨_,_,Tryz.func165,rfl,by kernel_rfl⟩
instance ajB:bw Tryz.prog 166:=⟨_,_,Tryz.func166,rfl,by kernel_rfl⟩
instance ajC:bw Tryz.prog 167:=⟨_,_,Tryz.func167,rfl,by kernel_rfl⟩
instance ajD:bw Tryz.prog 168:=⟨_,_,Tryz.func168,rfl,by kernel_rfl⟩
end Go.Proofs.YtgjbmjjihmfppaaGreat
