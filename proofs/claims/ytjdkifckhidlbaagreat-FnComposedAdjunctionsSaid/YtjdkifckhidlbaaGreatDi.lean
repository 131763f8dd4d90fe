/- Closed facts on types, as instances. No condition. -/
import Derived.Test.YtjdkifckhidlbaaGreatDp
import Derived.Test.YtjdkifckhidlbaaGreatLn
import Derived.Test.YtjdkifckhidlbaaGreatChecked
import Derived.KernelRfl
namespace Go.Proofs.YtjdkifckhidlbaaGreat
open Go Go.Li Go.Dk
set_option linter.unusedVariables false
set_option maxRecDepth 100000
noncomputable def i2:TypeInfo:=(Tryz.prog.info? 2).getD default
theorem AP:Tryz.prog.info? 2=some i2:=by kernel_rfl
theorem NG:i2.size=1:=by kernel_rfl
theorem VG:i2.size≠0:=by rw [NG]; decide
theorem zr2:i2.zero=some (.int .i64 0):=by kernel_rfl
theorem by2:i2.bytes=8:=by kernel_rfl
noncomputable def i3:TypeInfo:=(Tryz.prog.info? 3).getD default
theorem LB:Tryz.prog.info? 3=some i3:=by kernel_rfl
theorem sz3:i3.size=1:=by kernel_rfl
theorem ne3:i3.size≠0:=by rw [sz3]; decide
theorem zr3:i3.zero=some (.int .i64 0):=by kernel_rfl
theorem by3:i3.bytes=8:=by kernel_rfl
noncomputable def i5:TypeInfo:=(Tryz.prog.info? 5).getD default
theorem YY:Tryz.prog.info? 5=some i5:=by kernel_rfl
theorem sz5:i5.size=1:=by kernel_rfl
theorem ne5:i5.size≠0:=by rw [sz5]; decide
theorem zr5:i5.zero=some (.int .u8 0):=by kernel_rfl
theorem by5:i5.bytes=1:=by kernel_rfl
noncomputable def i22:TypeInfo:=(Tryz.prog.info? 22).getD default
theorem NH:Tryz.prog.info? 22=some i22:=by kernel_rfl
theorem abX:i22.size=1:=by kernel_rfl
theorem VH:i22.size≠0:=by rw [abX]; decide
theorem aoc:i22.zero=some (.slice none 0 0):=by kernel_rfl
theorem aod:i22.bytes=24:=by kernel_rfl
noncomputable def i24:TypeInfo:=(Tryz.prog.info? 24).getD default
theorem sW:Tryz.prog.info? 24=some i24:=by kernel_rfl
theorem H9:i24.size=1:=by kernel_rfl
theorem AQ:i24.size≠0:=by rw [H9]; decide
theorem VI:i24.zero=some (.slice none 0 0):=by kernel_rfl
theorem abY:i24.bytes=24:=by kernel_rfl
noncomputable def i25:TypeInfo:=(Tryz.prog.info? 25).getD default
theorem NI:Tryz.prog.info? 25=some i25:=by kernel_rfl
theorem VJ:i25.size=1:=by kernel_rfl
theorem abZ:i25.size≠0:=by rw [VJ]; decide
theorem aoe:i25.zero=some (.slice none 0 0):=by kernel_rfl
theorem aof:i25.bytes=24:=by kernel_rfl
noncomputable def i27:TypeInfo:=(Tryz.prog.info? 27).getD default
theorem zS:Tryz.prog.info? 27=some i27:=by kernel_rfl
theorem PV:i27.size=5:=by kernel_rfl
theorem VK:i27.size≠0:=by rw [PV]; decide
theorem VL:i27.zero=some (.agg #[.int .i64 ((0:Int)),.slice none 0 0,.slice none 0 0,.slice none 0 0,.slice none 0 0]):=by kernel_rfl
noncomputable def i29:TypeInfo:=(Tryz.prog.info? 29).getD default
theorem tX:Tryz.prog.info? 29=some i29:=by kernel_rfl
theorem Ft:i29.size=12:=by kernel_rfl
theorem LC:i29.size≠0:=by rw [Ft]; decide
theorem LD:i29.zero=some (.agg #[.int .i64 ((0:Int)),.slice none 0 0,.slice none 0 0,.slice none 0 0,.slice none 0 0,.int .i64 ((0:Int)),.slice none 0 0,.slice none 0 0,.slice none 0 0,.slice none 0 0,.slice none 0 0,.slice none 0 0]):=by kernel_rfl
noncomputable def i41:TypeInfo:=(Tryz.prog.info? 41).getD default
theorem Ek:Tryz.prog.info? 41=some i41:=by kernel_rfl
theorem PW:i41.size=26:=by kernel_rfl
theorem aog:i41.size≠0:=by rw [PW]; decide
theorem VM:i41.zero=some (.agg #[.int .i64 ((0:Int)),.slice none 0 0,.slice none 0 0,.slice none 0 0,.slice none 0 0,.int .i64 ((0:Int)),.slice none 0 0,.slice none 0 0,.slice none 0 0,.slice none 0 0,.slice none 0 0,.slice none 0 0,.int .i64 ((0:Int)),.slice none 0 0,.slice none 0 0,.slice none 0 0,.slice none 0 0,.int .i64 ((0:Int)),.slice none 0 0,.slice none 0 0,.slice none 0 0,.slice none 0 0,.slice none 0 0,.slice none 0 0,.slice none 0 0,.slice none 0 0]):=by kernel_rfl
noncomputable def i64:TypeInfo:=(Tryz.prog.info? 64).getD default
theorem Ia:Tryz.prog.info? 64=some i64:=by kernel_rfl
theorem VN:i64.size=1:=by kernel_rfl
theorem VO:i64.size≠0:=by rw [VN]; decide
theorem aoh:i64.zero=some (.int .u64 0):=by kernel_rfl
theorem aoi:i64.bytes=8:=by kernel_rfl
noncomputable def i70:TypeInfo:=(Tryz.prog.info? 70).getD default
theorem Ib:Tryz.prog.info? 70=some i70:=by kernel_rfl
theorem VP:i70.size=25:=by kernel_rfl
theorem aoj:i70.size≠0:=by rw [VP]; decide
theorem VR:i70.zero=some (.agg #[.int .i64 ((0:Int)),.slice none 0 0,.slice none 0 0,.slice none 0 0,.slice none 0 0,.int .i64 ((0:Int)),.slice none 0 0,.slice none 0 0,.slice none 0 0,.slice none 0 0,.slice none 0 0,.slice none 0 0,.int .i64 ((0:Int)),.slice none 0 0,.slice none 0 0,.slice none 0 0,.slice none 0 0,.int .i64 ((0:Int)),.slice none 0 0,.slice none 0 0,.slice none 0 0,.slice none 0 0,.slice none 0 0,.slice none 0 0,.slice none 0 0]):=by kernel_rfl
noncomputable def i104:TypeInfo:=(Tryz.prog.info? 104).getD default
theorem Kw:Tryz.prog.info? 104=some i104:=by kernel_rfl
theorem LF:i104.size=1:=by kernel_rfl
theorem alX:i104.size≠0:=by rw [LF]; decide
theorem YZ:i104.zero=some (.pointer none):=by kernel_rfl
theorem alY:i104.bytes=8:=by kernel_rfl
noncomputable def i106:TypeInfo:=(Tryz.prog.info? 106).getD default
theorem Kx:Tryz.prog.info? 106=some i106:=by kernel_rfl
theorem LG:i106.size=1:=by kernel_rfl
theorem alZ:i106.size≠0:=by rw [LG]; decide
theorem Y0:i106.zero=some (.pointer none):=by kernel_rfl
theorem al0:i106.bytes=8:=by kernel_rfl
noncomputable def i132:TypeInfo:=(Tryz.prog.info? 132).getD default
theorem CI:Tryz.prog.info? 132=some i132:=by kernel_rfl
theorem LH:i132.size=2:=by kernel_rfl
theorem al1:i132.size≠0:=by rw [LH]; decide
theorem Sf:i132.zero=some (.agg #[.int .i64 ((0:Int)),.int .i64 ((0:Int))]):=by kernel_rfl
noncomputable def i157:TypeInfo:=(Tryz.prog.info? 157).getD default
theorem TO:Tryz.prog.info? 157=some i157:=by kernel_rfl
theorem Y1:i157.size=3:=by kernel_rfl
theorem al2:i157.size≠0:=by rw [Y1]; decide
theorem Y2:i157.zero=some (.agg #[.slice none 0 0,.int .i64 ((0:Int)),.int .u64 ((0:Int))]):=by kernel_rfl
noncomputable def i193:TypeInfo:=(Tryz.prog.info? 193).getD default
theorem TP:Tryz.prog.info? 193=some i193:=by kernel_rfl
theorem Y3:i193.size=3:=by kernel_rfl
theorem al3:i193.size≠0:=by rw [Y3]; decide
theorem Y4:i193.zero=some (.agg #[.slice none 0 0,.int .i64 ((0:Int)),.int .u64 ((0:Int))]):=by kernel_rfl
noncomputable def i235:TypeInfo:=(Tryz.prog.info? 235).getD default
theorem Kz:Tryz.prog.info? 235=some i235:=by kernel_rfl
theorem LJ:i235.size=1:=by kernel_rfl
theorem al4:i235.size≠0:=by rw [LJ]; decide
theorem Y5:i235.zero=some (.pointer none):=by kernel_rfl
theorem al5:i235.bytes=8:=by kernel_rfl
noncomputable def i286:TypeInfo:=(Tryz.prog.info? 286).getD default
theorem wm:Tryz.prog.info? 286=some i286:=by kernel_rfl
theorem CJ:i286.size=3:=by kernel_rfl
theorem al6:i286.size≠0:=by rw [CJ]; decide
theorem G8:i286.zero=some (.agg #[.int .i64 ((0:Int)),.int .i64 ((0:Int)),.slice none 0 0]):=by kernel_rfl
instance lk2:LK Tryz.prog 2 none:=⟨_,Tryz.underlying2,rfl⟩
instance lk3:LK Tryz.prog 3 none:=⟨_,Tryz.underlying3,rfl⟩
instance lk5:LK Tryz.prog 5 none:=⟨_,Tryz.underlying5,rfl⟩
instance aok:LK Tryz.prog 22 none:=⟨_,Tryz.underlying22,rfl⟩
instance aol:LK Tryz.prog 24 none:=⟨_,Tryz.underlying24,rfl⟩
instance aom:LK Tryz.prog 25 none:=⟨_,Tryz.underlying25,rfl⟩
instance aon:LK Tryz.prog 27 (some 5):=⟨_,_,Tryz.underlying27,rfl,zS,PV⟩
instance aoo:LK Tryz.prog 29 (some 12):=⟨_,_,Tryz.underlying29,rfl,tX,Ft⟩
instance aoq:LK Tryz.prog 41 (some 26):=⟨_,_,Tryz.underlying41,rfl,Ek,PW⟩
instance aor:LK Tryz.prog 64 none:=⟨_,Tryz.underlying64,rfl⟩
instance al7:LK Tryz.prog 104 none:=⟨_,Tryz.underlying104,rfl⟩
instance al8:LK Tryz.prog 106 none:=⟨_,Tryz.underlying106,rfl⟩
instance al9:LK Tryz.prog 132 (some 2):=⟨_,_,Tryz.underlying132,rfl,CI,LH⟩
instance ama:LK Tryz.prog 235 none:=⟨_,Tryz.underlying235,rfl⟩
instance amb:LK Tryz.prog 286 (some 3):=⟨_,_,Tryz.underlying286,rfl,wm,CJ⟩
instance aos:vV Tryz.prog 22:=⟨_,_,Tryz.underlying22,YY,sz5⟩
instance aot:vV Tryz.prog 24:=⟨_,_,Tryz.underlying24,AP,NG⟩
instance aou:MX Tryz.prog 24 2:=⟨Tryz.underlying24,_,_,AP,zr2,NG⟩
instance aov:rv Tryz.prog 24 Int 2 (aM .i64) 0 8:=⟨Tryz.underlying24,rfl,_,_,AP,zr2,NG,rfl,by2,fun _=>⟨rfl,rfl⟩⟩
instance aow:vV Tryz.prog 25:=⟨_,_,Tryz.underlying25,sW,H9⟩
instance aox:MX Tryz.prog 25 24:=⟨Tryz.underlying25,_,_,sW,VI,H9⟩
instance aoy:rv Tryz.prog 25 (List Int) 24 (aK 2 (aM .i64)) [] 24:=⟨Tryz.underlying25,rfl,_,_,sW,VI,H9,rfl,abY,fun _=>Fi⟩
instance aoz:Gf Tryz.prog 81 12:=⟨_,_,Tryz.underlying81,tX,Ft⟩
instance aoA:Kf Tryz.prog 81 29 12:=⟨Tryz.underlying81,_,_,tX,LD,Ft,by decide⟩
theorem ab0:i29.bytes=256:=by kernel_rfl
instance aoB:BK Tryz.prog 81 29 12 256:=⟨Tryz.underlying81,_,_,tX,LD,rfl,Ft,ab0,by decide⟩
instance amc:vV Tryz.prog 197:=⟨_,_,Tryz.underlying197,Kw,LF⟩
instance amd:Hm Tryz.prog 197 104:=⟨Tryz.underlying197,_,_,Kw,YZ,LF⟩
instance ame:vV Tryz.prog 264:=⟨_,_,Tryz.underlying264,Kx,LG⟩
instance amf:Hm Tryz.prog 264 106:=⟨Tryz.underlying264,_,_,Kx,Y0,LG⟩
instance amg:Gf Tryz.prog 283 3:=⟨_,_,Tryz.underlying283,wm,CJ⟩
instance amh:Kf Tryz.prog 283 286 3:=⟨Tryz.underlying283,_,_,wm,G8,CJ,by decide⟩
theorem Y6:i286.bytes=40:=by kernel_rfl
instance ami:BK Tryz.prog 283 286 3 40:=⟨Tryz.underlying283,_,_,wm,G8,rfl,CJ,Y6,by decide⟩
instance amj:vV Tryz.prog 287:=⟨_,_,Tryz.underlying287,Kz,LJ⟩
instance amk:Hm Tryz.prog 287 235:=⟨Tryz.underlying287,_,_,Kz,Y5,LJ⟩
instance so2:xk Tryz.prog 2 1:=⟨_,AP,NG⟩
instance so3:xk Tryz.prog 3 1:=⟨_,LB,sz3⟩
instance aoC:xk Tryz.prog 24 1:=⟨_,sW,H9⟩
instance aoD:xk Tryz.prog 25 1:=⟨_,NI,VJ⟩
instance aoE:xk Tryz.prog 27 5:=⟨_,zS,PV⟩
instance aoF:xk Tryz.prog 29 12:=⟨_,tX,Ft⟩
instance aoG:xk Tryz.prog 41 26:=⟨_,Ek,PW⟩
instance aoH:xk Tryz.prog 64 1:=⟨_,Ia,VN⟩
instance aoI:xk Tryz.prog 70 25:=⟨_,Ib,VP⟩
instance aml:xk Tryz.prog 132 2:=⟨_,CI,LH⟩
instance amm:xk Tryz.prog 286 3:=⟨_,wm,CJ⟩
instance aoJ:C7 Tryz.prog 27 [.int .i64 ((0:Int)),.slice none 0 0,.slice none 0 0,.slice none 0 0,.slice none 0 0]:=⟨_,_,zS,VL,rfl⟩
instance aoK:C7 Tryz.prog 29 [.int .i64 ((0:Int)),.slice none 0 0,.slice none 0 0,.slice none 0 0,.slice none 0 0,.int .i64 ((0:Int)),.slice none 0 0,.slice none 0 0,.slice none 0 0,.slice none 0 0,.slice none 0 0,.slice none 0 0]:=⟨_,_,tX,LD,rfl⟩
instance aoL:C7 Tryz.prog 41 [.int .i64 ((0:Int)),.slice none 0 0,.slice none 0 0,.slice none 0 0,.slice none 0 0,.int .i64 ((0:Int)),.slice none 0 0,.slice none 0 0,.slice none 0 0,.slice none 0 0,.slice none 0 0,.slice none 0 0,.int .i64 ((0:Int)),.slice none 0 0,.slice none 0 0,.slice none 0 0,.slice none 0 0,.int .i64 ((0:Int)),.slice none 0 0,.slice none 0 0,.slice none 0 0,.slice none 0 0,.slice none 0 0,.slice none 0 0,.slice none 0 0,.slice none 0 0]:=⟨_,_,Ek,VM,rfl⟩
instance aoM:C7 Tryz.prog 70 [.int .i64 ((0:Int)),.slice none 0 0,.slice none 0 0,.slice none 0 0,.slice none 0 0,.int .i64 ((0:Int)),.slice none 0 0,.slice none 0 0,.slice none 0 0,.slice none 0 0,.slice none 0 0,.slice none 0 0,.int .i64 ((0:Int)),.slice none 0 0,.slice none 0 0,.slice none 0 0,.slice none 0 0,.int .i64 ((0:Int)),.slice none 0 0,.slice none 0 0,.slice none 0 0,.slice none 0 0,.slice none 0 0,.slice none 0 0,.slice none 0 0]:=⟨_,_,Ib,VR,rfl⟩
instance amn:C7 Tryz.prog 132 [.int .i64 ((0:Int)),.int .i64 ((0:Int))]:=⟨_,_,CI,Sf,rfl⟩
instance amo:C7 Tryz.prog 286 [.int .i64 ((0:Int)),.int .i64 ((0:Int)),.slice none 0 0]:=⟨_,_,wm,G8,rfl⟩
instance aiG:sR Tryz.prog 27 0 0:=⟨_,_,_,Tryz.underlying27,rfl,AP,VG,rfl⟩
instance aiH:sR Tryz.prog 27 1 1:=⟨_,_,_,Tryz.underlying27,rfl,sW,AQ,rfl⟩
instance aiI:sR Tryz.prog 27 2 2:=⟨_,_,_,Tryz.underlying27,rfl,sW,AQ,rfl⟩
instance aiJ:sR Tryz.prog 27 3 3:=⟨_,_,_,Tryz.underlying27,rfl,sW,AQ,rfl⟩
instance aiK:sR Tryz.prog 27 4 4:=⟨_,_,_,Tryz.underlying27,rfl,NI,abZ,rfl⟩
instance aiL:sR Tryz.prog 29 0 0:=⟨_,_,_,Tryz.underlying29,rfl,zS,VK,rfl⟩
instance aiM:sR Tryz.prog 29 1 5:=⟨_,_,_,Tryz.underlying29,rfl,zS,VK,rfl⟩
instance aiN:sR Tryz.prog 29 2 10:=⟨_,_,_,Tryz.underlying29,rfl,sW,AQ,rfl⟩
instance aiO:sR Tryz.prog 29 3 11:=⟨_,_,_,Tryz.underlying29,rfl,sW,AQ,rfl⟩
instance aiP:sR Tryz.prog 41 0 0:=⟨_,_,_,Tryz.underlying41,rfl,tX,LC,rfl⟩
instance aiQ:sR Tryz.prog 41 1 12:=⟨_,_,_,Tryz.underlying41,rfl,tX,LC,rfl⟩
instance aiR:sR Tryz.prog 41 2 24:=⟨_,_,_,Tryz.underlying41,rfl,sW,AQ,rfl⟩
instance aiS:sR Tryz.prog 41 3 25:=⟨_,_,_,Tryz.underlying41,rfl,sW,AQ,rfl⟩
instance aiT:sR Tryz.prog 70 0 0:=⟨_,_,_,Tryz.underlying70,rfl,tX,LC,rfl⟩
instance aiU:sR Tryz.prog 70 1 12:=⟨_,_,_,Tryz.underlying70,rfl,tX,LC,rfl⟩
instance aiV:sR Tryz.prog 70 2 24:=⟨_,_,_,Tryz.underlying70,rfl,sW,AQ,rfl⟩
instance af7:sR Tryz.prog 157 0 0:=⟨_,_,_,Tryz.underlying157,rfl,NH,VH,rfl⟩
instance af8:sR Tryz.prog 157 1 1:=⟨_,_,_,Tryz.underlying157,rfl,LB,ne3,rfl⟩
instance af9:sR Tryz.prog 157 2 2:=⟨_,_,_,Tryz.underlying157,rfl,Ia,VO,rfl⟩
instance aga:sR Tryz.prog 193 0 0:=⟨_,_,_,Tryz.underlying193,rfl,NH,VH,rfl⟩
instance agb:sR Tryz.prog 193 1 1:=⟨_,_,_,Tryz.underlying193,rfl,LB,ne3,rfl⟩
instance agc:sR Tryz.prog 193 2 2:=⟨_,_,_,Tryz.underlying193,rfl,Ia,VO,rfl⟩
instance agd:sR Tryz.prog 286 0 0:=⟨_,_,_,Tryz.underlying286,rfl,AP,VG,rfl⟩
instance age:sR Tryz.prog 286 1 1:=⟨_,_,_,Tryz.underlying286,rfl,AP,VG,rfl⟩
instance agf:sR Tryz.prog 286 2 2:=⟨_,_,_,Tryz.underlying286,rfl,sW,AQ,rfl⟩
instance agh:Ki Tryz.prog 3 64 .u64:=⟨by rw [Tryz.underlying3]; rfl,Tryz.underlying64⟩
instance aiW:Ki Tryz.prog 5 2 .i64:=⟨by rw [Tryz.underlying5]; rfl,Tryz.underlying2⟩
instance agi:Ki Tryz.prog 5 64 .u64:=⟨by rw [Tryz.underlying5]; rfl,Tryz.underlying64⟩
instance agj:Ki Tryz.prog 64 2 .i64:=⟨by rw [Tryz.underlying64]; rfl,Tryz.underlying2⟩
instance aoN:By Tryz.prog 27 [.int .i64 ((0:Int)),.slice none 0 0,.slice none 0 0,.slice none 0 0,.slice none 0 0] [(0,1),(1,1),(2,1),(3,1),(4,1)]:=⟨_,_,_,Tryz.underlying27,by kernel_rfl,zS,VL,rfl⟩
instance aoO:By Tryz.prog 29 [.int .i64 ((0:Int)),.slice none 0 0,.slice none 0 0,.slice none 0 0,.slice none 0 0,.int .i64 ((0:Int)),.slice none 0 0,.slice none 0 0,.slice none 0 0,.slice none 0 0,.slice none 0 0,.slice none 0 0] [(0,5),(5,5),(10,1),(11,1)]:=⟨_,_,_,Tryz.underlying29,by kernel_rfl,tX,LD,rfl⟩
instance aoP:By Tryz.prog 41 [.int .i64 ((0:Int)),.slice none 0 0,.slice none 0 0,.slice none 0 0,.slice none 0 0,.int .i64 ((0:Int)),.slice none 0 0,.slice none 0 0,.slice none 0 0,.slice none 0 0,.slice none 0 0,.slice none 0 0,.int .i64 ((0:Int)),.slice none 0 0,.slice none 0 0,.slice none 0 0,.slice none 0 0,.int .i64 ((0:Int)),.slice none 0 0,.slice none 0 0,.slice none 0 0,.slice none 0 0,.slice none 0 0,.slice none 0 0,.slice none 0 0,.slice none 0 0] [(0,12),(12,12),(24,1),(25,1)]:=⟨_,_,_,Tryz.underlying41,by kernel_rfl,Ek,VM,rfl⟩
instance aoQ:By Tryz.prog 70 [.int .i64 ((0:Int)),.slice none 0 0,.slice none 0 0,.slice none 0 0,.slice none 0 0,.int .i64 ((0:Int)),.slice none 0 0,.slice none 0 0,.slice none 0 0,.slice none 0 0,.slice none 0 0,.slice none 0 0,.int .i64 ((0:Int)),.slice none 0 0,.slice none 0 0,.slice none 0 0,.slice none 0 0,.int .i64 ((0:Int)),.slice none 0 0,.slice none 0 0,.slice none 0 0,.slice none 0 0,.slice none 0 0,.slice none 0 0,.slice none 0 0] [(0,12),(12,12),(24,1)]:=⟨_,_,_,Tryz.underlying70,by kernel_rfl,Ib,VR,rfl⟩
instance amp:By Tryz.prog 132 [.int .i64 ((0:Int)),.int .i64 ((0:Int))] [(0,1),(1,1)]:=⟨_,_,_,Tryz.underlying132,by kernel_rfl,CI,Sf,rfl⟩
instance amq:By Tryz.prog 157 [.slice none 0 0,.int .i64 ((0:Int)),.int .u64 ((0:Int))] [(0,1),(1,1),(2,1)]:=⟨_,_,_,Tryz.underlying157,by kernel_rfl,TO,Y2,rfl⟩
instance amr:By Tryz.prog 193 [.slice none 0 0,.int .i64 ((0:Int)),.int .u64 ((0:Int))] [(0,1),(1,1),(2,1)]:=⟨_,_,_,Tryz.underlying193,by kernel_rfl,TP,Y4,rfl⟩
instance ams:By Tryz.prog 286 [.int .i64 ((0:Int)),.int .i64 ((0:Int)),.slice none 0 0] [(0,1),(1,1),(2,1)]:=⟨_,_,_,Tryz.underlying286,by kernel_rfl,wm,G8,rfl⟩
instance amt:UO Tryz.prog 132 .i64 .i64:=⟨_,_,Tryz.underlying132,by decide,by decide,Tryz.underlying2,Tryz.underlying2,rfl,rfl,by kernel_rfl,by kernel_rfl⟩
instance aoR:bu Tryz.prog 10:=⟨_,_,Tryz.func10,rfl,by kernel_rfl⟩
instance aoS:bu Tryz.prog 14:=⟨_,_,Tryz.func14,rfl,by kernel_rfl⟩
instance aoT:bu Tryz.prog 24:=⟨_,_,Tryz.func24,rfl,by kernel_rfl⟩
instance aoU:bu Tryz.prog 26:=⟨_,_,Tryz.func26,rfl,by kernel_rfl⟩
instance aoV:bu Tryz.prog 27:=⟨_,_,Tryz.func27,rfl,by kernel_rfl⟩
instance aoW:bu Tryz.prog 41:=⟨_,_,Tryz.func41,rfl,by kernel_rfl⟩
instance aoX:bu Tryz.prog 42:=⟨_,_,Tryz.func42,rfl,by kernel_rfl⟩
instance aoY:bu Tryz.prog 43:=⟨_,_,Tryz.func43,rfl,by kernel_rfl⟩
instance aoZ:bu Tryz.prog 44:=⟨_,_,Tryz.func44,rfl,by kernel_rfl⟩
instance ao0:bu Tryz.prog 45:=⟨_,_,Tryz.func45,rfl,by kernel_rfl⟩
instance ao1:bu Tryz.prog 46:=⟨_,_,Tryz.func46,rfl,by kernel_rfl⟩
instance ao2:bu Tryz.prog 47:=⟨_,_,Tryz.func47,rfl,by kernel_rfl⟩
instance ao3:bu Tryz.prog 72:=⟨_,_,Tryz.func72,rfl,by kernel_rfl⟩
instance ao4:bu Tryz.prog 73:=⟨_,_,Tryz.func73,rfl,by kernel_rfl⟩
instance ao5:bu Tryz.prog 74:=⟨_,_,Tryz.func74,rfl,by kernel_rfl⟩
instance ao6:bu Tryz.prog 75:=⟨_,_,Tryz.func75,rfl,by kernel_rfl⟩
instance ao7:bu Tryz.prog 76:=⟨_,_,Tryz.func76,rfl,by kernel_rfl⟩
instance ao8:bu Tryz.prog 77:=⟨_,_,Tryz.func77,rfl,by kernel_rfl⟩
instance ao9:bu Tryz.prog 78:=⟨_,_,Tryz.func78,rfl,by kernel_rfl⟩
instance apa:bu Tryz.prog 80:=⟨_,_,Tryz.func80,rfl,by kernel_rfl⟩
instance apc:bu Tryz.prog 81:=⟨_,_,Tryz.func81,rfl,by kernel_rfl⟩
instance apd:bu Tryz.prog 82:=⟨_,_,Tryz.func82,rfl,by kernel_rfl⟩
instance ape:bu Tryz.prog 84:=⟨_,_,Tryz.func84,rfl,by kernel_rfl⟩
instance apf:bu Tryz.prog 85:=⟨_,_,Tryz.func85,rfl,by kernel_rfl⟩
instance apg:bu Tryz.prog 86:=⟨_,_,Tryz.func86,rfl,by kernel_rfl⟩
instance aph:bu Tryz.prog 87:=⟨_,_,Tryz.func87,rfl,by kernel_rfl⟩
instance apj:bu Tryz.prog 89:=⟨_,_,Tryz.func89,rfl,by kernel_rfl⟩
instance apk:bu Tryz.prog 93:=⟨_,_,Tryz.func93,rfl,by kernel_rfl⟩
instance apl:bu Tryz.prog 94:=⟨_,_,Tryz.func94,rfl,by kernel_rfl⟩
instance apq:bu Tryz.prog 95:=⟨_,_,Tryz.func95,rfl,by kernel_rfl⟩
instance apr:bu Tryz.prog 96:=⟨_,_,Tryz.func96,rfl,by kernel_rfl⟩
instance apt:bu Tryz.prog 97:=⟨_,_,Tryz.func97,rfl,by kernel_rfl⟩
instance apu:bu Tryz.prog 99:=⟨_,_,Tryz.func99,rfl,by kernel_rfl⟩
instance amu:bu Tryz.prog 100:=⟨_,_,Tryz.func100,rfl,by kernel_rfl⟩
instance amv:bu Tryz.prog 103:=⟨_,_,Tryz.func103,rfl,by kernel_rfl⟩
instance amw:bu Tryz.prog 104:=⟨_,_,Tryz.func104,rfl,by kernel_rfl⟩
instance amx:bu Tryz.prog 105:=⟨_,_,Tryz.func105,rfl,by kernel_rfl⟩
instance amy:bu Tryz.prog 106:=⟨_,_,Tryz.func106,rfl,by kernel_rfl⟩
instance amz:bu Tryz.prog 107:=⟨_,_,Tryz.func107,rfl,by kernel_rfl⟩
instance amA:bu Tryz.prog 108:=⟨_,_,Tryz.func108,rfl,by kernel_rfl⟩
instance amB:bu Tryz.prog 109:=⟨_,_,Tryz.func109,rfl,by kernel_rfl⟩
instance amC:bu Tryz.prog 110:=⟨_,_,Tryz.func110,rfl,by kernel_rfl⟩
instance amD:bu Tryz.prog 111:=⟨_,_,Tryz.func111,rfl,by kernel_rfl⟩
instance amE:bu Tryz.prog 112:=⟨_,_,Tryz.func112,rfl,by kernel_rfl⟩
instance amF:bu Tryz.prog 113:=⟨_,_,Tryz.func113,rfl,by kernel_rfl⟩
instance amG:bu Tryz.prog 114:=⟨_,_,Tryz.func114,rfl,by kernel_rfl⟩
instance amH:bu Tryz.prog 119:=⟨_,_,Tryz.func119,rfl,by kernel_rfl⟩
instance amI:bu Tryz.prog 120:=⟨_,_,Tryz.func120,rfl,by kernel_rfl⟩
instance amJ:bu Tryz.prog 121:=⟨_,_,Tryz.func121,rfl,by kernel_rfl⟩
instance amK:bu Tryz.prog 128:=⟨_,_,Tryz.func128,rfl,by kernel_rfl⟩
instance amL:bu Tryz.prog 133:=⟨_,_,Tryz.func133,rfl,by kernel_rfl⟩
instance amM:bu Tryz.prog 136:=⟨_,_,Tryz.func136,rfl,by kernel_rfl⟩
instance amN:bu Tryz.prog 137:=⟨_,_,Tryz.func137,rfl,by kernel_rfl⟩
instance amO:bu Tryz.prog 138:=⟨_,_,Tryz.func138,rfl,by kernel_rfl⟩
instance amP:bu Tryz.prog 139:=⟨_,_,Tryz.func139,rfl,by kernel_rfl⟩
instance amQ:bu Tryz.prog 140:=⟨_,_,Tryz.func140,rfl,by kernel_rfl⟩
instance amR:bu Tryz.prog 141:=⟨_,_,Tryz.func141,rfl,by kernel_rfl⟩
instance amS:bu Tryz.prog 147:=⟨_,_,Tryz.func147,rfl,by kernel_rfl⟩
instance amT:bu Tryz.prog 148:=⟨_,_,Tryz.func148,rfl,by kernel_rfl⟩
instance amU:bu Tryz.prog 159:=⟨_,_,Tryz.func159,rfl,by kernel_rfl⟩
instance amV:bu Tryz.prog 172:=⟨_,_,Tryz.func172,rfl,by kernel_rfl⟩
instance amW:bu Tryz.prog 173:=⟨_,_,Tryz.func173,rfl,by kernel_rfl⟩
instance amX:bu Tryz.prog 174:=⟨_,_,Tryz.func174,rfl,by kernel_rfl⟩
instance amY:bu Tryz.prog 175:=⟨_,_,Tryz.func175,rfl,by kernel_rfl⟩
instance amZ:bu Tryz.prog 176:=⟨_,_,Tryz.func176,rfl,by kernel_rfl⟩
instance am0:bu Tryz.prog 179:=⟨_,_,Tryz.func179,rfl,by kernel_rfl⟩
instance am1:bu Tryz.prog 180:=⟨_,_,Tryz.func180,rfl,by kernel_rfl⟩
instance am2:bu Tryz.prog 181:=⟨_,_,Tryz.func181,rfl,by kernel_rfl⟩
instance am3:bu Tryz.prog 182:=⟨_,_,Tryz.func182,rfl,by kernel_rfl⟩
instance am4:bu Tryz.prog 183:=⟨_,_,Tryz.func183,rfl,by kernel_rfl⟩
instance am5:bu Tryz.prog 184:=⟨_,_,Tryz.func184,rfl,by kernel_rfl⟩
instance am6:bu Tryz.prog 185:=⟨_,_,Tryz.func185,rfl,by kernel_rfl⟩
instance am7:bu Tryz.prog 186:=⟨_,_,Tryz.func186,rfl,by kernel_rfl⟩
instance am8:bu Tryz.prog 187:=⟨_,_,Tryz.func187,rfl,by kernel_rfl⟩
instance am9:bu Tryz.prog 188:=⟨_,_,Tryz.func188,rfl,by kernel_rfl⟩
instance ana:bu Tryz.prog 189:=⟨_,_,Tryz.func189,rfl,by kernel_rfl⟩
instance anb:bu Tryz.prog 191:=⟨_,_,Tryz.func191,rfl,by kernel_rfl⟩
instance anc:bu Tryz.prog 195:=⟨_,_,Tryz.func195,rfl,by kernel_rfl⟩
instance ane:bu Tryz.prog 196:=⟨_,_,Tryz.func196,rfl,by kernel_rfl⟩
instance anf:bu Tryz.prog 197:=⟨_,_,Tryz.func197,rfl,by kernel_rfl⟩
instance ang:bu Tryz.prog 198:=⟨_,_,Tryz.func198,rfl,by kernel_rfl⟩
instance anh:bu Tryz.prog 199:=⟨_,_,Tryz.func199,rfl,by kernel_rfl⟩
instance ani:bu Tryz.prog 200:=⟨_,_,Tryz.func200,rfl,by kernel_rfl⟩
instance anj:bu Tryz.prog 201:=⟨_,_,Tryz.func201,rfl,by kernel_rfl⟩
instance ank:bu Tryz.prog 202:=⟨_,_,Tryz.func202,rfl,by kernel_rfl⟩
instance anl:bu Tryz.prog 207:=⟨_,_,Tryz.func207,rfl,by kernel_rfl⟩
instance anm:bu Tryz.prog 208:=⟨_,_,Tryz.func208,rfl,by kernel_rfl⟩
instance ann:bu Tryz.prog 215:=⟨_,_,Tryz.func215,rfl,by kernel_rfl⟩
instance ano:bu Tryz.prog 216:=⟨_,_,Tryz.func216,rfl,by kernel_rfl⟩
instance anp:bu Tryz.prog 217:=⟨_,_,Tryz.func217,rfl,by kernel_rfl⟩
instance anq:bu Tryz.prog 218:=⟨_,_,Tryz.func218,rfl,by kernel_rfl⟩
instance anr:bu Tryz.prog 219:=⟨_,_,Tryz.func219,rfl,by kernel_rfl⟩
instance ans:bu Tryz.prog 220:=⟨_,_,Tryz.func220,rfl,by kernel_rfl⟩
instance ant:bu Tryz.prog 221:=⟨_,_,Tryz.func221,rfl,by kernel_rfl⟩
instance anu:bu Tryz.prog 222:=⟨_,_,Tryz.func222,rfl,by kernel_rfl⟩
instance anv:bu Tryz.prog 223:=⟨_,_,Tryz.func223,rfl,by kernel_rfl⟩
instance anw:bu Tryz.prog 233:=⟨_,_,Tryz.func233,rfl,by kernel_rfl⟩
instance anx:bu Tryz.prog 234:=⟨_,_,Tryz.func234,rfl,by kernel_rfl⟩
instance anz:bu Tryz.prog 235:=⟨_,_,Tryz.func235,rfl,by kernel_rfl⟩
instance anA:bu Tryz.prog 248:=⟨_,_,Tryz.func248,rfl,by kernel_rfl⟩
instance anB:bu Tryz.prog 250:=⟨_,_,Tryz.func250,rfl,by kernel_rfl⟩
instance anC:bu Tryz.prog 266:=⟨_,_,Tryz.func266,rfl,by kernel_rfl⟩
instance anD:bu Tryz.prog 267:=⟨_,_,Tryz.func267,rfl,by kernel_rfl⟩
instance anE:bu Tryz.prog 268:=⟨_,_,Tryz.func268,rfl,by kernel_rfl⟩
instance anF:bu Tryz.prog 269:=⟨_,_,Tryz.func269,rfl,by kernel_rfl⟩
instance anG:bu Tryz.prog 270:=⟨_,_,Tryz.func270,rfl,by kernel_rfl⟩
instance anH:bu Tryz.prog 271:=⟨_,_,Tryz.func271,rfl,by kernel_rfl⟩
instance anI:bu Tryz.prog 272:=⟨_,_,Tryz.func272,rfl,by kernel_rfl⟩
instance anJ:bu Tryz.prog 273:=⟨_,_,Tryz.func273,rfl,by kernel_rfl⟩
instance anK:bu Tryz.prog 274:=⟨_,_,Tryz.func274,rfl,by kernel_rfl⟩
instance anL:bu Tryz.prog 275:=⟨_,_,Tryz.func275,rfl,by kernel_rfl⟩
instance anM:bu Tryz.prog 276:=⟨_,_,Tryz.func276,rfl,by kernel_rfl⟩
instance anN:bu Tryz.prog 277:=⟨_,_,Tryz.func277,rfl,by kernel_rfl⟩
instance anO:bu Tryz.prog 284:=⟨_,_,Tryz.func284,rfl,by kernel_rfl⟩
instance anP:bu Tryz.prog 285:=⟨_,_,Tryz.func285,rfl,by kernel_rfl⟩
instance anQ:bu Tryz.prog 286:=⟨_,_,Tryz.func286,rfl,by kernel_rfl⟩
instance anR:bu Tryz.prog 287:=⟨_,_,Tryz.func287,rfl,by kernel_rfl⟩
instance anS:bu Tryz.prog 291:=⟨_,_,Tryz.func291,rfl,by kernel_rfl⟩
instance anT:bu Tryz.prog 303:=⟨_,_,Tryz.func303,rfl,by kernel_rfl⟩
instance anU:bu Tryz.prog 304:=⟨_,_,Tryz.func304,rfl,by kernel_rfl⟩
instance anV:bu Tryz.prog 307:=⟨_,_,Tryz.func307,rfl,by kernel_rfl⟩
instance anW:bu Tryz.prog 308:=⟨_,_,Tryz.func308,rfl,by kernel_rfl⟩
end Go.Proofs.YtjdkifckhidlbaaGreat
