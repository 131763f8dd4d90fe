/- Closed facts on types, as instances. No condition. -/
import Derived.Test.YtjdkifckhidlbaaGreatDp
import Derived.Test.YtjdkifckhidlbaaGreatLn
import Derived.Test.YtjdkifckhidlbaaGreatChecked
import Derived.KernelRfl
namespace Go.Proofs.YtjdkifckhidlbaaGreat
open Go Go.Li Go.Dk
set_option linter.unusedVariables false
set_option maxRecDepth 100000
noncomputable def i2:TypeInfo:=(Tryz.prog.info? 2).getD default
theorem yu:Tryz.prog.info? 2=some i2:=by kernel_rfl
theorem JW:i2.size=1:=by kernel_rfl
theorem Rb:i2.size≠0:=by rw [JW]; decide
theorem Wn:i2.zero=some (.int .i64 0):=by kernel_rfl
theorem by2:i2.bytes=8:=by kernel_rfl
noncomputable def i3:TypeInfo:=(Tryz.prog.info? 3).getD default
theorem Oj:Tryz.prog.info? 3=some i3:=by kernel_rfl
theorem Wo:i3.size=1:=by kernel_rfl
theorem ne3:i3.size≠0:=by rw [Wo]; decide
theorem zr3:i3.zero=some (.int .i64 0):=by kernel_rfl
theorem by3:i3.bytes=8:=by kernel_rfl
noncomputable def i5:TypeInfo:=(Tryz.prog.info? 5).getD default
theorem UQ:Tryz.prog.info? 5=some i5:=by kernel_rfl
theorem Wp:i5.size=1:=by kernel_rfl
theorem ne5:i5.size≠0:=by rw [Wp]; decide
theorem zr5:i5.zero=some (.int .u8 0):=by kernel_rfl
theorem by5:i5.bytes=1:=by kernel_rfl
noncomputable def i22:TypeInfo:=(Tryz.prog.info? 22).getD default
theorem Rc:Tryz.prog.info? 22=some i22:=by kernel_rfl
theorem XC:i22.size=1:=by kernel_rfl
theorem XD:i22.size≠0:=by rw [XC]; decide
theorem ajo:i22.zero=some (.slice none 0 0):=by kernel_rfl
theorem ajp:i22.bytes=24:=by kernel_rfl
noncomputable def i24:TypeInfo:=(Tryz.prog.info? 24).getD default
theorem qn:Tryz.prog.info? 24=some i24:=by kernel_rfl
theorem Fc:i24.size=1:=by kernel_rfl
theorem yw:i24.size≠0:=by rw [Fc]; decide
theorem Re:i24.zero=some (.slice none 0 0):=by kernel_rfl
theorem XE:i24.bytes=24:=by kernel_rfl
noncomputable def i25:TypeInfo:=(Tryz.prog.info? 25).getD default
theorem JX:Tryz.prog.info? 25=some i25:=by kernel_rfl
theorem Rf:i25.size=1:=by kernel_rfl
theorem XF:i25.size≠0:=by rw [Rf]; decide
theorem ajq:i25.zero=some (.slice none 0 0):=by kernel_rfl
theorem ajr:i25.bytes=24:=by kernel_rfl
noncomputable def i27:TypeInfo:=(Tryz.prog.info? 27).getD default
theorem xC:Tryz.prog.info? 27=some i27:=by kernel_rfl
theorem L6:i27.size=5:=by kernel_rfl
theorem Rh:i27.size≠0:=by rw [L6]; decide
theorem Ri:i27.zero=some (.agg #[.int .i64 ((0:Int)),.slice none 0 0,.slice none 0 0,.slice none 0 0,.slice none 0 0]):=by kernel_rfl
noncomputable def i29:TypeInfo:=(Tryz.prog.info? 29).getD default
theorem rZ:Tryz.prog.info? 29=some i29:=by kernel_rfl
theorem CG:i29.size=12:=by kernel_rfl
theorem Ir:i29.size≠0:=by rw [CG]; decide
theorem Is:i29.zero=some (.agg #[.int .i64 ((0:Int)),.slice none 0 0,.slice none 0 0,.slice none 0 0,.slice none 0 0,.int .i64 ((0:Int)),.slice none 0 0,.slice none 0 0,.slice none 0 0,.slice none 0 0,.slice none 0 0,.slice none 0 0]):=by kernel_rfl
noncomputable def i41:TypeInfo:=(Tryz.prog.info? 41).getD default
theorem BS:Tryz.prog.info? 41=some i41:=by kernel_rfl
theorem L7:i41.size=26:=by kernel_rfl
theorem ajs:i41.size≠0:=by rw [L7]; decide
theorem Rj:i41.zero=some (.agg #[.int .i64 ((0:Int)),.slice none 0 0,.slice none 0 0,.slice none 0 0,.slice none 0 0,.int .i64 ((0:Int)),.slice none 0 0,.slice none 0 0,.slice none 0 0,.slice none 0 0,.slice none 0 0,.slice none 0 0,.int .i64 ((0:Int)),.slice none 0 0,.slice none 0 0,.slice none 0 0,.slice none 0 0,.int .i64 ((0:Int)),.slice none 0 0,.slice none 0 0,.slice none 0 0,.slice none 0 0,.slice none 0 0,.slice none 0 0,.slice none 0 0,.slice none 0 0]):=by kernel_rfl
noncomputable def i64:TypeInfo:=(Tryz.prog.info? 64).getD default
theorem JY:Tryz.prog.info? 64=some i64:=by kernel_rfl
theorem Rk:i64.size=1:=by kernel_rfl
theorem XG:i64.size≠0:=by rw [Rk]; decide
theorem ajt:i64.zero=some (.int .u64 0):=by kernel_rfl
theorem aju:i64.bytes=8:=by kernel_rfl
noncomputable def i70:TypeInfo:=(Tryz.prog.info? 70).getD default
theorem Fe:Tryz.prog.info? 70=some i70:=by kernel_rfl
theorem Rm:i70.size=25:=by kernel_rfl
theorem ajv:i70.size≠0:=by rw [Rm]; decide
theorem Ro:i70.zero=some (.agg #[.int .i64 ((0:Int)),.slice none 0 0,.slice none 0 0,.slice none 0 0,.slice none 0 0,.int .i64 ((0:Int)),.slice none 0 0,.slice none 0 0,.slice none 0 0,.slice none 0 0,.slice none 0 0,.slice none 0 0,.int .i64 ((0:Int)),.slice none 0 0,.slice none 0 0,.slice none 0 0,.slice none 0 0,.int .i64 ((0:Int)),.slice none 0 0,.slice none 0 0,.slice none 0 0,.slice none 0 0,.slice none 0 0,.slice none 0 0,.slice none 0 0]):=by kernel_rfl
noncomputable def i104:TypeInfo:=(Tryz.prog.info? 104).getD default
theorem Hy:Tryz.prog.info? 104=some i104:=by kernel_rfl
theorem It:i104.size=1:=by kernel_rfl
theorem ahe:i104.size≠0:=by rw [It]; decide
theorem UR:i104.zero=some (.pointer none):=by kernel_rfl
theorem ahf:i104.bytes=8:=by kernel_rfl
noncomputable def i106:TypeInfo:=(Tryz.prog.info? 106).getD default
theorem Hz:Tryz.prog.info? 106=some i106:=by kernel_rfl
theorem Iu:i106.size=1:=by kernel_rfl
theorem ahg:i106.size≠0:=by rw [Iu]; decide
theorem US:i106.zero=some (.pointer none):=by kernel_rfl
theorem ahh:i106.bytes=8:=by kernel_rfl
noncomputable def i132:TypeInfo:=(Tryz.prog.info? 132).getD default
theorem Ai:Tryz.prog.info? 132=some i132:=by kernel_rfl
theorem Iv:i132.size=2:=by kernel_rfl
theorem ahi:i132.size≠0:=by rw [Iv]; decide
theorem Ol:i132.zero=some (.agg #[.int .i64 ((0:Int)),.int .i64 ((0:Int))]):=by kernel_rfl
noncomputable def i193:TypeInfo:=(Tryz.prog.info? 193).getD default
theorem Ps:Tryz.prog.info? 193=some i193:=by kernel_rfl
theorem UT:i193.size=3:=by kernel_rfl
theorem ahj:i193.size≠0:=by rw [UT]; decide
theorem UU:i193.zero=some (.agg #[.slice none 0 0,.int .i64 ((0:Int)),.int .u64 ((0:Int))]):=by kernel_rfl
noncomputable def i235:TypeInfo:=(Tryz.prog.info? 235).getD default
theorem HA:Tryz.prog.info? 235=some i235:=by kernel_rfl
theorem Iw:i235.size=1:=by kernel_rfl
theorem ahk:i235.size≠0:=by rw [Iw]; decide
theorem UW:i235.zero=some (.pointer none):=by kernel_rfl
theorem ahl:i235.bytes=8:=by kernel_rfl
noncomputable def i286:TypeInfo:=(Tryz.prog.info? 286).getD default
theorem uk:Tryz.prog.info? 286=some i286:=by kernel_rfl
theorem Aj:i286.size=3:=by kernel_rfl
theorem ahm:i286.size≠0:=by rw [Aj]; decide
theorem D5:i286.zero=some (.agg #[.int .i64 ((0:Int)),.int .i64 ((0:Int)),.slice none 0 0]):=by kernel_rfl
instance lk2:LK Tryz.prog 2 none:=⟨_,Tryz.underlying2,rfl⟩
instance lk3:LK Tryz.prog 3 none:=⟨_,Tryz.underlying3,rfl⟩
instance lk5:LK Tryz.prog 5 none:=⟨_,Tryz.underlying5,rfl⟩
instance ajw:LK Tryz.prog 22 none:=⟨_,Tryz.underlying22,rfl⟩
instance ajx:LK Tryz.prog 24 none:=⟨_,Tryz.underlying24,rfl⟩
instance ajy:LK Tryz.prog 25 none:=⟨_,Tryz.underlying25,rfl⟩
instance ajz:LK Tryz.prog 27 (some 5):=⟨_,_,Tryz.underlying27,rfl,xC,L6⟩
instance ajA:LK Tryz.prog 29 (some 12):=⟨_,_,Tryz.underlying29,rfl,rZ,CG⟩
instance ajB:LK Tryz.prog 41 (some 26):=⟨_,_,Tryz.underlying41,rfl,BS,L7⟩
instance ajC:LK Tryz.prog 64 none:=⟨_,Tryz.underlying64,rfl⟩
instance ahn:LK Tryz.prog 104 none:=⟨_,Tryz.underlying104,rfl⟩
instance aho:LK Tryz.prog 106 none:=⟨_,Tryz.underlying106,rfl⟩
instance ahp:LK Tryz.prog 132 (some 2):=⟨_,_,Tryz.underlying132,rfl,Ai,Iv⟩
instance ahq:LK Tryz.prog 235 none:=⟨_,Tryz.underlying235,rfl⟩
instance ahr:LK Tryz.prog 286 (some 3):=⟨_,_,Tryz.underlying286,rfl,uk,Aj⟩
instance ajD:xy Tryz.prog 22:=⟨_,_,Tryz.underlying22,UQ,Wp⟩
instance ajE:xy Tryz.prog 24:=⟨_,_,Tryz.underlying24,yu,JW⟩
instance ajF:Jw Tryz.prog 24 2:=⟨Tryz.underlying24,_,_,yu,Wn,JW⟩
instance ajG:tk Tryz.prog 24 Int 2 (aN .i64) 0 8:=⟨Tryz.underlying24,rfl,_,_,yu,Wn,JW,rfl,by2,fun _=>⟨rfl,rfl⟩⟩
instance ajH:xy Tryz.prog 25:=⟨_,_,Tryz.underlying25,qn,Fc⟩
instance ajI:Jw Tryz.prog 25 24:=⟨Tryz.underlying25,_,_,qn,Re,Fc⟩
instance ajJ:tk Tryz.prog 25 (List Int) 24 (aL 2 (aN .i64)) [] 24:=⟨Tryz.underlying25,rfl,_,_,qn,Re,Fc,rfl,XE,fun _=>Cz⟩
instance ajK:Hj Tryz.prog 81 12:=⟨_,_,Tryz.underlying81,rZ,CG⟩
instance ajL:N9 Tryz.prog 81 29 12:=⟨Tryz.underlying81,_,_,rZ,Is,CG,by decide⟩
theorem XH:i29.bytes=256:=by kernel_rfl
instance ajM:zk Tryz.prog 81 29 12 256:=⟨Tryz.underlying81,_,_,rZ,Is,rfl,CG,XH,by decide⟩
instance ahs:xy Tryz.prog 197:=⟨_,_,Tryz.underlying197,Hy,It⟩
instance aht:El Tryz.prog 197 104:=⟨Tryz.underlying197,_,_,Hy,UR,It⟩
instance ahu:xy Tryz.prog 264:=⟨_,_,Tryz.underlying264,Hz,Iu⟩
instance ahv:El Tryz.prog 264 106:=⟨Tryz.underlying264,_,_,Hz,US,Iu⟩
instance ahw:Hj Tryz.prog 283 3:=⟨_,_,Tryz.underlying283,uk,Aj⟩
instance ahx:N9 Tryz.prog 283 286 3:=⟨Tryz.underlying283,_,_,uk,D5,Aj,by decide⟩
theorem UX:i286.bytes=40:=by kernel_rfl
instance ahy:zk Tryz.prog 283 286 3 40:=⟨Tryz.underlying283,_,_,uk,D5,rfl,Aj,UX,by decide⟩
instance ahz:xy Tryz.prog 287:=⟨_,_,Tryz.underlying287,HA,Iw⟩
instance ahA:El Tryz.prog 287 235:=⟨Tryz.underlying287,_,_,HA,UW,Iw⟩
instance so2:vm Tryz.prog 2 1:=⟨_,yu,JW⟩
instance so3:vm Tryz.prog 3 1:=⟨_,Oj,Wo⟩
instance ajN:vm Tryz.prog 24 1:=⟨_,qn,Fc⟩
instance ajO:vm Tryz.prog 25 1:=⟨_,JX,Rf⟩
instance ajP:vm Tryz.prog 27 5:=⟨_,xC,L6⟩
instance ajQ:vm Tryz.prog 29 12:=⟨_,rZ,CG⟩
instance ajR:vm Tryz.prog 41 26:=⟨_,BS,L7⟩
instance ajS:vm Tryz.prog 64 1:=⟨_,JY,Rk⟩
instance ajT:vm Tryz.prog 70 25:=⟨_,Fe,Rm⟩
instance ahB:vm Tryz.prog 132 2:=⟨_,Ai,Iv⟩
instance ahC:vm Tryz.prog 286 3:=⟨_,uk,Aj⟩
instance ajU:AH Tryz.prog 27 [.int .i64 ((0:Int)),.slice none 0 0,.slice none 0 0,.slice none 0 0,.slice none 0 0]:=⟨_,_,xC,Ri,rfl⟩
instance ajV:AH Tryz.prog 29 [.int .i64 ((0:Int)),.slice none 0 0,.slice none 0 0,.slice none 0 0,.slice none 0 0,.int .i64 ((0:Int)),.slice none 0 0,.slice none 0 0,.slice none 0 0,.slice none 0 0,.slice none 0 0,.slice none 0 0]:=⟨_,_,rZ,Is,rfl⟩
instance ajW:AH Tryz.prog 41 [.int .i64 ((0:Int)),.slice none 0 0,.slice none 0 0,.slice none 0 0,.slice none 0 0,.int .i64 ((0:Int)),.slice none 0 0,.slice none 0 0,.slice none 0 0,.slice none 0 0,.slice none 0 0,.slice none 0 0,.int .i64 ((0:Int)),.slice none 0 0,.slice none 0 0,.slice none 0 0,.slice none 0 0,.int .i64 ((0:Int)),.slice none 0 0,.slice none 0 0,.slice none 0 0,.slice none 0 0,.slice none 0 0,.slice none 0 0,.slice none 0 0,.slice none 0 0]:=⟨_,_,BS,Rj,rfl⟩
instance ajX:AH Tryz.prog 70 [.int .i64 ((0:Int)),.slice none 0 0,.slice none 0 0,.slice none 0 0,.slice none 0 0,.int .i64 ((0:Int)),.slice none 0 0,.slice none 0 0,.slice none 0 0,.slice none 0 0,.slice none 0 0,.slice none 0 0,.int .i64 ((0:Int)),.slice none 0 0,.slice none 0 0,.slice none 0 0,.slice none 0 0,.int .i64 ((0:Int)),.slice none 0 0,.slice none 0 0,.slice none 0 0,.slice none 0 0,.slice none 0 0,.slice none 0 0,.slice none 0 0]:=⟨_,_,Fe,Ro,rfl⟩
instance ahD:AH Tryz.prog 132 [.int .i64 ((0:Int)),.int .i64 ((0:Int))]:=⟨_,_,Ai,Ol,rfl⟩
instance ahE:AH Tryz.prog 286 [.int .i64 ((0:Int)),.int .i64 ((0:Int)),.slice none 0 0]:=⟨_,_,uk,D5,rfl⟩
instance adS:rO Tryz.prog 27 0 0:=⟨_,_,_,Tryz.underlying27,rfl,yu,Rb,rfl⟩
instance adT:rO Tryz.prog 27 1 1:=⟨_,_,_,Tryz.underlying27,rfl,qn,yw,rfl⟩
instance adU:rO Tryz.prog 27 2 2:=⟨_,_,_,Tryz.underlying27,rfl,qn,yw,rfl⟩
instance adV:rO Tryz.prog 27 3 3:=⟨_,_,_,Tryz.underlying27,rfl,qn,yw,rfl⟩
instance adW:rO Tryz.prog 27 4 4:=⟨_,_,_,Tryz.underlying27,rfl,JX,XF,rfl⟩
instance adX:rO Tryz.prog 29 0 0:=⟨_,_,_,Tryz.underlying29,rfl,xC,Rh,rfl⟩
instance adY:rO Tryz.prog 29 1 5:=⟨_,_,_,Tryz.underlying29,rfl,xC,Rh,rfl⟩
instance adZ:rO Tryz.prog 29 2 10:=⟨_,_,_,Tryz.underlying29,rfl,qn,yw,rfl⟩
instance ad0:rO Tryz.prog 29 3 11:=⟨_,_,_,Tryz.underlying29,rfl,qn,yw,rfl⟩
instance ad1:rO Tryz.prog 41 0 0:=⟨_,_,_,Tryz.underlying41,rfl,rZ,Ir,rfl⟩
instance ad2:rO Tryz.prog 41 1 12:=⟨_,_,_,Tryz.underlying41,rfl,rZ,Ir,rfl⟩
instance ad3:rO Tryz.prog 41 2 24:=⟨_,_,_,Tryz.underlying41,rfl,qn,yw,rfl⟩
instance ad4:rO Tryz.prog 41 3 25:=⟨_,_,_,Tryz.underlying41,rfl,qn,yw,rfl⟩
instance ad5:rO Tryz.prog 70 0 0:=⟨_,_,_,Tryz.underlying70,rfl,rZ,Ir,rfl⟩
instance ad6:rO Tryz.prog 70 1 12:=⟨_,_,_,Tryz.underlying70,rfl,rZ,Ir,rfl⟩
instance ad7:rO Tryz.prog 70 2 24:=⟨_,_,_,Tryz.underlying70,rfl,qn,yw,rfl⟩
instance abX:rO Tryz.prog 193 0 0:=⟨_,_,_,Tryz.underlying193,rfl,Rc,XD,rfl⟩
instance abY:rO Tryz.prog 193 1 1:=⟨_,_,_,Tryz.underlying193,rfl,Oj,ne3,rfl⟩
instance abZ:rO Tryz.prog 193 2 2:=⟨_,_,_,Tryz.underlying193,rfl,JY,XG,rfl⟩
instance ab0:rO Tryz.prog 286 0 0:=⟨_,_,_,Tryz.underlying286,rfl,yu,Rb,rfl⟩
instance ab1:rO Tryz.prog 286 1 1:=⟨_,_,_,Tryz.underlying286,rfl,yu,Rb,rfl⟩
instance ab2:rO Tryz.prog 286 2 2:=⟨_,_,_,Tryz.underlying286,rfl,qn,yw,rfl⟩
instance ab3:Hm Tryz.prog 3 64 .u64:=⟨by rw [Tryz.underlying3]; rfl,Tryz.underlying64⟩
instance ad8:Hm Tryz.prog 5 2 .i64:=⟨by rw [Tryz.underlying5]; rfl,Tryz.underlying2⟩
instance ab4:Hm Tryz.prog 5 64 .u64:=⟨by rw [Tryz.underlying5]; rfl,Tryz.underlying64⟩
instance ab5:Hm Tryz.prog 64 2 .i64:=⟨by rw [Tryz.underlying64]; rfl,Tryz.underlying2⟩
instance ajY:zj Tryz.prog 27 [.int .i64 ((0:Int)),.slice none 0 0,.slice none 0 0,.slice none 0 0,.slice none 0 0] [(0,1),(1,1),(2,1),(3,1),(4,1)]:=⟨_,_,_,Tryz.underlying27,by kernel_rfl,xC,Ri,rfl⟩
instance ajZ:zj Tryz.prog 29 [.int .i64 ((0:Int)),.slice none 0 0,.slice none 0 0,.slice none 0 0,.slice none 0 0,.int .i64 ((0:Int)),.slice none 0 0,.slice none 0 0,.slice none 0 0,.slice none 0 0,.slice none 0 0,.slice none 0 0] [(0,5),(5,5),(10,1),(11,1)]:=⟨_,_,_,Tryz.underlying29,by kernel_rfl,rZ,Is,rfl⟩
instance aj0:zj Tryz.prog 41 [.int .i64 ((0:Int)),.slice none 0 0,.slice none 0 0,.slice none 0 0,.slice none 0 0,.int .i64 ((0:Int)),.slice none 0 0,.slice none 0 0,.slice none 0 0,.slice none 0 0,.slice none 0 0,.slice none 0 0,.int .i64 ((0:Int)),.slice none 0 0,.slice none 0 0,.slice none 0 0,.slice none 0 0,.int .i64 ((0:Int)),.slice none 0 0,.slice none 0 0,.slice none 0 0,.slice none 0 0,.slice none 0 0,.slice none 0 0,.slice none 0 0,.slice none 0 0] [(0,12),(12,12),(24,1),(25,1)]:=⟨_,_,_,Tryz.underlying41,by kernel_rfl,BS,Rj,rfl⟩
instance aj1:zj Tryz.prog 70 [.int .i64 ((0:Int)),.slice none 0 0,.slice none 0 0,.slice none 0 0,.slice none 0 0,.int .i64 ((0:Int)),.slice none 0 0,.slice none 0 0,.slice none 0 0,.slice none 0 0,.slice none 0 0,.slice none 0 0,.int .i64 ((0:Int)),.slice none 0 0,.slice none 0 0,.slice none 0 0,.slice none 0 0,.int .i64 ((0:Int)),.slice none 0 0,.slice none 0 0,.slice none 0 0,.slice none 0 0,.slice none 0 0,.slice none 0 0,.slice none 0 0] [(0,12),(12,12),(24,1)]:=⟨_,_,_,Tryz.underlying70,by kernel_rfl,Fe,Ro,rfl⟩
instance ahF:zj Tryz.prog 132 [.int .i64 ((0:Int)),.int .i64 ((0:Int))] [(0,1),(1,1)]:=⟨_,_,_,Tryz.underlying132,by kernel_rfl,Ai,Ol,rfl⟩
instance ahG:zj Tryz.prog 193 [.slice none 0 0,.int .i64 ((0:Int)),.int .u64 ((0:Int))] [(0,1),(1,1),(2,1)]:=⟨_,_,_,Tryz.underlying193,by kernel_rfl,Ps,UU,rfl⟩
instance ahH:zj Tryz.prog 286 [.int .i64 ((0:Int)),.int .i64 ((0:Int)),.slice none 0 0] [(0,1),(1,1),(2,1)]:=⟨_,_,_,Tryz.underlying286,by kernel_rfl,uk,D5,rfl⟩
instance ahI:Qn Tryz.prog 132 .i64 .i64:=⟨_,_,Tryz.underlying132,by decide,by decide,Tryz.underlying2,Tryz.underlying2,rfl,rfl,by kernel_rfl,by kernel_rfl⟩
instance aj2:bu Tryz.prog 10:=⟨_,_,Tryz.func10,rfl,by kernel_rfl⟩
instance aj3:bu Tryz.prog 25:=⟨_,_,Tryz.func25,rfl,by kernel_rfl⟩
instance aj4:bu Tryz.prog 26:=⟨_,_,Tryz.func26,rfl,by kernel_rfl⟩
instance aj5:bu Tryz.prog 27:=⟨_,_,Tryz.func27,rfl,by kernel_rfl⟩
instance aj6:bu Tryz.prog 28:=⟨_,_,Tryz.func28,rfl,by kernel_rfl⟩
instance aj7:bu Tryz.prog 29:=⟨_,_,Tryz.func29,rfl,by kernel_rfl⟩
instance aj8:bu Tryz.prog 72:=⟨_,_,Tryz.func72,rfl,by kernel_rfl⟩
instance aj9:bu Tryz.prog 73:=⟨_,_,Tryz.func73,rfl,by kernel_rfl⟩
instance aka:bu Tryz.prog 74:=⟨_,_,Tryz.func74,rfl,by kernel_rfl⟩
instance akb:bu Tryz.prog 75:=⟨_,_,Tryz.func75,rfl,by kernel_rfl⟩
instance akc:bu Tryz.prog 76:=⟨_,_,Tryz.func76,rfl,by kernel_rfl⟩
instance akd:bu Tryz.prog 77:=⟨_,_,Tryz.func77,rfl,by kernel_rfl⟩
instance ake:bu Tryz.prog 78:=⟨_,_,Tryz.func78,rfl,by kernel_rfl⟩
instance akf:bu Tryz.prog 80:=⟨_,_,Tryz.func80,rfl,by kernel_rfl⟩
instance akg:bu Tryz.prog 81:=⟨_,_,Tryz.func81,rfl,by kernel_rfl⟩
instance akh:bu Tryz.prog 82:=⟨_,_,Tryz.func82,rfl,by kernel_rfl⟩
instance aki:bu Tryz.prog 84:=⟨_,_,Tryz.func84,rfl,by kernel_rfl⟩
instance akj:bu Tryz.prog 85:=⟨_,_,Tryz.func85,rfl,by kernel_rfl⟩
instance akk:bu Tryz.prog 86:=⟨_,_,Tryz.func86,rfl,by kernel_rfl⟩
instance akm:bu Tryz.prog 87:=⟨_,_,Tryz.func87,rfl,by kernel_rfl⟩
instance akn:bu Tryz.prog 93:=⟨_,_,Tryz.func93,rfl,by kernel_rfl⟩
instance ako:bu Tryz.prog 94:=⟨_,_,Tryz.func94,rfl,by kernel_rfl⟩
instance akp:bu Tryz.prog 95:=⟨_,_,Tryz.func95,rfl,by kernel_rfl⟩
instance akq:bu Tryz.prog 96:=⟨_,_,Tryz.func96,rfl,by kernel_rfl⟩
instance akr:bu Tryz.prog 97:=⟨_,_,Tryz.func97,rfl,by kernel_rfl⟩
instance akt:bu Tryz.prog 99:=⟨_,_,Tryz.func99,rfl,by kernel_rfl⟩
instance ahJ:bu Tryz.prog 100:=⟨_,_,Tryz.func100,rfl,by kernel_rfl⟩
instance ahK:bu Tryz.prog 103:=⟨_,_,Tryz.func103,rfl,by kernel_rfl⟩
instance ahL:bu Tryz.prog 104:=⟨_,_,Tryz.func104,rfl,by kernel_rfl⟩
instance ahM:bu Tryz.prog 105:=⟨_,_,Tryz.func105,rfl,by kernel_rfl⟩
instance ahN:bu Tryz.prog 106:=⟨_,_,Tryz.func106,rfl,by kernel_rfl⟩
instance ahO:bu Tryz.prog 107:=⟨_,_,Tryz.func107,rfl,by kernel_rfl⟩
instance ahP:bu Tryz.prog 108:=⟨_,_,Tryz.func108,rfl,by kernel_rfl⟩
instance ahQ:bu Tryz.prog 109:=⟨_,_,Tryz.func109,rfl,by kernel_rfl⟩
instance ahR:bu Tryz.prog 110:=⟨_,_,Tryz.func110,rfl,by kernel_rfl⟩
instance ahS:bu Tryz.prog 111:=⟨_,_,Tryz.func111,rfl,by kernel_rfl⟩
instance ahT:bu Tryz.prog 112:=⟨_,_,Tryz.func112,rfl,by kernel_rfl⟩
instance ahU:bu Tryz.prog 113:=⟨_,_,Tryz.func113,rfl,by kernel_rfl⟩
instance ahV:bu Tryz.prog 114:=⟨_,_,Tryz.func114,rfl,by kernel_rfl⟩
instance ahW:bu Tryz.prog 115:=⟨_,_,Tryz.func115,rfl,by kernel_rfl⟩
instance ahX:bu Tryz.prog 116:=⟨_,_,Tryz.func116,rfl,by kernel_rfl⟩
instance ahY:bu Tryz.prog 119:=⟨_,_,Tryz.func119,rfl,by kernel_rfl⟩
instance ahZ:bu Tryz.prog 120:=⟨_,_,Tryz.func120,rfl,by kernel_rfl⟩
instance ah0:bu Tryz.prog 121:=⟨_,_,Tryz.func121,rfl,by kernel_rfl⟩
instance ah1:bu Tryz.prog 128:=⟨_,_,Tryz.func128,rfl,by kernel_rfl⟩
instance ah2:bu Tryz.prog 133:=⟨_,_,Tryz.func133,rfl,by kernel_rfl⟩
instance ah3:bu Tryz.prog 136:=⟨_,_,Tryz.func136,rfl,by kernel_rfl⟩
instance ah4:bu Tryz.prog 137:=⟨_,_,Tryz.func137,rfl,by kernel_rfl⟩
instance ah5:bu Tryz.prog 138:=⟨_,_,Tryz.func138,rfl,by kernel_rfl⟩
instance ah6:bu Tryz.prog 140:=⟨_,_,Tryz.func140,rfl,by kernel_rfl⟩
instance ah7:bu Tryz.prog 141:=⟨_,_,Tryz.func141,rfl,by kernel_rfl⟩
instance ah8:bu Tryz.prog 147:=⟨_,_,Tryz.func147,rfl,by kernel_rfl⟩
instance ah9:bu Tryz.prog 148:=⟨_,_,Tryz.func148,rfl,by kernel_rfl⟩
instance aia:bu Tryz.prog 159:=⟨_,_,Tryz.func159,rfl,by kernel_rfl⟩
instance aib:bu Tryz.prog 172:=⟨_,_,Tryz.func172,rfl,by kernel_rfl⟩
instance aic:bu Tryz.prog 173:=⟨_,_,Tryz.func173,rfl,by kernel_rfl⟩
instance aid:bu Tryz.prog 174:=⟨_,_,Tryz.func174,rfl,by kernel_rfl⟩
instance aie:bu Tryz.prog 175:=⟨_,_,Tryz.func175,rfl,by kernel_rfl⟩
instance aif:bu Tryz.prog 176:=⟨_,_,Tryz.func176,rfl,by kernel_rfl⟩
instance aih:bu Tryz.prog 179:=⟨_,_,Tryz.func179,rfl,by kernel_rfl⟩
instance aii:bu Tryz.prog 180:=⟨_,_,Tryz.func180,rfl,by kernel_rfl⟩
instance aij:bu Tryz.prog 181:=⟨_,_,Tryz.func181,rfl,by kernel_rfl⟩
instance aik:bu Tryz.prog 182:=⟨_,_,Tryz.func182,rfl,by kernel_rfl⟩
instance ail:bu Tryz.prog 184:=⟨_,_,Tryz.func184,rfl,by kernel_rfl⟩
instance aim:bu Tryz.prog 185:=⟨_,_,Tryz.func185,rfl,by kernel_rfl⟩
instance ain:bu Tryz.prog 186:=⟨_,_,Tryz.func186,rfl,by kernel_rfl⟩
instance aio:bu Tryz.prog 187:=⟨_,_,Tryz.func187,rfl,by kernel_rfl⟩
instance aip:bu Tryz.prog 188:=⟨_,_,Tryz.func188,rfl,by kernel_rfl⟩
instance aiq:bu Tryz.prog 189:=⟨_,_,Tryz.func189,rfl,by kernel_rfl⟩
instance air:bu Tryz.prog 191:=⟨_,_,Tryz.func191,rfl,by kernel_rfl⟩
instance ais:bu Tryz.prog 195:=⟨_,_,Tryz.func195,rfl,by kernel_rfl⟩
instance ait:bu Tryz.prog 196:=⟨_,_,Tryz.func196,rfl,by kernel_rfl⟩
instance aiu:bu Tryz.prog 197:=⟨_,_,Tryz.func197,rfl,by kernel_rfl⟩
instance aiv:bu Tryz.prog 198:=⟨_,_,Tryz.func198,rfl,by kernel_rfl⟩
instance aiw:bu Tryz.prog 199:=⟨_,_,Tryz.func199,rfl,by kernel_rfl⟩
instance aix:bu Tryz.prog 200:=⟨_,_,Tryz.func200,rfl,by kernel_rfl⟩
instance aiy:bu Tryz.prog 201:=⟨_,_,Tryz.func201,rfl,by kernel_rfl⟩
instance aiz:bu Tryz.prog 202:=⟨_,_,Tryz.func202,rfl,by kernel_rfl⟩
instance aiA:bu Tryz.prog 207:=⟨_,_,Tryz.func207,rfl,by kernel_rfl⟩
instance aiB:bu Tryz.prog 208:=⟨_,_,Tryz.func208,rfl,by kernel_rfl⟩
instance aiC:bu Tryz.prog 215:=⟨_,_,Tryz.func215,rfl,by kernel_rfl⟩
instance aiD:bu Tryz.prog 216:=⟨_,_,Tryz.func216,rfl,by kernel_rfl⟩
instance aiE:bu Tryz.prog 217:=⟨_,_,Tryz.func217,rfl,by kernel_rfl⟩
instance aiF:bu Tryz.prog 218:=⟨_,_,Tryz.func218,rfl,by kernel_rfl⟩
instance aiG:bu Tryz.prog 219:=⟨_,_,Tryz.func219,rfl,by kernel_rfl⟩
instance aiH:bu Tryz.prog 220:=⟨_,_,Tryz.func220,rfl,by kernel_rfl⟩
instance aiI:bu Tryz.prog 222:=⟨_,_,Tryz.func222,rfl,by kernel_rfl⟩
instance aiJ:bu Tryz.prog 223:=⟨_,_,Tryz.func223,rfl,by kernel_rfl⟩
instance aiK:bu Tryz.prog 233:=⟨_,_,Tryz.func233,rfl,by kernel_rfl⟩
instance aiL:bu Tryz.prog 234:=⟨_,_,Tryz.func234,rfl,by kernel_rfl⟩
instance aiM:bu Tryz.prog 235:=⟨_,_,Tryz.func235,rfl,by kernel_rfl⟩
instance aiN:bu Tryz.prog 248:=⟨_,_,Tryz.func248,rfl,by kernel_rfl⟩
instance aiO:bu Tryz.prog 250:=⟨_,_,Tryz.func250,rfl,by kernel_rfl⟩
instance aiP:bu Tryz.prog 266:=⟨_,_,Tryz.func266,rfl,by kernel_rfl⟩
instance aiQ:bu Tryz.prog 267:=⟨_,_,Tryz.func267,rfl,by kernel_rfl⟩
instance aiR:bu Tryz.prog 268:=⟨_,_,Tryz.func268,rfl,by kernel_rfl⟩
instance aiS:bu Tryz.prog 269:=⟨_,_,Tryz.func269,rfl,by kernel_rfl⟩
instance aiT:bu Tryz.prog 270:=⟨_,_,Tryz.func270,rfl,by kernel_rfl⟩
instance aiU:bu Tryz.prog 271:=⟨_,_,Tryz.func271,rfl,by kernel_rfl⟩
instance aiV:bu Tryz.prog 272:=⟨_,_,Tryz.func272,rfl,by kernel_rfl⟩
instance aiW:bu Tryz.prog 273:=⟨_,_,Tryz.func273,rfl,by kernel_rfl⟩
instance aiX:bu Tryz.prog 274:=⟨_,_,Tryz.func274,rfl,by kernel_rfl⟩
instance aiY:bu Tryz.prog 275:=⟨_,_,Tryz.func275,rfl,by kernel_rfl⟩
instance aiZ:bu Tryz.prog 276:=⟨_,_,Tryz.func276,rfl,by kernel_rfl⟩
instance ai0:bu Tryz.prog 277:=⟨_,_,Tryz.func277,rfl,by kernel_rfl⟩
instance ai1:bu Tryz.prog 284:=⟨_,_,Tryz.func284,rfl,by kernel_rfl⟩
instance ai2:bu Tryz.prog 285:=⟨_,_,Tryz.func285,rfl,by kernel_rfl⟩
instance ai3:bu Tryz.prog 286:=⟨_,_,Tryz.func286,rfl,by kernel_rfl⟩
instance ai4:bu Tryz.prog 287:=⟨_,_,Tryz.func287,rfl,by kernel_rfl⟩
instance ai5:bu Tryz.prog 291:=⟨_,_,Tryz.func291,rfl,by kernel_rfl⟩
instance ai6:bu Tryz.prog 303:=⟨_,_,Tryz.func303,rfl,by kernel_rfl⟩
instance ai7:bu Tryz.prog 304:=⟨_,_,Tryz.func304,rfl,by kernel_rfl⟩
instance ai8:bu Tryz.prog 307:=⟨_,_,Tryz.func307,rfl,by kernel_rfl⟩
instance ai9:bu Tryz.prog 308:=⟨_,_,Tryz.func308,rfl,by kernel_rfl⟩
end Go.Proofs.YtjdkifckhidlbaaGreat
