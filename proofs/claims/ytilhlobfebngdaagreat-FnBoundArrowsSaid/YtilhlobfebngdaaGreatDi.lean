/- Closed facts on types, as instances. No condition. -/
import Derived.Test.YtilhlobfebngdaaGreatDp
import Derived.Test.YtilhlobfebngdaaGreatLn
import Derived.Test.YtilhlobfebngdaaGreatChecked
import Derived.KernelRfl
namespace Go.Proofs.YtilhlobfebngdaaGreat
open Go Go.Li Go.Dk
set_option linter.unusedVariables false
set_option maxRecDepth 100000
noncomputable def i2:TypeInfo:=(Tryz.prog.info? 2).getD default
theorem AR:Tryz.prog.info? 2=some i2:=by kernel_rfl
theorem PT:i2.size=1:=by kernel_rfl
theorem Ym:i2.size≠0:=by rw [PT]; decide
theorem Yn:i2.zero=some (.int .i64 0):=by kernel_rfl
theorem by2:i2.bytes=8:=by kernel_rfl
noncomputable def i3:TypeInfo:=(Tryz.prog.info? 3).getD default
theorem Oa:Tryz.prog.info? 3=some i3:=by kernel_rfl
theorem sz3:i3.size=1:=by kernel_rfl
theorem ne3:i3.size≠0:=by rw [sz3]; decide
theorem zr3:i3.zero=some (.int .i64 0):=by kernel_rfl
theorem by3:i3.bytes=8:=by kernel_rfl
noncomputable def i4:TypeInfo:=(Tryz.prog.info? 4).getD default
theorem ab5:Tryz.prog.info? 4=some i4:=by kernel_rfl
theorem sz4:i4.size=1:=by kernel_rfl
theorem ne4:i4.size≠0:=by rw [sz4]; decide
theorem zr4:i4.zero=some (.bool false):=by kernel_rfl
theorem by4:i4.bytes=1:=by kernel_rfl
noncomputable def i5:TypeInfo:=(Tryz.prog.info? 5).getD default
theorem Ob:Tryz.prog.info? 5=some i5:=by kernel_rfl
theorem U2:i5.size=1:=by kernel_rfl
theorem ne5:i5.size≠0:=by rw [U2]; decide
theorem zr5:i5.zero=some (.int .u8 0):=by kernel_rfl
theorem by5:i5.bytes=1:=by kernel_rfl
noncomputable def i22:TypeInfo:=(Tryz.prog.info? 22).getD default
theorem Yo:Tryz.prog.info? 22=some i22:=by kernel_rfl
theorem aeW:i22.size=1:=by kernel_rfl
theorem aeX:i22.size≠0:=by rw [aeW]; decide
theorem arp:i22.zero=some (.slice none 0 0):=by kernel_rfl
theorem arq:i22.bytes=24:=by kernel_rfl
noncomputable def i24:TypeInfo:=(Tryz.prog.info? 24).getD default
theorem po:Tryz.prog.info? 24=some i24:=by kernel_rfl
theorem Kf:i24.size=1:=by kernel_rfl
theorem zM:i24.size≠0:=by rw [Kf]; decide
theorem Yp:i24.zero=some (.slice none 0 0):=by kernel_rfl
theorem aeY:i24.bytes=24:=by kernel_rfl
noncomputable def i25:TypeInfo:=(Tryz.prog.info? 25).getD default
theorem Gf:Tryz.prog.info? 25=some i25:=by kernel_rfl
theorem Yq:i25.size=1:=by kernel_rfl
theorem Yr:i25.size≠0:=by rw [Yq]; decide
theorem aeZ:i25.zero=some (.slice none 0 0):=by kernel_rfl
theorem art:i25.bytes=24:=by kernel_rfl
noncomputable def i27:TypeInfo:=(Tryz.prog.info? 27).getD default
theorem BK:Tryz.prog.info? 27=some i27:=by kernel_rfl
theorem Sn:i27.size=5:=by kernel_rfl
theorem Ys:i27.size≠0:=by rw [Sn]; decide
theorem Yt:i27.zero=some (.agg #[.int .i64 ((0:Int)),.slice none 0 0,.slice none 0 0,.slice none 0 0,.slice none 0 0]):=by kernel_rfl
noncomputable def i29:TypeInfo:=(Tryz.prog.info? 29).getD default
theorem qn:Tryz.prog.info? 29=some i29:=by kernel_rfl
theorem Hy:i29.size=12:=by kernel_rfl
theorem Fu:i29.size≠0:=by rw [Hy]; decide
theorem Oc:i29.zero=some (.agg #[.int .i64 ((0:Int)),.slice none 0 0,.slice none 0 0,.slice none 0 0,.slice none 0 0,.int .i64 ((0:Int)),.slice none 0 0,.slice none 0 0,.slice none 0 0,.slice none 0 0,.slice none 0 0,.slice none 0 0]):=by kernel_rfl
noncomputable def i31:TypeInfo:=(Tryz.prog.info? 31).getD default
theorem zN:Tryz.prog.info? 31=some i31:=by kernel_rfl
theorem Hz:i31.size=14:=by kernel_rfl
theorem aru:i31.size≠0:=by rw [Hz]; decide
theorem Od:i31.zero=some (.agg #[.int .i64 ((0:Int)),.slice none 0 0,.slice none 0 0,.slice none 0 0,.slice none 0 0,.int .i64 ((0:Int)),.slice none 0 0,.slice none 0 0,.slice none 0 0,.slice none 0 0,.slice none 0 0,.slice none 0 0,.slice none 0 0,.slice none 0 0]):=by kernel_rfl
noncomputable def i59:TypeInfo:=(Tryz.prog.info? 59).getD default
theorem DC:Tryz.prog.info? 59=some i59:=by kernel_rfl
theorem Oe:i59.size=1:=by kernel_rfl
theorem ae0:i59.size≠0:=by rw [Oe]; decide
theorem Yu:i59.zero=some (.pointer none):=by kernel_rfl
theorem arv:i59.bytes=8:=by kernel_rfl
noncomputable def i63:TypeInfo:=(Tryz.prog.info? 63).getD default
theorem Gg:Tryz.prog.info? 63=some i63:=by kernel_rfl
theorem Sp:i63.size=2:=by kernel_rfl
theorem arw:i63.size≠0:=by rw [Sp]; decide
theorem Yv:i63.zero=some (.agg #[.int .i64 ((0:Int)),.int .i64 ((0:Int))]):=by kernel_rfl
noncomputable def i65:TypeInfo:=(Tryz.prog.info? 65).getD default
theorem alP:Tryz.prog.info? 65=some i65:=by kernel_rfl
theorem ae1:i65.size=1:=by kernel_rfl
theorem arx:i65.size≠0:=by rw [ae1]; decide
theorem ary:i65.zero=some (.pointer none):=by kernel_rfl
theorem arz:i65.bytes=8:=by kernel_rfl
noncomputable def i66:TypeInfo:=(Tryz.prog.info? 66).getD default
theorem Yw:Tryz.prog.info? 66=some i66:=by kernel_rfl
theorem ae2:i66.size=1:=by kernel_rfl
theorem ae3:i66.size≠0:=by rw [ae2]; decide
theorem arA:i66.zero=some (.nilFunc):=by kernel_rfl
theorem arB:i66.bytes=8:=by kernel_rfl
noncomputable def i68:TypeInfo:=(Tryz.prog.info? 68).getD default
theorem Gh:Tryz.prog.info? 68=some i68:=by kernel_rfl
theorem Sr:i68.size=3:=by kernel_rfl
theorem arC:i68.size≠0:=by rw [Sr]; decide
theorem Yx:i68.zero=some (.agg #[.pointer none,.pointer none,.nilFunc]):=by kernel_rfl
noncomputable def i89:TypeInfo:=(Tryz.prog.info? 89).getD default
theorem PU:Tryz.prog.info? 89=some i89:=by kernel_rfl
theorem Yy:i89.size=1:=by kernel_rfl
theorem ae4:i89.size≠0:=by rw [Yy]; decide
theorem arD:i89.zero=some (.int .u64 0):=by kernel_rfl
theorem arE:i89.bytes=8:=by kernel_rfl
noncomputable def i91:TypeInfo:=(Tryz.prog.info? 91).getD default
theorem Yz:Tryz.prog.info? 91=some i91:=by kernel_rfl
theorem ae5:i91.size=3:=by kernel_rfl
theorem arF:i91.size≠0:=by rw [ae5]; decide
theorem ae6:i91.zero=some (.agg #[.slice none 0 0,.int .i64 ((0:Int)),.int .u64 ((0:Int))]):=by kernel_rfl
noncomputable def i103:TypeInfo:=(Tryz.prog.info? 103).getD default
theorem MY:Tryz.prog.info? 103=some i103:=by kernel_rfl
theorem Of:i103.size=1:=by kernel_rfl
theorem ao9:i103.size≠0:=by rw [Of]; decide
theorem ab6:i103.zero=some (.pointer none):=by kernel_rfl
theorem apa:i103.bytes=8:=by kernel_rfl
noncomputable def i105:TypeInfo:=(Tryz.prog.info? 105).getD default
theorem HA:Tryz.prog.info? 105=some i105:=by kernel_rfl
theorem U3:i105.size=25:=by kernel_rfl
theorem apb:i105.size≠0:=by rw [U3]; decide
theorem U4:i105.zero=some (.agg #[.int .i64 ((0:Int)),.slice none 0 0,.slice none 0 0,.slice none 0 0,.slice none 0 0,.int .i64 ((0:Int)),.slice none 0 0,.slice none 0 0,.slice none 0 0,.slice none 0 0,.slice none 0 0,.slice none 0 0,.int .i64 ((0:Int)),.slice none 0 0,.slice none 0 0,.slice none 0 0,.slice none 0 0,.int .i64 ((0:Int)),.slice none 0 0,.slice none 0 0,.slice none 0 0,.slice none 0 0,.slice none 0 0,.slice none 0 0,.slice none 0 0]):=by kernel_rfl
noncomputable def i107:TypeInfo:=(Tryz.prog.info? 107).getD default
theorem MZ:Tryz.prog.info? 107=some i107:=by kernel_rfl
theorem Og:i107.size=1:=by kernel_rfl
theorem apc:i107.size≠0:=by rw [Og]; decide
theorem ab7:i107.zero=some (.pointer none):=by kernel_rfl
theorem apd:i107.bytes=8:=by kernel_rfl
noncomputable def i120:TypeInfo:=(Tryz.prog.info? 120).getD default
theorem Ew:Tryz.prog.info? 120=some i120:=by kernel_rfl
theorem Oh:i120.size=26:=by kernel_rfl
theorem ape:i120.size≠0:=by rw [Oh]; decide
theorem U5:i120.zero=some (.agg #[.int .i64 ((0:Int)),.slice none 0 0,.slice none 0 0,.slice none 0 0,.slice none 0 0,.int .i64 ((0:Int)),.slice none 0 0,.slice none 0 0,.slice none 0 0,.slice none 0 0,.slice none 0 0,.slice none 0 0,.int .i64 ((0:Int)),.slice none 0 0,.slice none 0 0,.slice none 0 0,.slice none 0 0,.int .i64 ((0:Int)),.slice none 0 0,.slice none 0 0,.slice none 0 0,.slice none 0 0,.slice none 0 0,.slice none 0 0,.slice none 0 0,.slice none 0 0]):=by kernel_rfl
noncomputable def i135:TypeInfo:=(Tryz.prog.info? 135).getD default
theorem M1:Tryz.prog.info? 135=some i135:=by kernel_rfl
theorem U6:i135.size=1:=by kernel_rfl
theorem apf:i135.size≠0:=by rw [U6]; decide
theorem ab8:i135.zero=some (.map none):=by kernel_rfl
theorem apg:i135.bytes=8:=by kernel_rfl
noncomputable def i179:TypeInfo:=(Tryz.prog.info? 179).getD default
theorem xK:Tryz.prog.info? 179=some i179:=by kernel_rfl
theorem Ey:i179.size=3:=by kernel_rfl
theorem aph:i179.size≠0:=by rw [Ey]; decide
theorem Ja:i179.zero=some (.agg #[.int .i64 ((0:Int)),.int .i64 ((0:Int)),.slice none 0 0]):=by kernel_rfl
noncomputable def i185:TypeInfo:=(Tryz.prog.info? 185).getD default
theorem Wz:Tryz.prog.info? 185=some i185:=by kernel_rfl
theorem ab9:i185.size=27:=by kernel_rfl
theorem apj:i185.size≠0:=by rw [ab9]; decide
theorem aca:i185.zero=some (.agg #[.int .i64 ((0:Int)),.slice none 0 0,.slice none 0 0,.slice none 0 0,.slice none 0 0,.int .i64 ((0:Int)),.slice none 0 0,.slice none 0 0,.slice none 0 0,.slice none 0 0,.slice none 0 0,.slice none 0 0,.int .i64 ((0:Int)),.slice none 0 0,.slice none 0 0,.slice none 0 0,.slice none 0 0,.int .i64 ((0:Int)),.slice none 0 0,.slice none 0 0,.slice none 0 0,.slice none 0 0,.slice none 0 0,.slice none 0 0,.bool (false),.int .i64 ((0:Int)),.slice none 0 0]):=by kernel_rfl
instance lk2:LK Tryz.prog 2 none:=⟨_,Tryz.underlying2,rfl⟩
instance lk3:LK Tryz.prog 3 none:=⟨_,Tryz.underlying3,rfl⟩
instance lk4:LK Tryz.prog 4 none:=⟨_,Tryz.underlying4,rfl⟩
instance lk5:LK Tryz.prog 5 none:=⟨_,Tryz.underlying5,rfl⟩
instance arG:LK Tryz.prog 22 none:=⟨_,Tryz.underlying22,rfl⟩
instance arH:LK Tryz.prog 24 none:=⟨_,Tryz.underlying24,rfl⟩
instance arI:LK Tryz.prog 25 none:=⟨_,Tryz.underlying25,rfl⟩
instance arJ:LK Tryz.prog 27 (some 5):=⟨_,_,Tryz.underlying27,rfl,BK,Sn⟩
instance arK:LK Tryz.prog 29 (some 12):=⟨_,_,Tryz.underlying29,rfl,qn,Hy⟩
instance arL:LK Tryz.prog 31 (some 14):=⟨_,_,Tryz.underlying31,rfl,zN,Hz⟩
instance arM:LK Tryz.prog 59 none:=⟨_,Tryz.underlying59,rfl⟩
instance arN:LK Tryz.prog 63 (some 2):=⟨_,_,Tryz.underlying63,rfl,Gg,Sp⟩
instance arO:LK Tryz.prog 65 none:=⟨_,Tryz.underlying65,rfl⟩
instance arP:LK Tryz.prog 66 none:=⟨_,Tryz.underlying66,rfl⟩
instance arQ:LK Tryz.prog 68 (some 3):=⟨_,_,Tryz.underlying68,rfl,Gh,Sr⟩
instance arR:LK Tryz.prog 89 none:=⟨_,Tryz.underlying89,rfl⟩
instance apk:LK Tryz.prog 103 none:=⟨_,Tryz.underlying103,rfl⟩
instance apl:LK Tryz.prog 107 none:=⟨_,Tryz.underlying107,rfl⟩
instance apn:LK Tryz.prog 120 (some 26):=⟨_,_,Tryz.underlying120,rfl,Ew,Oh⟩
instance apq:LK Tryz.prog 135 none:=⟨_,Tryz.underlying135,rfl⟩
instance apr:LK Tryz.prog 179 (some 3):=⟨_,_,Tryz.underlying179,rfl,xK,Ey⟩
instance arS:zA Tryz.prog 22:=⟨_,_,Tryz.underlying22,Ob,U2⟩
instance arT:MK Tryz.prog 22 5:=⟨Tryz.underlying22,_,_,Ob,zr5,U2⟩
instance arU:vi Tryz.prog 22 Int 5 (aL .u8) 0 1:=⟨Tryz.underlying22,rfl,_,_,Ob,zr5,U2,rfl,by5,fun _=>⟨rfl,rfl⟩⟩
instance arV:zA Tryz.prog 24:=⟨_,_,Tryz.underlying24,AR,PT⟩
instance arW:MK Tryz.prog 24 2:=⟨Tryz.underlying24,_,_,AR,Yn,PT⟩
instance arX:vi Tryz.prog 24 Int 2 (aL .i64) 0 8:=⟨Tryz.underlying24,rfl,_,_,AR,Yn,PT,rfl,by2,fun _=>⟨rfl,rfl⟩⟩
instance arY:zA Tryz.prog 25:=⟨_,_,Tryz.underlying25,po,Kf⟩
instance arZ:MK Tryz.prog 25 24:=⟨Tryz.underlying25,_,_,po,Yp,Kf⟩
instance ar0:vi Tryz.prog 25 (List Int) 24 (aI 2 (aL .i64)) [] 24:=⟨Tryz.underlying25,rfl,_,_,po,Yp,Kf,rfl,aeY,fun _=>Ho⟩
instance apt:Jq Tryz.prog 116 14:=⟨_,_,Tryz.underlying116,zN,Hz⟩
instance apu:Jr Tryz.prog 116 31 14:=⟨Tryz.underlying116,_,_,zN,Od,Hz,by decide⟩
theorem ae7:i31.bytes=304:=by kernel_rfl
instance apv:C3 Tryz.prog 116 31 14 304:=⟨Tryz.underlying116,_,_,zN,Od,rfl,Hz,ae7,by decide⟩
instance apw:zA Tryz.prog 133:=⟨_,_,Tryz.underlying133,MZ,Og⟩
instance apx:Jp Tryz.prog 133 107:=⟨Tryz.underlying133,_,_,MZ,ab7,Og⟩
instance apy:Jq Tryz.prog 146 12:=⟨_,_,Tryz.underlying146,qn,Hy⟩
instance apz:Jr Tryz.prog 146 29 12:=⟨Tryz.underlying146,_,_,qn,Oc,Hy,by decide⟩
theorem ae8:i29.bytes=256:=by kernel_rfl
instance apA:C3 Tryz.prog 146 29 12 256:=⟨Tryz.underlying146,_,_,qn,Oc,rfl,Hy,ae8,by decide⟩
instance apB:zA Tryz.prog 157:=⟨_,_,Tryz.underlying157,DC,Oe⟩
instance apC:Jp Tryz.prog 157 59:=⟨Tryz.underlying157,_,_,DC,Yu,Oe⟩
instance apD:Jq Tryz.prog 176 3:=⟨_,_,Tryz.underlying176,xK,Ey⟩
instance apE:Jr Tryz.prog 176 179 3:=⟨Tryz.underlying176,_,_,xK,Ja,Ey,by decide⟩
theorem acb:i179.bytes=40:=by kernel_rfl
instance apF:C3 Tryz.prog 176 179 3 40:=⟨Tryz.underlying176,_,_,xK,Ja,rfl,Ey,acb,by decide⟩
instance apG:zA Tryz.prog 188:=⟨_,_,Tryz.underlying188,MY,Of⟩
instance apI:Jp Tryz.prog 188 103:=⟨Tryz.underlying188,_,_,MY,ab6,Of⟩
instance so2:wk Tryz.prog 2 1:=⟨_,AR,PT⟩
instance so3:wk Tryz.prog 3 1:=⟨_,Oa,sz3⟩
instance ar1:wk Tryz.prog 24 1:=⟨_,po,Kf⟩
instance ar3:wk Tryz.prog 25 1:=⟨_,Gf,Yq⟩
instance ar4:wk Tryz.prog 27 5:=⟨_,BK,Sn⟩
instance ar5:wk Tryz.prog 29 12:=⟨_,qn,Hy⟩
instance ar6:wk Tryz.prog 31 14:=⟨_,zN,Hz⟩
instance ar7:wk Tryz.prog 59 1:=⟨_,DC,Oe⟩
instance ar8:wk Tryz.prog 63 2:=⟨_,Gg,Sp⟩
instance ar9:wk Tryz.prog 68 3:=⟨_,Gh,Sr⟩
instance asa:wk Tryz.prog 89 1:=⟨_,PU,Yy⟩
instance apJ:wk Tryz.prog 105 25:=⟨_,HA,U3⟩
instance apK:wk Tryz.prog 120 26:=⟨_,Ew,Oh⟩
instance apL:wk Tryz.prog 135 1:=⟨_,M1,U6⟩
instance apM:wk Tryz.prog 179 3:=⟨_,xK,Ey⟩
instance asb:zB Tryz.prog 25 [.slice none 0 0]:=⟨_,_,Gf,aeZ,rfl⟩
instance asc:zB Tryz.prog 27 [.int .i64 ((0:Int)),.slice none 0 0,.slice none 0 0,.slice none 0 0,.slice none 0 0]:=⟨_,_,BK,Yt,rfl⟩
instance asd:zB Tryz.prog 29 [.int .i64 ((0:Int)),.slice none 0 0,.slice none 0 0,.slice none 0 0,.slice none 0 0,.int .i64 ((0:Int)),.slice none 0 0,.slice none 0 0,.slice none 0 0,.slice none 0 0,.slice none 0 0,.slice none 0 0]:=⟨_,_,qn,Oc,rfl⟩
instance ase:zB Tryz.prog 31 [.int .i64 ((0:Int)),.slice none 0 0,.slice none 0 0,.slice none 0 0,.slice none 0 0,.int .i64 ((0:Int)),.slice none 0 0,.slice none 0 0,.slice none 0 0,.slice none 0 0,.slice none 0 0,.slice none 0 0,.slice none 0 0,.slice none 0 0]:=⟨_,_,zN,Od,rfl⟩
instance asf:zB Tryz.prog 59 [.pointer none]:=⟨_,_,DC,Yu,rfl⟩
instance asg:zB Tryz.prog 63 [.int .i64 ((0:Int)),.int .i64 ((0:Int))]:=⟨_,_,Gg,Yv,rfl⟩
instance ash:zB Tryz.prog 68 [.pointer none,.pointer none,.nilFunc]:=⟨_,_,Gh,Yx,rfl⟩
instance apN:zB Tryz.prog 105 [.int .i64 ((0:Int)),.slice none 0 0,.slice none 0 0,.slice none 0 0,.slice none 0 0,.int .i64 ((0:Int)),.slice none 0 0,.slice none 0 0,.slice none 0 0,.slice none 0 0,.slice none 0 0,.slice none 0 0,.int .i64 ((0:Int)),.slice none 0 0,.slice none 0 0,.slice none 0 0,.slice none 0 0,.int .i64 ((0:Int)),.slice none 0 0,.slice none 0 0,.slice none 0 0,.slice none 0 0,.slice none 0 0,.slice none 0 0,.slice none 0 0]:=⟨_,_,HA,U4,rfl⟩
instance apP:zB Tryz.prog 120 [.int .i64 ((0:Int)),.slice none 0 0,.slice none 0 0,.slice none 0 0,.slice none 0 0,.int .i64 ((0:Int)),.slice none 0 0,.slice none 0 0,.slice none 0 0,.slice none 0 0,.slice none 0 0,.slice none 0 0,.int .i64 ((0:Int)),.slice none 0 0,.slice none 0 0,.slice none 0 0,.slice none 0 0,.int .i64 ((0:Int)),.slice none 0 0,.slice none 0 0,.slice none 0 0,.slice none 0 0,.slice none 0 0,.slice none 0 0,.slice none 0 0,.slice none 0 0]:=⟨_,_,Ew,U5,rfl⟩
instance apQ:zB Tryz.prog 135 [.map none]:=⟨_,_,M1,ab8,rfl⟩
instance apT:zB Tryz.prog 179 [.int .i64 ((0:Int)),.int .i64 ((0:Int)),.slice none 0 0]:=⟨_,_,xK,Ja,rfl⟩
instance alQ:n8 Tryz.prog 27 0 0:=⟨_,_,_,Tryz.underlying27,rfl,AR,Ym,rfl⟩
instance alR:n8 Tryz.prog 27 1 1:=⟨_,_,_,Tryz.underlying27,rfl,po,zM,rfl⟩
instance alS:n8 Tryz.prog 27 2 2:=⟨_,_,_,Tryz.underlying27,rfl,po,zM,rfl⟩
instance alT:n8 Tryz.prog 27 3 3:=⟨_,_,_,Tryz.underlying27,rfl,po,zM,rfl⟩
instance alU:n8 Tryz.prog 27 4 4:=⟨_,_,_,Tryz.underlying27,rfl,Gf,Yr,rfl⟩
instance alV:n8 Tryz.prog 29 0 0:=⟨_,_,_,Tryz.underlying29,rfl,BK,Ys,rfl⟩
instance alW:n8 Tryz.prog 29 1 5:=⟨_,_,_,Tryz.underlying29,rfl,BK,Ys,rfl⟩
instance alX:n8 Tryz.prog 29 2 10:=⟨_,_,_,Tryz.underlying29,rfl,po,zM,rfl⟩
instance alY:n8 Tryz.prog 29 3 11:=⟨_,_,_,Tryz.underlying29,rfl,po,zM,rfl⟩
instance alZ:n8 Tryz.prog 31 0 0:=⟨_,_,_,Tryz.underlying31,rfl,qn,Fu,rfl⟩
instance al0:n8 Tryz.prog 31 1 12:=⟨_,_,_,Tryz.underlying31,rfl,po,zM,rfl⟩
instance al1:n8 Tryz.prog 31 2 13:=⟨_,_,_,Tryz.underlying31,rfl,po,zM,rfl⟩
instance al2:n8 Tryz.prog 68 1 1:=⟨_,_,_,Tryz.underlying68,rfl,DC,ae0,rfl⟩
instance al3:n8 Tryz.prog 68 2 2:=⟨_,_,_,Tryz.underlying68,rfl,Yw,ae3,rfl⟩
instance al4:n8 Tryz.prog 91 0 0:=⟨_,_,_,Tryz.underlying91,rfl,Yo,aeX,rfl⟩
instance al5:n8 Tryz.prog 91 1 1:=⟨_,_,_,Tryz.underlying91,rfl,Oa,ne3,rfl⟩
instance al6:n8 Tryz.prog 91 2 2:=⟨_,_,_,Tryz.underlying91,rfl,PU,ae4,rfl⟩
instance ajD:n8 Tryz.prog 105 0 0:=⟨_,_,_,Tryz.underlying105,rfl,qn,Fu,rfl⟩
instance ajE:n8 Tryz.prog 105 1 12:=⟨_,_,_,Tryz.underlying105,rfl,qn,Fu,rfl⟩
instance ajF:n8 Tryz.prog 105 2 24:=⟨_,_,_,Tryz.underlying105,rfl,po,zM,rfl⟩
instance ajG:n8 Tryz.prog 120 0 0:=⟨_,_,_,Tryz.underlying120,rfl,qn,Fu,rfl⟩
instance ajH:n8 Tryz.prog 120 1 12:=⟨_,_,_,Tryz.underlying120,rfl,qn,Fu,rfl⟩
instance ajI:n8 Tryz.prog 120 2 24:=⟨_,_,_,Tryz.underlying120,rfl,po,zM,rfl⟩
instance ajJ:n8 Tryz.prog 120 3 25:=⟨_,_,_,Tryz.underlying120,rfl,po,zM,rfl⟩
instance ajK:n8 Tryz.prog 179 0 0:=⟨_,_,_,Tryz.underlying179,rfl,AR,Ym,rfl⟩
instance ajL:n8 Tryz.prog 179 1 1:=⟨_,_,_,Tryz.underlying179,rfl,AR,Ym,rfl⟩
instance ajM:n8 Tryz.prog 179 2 2:=⟨_,_,_,Tryz.underlying179,rfl,po,zM,rfl⟩
instance ajN:n8 Tryz.prog 185 0 0:=⟨_,_,_,Tryz.underlying185,rfl,qn,Fu,rfl⟩
instance ajO:n8 Tryz.prog 185 1 12:=⟨_,_,_,Tryz.underlying185,rfl,qn,Fu,rfl⟩
instance ajP:n8 Tryz.prog 185 2 24:=⟨_,_,_,Tryz.underlying185,rfl,ab5,ne4,rfl⟩
instance ajQ:n8 Tryz.prog 185 3 25:=⟨_,_,_,Tryz.underlying185,rfl,Oa,ne3,rfl⟩
instance ajR:n8 Tryz.prog 185 4 26:=⟨_,_,_,Tryz.underlying185,rfl,Gf,Yr,rfl⟩
instance al7:FLc Tryz.prog 68 2 2:=⟨_,_,_,Tryz.underlying68,rfl,Tryz.underlying66,rfl,rfl⟩
instance apU:Pr Tryz.prog 135 ByteArray Int inferInstance Value.string (Value.int .i64):=⟨_,_,_,Tryz.underlying135,Tryz.underlying9,Ky.str⟩
instance al8:Js Tryz.prog 2 5 .u8:=⟨by rw [Tryz.underlying2]; rfl,Tryz.underlying5⟩
instance ajS:Js Tryz.prog 3 89 .u64:=⟨by rw [Tryz.underlying3]; rfl,Tryz.underlying89⟩
instance al9:Js Tryz.prog 5 2 .i64:=⟨by rw [Tryz.underlying5]; rfl,Tryz.underlying2⟩
instance ajT:Js Tryz.prog 5 89 .u64:=⟨by rw [Tryz.underlying5]; rfl,Tryz.underlying89⟩
instance ajU:Js Tryz.prog 89 2 .i64:=⟨by rw [Tryz.underlying89]; rfl,Tryz.underlying2⟩
instance apV:XA Tryz.prog 135 Int (Value.int .i64) 0:=⟨_,_,_,Tryz.underlying135,AR,Yn⟩
instance ajV:BSc Tryz.prog 22 9:=⟨_,Tryz.underlying22,Tryz.underlying5,Tryz.underlying9⟩
instance asi:AJ Tryz.prog 27 [.int .i64 ((0:Int)),.slice none 0 0,.slice none 0 0,.slice none 0 0,.slice none 0 0] [(0,1),(1,1),(2,1),(3,1),(4,1)]:=⟨_,_,_,Tryz.underlying27,by kernel_rfl,BK,Yt,rfl⟩
instance asj:AJ Tryz.prog 29 [.int .i64 ((0:Int)),.slice none 0 0,.slice none 0 0,.slice none 0 0,.slice none 0 0,.int .i64 ((0:Int)),.slice none 0 0,.slice none 0 0,.slice none 0 0,.slice none 0 0,.slice none 0 0,.slice none 0 0] [(0,5),(5,5),(10,1),(11,1)]:=⟨_,_,_,Tryz.underlying29,by kernel_rfl,qn,Oc,rfl⟩
instance asm:AJ Tryz.prog 31 [.int .i64 ((0:Int)),.slice none 0 0,.slice none 0 0,.slice none 0 0,.slice none 0 0,.int .i64 ((0:Int)),.slice none 0 0,.slice none 0 0,.slice none 0 0,.slice none 0 0,.slice none 0 0,.slice none 0 0,.slice none 0 0,.slice none 0 0] [(0,12),(12,1),(13,1)]:=⟨_,_,_,Tryz.underlying31,by kernel_rfl,zN,Od,rfl⟩
instance asn:AJ Tryz.prog 63 [.int .i64 ((0:Int)),.int .i64 ((0:Int))] [(0,1),(1,1)]:=⟨_,_,_,Tryz.underlying63,by kernel_rfl,Gg,Yv,rfl⟩
instance aso:AJ Tryz.prog 68 [.pointer none,.pointer none,.nilFunc] [(0,1),(1,1),(2,1)]:=⟨_,_,_,Tryz.underlying68,by kernel_rfl,Gh,Yx,rfl⟩
instance asp:AJ Tryz.prog 91 [.slice none 0 0,.int .i64 ((0:Int)),.int .u64 ((0:Int))] [(0,1),(1,1),(2,1)]:=⟨_,_,_,Tryz.underlying91,by kernel_rfl,Yz,ae6,rfl⟩
instance apW:AJ Tryz.prog 105 [.int .i64 ((0:Int)),.slice none 0 0,.slice none 0 0,.slice none 0 0,.slice none 0 0,.int .i64 ((0:Int)),.slice none 0 0,.slice none 0 0,.slice none 0 0,.slice none 0 0,.slice none 0 0,.slice none 0 0,.int .i64 ((0:Int)),.slice none 0 0,.slice none 0 0,.slice none 0 0,.slice none 0 0,.int .i64 ((0:Int)),.slice none 0 0,.slice none 0 0,.slice none 0 0,.slice none 0 0,.slice none 0 0,.slice none 0 0,.slice none 0 0] [(0,12),(12,12),(24,1)]:=⟨_,_,_,Tryz.underlying105,by kernel_rfl,HA,U4,rfl⟩
instance apX:AJ Tryz.prog 120 [.int .i64 ((0:Int)),.slice none 0 0,.slice none 0 0,.slice none 0 0,.slice none 0 0,.int .i64 ((0:Int)),.slice none 0 0,.slice none 0 0,.slice none 0 0,.slice none 0 0,.slice none 0 0,.slice none 0 0,.int .i64 ((0:Int)),.slice none 0 0,.slice none 0 0,.slice none 0 0,.slice none 0 0,.int .i64 ((0:Int)),.slice none 0 0,.slice none 0 0,.slice none 0 0,.slice none 0 0,.slice none 0 0,.slice none 0 0,.slice none 0 0,.slice none 0 0] [(0,12),(12,12),(24,1),(25,1)]:=⟨_,_,_,Tryz.underlying120,by kernel_rfl,Ew,U5,rfl⟩
instance apY:AJ Tryz.prog 179 [.int .i64 ((0:Int)),.int .i64 ((0:Int)),.slice none 0 0] [(0,1),(1,1),(2,1)]:=⟨_,_,_,Tryz.underlying179,by kernel_rfl,xK,Ja,rfl⟩
instance apZ:AJ Tryz.prog 185 [.int .i64 ((0:Int)),.slice none 0 0,.slice none 0 0,.slice none 0 0,.slice none 0 0,.int .i64 ((0:Int)),.slice none 0 0,.slice none 0 0,.slice none 0 0,.slice none 0 0,.slice none 0 0,.slice none 0 0,.int .i64 ((0:Int)),.slice none 0 0,.slice none 0 0,.slice none 0 0,.slice none 0 0,.int .i64 ((0:Int)),.slice none 0 0,.slice none 0 0,.slice none 0 0,.slice none 0 0,.slice none 0 0,.slice none 0 0,.bool (false),.int .i64 ((0:Int)),.slice none 0 0] [(0,12),(12,12),(24,1),(25,1),(26,1)]:=⟨_,_,_,Tryz.underlying185,by kernel_rfl,Wz,aca,rfl⟩
instance asq:Xy Tryz.prog 63 .i64 .i64:=⟨_,_,Tryz.underlying63,by decide,by decide,Tryz.underlying2,Tryz.underlying2,rfl,rfl,by kernel_rfl,by kernel_rfl⟩
instance fn5:bm Tryz.prog 5:=⟨_,_,Tryz.func5,rfl,by kernel_rfl⟩
instance fn6:bm Tryz.prog 6:=⟨_,_,Tryz.func6,rfl,by kernel_rfl⟩
instance fn7:bm Tryz.prog 7:=⟨_,_,Tryz.func7,rfl,by kernel_rfl⟩
instance fn8:bm Tryz.prog 8:=⟨_,_,Tryz.func8,rfl,by kernel_rfl⟩
instance fn9:bm Tryz.prog 9:=⟨_,_,Tryz.func9,rfl,by kernel_rfl⟩
instance asr:bm Tryz.prog 10:=⟨_,_,Tryz.func10,rfl,by kernel_rfl⟩
instance ass:bm Tryz.prog 11:=⟨_,_,Tryz.func11,rfl,by kernel_rfl⟩
instance ast:bm Tryz.prog 12:=⟨_,_,Tryz.func12,rfl,by kernel_rfl⟩
instance asu:bm Tryz.prog 13:=⟨_,_,Tryz.func13,rfl,by kernel_rfl⟩
instance asv:bm Tryz.prog 14:=⟨_,_,Tryz.func14,rfl,by kernel_rfl⟩
instance asw:bm Tryz.prog 15:=⟨_,_,Tryz.func15,rfl,by kernel_rfl⟩
instance asx:bm Tryz.prog 26:=⟨_,_,Tryz.func26,rfl,by kernel_rfl⟩
instance asy:bm Tryz.prog 27:=⟨_,_,Tryz.func27,rfl,by kernel_rfl⟩
instance asz:bm Tryz.prog 28:=⟨_,_,Tryz.func28,rfl,by kernel_rfl⟩
instance asA:bm Tryz.prog 29:=⟨_,_,Tryz.func29,rfl,by kernel_rfl⟩
instance asB:bm Tryz.prog 30:=⟨_,_,Tryz.func30,rfl,by kernel_rfl⟩
instance asC:bm Tryz.prog 31:=⟨_,_,Tryz.func31,rfl,by kernel_rfl⟩
instance asD:bm Tryz.prog 32:=⟨_,_,Tryz.func32,rfl,by kernel_rfl⟩
instance asE:bm Tryz.prog 33:=⟨_,_,Tryz.func33,rfl,by kernel_rfl⟩
instance asF:bm Tryz.prog 34:=⟨_,_,Tryz.func34,rfl,by kernel_rfl⟩
instance asG:bm Tryz.prog 35:=⟨_,_,Tryz.func35,rfl,by kernel_rfl⟩
instance asH:bm Tryz.prog 36:=⟨_,_,Tryz.func36,rfl,by kernel_rfl⟩
instance asI:bm Tryz.prog 37:=⟨_,_,Tryz.func37,rfl,by kernel_rfl⟩
instance asJ:bm Tryz.prog 38:=⟨_,_,Tryz.func38,rfl,by kernel_rfl⟩
instance asK:bm Tryz.prog 39:=⟨_,_,Tryz.func39,rfl,by kernel_rfl⟩
instance asL:bm Tryz.prog 40:=⟨_,_,Tryz.func40,rfl,by kernel_rfl⟩
instance asM:bm Tryz.prog 41:=⟨_,_,Tryz.func41,rfl,by kernel_rfl⟩
instance asN:bm Tryz.prog 42:=⟨_,_,Tryz.func42,rfl,by kernel_rfl⟩
instance asO:bm Tryz.prog 46:=⟨_,_,Tryz.func46,rfl,by kernel_rfl⟩
instance asP:bm Tryz.prog 47:=⟨_,_,Tryz.func47,rfl,by kernel_rfl⟩
instance asQ:bm Tryz.prog 50:=⟨_,_,Tryz.func50,rfl,by kernel_rfl⟩
instance asR:bm Tryz.prog 55:=⟨_,_,Tryz.func55,rfl,by kernel_rfl⟩
instance asS:bm Tryz.prog 56:=⟨_,_,Tryz.func56,rfl,by kernel_rfl⟩
instance asT:bm Tryz.prog 57:=⟨_,_,Tryz.func57,rfl,by kernel_rfl⟩
instance asU:bm Tryz.prog 58:=⟨_,_,Tryz.func58,rfl,by kernel_rfl⟩
instance asV:bm Tryz.prog 59:=⟨_,_,Tryz.func59,rfl,by kernel_rfl⟩
instance asW:bm Tryz.prog 60:=⟨_,_,Tryz.func60,rfl,by kernel_rfl⟩
instance asX:bm Tryz.prog 61:=⟨_,_,Tryz.func61,rfl,by kernel_rfl⟩
instance asY:bm Tryz.prog 62:=⟨_,_,Tryz.func62,rfl,by kernel_rfl⟩
instance asZ:bm Tryz.prog 63:=⟨_,_,Tryz.func63,rfl,by kernel_rfl⟩
instance as0:bm Tryz.prog 64:=⟨_,_,Tryz.func64,rfl,by kernel_rfl⟩
instance as1:bm Tryz.prog 65:=⟨_,_,Tryz.func65,rfl,by kernel_rfl⟩
instance as2:bm Tryz.prog 66:=⟨_,_,Tryz.func66,rfl,by kernel_rfl⟩
instance as3:bm Tryz.prog 67:=⟨_,_,Tryz.func67,rfl,by kernel_rfl⟩
instance as4:bm Tryz.prog 68:=⟨_,_,Tryz.func68,rfl,by kernel_rfl⟩
instance as5:bm Tryz.prog 69:=⟨_,_,Tryz.func69,rfl,by kernel_rfl⟩
instance as6:bm Tryz.prog 70:=⟨_,_,Tryz.func70,rfl,by kernel_rfl⟩
instance as7:bm Tryz.prog 71:=⟨_,_,Tryz.func71,rfl,by kernel_rfl⟩
instance as8:bm Tryz.prog 72:=⟨_,_,Tryz.func72,rfl,by kernel_rfl⟩
instance as9:bm Tryz.prog 73:=⟨_,_,Tryz.func73,rfl,by kernel_rfl⟩
instance ata:bm Tryz.prog 74:=⟨_,_,Tryz.func74,rfl,by kernel_rfl⟩
instance atb:bm Tryz.prog 75:=⟨_,_,Tryz.func75,rfl,by kernel_rfl⟩
instance atc:bm Tryz.prog 77:=⟨_,_,Tryz.func77,rfl,by kernel_rfl⟩
instance atd:bm Tryz.prog 78:=⟨_,_,Tryz.func78,rfl,by kernel_rfl⟩
instance ate:bm Tryz.prog 79:=⟨_,_,Tryz.func79,rfl,by kernel_rfl⟩
instance atg:bm Tryz.prog 80:=⟨_,_,Tryz.func80,rfl,by kernel_rfl⟩
instance ath:bm Tryz.prog 81:=⟨_,_,Tryz.func81,rfl,by kernel_rfl⟩
instance ati:bm Tryz.prog 82:=⟨_,_,Tryz.func82,rfl,by kernel_rfl⟩
instance atj:bm Tryz.prog 83:=⟨_,_,Tryz.func83,rfl,by kernel_rfl⟩
instance atk:bm Tryz.prog 84:=⟨_,_,Tryz.func84,rfl,by kernel_rfl⟩
instance atl:bm Tryz.prog 85:=⟨_,_,Tryz.func85,rfl,by kernel_rfl⟩
instance atm:bm Tryz.prog 86:=⟨_,_,Tryz.func86,rfl,by kernel_rfl⟩
instance atn:bm Tryz.prog 87:=⟨_,_,Tryz.func87,rfl,by kernel_rfl⟩
instance ato:bm Tryz.prog 88:=⟨_,_,Tryz.func88,rfl,by kernel_rfl⟩
instance atp:bm Tryz.prog 89:=⟨_,_,Tryz.func89,rfl,by kernel_rfl⟩
instance atq:bm Tryz.prog 90:=⟨_,_,Tryz.func90,rfl,by kernel_rfl⟩
instance atr:bm Tryz.prog 91:=⟨_,_,Tryz.func91,rfl,by kernel_rfl⟩
instance atu:bm Tryz.prog 92:=⟨_,_,Tryz.func92,rfl,by kernel_rfl⟩
instance atv:bm Tryz.prog 93:=⟨_,_,Tryz.func93,rfl,by kernel_rfl⟩
instance atw:bm Tryz.prog 94:=⟨_,_,Tryz.func94,rfl,by kernel_rfl⟩
instance atx:bm Tryz.prog 95:=⟨_,_,Tryz.func95,rfl,by kernel_rfl⟩
instance aty:bm Tryz.prog 96:=⟨_,_,Tryz.func96,rfl,by kernel_rfl⟩
instance atz:bm Tryz.prog 97:=⟨_,_,Tryz.func97,rfl,by kernel_rfl⟩
instance atA:bm Tryz.prog 98:=⟨_,_,Tryz.func98,rfl,by kernel_rfl⟩
instance atB:bm Tryz.prog 99:=⟨_,_,Tryz.func99,rfl,by kernel_rfl⟩
instance ap0:bm Tryz.prog 100:=⟨_,_,Tryz.func100,rfl,by kernel_rfl⟩
instance ap3:bm Tryz.prog 101:=⟨_,_,Tryz.func101,rfl,by kernel_rfl⟩
instance ap4:bm Tryz.prog 102:=⟨_,_,Tryz.func102,rfl,by kernel_rfl⟩
instance ap5:bm Tryz.prog 103:=⟨_,_,Tryz.func103,rfl,by kernel_rfl⟩
instance ap6:bm Tryz.prog 104:=⟨_,_,Tryz.func104,rfl,by kernel_rfl⟩
instance ap7:bm Tryz.prog 105:=⟨_,_,Tryz.func105,rfl,by kernel_rfl⟩
instance ap8:bm Tryz.prog 106:=⟨_,_,Tryz.func106,rfl,by kernel_rfl⟩
instance ap9:bm Tryz.prog 107:=⟨_,_,Tryz.func107,rfl,by kernel_rfl⟩
instance aqa:bm Tryz.prog 108:=⟨_,_,Tryz.func108,rfl,by kernel_rfl⟩
instance aqb:bm Tryz.prog 109:=⟨_,_,Tryz.func109,rfl,by kernel_rfl⟩
instance aqc:bm Tryz.prog 110:=⟨_,_,Tryz.func110,rfl,by kernel_rfl⟩
instance aqd:bm Tryz.prog 111:=⟨_,_,Tryz.func111,rfl,by kernel_rfl⟩
instance aqe:bm Tryz.prog 112:=⟨_,_,Tryz.func112,rfl,by kernel_rfl⟩
instance aqf:bm Tryz.prog 113:=⟨_,_,Tryz.func113,rfl,by kernel_rfl⟩
instance aqg:bm Tryz.prog 114:=⟨_,_,Tryz.func114,rfl,by kernel_rfl⟩
instance aqh:bm Tryz.prog 115:=⟨_,_,Tryz.func115,rfl,by kernel_rfl⟩
instance aqi:bm Tryz.prog 116:=⟨_,_,Tryz.func116,rfl,by kernel_rfl⟩
instance aqj:bm Tryz.prog 117:=⟨_,_,Tryz.func117,rfl,by kernel_rfl⟩
instance aqk:bm Tryz.prog 118:=⟨_,_,Tryz.func118,rfl,by kernel_rfl⟩
instance aql:bm Tryz.prog 119:=⟨_,_,Tryz.func119,rfl,by kernel_rfl⟩
instance aqm:bm Tryz.prog 120:=⟨_,_,Tryz.func120,rfl,by kernel_rfl⟩
instance aqn:bm Tryz.prog 121:=⟨_,_,Tryz.func121,rfl,by kernel_rfl⟩
instance aqo:bm Tryz.prog 122:=⟨_,_,Tryz.func122,rfl,by kernel_rfl⟩
instance aqp:bm Tryz.prog 123:=⟨_,_,Tryz.func123,rfl,by kernel_rfl⟩
instance aqq:bm Tryz.prog 124:=⟨_,_,Tryz.func124,rfl,by kernel_rfl⟩
instance aqr:bm Tryz.prog 125:=⟨_,_,Tryz.func125,rfl,by kernel_rfl⟩
instance aqs:bm Tryz.prog 126:=⟨_,_,Tryz.func126,rfl,by kernel_rfl⟩
instance aqt:bm Tryz.prog 127:=⟨_,_,Tryz.func127,rfl,by kernel_rfl⟩
instance aqu:bm Tryz.prog 128:=⟨_,_,Tryz.func128,rfl,by kernel_rfl⟩
instance aqv:bm Tryz.prog 129:=⟨_,_,Tryz.func129,rfl,by kernel_rfl⟩
instance aqw:bm Tryz.prog 130:=⟨_,_,Tryz.func130,rfl,by kernel_rfl⟩
instance aqx:bm Tryz.prog 131:=⟨_,_,Tryz.func131,rfl,by kernel_rfl⟩
instance aqy:bm Tryz.prog 132:=⟨_,_,Tryz.func132,rfl,by kernel_rfl⟩
instance aqz:bm Tryz.prog 133:=⟨_,_,Tryz.func133,rfl,by kernel_rfl⟩
instance aqA:bm Tryz.prog 134:=⟨_,_,Tryz.func134,rfl,by kernel_rfl⟩
instance aqB:bm Tryz.prog 135:=⟨_,_,Tryz.func135,rfl,by kernel_rfl⟩
instance aqC:bm Tryz.prog 136:=⟨_,_,Tryz.func136,rfl,by kernel_rfl⟩
instance aqD:bm Tryz.prog 137:=⟨_,_,Tryz.func137,rfl,by kernel_rfl⟩
instance aqE:bm Tryz.prog 138:=⟨_,_,Tryz.func138,rfl,by kernel_rfl⟩
instance aqF:bm Tryz.prog 139:=⟨_,_,Tryz.func139,rfl,by kernel_rfl⟩
instance aqG:bm Tryz.prog 140:=⟨_,_,Tryz.func140,rfl,by kernel_rfl⟩
instance aqH:bm Tryz.prog 141:=⟨_,_,Tryz.func141,rfl,by kernel_rfl⟩
instance aqI:bm Tryz.prog 142:=⟨_,_,Tryz.func142,rfl,by kernel_rfl⟩
instance aqJ:bm Tryz.prog 143:=⟨_,_,Tryz.func143,rfl,by kernel_rfl⟩
instance aqK:bm Tryz.prog 144:=⟨_,_,Tryz.func144,rfl,by kernel_rfl⟩
instance aqL:bm Tryz.prog 145:=⟨_,_,Tryz.func145,rfl,by kernel_rfl⟩
instance aqM:bm Tryz.prog 146:=⟨_,_,Tryz.func146,rfl,by kernel_rfl⟩
instance aqN:bm Tryz.prog 147:=⟨_,_,Tryz.func147,rfl,by kernel_rfl⟩
instance aqO:bm Tryz.prog 148:=⟨_,_,Tryz.func148,rfl,by kernel_rfl⟩
instance aqP:bm Tryz.prog 149:=⟨_,_,Tryz.func149,rfl,by kernel_rfl⟩
instance aqQ:bm Tryz.prog 150:=⟨_,_,Tryz.func150,rfl,by kernel_rfl⟩
instance aqR:bm Tryz.prog 151:=⟨_,_,Tryz.func151,rfl,by kernel_rfl⟩
instance aqS:bm Tryz.prog 152:=⟨_,_,Tryz.func152,rfl,by kernel_rfl⟩
instance aqT:bm Tryz.prog 153:=⟨_,_,Tryz.func153,rfl,by kernel_rfl⟩
instance aqU:bm Tryz.prog 154:=⟨_,_,Tryz.func154,rfl,by kernel_rfl⟩
instance aqV:bm Tryz.prog 155:=⟨_,_,Tryz.func155,rfl,by kernel_rfl⟩
instance aqW:bm Tryz.prog 156:=⟨_,_,Tryz.func156,rfl,by kernel_rfl⟩
instance aqX:bm Tryz.prog 157:=⟨_,_,Tryz.func157,rfl,by kernel_rfl⟩
instance aqY:bm Tryz.prog 158:=⟨_,_,Tryz.func158,rfl,by kernel_rfl⟩
instance aqZ:bm Tryz.prog 159:=⟨_,_,Tryz.func159,rfl,by kernel_rfl⟩
instance aq0:bm Tryz.prog 160:=⟨_,_,Tryz.func160,rfl,by kernel_rfl⟩
instance aq1:bm Tryz.prog 161:=⟨_,_,Tryz.func161,rfl,by kernel_rfl⟩
instance aq2:bm Tryz.prog 162:=⟨_,_,Tryz.func162,rfl,by kernel_rfl⟩
instance aq3:bm Tryz.prog 163:=⟨_,_,Tryz.func163,rfl,by kernel_rfl⟩
instance aq4:bm Tryz.prog 164:=⟨_,_,Tryz.func164,rfl,by kernel_rfl⟩
instance aq5:bm Tryz.prog 165:=⟨_,_,Tryz.func165,rfl,by kernel_rfl⟩
instance aq6:bm Tryz.prog 166:=⟨_,_,Tryz.func166,rfl,by kernel_rfl⟩
end Go.Proofs.YtilhlobfebngdaaGreat
