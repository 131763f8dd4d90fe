/- Closed facts on types, as instances. No condition. -/
import Derived.Test.YtilhlobfebngdaaGreatDp
import Derived.Test.YtilhlobfebngdaaGreatLn
import Derived.Test.YtilhlobfebngdaaGreatChecked
import Derived.KernelRfl
namespace Go.Proofs.YtilhlobfebngdaaGreat
open Go Go.Li Go.Dk
set_option linter.unusedVariables false
set_option maxRecDepth 100000
noncomputable def i2:TypeInfo:=(Tryz.prog.info? 2).getD default
theorem xZ:Tryz.prog.info? 2=some i2:=by kernel_rfl
theorem N9:i2.size=1:=by kernel_rfl
theorem Oa:i2.size≠0:=by rw [N9]; decide
theorem zr2:i2.zero=some (.int .i64 0):=by kernel_rfl
theorem by2:i2.bytes=8:=by kernel_rfl
noncomputable def i3:TypeInfo:=(Tryz.prog.info? 3).getD default
theorem Mq:Tryz.prog.info? 3=some i3:=by kernel_rfl
theorem sz3:i3.size=1:=by kernel_rfl
theorem ne3:i3.size≠0:=by rw [sz3]; decide
theorem zr3:i3.zero=some (.int .i64 0):=by kernel_rfl
theorem by3:i3.bytes=8:=by kernel_rfl
noncomputable def i4:TypeInfo:=(Tryz.prog.info? 4).getD default
theorem Zp:Tryz.prog.info? 4=some i4:=by kernel_rfl
theorem sz4:i4.size=1:=by kernel_rfl
theorem ne4:i4.size≠0:=by rw [sz4]; decide
theorem zr4:i4.zero=some (.bool false):=by kernel_rfl
theorem by4:i4.bytes=1:=by kernel_rfl
noncomputable def i5:TypeInfo:=(Tryz.prog.info? 5).getD default
theorem Zq:Tryz.prog.info? 5=some i5:=by kernel_rfl
theorem sz5:i5.size=1:=by kernel_rfl
theorem ne5:i5.size≠0:=by rw [sz5]; decide
theorem zr5:i5.zero=some (.int .u8 0):=by kernel_rfl
theorem by5:i5.bytes=1:=by kernel_rfl
noncomputable def i22:TypeInfo:=(Tryz.prog.info? 22).getD default
theorem V5:Tryz.prog.info? 22=some i22:=by kernel_rfl
theorem abW:i22.size=1:=by kernel_rfl
theorem abX:i22.size≠0:=by rw [abW]; decide
theorem anL:i22.zero=some (.slice none 0 0):=by kernel_rfl
theorem anM:i22.bytes=24:=by kernel_rfl
noncomputable def i24:TypeInfo:=(Tryz.prog.info? 24).getD default
theorem oK:Tryz.prog.info? 24=some i24:=by kernel_rfl
theorem IS:i24.size=1:=by kernel_rfl
theorem yF:i24.size≠0:=by rw [IS]; decide
theorem V6:i24.zero=some (.slice none 0 0):=by kernel_rfl
theorem abY:i24.bytes=24:=by kernel_rfl
noncomputable def i25:TypeInfo:=(Tryz.prog.info? 25).getD default
theorem IT:Tryz.prog.info? 25=some i25:=by kernel_rfl
theorem V7:i25.size=1:=by kernel_rfl
theorem V8:i25.size≠0:=by rw [V7]; decide
theorem anN:i25.zero=some (.slice none 0 0):=by kernel_rfl
theorem anO:i25.bytes=24:=by kernel_rfl
noncomputable def i27:TypeInfo:=(Tryz.prog.info? 27).getD default
theorem Aw:Tryz.prog.info? 27=some i27:=by kernel_rfl
theorem Qa:i27.size=5:=by kernel_rfl
theorem V9:i27.size≠0:=by rw [Qa]; decide
theorem Wd:i27.zero=some (.agg #[.int .i64 ((0:Int)),.slice none 0 0,.slice none 0 0,.slice none 0 0,.slice none 0 0]):=by kernel_rfl
noncomputable def i29:TypeInfo:=(Tryz.prog.info? 29).getD default
theorem p6:Tryz.prog.info? 29=some i29:=by kernel_rfl
theorem F8:i29.size=12:=by kernel_rfl
theorem Ee:i29.size≠0:=by rw [F8]; decide
theorem Mr:i29.zero=some (.agg #[.int .i64 ((0:Int)),.slice none 0 0,.slice none 0 0,.slice none 0 0,.slice none 0 0,.int .i64 ((0:Int)),.slice none 0 0,.slice none 0 0,.slice none 0 0,.slice none 0 0,.slice none 0 0,.slice none 0 0]):=by kernel_rfl
noncomputable def i31:TypeInfo:=(Tryz.prog.info? 31).getD default
theorem yG:Tryz.prog.info? 31=some i31:=by kernel_rfl
theorem F9:i31.size=14:=by kernel_rfl
theorem anP:i31.size≠0:=by rw [F9]; decide
theorem Ms:i31.zero=some (.agg #[.int .i64 ((0:Int)),.slice none 0 0,.slice none 0 0,.slice none 0 0,.slice none 0 0,.int .i64 ((0:Int)),.slice none 0 0,.slice none 0 0,.slice none 0 0,.slice none 0 0,.slice none 0 0,.slice none 0 0,.slice none 0 0,.slice none 0 0]):=by kernel_rfl
noncomputable def i59:TypeInfo:=(Tryz.prog.info? 59).getD default
theorem Ob:Tryz.prog.info? 59=some i59:=by kernel_rfl
theorem Qb:i59.size=1:=by kernel_rfl
theorem anQ:i59.size≠0:=by rw [Qb]; decide
theorem abZ:i59.zero=some (.pointer none):=by kernel_rfl
theorem anR:i59.bytes=8:=by kernel_rfl
noncomputable def i63:TypeInfo:=(Tryz.prog.info? 63).getD default
theorem EU:Tryz.prog.info? 63=some i63:=by kernel_rfl
theorem Qc:i63.size=2:=by kernel_rfl
theorem anS:i63.size≠0:=by rw [Qc]; decide
theorem We:i63.zero=some (.agg #[.int .i64 ((0:Int)),.int .i64 ((0:Int))]):=by kernel_rfl
noncomputable def i84:TypeInfo:=(Tryz.prog.info? 84).getD default
theorem Wh:Tryz.prog.info? 84=some i84:=by kernel_rfl
theorem ab0:i84.size=2:=by kernel_rfl
theorem anT:i84.size≠0:=by rw [ab0]; decide
theorem ab1:i84.zero=some (.agg #[.int .i64 ((0:Int)),.int .i64 ((0:Int))]):=by kernel_rfl
noncomputable def i89:TypeInfo:=(Tryz.prog.info? 89).getD default
theorem Oc:Tryz.prog.info? 89=some i89:=by kernel_rfl
theorem Wi:i89.size=1:=by kernel_rfl
theorem ab2:i89.size≠0:=by rw [Wi]; decide
theorem anU:i89.zero=some (.int .u64 0):=by kernel_rfl
theorem anV:i89.bytes=8:=by kernel_rfl
noncomputable def i91:TypeInfo:=(Tryz.prog.info? 91).getD default
theorem Wj:Tryz.prog.info? 91=some i91:=by kernel_rfl
theorem ab3:i91.size=3:=by kernel_rfl
theorem anW:i91.size≠0:=by rw [ab3]; decide
theorem ab4:i91.zero=some (.agg #[.slice none 0 0,.int .i64 ((0:Int)),.int .u64 ((0:Int))]):=by kernel_rfl
noncomputable def i103:TypeInfo:=(Tryz.prog.info? 103).getD default
theorem Lk:Tryz.prog.info? 103=some i103:=by kernel_rfl
theorem Mt:i103.size=1:=by kernel_rfl
theorem alT:i103.size≠0:=by rw [Mt]; decide
theorem Zr:i103.zero=some (.pointer none):=by kernel_rfl
theorem alU:i103.bytes=8:=by kernel_rfl
noncomputable def i105:TypeInfo:=(Tryz.prog.info? 105).getD default
theorem Ga:Tryz.prog.info? 105=some i105:=by kernel_rfl
theorem SP:i105.size=25:=by kernel_rfl
theorem alV:i105.size≠0:=by rw [SP]; decide
theorem SR:i105.zero=some (.agg #[.int .i64 ((0:Int)),.slice none 0 0,.slice none 0 0,.slice none 0 0,.slice none 0 0,.int .i64 ((0:Int)),.slice none 0 0,.slice none 0 0,.slice none 0 0,.slice none 0 0,.slice none 0 0,.slice none 0 0,.int .i64 ((0:Int)),.slice none 0 0,.slice none 0 0,.slice none 0 0,.slice none 0 0,.int .i64 ((0:Int)),.slice none 0 0,.slice none 0 0,.slice none 0 0,.slice none 0 0,.slice none 0 0,.slice none 0 0,.slice none 0 0]):=by kernel_rfl
noncomputable def i107:TypeInfo:=(Tryz.prog.info? 107).getD default
theorem Ll:Tryz.prog.info? 107=some i107:=by kernel_rfl
theorem Mu:i107.size=1:=by kernel_rfl
theorem alW:i107.size≠0:=by rw [Mu]; decide
theorem Zs:i107.zero=some (.pointer none):=by kernel_rfl
theorem alX:i107.bytes=8:=by kernel_rfl
noncomputable def i120:TypeInfo:=(Tryz.prog.info? 120).getD default
theorem Dl:Tryz.prog.info? 120=some i120:=by kernel_rfl
theorem Mw:i120.size=26:=by kernel_rfl
theorem alY:i120.size≠0:=by rw [Mw]; decide
theorem SS:i120.zero=some (.agg #[.int .i64 ((0:Int)),.slice none 0 0,.slice none 0 0,.slice none 0 0,.slice none 0 0,.int .i64 ((0:Int)),.slice none 0 0,.slice none 0 0,.slice none 0 0,.slice none 0 0,.slice none 0 0,.slice none 0 0,.int .i64 ((0:Int)),.slice none 0 0,.slice none 0 0,.slice none 0 0,.slice none 0 0,.int .i64 ((0:Int)),.slice none 0 0,.slice none 0 0,.slice none 0 0,.slice none 0 0,.slice none 0 0,.slice none 0 0,.slice none 0 0,.slice none 0 0]):=by kernel_rfl
noncomputable def i179:TypeInfo:=(Tryz.prog.info? 179).getD default
theorem wL:Tryz.prog.info? 179=some i179:=by kernel_rfl
theorem Dm:i179.size=3:=by kernel_rfl
theorem alZ:i179.size≠0:=by rw [Dm]; decide
theorem HG:i179.zero=some (.agg #[.int .i64 ((0:Int)),.int .i64 ((0:Int)),.slice none 0 0]):=by kernel_rfl
noncomputable def i185:TypeInfo:=(Tryz.prog.info? 185).getD default
theorem Uh:Tryz.prog.info? 185=some i185:=by kernel_rfl
theorem Zt:i185.size=27:=by kernel_rfl
theorem al0:i185.size≠0:=by rw [Zt]; decide
theorem Zu:i185.zero=some (.agg #[.int .i64 ((0:Int)),.slice none 0 0,.slice none 0 0,.slice none 0 0,.slice none 0 0,.int .i64 ((0:Int)),.slice none 0 0,.slice none 0 0,.slice none 0 0,.slice none 0 0,.slice none 0 0,.slice none 0 0,.int .i64 ((0:Int)),.slice none 0 0,.slice none 0 0,.slice none 0 0,.slice none 0 0,.int .i64 ((0:Int)),.slice none 0 0,.slice none 0 0,.slice none 0 0,.slice none 0 0,.slice none 0 0,.slice none 0 0,.bool (false),.int .i64 ((0:Int)),.slice none 0 0]):=by kernel_rfl
instance lk2:LK Tryz.prog 2 none:=⟨_,Tryz.underlying2,rfl⟩
instance lk3:LK Tryz.prog 3 none:=⟨_,Tryz.underlying3,rfl⟩
instance lk4:LK Tryz.prog 4 none:=⟨_,Tryz.underlying4,rfl⟩
instance lk5:LK Tryz.prog 5 none:=⟨_,Tryz.underlying5,rfl⟩
instance anX:LK Tryz.prog 22 none:=⟨_,Tryz.underlying22,rfl⟩
instance anY:LK Tryz.prog 24 none:=⟨_,Tryz.underlying24,rfl⟩
instance anZ:LK Tryz.prog 25 none:=⟨_,Tryz.underlying25,rfl⟩
instance an0:LK Tryz.prog 27 (some 5):=⟨_,_,Tryz.underlying27,rfl,Aw,Qa⟩
instance an1:LK Tryz.prog 29 (some 12):=⟨_,_,Tryz.underlying29,rfl,p6,F8⟩
instance an2:LK Tryz.prog 31 (some 14):=⟨_,_,Tryz.underlying31,rfl,yG,F9⟩
instance an3:LK Tryz.prog 59 none:=⟨_,Tryz.underlying59,rfl⟩
instance an4:LK Tryz.prog 63 (some 2):=⟨_,_,Tryz.underlying63,rfl,EU,Qc⟩
instance an5:LK Tryz.prog 89 none:=⟨_,Tryz.underlying89,rfl⟩
instance al1:LK Tryz.prog 103 none:=⟨_,Tryz.underlying103,rfl⟩
instance al2:LK Tryz.prog 107 none:=⟨_,Tryz.underlying107,rfl⟩
instance al3:LK Tryz.prog 120 (some 26):=⟨_,_,Tryz.underlying120,rfl,Dl,Mw⟩
instance al4:LK Tryz.prog 179 (some 3):=⟨_,_,Tryz.underlying179,rfl,wL,Dm⟩
instance an6:yx Tryz.prog 22:=⟨_,_,Tryz.underlying22,Zq,sz5⟩
instance an7:yx Tryz.prog 24:=⟨_,_,Tryz.underlying24,xZ,N9⟩
instance an8:NI Tryz.prog 24 2:=⟨Tryz.underlying24,_,_,xZ,zr2,N9⟩
instance an9:ux Tryz.prog 24 Int 2 (aN .i64) 0 8:=⟨Tryz.underlying24,rfl,_,_,xZ,zr2,N9,rfl,by2,fun _=>⟨rfl,rfl⟩⟩
instance aoa:yx Tryz.prog 25:=⟨_,_,Tryz.underlying25,oK,IS⟩
instance aob:NI Tryz.prog 25 24:=⟨Tryz.underlying25,_,_,oK,V6,IS⟩
instance aoc:ux Tryz.prog 25 (List Int) 24 (aL 2 (aN .i64)) [] 24:=⟨Tryz.underlying25,rfl,_,_,oK,V6,IS,rfl,abY,fun _=>FW⟩
instance al5:H0 Tryz.prog 116 14:=⟨_,_,Tryz.underlying116,yG,F9⟩
instance al6:H4 Tryz.prog 116 31 14:=⟨Tryz.underlying116,_,_,yG,Ms,F9,by decide⟩
theorem ab5:i31.bytes=304:=by kernel_rfl
instance al7:B4 Tryz.prog 116 31 14 304:=⟨Tryz.underlying116,_,_,yG,Ms,rfl,F9,ab5,by decide⟩
instance al8:yx Tryz.prog 133:=⟨_,_,Tryz.underlying133,Ll,Mu⟩
instance al9:HZ Tryz.prog 133 107:=⟨Tryz.underlying133,_,_,Ll,Zs,Mu⟩
instance ama:H0 Tryz.prog 146 12:=⟨_,_,Tryz.underlying146,p6,F8⟩
instance amb:H4 Tryz.prog 146 29 12:=⟨Tryz.underlying146,_,_,p6,Mr,F8,by decide⟩
theorem ab6:i29.bytes=256:=by kernel_rfl
instance amc:B4 Tryz.prog 146 29 12 256:=⟨Tryz.underlying146,_,_,p6,Mr,rfl,F8,ab6,by decide⟩
instance amd:yx Tryz.prog 157:=⟨_,_,Tryz.underlying157,Ob,Qb⟩
instance ame:HZ Tryz.prog 157 59:=⟨Tryz.underlying157,_,_,Ob,abZ,Qb⟩
instance amf:H0 Tryz.prog 176 3:=⟨_,_,Tryz.underlying176,wL,Dm⟩
instance amg:H4 Tryz.prog 176 179 3:=⟨Tryz.underlying176,_,_,wL,HG,Dm,by decide⟩
theorem Zv:i179.bytes=40:=by kernel_rfl
instance amh:B4 Tryz.prog 176 179 3 40:=⟨Tryz.underlying176,_,_,wL,HG,rfl,Dm,Zv,by decide⟩
instance ami:yx Tryz.prog 188:=⟨_,_,Tryz.underlying188,Lk,Mt⟩
instance amj:HZ Tryz.prog 188 103:=⟨Tryz.underlying188,_,_,Lk,Zr,Mt⟩
instance so2:xd Tryz.prog 2 1:=⟨_,xZ,N9⟩
instance so3:xd Tryz.prog 3 1:=⟨_,Mq,sz3⟩
instance aod:xd Tryz.prog 24 1:=⟨_,oK,IS⟩
instance aoe:xd Tryz.prog 25 1:=⟨_,IT,V7⟩
instance aof:xd Tryz.prog 27 5:=⟨_,Aw,Qa⟩
instance aog:xd Tryz.prog 29 12:=⟨_,p6,F8⟩
instance aoh:xd Tryz.prog 31 14:=⟨_,yG,F9⟩
instance aoi:xd Tryz.prog 63 2:=⟨_,EU,Qc⟩
instance aoj:xd Tryz.prog 89 1:=⟨_,Oc,Wi⟩
instance amk:xd Tryz.prog 105 25:=⟨_,Ga,SP⟩
instance aml:xd Tryz.prog 120 26:=⟨_,Dl,Mw⟩
instance amm:xd Tryz.prog 179 3:=⟨_,wL,Dm⟩
instance aok:Ch Tryz.prog 27 [.int .i64 ((0:Int)),.slice none 0 0,.slice none 0 0,.slice none 0 0,.slice none 0 0]:=⟨_,_,Aw,Wd,rfl⟩
instance aol:Ch Tryz.prog 29 [.int .i64 ((0:Int)),.slice none 0 0,.slice none 0 0,.slice none 0 0,.slice none 0 0,.int .i64 ((0:Int)),.slice none 0 0,.slice none 0 0,.slice none 0 0,.slice none 0 0,.slice none 0 0,.slice none 0 0]:=⟨_,_,p6,Mr,rfl⟩
instance aom:Ch Tryz.prog 31 [.int .i64 ((0:Int)),.slice none 0 0,.slice none 0 0,.slice none 0 0,.slice none 0 0,.int .i64 ((0:Int)),.slice none 0 0,.slice none 0 0,.slice none 0 0,.slice none 0 0,.slice none 0 0,.slice none 0 0,.slice none 0 0,.slice none 0 0]:=⟨_,_,yG,Ms,rfl⟩
instance aon:Ch Tryz.prog 63 [.int .i64 ((0:Int)),.int .i64 ((0:Int))]:=⟨_,_,EU,We,rfl⟩
instance amn:Ch Tryz.prog 105 [.int .i64 ((0:Int)),.slice none 0 0,.slice none 0 0,.slice none 0 0,.slice none 0 0,.int .i64 ((0:Int)),.slice none 0 0,.slice none 0 0,.slice none 0 0,.slice none 0 0,.slice none 0 0,.slice none 0 0,.int .i64 ((0:Int)),.slice none 0 0,.slice none 0 0,.slice none 0 0,.slice none 0 0,.int .i64 ((0:Int)),.slice none 0 0,.slice none 0 0,.slice none 0 0,.slice none 0 0,.slice none 0 0,.slice none 0 0,.slice none 0 0]:=⟨_,_,Ga,SR,rfl⟩
instance amo:Ch Tryz.prog 120 [.int .i64 ((0:Int)),.slice none 0 0,.slice none 0 0,.slice none 0 0,.slice none 0 0,.int .i64 ((0:Int)),.slice none 0 0,.slice none 0 0,.slice none 0 0,.slice none 0 0,.slice none 0 0,.slice none 0 0,.int .i64 ((0:Int)),.slice none 0 0,.slice none 0 0,.slice none 0 0,.slice none 0 0,.int .i64 ((0:Int)),.slice none 0 0,.slice none 0 0,.slice none 0 0,.slice none 0 0,.slice none 0 0,.slice none 0 0,.slice none 0 0,.slice none 0 0]:=⟨_,_,Dl,SS,rfl⟩
instance amp:Ch Tryz.prog 179 [.int .i64 ((0:Int)),.int .i64 ((0:Int)),.slice none 0 0]:=⟨_,_,wL,HG,rfl⟩
instance ail:ni Tryz.prog 27 0 0:=⟨_,_,_,Tryz.underlying27,rfl,xZ,Oa,rfl⟩
instance aim:ni Tryz.prog 27 1 1:=⟨_,_,_,Tryz.underlying27,rfl,oK,yF,rfl⟩
instance ain:ni Tryz.prog 27 2 2:=⟨_,_,_,Tryz.underlying27,rfl,oK,yF,rfl⟩
instance aio:ni Tryz.prog 27 3 3:=⟨_,_,_,Tryz.underlying27,rfl,oK,yF,rfl⟩
instance aip:ni Tryz.prog 27 4 4:=⟨_,_,_,Tryz.underlying27,rfl,IT,V8,rfl⟩
instance aiq:ni Tryz.prog 29 0 0:=⟨_,_,_,Tryz.underlying29,rfl,Aw,V9,rfl⟩
instance air:ni Tryz.prog 29 1 5:=⟨_,_,_,Tryz.underlying29,rfl,Aw,V9,rfl⟩
instance ais:ni Tryz.prog 29 2 10:=⟨_,_,_,Tryz.underlying29,rfl,oK,yF,rfl⟩
instance ait:ni Tryz.prog 29 3 11:=⟨_,_,_,Tryz.underlying29,rfl,oK,yF,rfl⟩
instance aiu:ni Tryz.prog 31 0 0:=⟨_,_,_,Tryz.underlying31,rfl,p6,Ee,rfl⟩
instance aiv:ni Tryz.prog 31 1 12:=⟨_,_,_,Tryz.underlying31,rfl,oK,yF,rfl⟩
instance aiw:ni Tryz.prog 31 2 13:=⟨_,_,_,Tryz.underlying31,rfl,oK,yF,rfl⟩
instance aix:ni Tryz.prog 84 0 0:=⟨_,_,_,Tryz.underlying84,rfl,xZ,Oa,rfl⟩
instance aiy:ni Tryz.prog 84 1 1:=⟨_,_,_,Tryz.underlying84,rfl,xZ,Oa,rfl⟩
instance aiz:ni Tryz.prog 91 0 0:=⟨_,_,_,Tryz.underlying91,rfl,V5,abX,rfl⟩
instance aiA:ni Tryz.prog 91 1 1:=⟨_,_,_,Tryz.underlying91,rfl,Mq,ne3,rfl⟩
instance aiB:ni Tryz.prog 91 2 2:=⟨_,_,_,Tryz.underlying91,rfl,Oc,ab2,rfl⟩
instance agd:ni Tryz.prog 105 0 0:=⟨_,_,_,Tryz.underlying105,rfl,p6,Ee,rfl⟩
instance age:ni Tryz.prog 105 1 12:=⟨_,_,_,Tryz.underlying105,rfl,p6,Ee,rfl⟩
instance agf:ni Tryz.prog 105 2 24:=⟨_,_,_,Tryz.underlying105,rfl,oK,yF,rfl⟩
instance agh:ni Tryz.prog 120 0 0:=⟨_,_,_,Tryz.underlying120,rfl,p6,Ee,rfl⟩
instance agi:ni Tryz.prog 120 1 12:=⟨_,_,_,Tryz.underlying120,rfl,p6,Ee,rfl⟩
instance agj:ni Tryz.prog 120 2 24:=⟨_,_,_,Tryz.underlying120,rfl,oK,yF,rfl⟩
instance agk:ni Tryz.prog 120 3 25:=⟨_,_,_,Tryz.underlying120,rfl,oK,yF,rfl⟩
instance agl:ni Tryz.prog 179 0 0:=⟨_,_,_,Tryz.underlying179,rfl,xZ,Oa,rfl⟩
instance agm:ni Tryz.prog 179 1 1:=⟨_,_,_,Tryz.underlying179,rfl,xZ,Oa,rfl⟩
instance agn:ni Tryz.prog 179 2 2:=⟨_,_,_,Tryz.underlying179,rfl,oK,yF,rfl⟩
instance ago:ni Tryz.prog 185 0 0:=⟨_,_,_,Tryz.underlying185,rfl,p6,Ee,rfl⟩
instance agp:ni Tryz.prog 185 1 12:=⟨_,_,_,Tryz.underlying185,rfl,p6,Ee,rfl⟩
instance agq:ni Tryz.prog 185 2 24:=⟨_,_,_,Tryz.underlying185,rfl,Zp,ne4,rfl⟩
instance ags:ni Tryz.prog 185 3 25:=⟨_,_,_,Tryz.underlying185,rfl,Mq,ne3,rfl⟩
instance agt:ni Tryz.prog 185 4 26:=⟨_,_,_,Tryz.underlying185,rfl,IT,V8,rfl⟩
instance agu:K5 Tryz.prog 3 89 .u64:=⟨by rw [Tryz.underlying3]; rfl,Tryz.underlying89⟩
instance aiC:K5 Tryz.prog 5 2 .i64:=⟨by rw [Tryz.underlying5]; rfl,Tryz.underlying2⟩
instance agv:K5 Tryz.prog 5 89 .u64:=⟨by rw [Tryz.underlying5]; rfl,Tryz.underlying89⟩
instance agw:K5 Tryz.prog 89 2 .i64:=⟨by rw [Tryz.underlying89]; rfl,Tryz.underlying2⟩
instance aoo:zD Tryz.prog 27 [.int .i64 ((0:Int)),.slice none 0 0,.slice none 0 0,.slice none 0 0,.slice none 0 0] [(0,1),(1,1),(2,1),(3,1),(4,1)]:=⟨_,_,_,Tryz.underlying27,by kernel_rfl,Aw,Wd,rfl⟩
instance aoq:zD Tryz.prog 29 [.int .i64 ((0:Int)),.slice none 0 0,.slice none 0 0,.slice none 0 0,.slice none 0 0,.int .i64 ((0:Int)),.slice none 0 0,.slice none 0 0,.slice none 0 0,.slice none 0 0,.slice none 0 0,.slice none 0 0] [(0,5),(5,5),(10,1),(11,1)]:=⟨_,_,_,Tryz.underlying29,by kernel_rfl,p6,Mr,rfl⟩
instance aor:zD Tryz.prog 31 [.int .i64 ((0:Int)),.slice none 0 0,.slice none 0 0,.slice none 0 0,.slice none 0 0,.int .i64 ((0:Int)),.slice none 0 0,.slice none 0 0,.slice none 0 0,.slice none 0 0,.slice none 0 0,.slice none 0 0,.slice none 0 0,.slice none 0 0] [(0,12),(12,1),(13,1)]:=⟨_,_,_,Tryz.underlying31,by kernel_rfl,yG,Ms,rfl⟩
instance aos:zD Tryz.prog 63 [.int .i64 ((0:Int)),.int .i64 ((0:Int))] [(0,1),(1,1)]:=⟨_,_,_,Tryz.underlying63,by kernel_rfl,EU,We,rfl⟩
instance aot:zD Tryz.prog 84 [.int .i64 ((0:Int)),.int .i64 ((0:Int))] [(0,1),(1,1)]:=⟨_,_,_,Tryz.underlying84,by kernel_rfl,Wh,ab1,rfl⟩
instance aou:zD Tryz.prog 91 [.slice none 0 0,.int .i64 ((0:Int)),.int .u64 ((0:Int))] [(0,1),(1,1),(2,1)]:=⟨_,_,_,Tryz.underlying91,by kernel_rfl,Wj,ab4,rfl⟩
instance amq:zD Tryz.prog 105 [.int .i64 ((0:Int)),.slice none 0 0,.slice none 0 0,.slice none 0 0,.slice none 0 0,.int .i64 ((0:Int)),.slice none 0 0,.slice none 0 0,.slice none 0 0,.slice none 0 0,.slice none 0 0,.slice none 0 0,.int .i64 ((0:Int)),.slice none 0 0,.slice none 0 0,.slice none 0 0,.slice none 0 0,.int .i64 ((0:Int)),.slice none 0 0,.slice none 0 0,.slice none 0 0,.slice none 0 0,.slice none 0 0,.slice none 0 0,.slice none 0 0] [(0,12),(12,12),(24,1)]:=⟨_,_,_,Tryz.underlying105,by kernel_rfl,Ga,SR,rfl⟩
instance amr:zD Tryz.prog 120 [.int .i64 ((0:Int)),.slice none 0 0,.slice none 0 0,.slice none 0 0,.slice none 0 0,.int .i64 ((0:Int)),.slice none 0 0,.slice none 0 0,.slice none 0 0,.slice none 0 0,.slice none 0 0,.slice none 0 0,.int .i64 ((0:Int)),.slice none 0 0,.slice none 0 0,.slice none 0 0,.slice none 0 0,.int .i64 ((0:Int)),.slice none 0 0,.slice none 0 0,.slice none 0 0,.slice none 0 0,.slice none 0 0,.slice none 0 0,.slice none 0 0,.slice none 0 0] [(0,12),(12,12),(24,1),(25,1)]:=⟨_,_,_,Tryz.underlying120,by kernel_rfl,Dl,SS,rfl⟩
instance ams:zD Tryz.prog 179 [.int .i64 ((0:Int)),.int .i64 ((0:Int)),.slice none 0 0] [(0,1),(1,1),(2,1)]:=⟨_,_,_,Tryz.underlying179,by kernel_rfl,wL,HG,rfl⟩
instance amt:zD Tryz.prog 185 [.int .i64 ((0:Int)),.slice none 0 0,.slice none 0 0,.slice none 0 0,.slice none 0 0,.int .i64 ((0:Int)),.slice none 0 0,.slice none 0 0,.slice none 0 0,.slice none 0 0,.slice none 0 0,.slice none 0 0,.int .i64 ((0:Int)),.slice none 0 0,.slice none 0 0,.slice none 0 0,.slice none 0 0,.int .i64 ((0:Int)),.slice none 0 0,.slice none 0 0,.slice none 0 0,.slice none 0 0,.slice none 0 0,.slice none 0 0,.bool (false),.int .i64 ((0:Int)),.slice none 0 0] [(0,12),(12,12),(24,1),(25,1),(26,1)]:=⟨_,_,_,Tryz.underlying185,by kernel_rfl,Uh,Zu,rfl⟩
instance aov:Vf Tryz.prog 63 .i64 .i64:=⟨_,_,Tryz.underlying63,by decide,by decide,Tryz.underlying2,Tryz.underlying2,rfl,rfl,by kernel_rfl,by kernel_rfl⟩
instance fn5:bm Tryz.prog 5:=⟨_,_,Tryz.func5,rfl,by kernel_rfl⟩
instance aow:bm Tryz.prog 15:=⟨_,_,Tryz.func15,rfl,by kernel_rfl⟩
instance aox:bm Tryz.prog 16:=⟨_,_,Tryz.func16,rfl,by kernel_rfl⟩
instance aoy:bm Tryz.prog 17:=⟨_,_,Tryz.func17,rfl,by kernel_rfl⟩
instance aoz:bm Tryz.prog 18:=⟨_,_,Tryz.func18,rfl,by kernel_rfl⟩
instance aoA:bm Tryz.prog 19:=⟨_,_,Tryz.func19,rfl,by kernel_rfl⟩
instance aoB:bm Tryz.prog 20:=⟨_,_,Tryz.func20,rfl,by kernel_rfl⟩
instance aoC:bm Tryz.prog 21:=⟨_,_,Tryz.func21,rfl,by kernel_rfl⟩
instance aoD:bm Tryz.prog 22:=⟨_,_,Tryz.func22,rfl,by kernel_rfl⟩
instance aoE:bm Tryz.prog 23:=⟨_,_,Tryz.func23,rfl,by kernel_rfl⟩
instance aoF:bm Tryz.prog 24:=⟨_,_,Tryz.func24,rfl,by kernel_rfl⟩
instance aoG:bm Tryz.prog 25:=⟨_,_,Tryz.func25,rfl,by kernel_rfl⟩
instance aoH:bm Tryz.prog 26:=⟨_,_,Tryz.func26,rfl,by kernel_rfl⟩
instance aoI:bm Tryz.prog 27:=⟨_,_,Tryz.func27,rfl,by kernel_rfl⟩
instance aoJ:bm Tryz.prog 28:=⟨_,_,Tryz.func28,rfl,by kernel_rfl⟩
instance aoK:bm Tryz.prog 29:=⟨_,_,Tryz.func29,rfl,by kernel_rfl⟩
instance aoL:bm Tryz.prog 30:=⟨_,_,Tryz.func30,rfl,by kernel_rfl⟩
instance aoM:bm Tryz.prog 31:=⟨_,_,Tryz.func31,rfl,by kernel_rfl⟩
instance aoN:bm Tryz.prog 32:=⟨_,_,Tryz.func32,rfl,by kernel_rfl⟩
instance aoO:bm Tryz.prog 33:=⟨_,_,Tryz.func33,rfl,by kernel_rfl⟩
instance aoP:bm Tryz.prog 34:=⟨_,_,Tryz.func34,rfl,by kernel_rfl⟩
instance aoQ:bm Tryz.prog 35:=⟨_,_,Tryz.func35,rfl,by kernel_rfl⟩
instance aoR:bm Tryz.prog 36:=⟨_,_,Tryz.func36,rfl,by kernel_rfl⟩
instance aoS:bm Tryz.prog 37:=⟨_,_,Tryz.func37,rfl,by kernel_rfl⟩
instance aoT:bm Tryz.prog 39:=⟨_,_,Tryz.func39,rfl,by kernel_rfl⟩
instance aoU:bm Tryz.prog 43:=⟨_,_,Tryz.func43,rfl,by kernel_rfl⟩
instance aoV:bm Tryz.prog 44:=⟨_,_,Tryz.func44,rfl,by kernel_rfl⟩
instance aoW:bm Tryz.prog 45:=⟨_,_,Tryz.func45,rfl,by kernel_rfl⟩
instance aoX:bm Tryz.prog 46:=⟨_,_,Tryz.func46,rfl,by kernel_rfl⟩
instance aoY:bm Tryz.prog 47:=⟨_,_,Tryz.func47,rfl,by kernel_rfl⟩
instance aoZ:bm Tryz.prog 48:=⟨_,_,Tryz.func48,rfl,by kernel_rfl⟩
instance ao0:bm Tryz.prog 49:=⟨_,_,Tryz.func49,rfl,by kernel_rfl⟩
instance ao1:bm Tryz.prog 50:=⟨_,_,Tryz.func50,rfl,by kernel_rfl⟩
instance ao2:bm Tryz.prog 51:=⟨_,_,Tryz.func51,rfl,by kernel_rfl⟩
instance ao3:bm Tryz.prog 52:=⟨_,_,Tryz.func52,rfl,by kernel_rfl⟩
instance ao4:bm Tryz.prog 53:=⟨_,_,Tryz.func53,rfl,by kernel_rfl⟩
instance ao5:bm Tryz.prog 54:=⟨_,_,Tryz.func54,rfl,by kernel_rfl⟩
instance ao6:bm Tryz.prog 55:=⟨_,_,Tryz.func55,rfl,by kernel_rfl⟩
instance ao7:bm Tryz.prog 56:=⟨_,_,Tryz.func56,rfl,by kernel_rfl⟩
instance ao8:bm Tryz.prog 57:=⟨_,_,Tryz.func57,rfl,by kernel_rfl⟩
instance ao9:bm Tryz.prog 58:=⟨_,_,Tryz.func58,rfl,by kernel_rfl⟩
instance apa:bm Tryz.prog 59:=⟨_,_,Tryz.func59,rfl,by kernel_rfl⟩
instance apb:bm Tryz.prog 60:=⟨_,_,Tryz.func60,rfl,by kernel_rfl⟩
instance apc:bm Tryz.prog 61:=⟨_,_,Tryz.func61,rfl,by kernel_rfl⟩
instance apd:bm Tryz.prog 62:=⟨_,_,Tryz.func62,rfl,by kernel_rfl⟩
instance ape:bm Tryz.prog 63:=⟨_,_,Tryz.func63,rfl,by kernel_rfl⟩
instance apf:bm Tryz.prog 64:=⟨_,_,Tryz.func64,rfl,by kernel_rfl⟩
instance apg:bm Tryz.prog 65:=⟨_,_,Tryz.func65,rfl,by kernel_rfl⟩
instance aph:bm Tryz.prog 66:=⟨_,_,Tryz.func66,rfl,by kernel_rfl⟩
instance apj:bm Tryz.prog 67:=⟨_,_,Tryz.func67,rfl,by kernel_rfl⟩
instance apk:bm Tryz.prog 68:=⟨_,_,Tryz.func68,rfl,by kernel_rfl⟩
instance apl:bm Tryz.prog 69:=⟨_,_,Tryz.func69,rfl,by kernel_rfl⟩
instance apn:bm Tryz.prog 70:=⟨_,_,Tryz.func70,rfl,by kernel_rfl⟩
instance apq:bm Tryz.prog 71:=⟨_,_,Tryz.func71,rfl,by kernel_rfl⟩
instance apr:bm Tryz.prog 75:=⟨_,_,Tryz.func75,rfl,by kernel_rfl⟩
instance apt:bm Tryz.prog 76:=⟨_,_,Tryz.func76,rfl,by kernel_rfl⟩
instance apu:bm Tryz.prog 77:=⟨_,_,Tryz.func77,rfl,by kernel_rfl⟩
instance apv:bm Tryz.prog 78:=⟨_,_,Tryz.func78,rfl,by kernel_rfl⟩
instance apw:bm Tryz.prog 79:=⟨_,_,Tryz.func79,rfl,by kernel_rfl⟩
instance apx:bm Tryz.prog 80:=⟨_,_,Tryz.func80,rfl,by kernel_rfl⟩
instance apy:bm Tryz.prog 81:=⟨_,_,Tryz.func81,rfl,by kernel_rfl⟩
instance apz:bm Tryz.prog 82:=⟨_,_,Tryz.func82,rfl,by kernel_rfl⟩
instance apA:bm Tryz.prog 83:=⟨_,_,Tryz.func83,rfl,by kernel_rfl⟩
instance apB:bm Tryz.prog 84:=⟨_,_,Tryz.func84,rfl,by kernel_rfl⟩
instance apC:bm Tryz.prog 85:=⟨_,_,Tryz.func85,rfl,by kernel_rfl⟩
instance apD:bm Tryz.prog 86:=⟨_,_,Tryz.func86,rfl,by kernel_rfl⟩
instance apE:bm Tryz.prog 87:=⟨_,_,Tryz.func87,rfl,by kernel_rfl⟩
instance apF:bm Tryz.prog 88:=⟨_,_,Tryz.func88,rfl,by kernel_rfl⟩
instance apG:bm Tryz.prog 89:=⟨_,_,Tryz.func89,rfl,by kernel_rfl⟩
instance apI:bm Tryz.prog 90:=⟨_,_,Tryz.func90,rfl,by kernel_rfl⟩
instance apJ:bm Tryz.prog 91:=⟨_,_,Tryz.func91,rfl,by kernel_rfl⟩
instance apK:bm Tryz.prog 92:=⟨_,_,Tryz.func92,rfl,by kernel_rfl⟩
instance apL:bm Tryz.prog 93:=⟨_,_,Tryz.func93,rfl,by kernel_rfl⟩
instance apM:bm Tryz.prog 94:=⟨_,_,Tryz.func94,rfl,by kernel_rfl⟩
instance apN:bm Tryz.prog 95:=⟨_,_,Tryz.func95,rfl,by kernel_rfl⟩
instance apP:bm Tryz.prog 96:=⟨_,_,Tryz.func96,rfl,by kernel_rfl⟩
instance apQ:bm Tryz.prog 97:=⟨_,_,Tryz.func97,rfl,by kernel_rfl⟩
instance apT:bm Tryz.prog 98:=⟨_,_,Tryz.func98,rfl,by kernel_rfl⟩
instance amu:bm Tryz.prog 105:=⟨_,_,Tryz.func105,rfl,by kernel_rfl⟩
instance amv:bm Tryz.prog 106:=⟨_,_,Tryz.func106,rfl,by kernel_rfl⟩
instance amw:bm Tryz.prog 107:=⟨_,_,Tryz.func107,rfl,by kernel_rfl⟩
instance amx:bm Tryz.prog 108:=⟨_,_,Tryz.func108,rfl,by kernel_rfl⟩
instance amy:bm Tryz.prog 109:=⟨_,_,Tryz.func109,rfl,by kernel_rfl⟩
instance amz:bm Tryz.prog 110:=⟨_,_,Tryz.func110,rfl,by kernel_rfl⟩
instance amA:bm Tryz.prog 111:=⟨_,_,Tryz.func111,rfl,by kernel_rfl⟩
instance amB:bm Tryz.prog 112:=⟨_,_,Tryz.func112,rfl,by kernel_rfl⟩
instance amC:bm Tryz.prog 113:=⟨_,_,Tryz.func113,rfl,by kernel_rfl⟩
instance amD:bm Tryz.prog 114:=⟨_,_,Tryz.func114,rfl,by kernel_rfl⟩
instance amE:bm Tryz.prog 115:=⟨_,_,Tryz.func115,rfl,by kernel_rfl⟩
instance amF:bm Tryz.prog 116:=⟨_,_,Tryz.func116,rfl,by kernel_rfl⟩
instance amG:bm Tryz.prog 117:=⟨_,_,Tryz.func117,rfl,by kernel_rfl⟩
instance amH:bm Tryz.prog 118:=⟨_,_,Tryz.func118,rfl,by kernel_rfl⟩
instance amI:bm Tryz.prog 119:=⟨_,_,Tryz.func119,rfl,by kernel_rfl⟩
instance amJ:bm Tryz.prog 120:=⟨_,_,Tryz.func120,rfl,by kernel_rfl⟩
instance amK:bm Tryz.prog 121:=⟨_,_,Tryz.func121,rfl,by kernel_rfl⟩
instance amL:bm Tryz.prog 122:=⟨_,_,Tryz.func122,rfl,by kernel_rfl⟩
instance amM:bm Tryz.prog 123:=⟨_,_,Tryz.func123,rfl,by kernel_rfl⟩
instance amN:bm Tryz.prog 124:=⟨_,_,Tryz.func124,rfl,by kernel_rfl⟩
instance amO:bm Tryz.prog 125:=⟨_,_,Tryz.func125,rfl,by kernel_rfl⟩
instance amP:bm Tryz.prog 126:=⟨_,_,Tryz.func126,rfl,by kernel_rfl⟩
instance amQ:bm Tryz.prog 127:=⟨_,_,Tryz.func127,rfl,by kernel_rfl⟩
instance amR:bm Tryz.prog 128:=⟨_,_,Tryz.func128,rfl,by kernel_rfl⟩
instance amS:bm Tryz.prog 129:=⟨_,_,Tryz.func129,rfl,by kernel_rfl⟩
instance amT:bm Tryz.prog 130:=⟨_,_,Tryz.func130,rfl,by kernel_rfl⟩
instance amU:bm Tryz.prog 131:=⟨_,_,Tryz.func131,rfl,by kernel_rfl⟩
instance amV:bm Tryz.prog 132:=⟨_,_,Tryz.func132,rfl,by kernel_rfl⟩
instance amW:bm Tryz.prog 133:=⟨_,_,Tryz.func133,rfl,by kernel_rfl⟩
instance amX:bm Tryz.prog 134:=⟨_,_,Tryz.func134,rfl,by kernel_rfl⟩
instance amY:bm Tryz.prog 135:=⟨_,_,Tryz.func135,rfl,by kernel_rfl⟩
instance amZ:bm Tryz.prog 136:=⟨_,_,Tryz.func136,rfl,by kernel_rfl⟩
instance am0:bm Tryz.prog 137:=⟨_,_,Tryz.func137,rfl,by kernel_rfl⟩
instance am1:bm Tryz.prog 138:=⟨_,_,Tryz.func138,rfl,by kernel_rfl⟩
instance am2:bm Tryz.prog 139:=⟨_,_,Tryz.func139,rfl,by kernel_rfl⟩
instance am3:bm Tryz.prog 140:=⟨_,_,Tryz.func140,rfl,by kernel_rfl⟩
instance am4:bm Tryz.prog 141:=⟨_,_,Tryz.func141,rfl,by kernel_rfl⟩
instance am5:bm Tryz.prog 142:=⟨_,_,Tryz.func142,rfl,by kernel_rfl⟩
instance am6:bm Tryz.prog 143:=⟨_,_,Tryz.func143,rfl,by kernel_rfl⟩
instance am7:bm Tryz.prog 144:=⟨_,_,Tryz.func144,rfl,by kernel_rfl⟩
instance am8:bm Tryz.prog 145:=⟨_,_,Tryz.func145,rfl,by kernel_rfl⟩
instance am9:bm Tryz.prog 146:=⟨_,_,Tryz.func146,rfl,by kernel_rfl⟩
instance ana:bm Tryz.prog 147:=⟨_,_,Tryz.func147,rfl,by kernel_rfl⟩
instance anb:bm Tryz.prog 148:=⟨_,_,Tryz.func148,rfl,by kernel_rfl⟩
instance anc:bm Tryz.prog 149:=⟨_,_,Tryz.func149,rfl,by kernel_rfl⟩
instance ane:bm Tryz.prog 150:=⟨_,_,Tryz.func150,rfl,by kernel_rfl⟩
instance anf:bm Tryz.prog 151:=⟨_,_,Tryz.func151,rfl,by kernel_rfl⟩
instance ang:bm Tryz.prog 152:=⟨_,_,Tryz.func152,rfl,by kernel_rfl⟩
instance anh:bm Tryz.prog 153:=⟨_,_,Tryz.func153,rfl,by kernel_rfl⟩
instance ani:bm Tryz.prog 154:=⟨_,_,Tryz.func154,rfl,by kernel_rfl⟩
instance anj:bm Tryz.prog 155:=⟨_,_,Tryz.func155,rfl,by kernel_rfl⟩
instance ank:bm Tryz.prog 156:=⟨_,_,Tryz.func156,rfl,by kernel_rfl⟩
instance anl:bm Tryz.prog 157:=⟨_,_,Tryz.func157,rfl,by kernel_rfl⟩
instance anm:bm Tryz.prog 158:=⟨_,_,Tryz.func158,rfl,by kernel_rfl⟩
instance ann:bm Tryz.prog 159:=⟨_,_,Tryz.func159,rfl,by kernel_rfl⟩
instance ano:bm Tryz.prog 160:=⟨_,_,Tryz.func160,rfl,by kernel_rfl⟩
instance anp:bm Tryz.prog 161:=⟨_,_,Tryz.func161,rfl,by kernel_rfl⟩
instance anq:bm Tryz.prog 162:=⟨_,_,Tryz.func162,rfl,by kernel_rfl⟩
instance anr:bm Tryz.prog 163:=⟨_,_,Tryz.func163,rfl,by kernel_rfl⟩
instance ans:bm Tryz.prog 164:=⟨_,_,Tryz.func164,rfl,by kernel_rfl⟩
instance ant:bm Tryz.prog 165:=⟨_,_,Tryz.func165,rfl,by kernel_rfl⟩
instance anu:bm Tryz.prog 166:=⟨_,_,Tryz.func166,rfl,by kernel_rfl⟩
end Go.Proofs.YtilhlobfebngdaaGreat
