/- Closed facts on types, as instances. No condition. -/
import Derived.Test.YtcnehblmgfbfoaaGreatDp
import Derived.Test.YtcnehblmgfbfoaaGreatLn
import Derived.Test.YtcnehblmgfbfoaaGreatChecked
import Derived.KernelRfl
namespace Go.Proofs.YtcnehblmgfbfoaaGreat
open Go Go.Li Go.Dk
set_option linter.unusedVariables false
set_option maxRecDepth 100000
noncomputable def i2:TypeInfo:=(Tryz.prog.info? 2).getD default
theorem wq:Tryz.prog.info? 2=some i2:=by kernel_rfl
theorem Kd:i2.size=1:=by kernel_rfl
theorem Ru:i2.size≠0:=by rw [Kd]; decide
theorem Rv:i2.zero=some (.int .i64 0):=by kernel_rfl
theorem by2:i2.bytes=8:=by kernel_rfl
noncomputable def i3:TypeInfo:=(Tryz.prog.info? 3).getD default
theorem Ot:Tryz.prog.info? 3=some i3:=by kernel_rfl
theorem V3:i3.size=1:=by kernel_rfl
theorem ne3:i3.size≠0:=by rw [V3]; decide
theorem zr3:i3.zero=some (.int .i64 0):=by kernel_rfl
theorem by3:i3.bytes=8:=by kernel_rfl
noncomputable def i4:TypeInfo:=(Tryz.prog.info? 4).getD default
theorem D7:Tryz.prog.info? 4=some i4:=by kernel_rfl
theorem Ke:i4.size=1:=by kernel_rfl
theorem ne4:i4.size≠0:=by rw [Ke]; decide
theorem V4:i4.zero=some (.bool false):=by kernel_rfl
theorem by4:i4.bytes=1:=by kernel_rfl
noncomputable def i5:TypeInfo:=(Tryz.prog.info? 5).getD default
theorem UQ:Tryz.prog.info? 5=some i5:=by kernel_rfl
theorem V5:i5.size=1:=by kernel_rfl
theorem ne5:i5.size≠0:=by rw [V5]; decide
theorem zr5:i5.zero=some (.int .u8 0):=by kernel_rfl
theorem by5:i5.bytes=1:=by kernel_rfl
noncomputable def i22:TypeInfo:=(Tryz.prog.info? 22).getD default
theorem rv:Tryz.prog.info? 22=some i22:=by kernel_rfl
theorem E4:i22.size=1:=by kernel_rfl
theorem CY:i22.size≠0:=by rw [E4]; decide
theorem Rw:i22.zero=some (.slice none 0 0):=by kernel_rfl
theorem Xi:i22.bytes=24:=by kernel_rfl
noncomputable def i23:TypeInfo:=(Tryz.prog.info? 23).getD default
theorem Kf:Tryz.prog.info? 23=some i23:=by kernel_rfl
theorem Rx:i23.size=1:=by kernel_rfl
theorem Xj:i23.size≠0:=by rw [Rx]; decide
theorem ahh:i23.zero=some (.slice none 0 0):=by kernel_rfl
theorem ahi:i23.bytes=24:=by kernel_rfl
noncomputable def i31:TypeInfo:=(Tryz.prog.info? 31).getD default
theorem xf:Tryz.prog.info? 31=some i31:=by kernel_rfl
theorem Ml:i31.size=5:=by kernel_rfl
theorem Ry:i31.size≠0:=by rw [Ml]; decide
theorem Rz:i31.zero=some (.agg #[.int .i64 ((0:Int)),.slice none 0 0,.slice none 0 0,.slice none 0 0,.slice none 0 0]):=by kernel_rfl
noncomputable def i33:TypeInfo:=(Tryz.prog.info? 33).getD default
theorem vl:Tryz.prog.info? 33=some i33:=by kernel_rfl
theorem CZ:i33.size=12:=by kernel_rfl
theorem ahj:i33.size≠0:=by rw [CZ]; decide
theorem ID:i33.zero=some (.agg #[.int .i64 ((0:Int)),.slice none 0 0,.slice none 0 0,.slice none 0 0,.slice none 0 0,.int .i64 ((0:Int)),.slice none 0 0,.slice none 0 0,.slice none 0 0,.slice none 0 0,.slice none 0 0,.slice none 0 0]):=by kernel_rfl
noncomputable def i54:TypeInfo:=(Tryz.prog.info? 54).getD default
theorem RA:Tryz.prog.info? 54=some i54:=by kernel_rfl
theorem Xk:i54.size=1:=by kernel_rfl
theorem Xl:i54.size≠0:=by rw [Xk]; decide
theorem ahk:i54.zero=some (.slice none 0 0):=by kernel_rfl
theorem ahl:i54.bytes=24:=by kernel_rfl
noncomputable def i103:TypeInfo:=(Tryz.prog.info? 103).getD default
theorem Hq:Tryz.prog.info? 103=some i103:=by kernel_rfl
theorem IE:i103.size=1:=by kernel_rfl
theorem afu:i103.size≠0:=by rw [IE]; decide
theorem UR:i103.zero=some (.pointer none):=by kernel_rfl
theorem afv:i103.bytes=8:=by kernel_rfl
noncomputable def i120:TypeInfo:=(Tryz.prog.info? 120).getD default
theorem Hr:Tryz.prog.info? 120=some i120:=by kernel_rfl
theorem IF:i120.size=1:=by kernel_rfl
theorem afw:i120.size≠0:=by rw [IF]; decide
theorem US:i120.zero=some (.pointer none):=by kernel_rfl
theorem afx:i120.bytes=8:=by kernel_rfl
noncomputable def i192:TypeInfo:=(Tryz.prog.info? 192).getD default
theorem Hs:Tryz.prog.info? 192=some i192:=by kernel_rfl
theorem Ou:i192.size=1:=by kernel_rfl
theorem UT:i192.size≠0:=by rw [Ou]; decide
theorem afy:i192.zero=some (.int .u64 0):=by kernel_rfl
theorem afz:i192.bytes=8:=by kernel_rfl
noncomputable def i194:TypeInfo:=(Tryz.prog.info? 194).getD default
theorem PD:Tryz.prog.info? 194=some i194:=by kernel_rfl
theorem UU:i194.size=3:=by kernel_rfl
theorem afA:i194.size≠0:=by rw [UU]; decide
theorem UW:i194.zero=some (.agg #[.slice none 0 0,.int .i64 ((0:Int)),.int .u64 ((0:Int))]):=by kernel_rfl
noncomputable def i257:TypeInfo:=(Tryz.prog.info? 257).getD default
theorem Aa:Tryz.prog.info? 257=some i257:=by kernel_rfl
theorem IG:i257.size=2:=by kernel_rfl
theorem afB:i257.size≠0:=by rw [IG]; decide
theorem Ov:i257.zero=some (.agg #[.int .i64 ((0:Int)),.int .i64 ((0:Int))]):=by kernel_rfl
noncomputable def i288:TypeInfo:=(Tryz.prog.info? 288).getD default
theorem th:Tryz.prog.info? 288=some i288:=by kernel_rfl
theorem Ab:i288.size=3:=by kernel_rfl
theorem afC:i288.size≠0:=by rw [Ab]; decide
theorem D8:i288.zero=some (.agg #[.int .i64 ((0:Int)),.int .i64 ((0:Int)),.slice none 0 0]):=by kernel_rfl
instance lk2:LK Tryz.prog 2 none:=⟨_,Tryz.underlying2,rfl⟩
instance lk3:LK Tryz.prog 3 none:=⟨_,Tryz.underlying3,rfl⟩
instance lk4:LK Tryz.prog 4 none:=⟨_,Tryz.underlying4,rfl⟩
instance lk5:LK Tryz.prog 5 none:=⟨_,Tryz.underlying5,rfl⟩
instance ahm:LK Tryz.prog 22 none:=⟨_,Tryz.underlying22,rfl⟩
instance ahn:LK Tryz.prog 23 none:=⟨_,Tryz.underlying23,rfl⟩
instance aho:LK Tryz.prog 31 (some 5):=⟨_,_,Tryz.underlying31,rfl,xf,Ml⟩
instance ahp:LK Tryz.prog 33 (some 12):=⟨_,_,Tryz.underlying33,rfl,vl,CZ⟩
instance ahq:LK Tryz.prog 54 none:=⟨_,Tryz.underlying54,rfl⟩
instance afD:LK Tryz.prog 103 none:=⟨_,Tryz.underlying103,rfl⟩
instance afE:LK Tryz.prog 120 none:=⟨_,Tryz.underlying120,rfl⟩
instance afF:LK Tryz.prog 192 none:=⟨_,Tryz.underlying192,rfl⟩
instance afG:LK Tryz.prog 257 (some 2):=⟨_,_,Tryz.underlying257,rfl,Aa,IG⟩
instance afH:LK Tryz.prog 288 (some 3):=⟨_,_,Tryz.underlying288,rfl,th,Ab⟩
instance ahr:we Tryz.prog 22:=⟨_,_,Tryz.underlying22,wq,Kd⟩
instance ahs:Hc Tryz.prog 22 2:=⟨Tryz.underlying22,_,_,wq,Rv,Kd⟩
instance aht:qY Tryz.prog 22 Int 2 (aL .i64) 0 8:=⟨Tryz.underlying22,rfl,_,_,wq,Rv,Kd,rfl,by2,fun _=>⟨rfl,rfl⟩⟩
instance ahu:we Tryz.prog 23:=⟨_,_,Tryz.underlying23,rv,E4⟩
instance ahv:Hc Tryz.prog 23 22:=⟨Tryz.underlying23,_,_,rv,Rw,E4⟩
instance ahw:qY Tryz.prog 23 (List Int) 22 (aI 2 (aL .i64)) [] 24:=⟨Tryz.underlying23,rfl,_,_,rv,Rw,E4,rfl,Xi,fun _=>CP⟩
instance ahx:we Tryz.prog 54:=⟨_,_,Tryz.underlying54,UQ,V5⟩
instance ahy:El Tryz.prog 72 12:=⟨_,_,Tryz.underlying72,vl,CZ⟩
instance ahz:Of Tryz.prog 72 33 12:=⟨Tryz.underlying72,_,_,vl,ID,CZ,by decide⟩
theorem Xm:i33.bytes=256:=by kernel_rfl
instance ahA:yU Tryz.prog 72 33 12 256:=⟨Tryz.underlying72,_,_,vl,ID,rfl,CZ,Xm,by decide⟩
instance afI:we Tryz.prog 199:=⟨_,_,Tryz.underlying199,Hr,IF⟩
instance afJ:Hb Tryz.prog 199 120:=⟨Tryz.underlying199,_,_,Hr,US,IF⟩
instance afK:we Tryz.prog 210:=⟨_,_,Tryz.underlying210,D7,Ke⟩
instance afL:Hc Tryz.prog 210 4:=⟨Tryz.underlying210,_,_,D7,V4,Ke⟩
instance afM:qY Tryz.prog 210 Bool 4 pQ false 1:=⟨Tryz.underlying210,rfl,_,_,D7,V4,Ke,rfl,by4,fun _=>⟨rfl,rfl⟩⟩
instance afN:we Tryz.prog 265:=⟨_,_,Tryz.underlying265,Hq,IE⟩
instance afO:Hb Tryz.prog 265 103:=⟨Tryz.underlying265,_,_,Hq,UR,IE⟩
instance afP:El Tryz.prog 285 3:=⟨_,_,Tryz.underlying285,th,Ab⟩
instance afQ:Of Tryz.prog 285 288 3:=⟨Tryz.underlying285,_,_,th,D8,Ab,by decide⟩
theorem UX:i288.bytes=40:=by kernel_rfl
instance afR:yU Tryz.prog 285 288 3 40:=⟨Tryz.underlying285,_,_,th,D8,rfl,Ab,UX,by decide⟩
instance so2:u9 Tryz.prog 2 1:=⟨_,wq,Kd⟩
instance so3:u9 Tryz.prog 3 1:=⟨_,Ot,V3⟩
instance so4:u9 Tryz.prog 4 1:=⟨_,D7,Ke⟩
instance ahB:u9 Tryz.prog 22 1:=⟨_,rv,E4⟩
instance ahC:u9 Tryz.prog 23 1:=⟨_,Kf,Rx⟩
instance ahD:u9 Tryz.prog 31 5:=⟨_,xf,Ml⟩
instance ahE:u9 Tryz.prog 33 12:=⟨_,vl,CZ⟩
instance afS:u9 Tryz.prog 192 1:=⟨_,Hs,Ou⟩
instance afT:u9 Tryz.prog 257 2:=⟨_,Aa,IG⟩
instance afU:u9 Tryz.prog 288 3:=⟨_,th,Ab⟩
instance zv2:BG Tryz.prog 2 [.int .i64 0]:=⟨_,_,wq,Rv,rfl⟩
instance ahF:BG Tryz.prog 31 [.int .i64 ((0:Int)),.slice none 0 0,.slice none 0 0,.slice none 0 0,.slice none 0 0]:=⟨_,_,xf,Rz,rfl⟩
instance ahG:BG Tryz.prog 33 [.int .i64 ((0:Int)),.slice none 0 0,.slice none 0 0,.slice none 0 0,.slice none 0 0,.int .i64 ((0:Int)),.slice none 0 0,.slice none 0 0,.slice none 0 0,.slice none 0 0,.slice none 0 0,.slice none 0 0]:=⟨_,_,vl,ID,rfl⟩
instance afV:BG Tryz.prog 257 [.int .i64 ((0:Int)),.int .i64 ((0:Int))]:=⟨_,_,Aa,Ov,rfl⟩
instance afW:BG Tryz.prog 288 [.int .i64 ((0:Int)),.int .i64 ((0:Int)),.slice none 0 0]:=⟨_,_,th,D8,rfl⟩
instance acC:tK Tryz.prog 31 0 0:=⟨_,_,_,Tryz.underlying31,rfl,wq,Ru,rfl⟩
instance acD:tK Tryz.prog 31 1 1:=⟨_,_,_,Tryz.underlying31,rfl,rv,CY,rfl⟩
instance acE:tK Tryz.prog 31 2 2:=⟨_,_,_,Tryz.underlying31,rfl,rv,CY,rfl⟩
instance acF:tK Tryz.prog 31 3 3:=⟨_,_,_,Tryz.underlying31,rfl,rv,CY,rfl⟩
instance acG:tK Tryz.prog 31 4 4:=⟨_,_,_,Tryz.underlying31,rfl,Kf,Xj,rfl⟩
instance acH:tK Tryz.prog 33 0 0:=⟨_,_,_,Tryz.underlying33,rfl,xf,Ry,rfl⟩
instance acI:tK Tryz.prog 33 1 5:=⟨_,_,_,Tryz.underlying33,rfl,xf,Ry,rfl⟩
instance acJ:tK Tryz.prog 33 2 10:=⟨_,_,_,Tryz.underlying33,rfl,rv,CY,rfl⟩
instance acK:tK Tryz.prog 33 3 11:=⟨_,_,_,Tryz.underlying33,rfl,rv,CY,rfl⟩
instance aaN:tK Tryz.prog 194 0 0:=⟨_,_,_,Tryz.underlying194,rfl,RA,Xl,rfl⟩
instance aaO:tK Tryz.prog 194 1 1:=⟨_,_,_,Tryz.underlying194,rfl,Ot,ne3,rfl⟩
instance aaP:tK Tryz.prog 194 2 2:=⟨_,_,_,Tryz.underlying194,rfl,Hs,UT,rfl⟩
instance aaQ:tK Tryz.prog 288 0 0:=⟨_,_,_,Tryz.underlying288,rfl,wq,Ru,rfl⟩
instance aaR:tK Tryz.prog 288 1 1:=⟨_,_,_,Tryz.underlying288,rfl,wq,Ru,rfl⟩
instance aaS:tK Tryz.prog 288 2 2:=⟨_,_,_,Tryz.underlying288,rfl,rv,CY,rfl⟩
instance Xn:Hg Tryz.prog 3 192 .u64:=⟨by rw [Tryz.underlying3]; rfl,Tryz.underlying192⟩
instance acL:Hg Tryz.prog 5 2 .i64:=⟨by rw [Tryz.underlying5]; rfl,Tryz.underlying2⟩
instance Xo:Hg Tryz.prog 5 192 .u64:=⟨by rw [Tryz.underlying5]; rfl,Tryz.underlying192⟩
instance Xp:Hg Tryz.prog 192 2 .i64:=⟨by rw [Tryz.underlying192]; rfl,Tryz.underlying2⟩
instance ahH:BH Tryz.prog 31 [.int .i64 ((0:Int)),.slice none 0 0,.slice none 0 0,.slice none 0 0,.slice none 0 0] [(0,1),(1,1),(2,1),(3,1),(4,1)]:=⟨_,_,_,Tryz.underlying31,by kernel_rfl,xf,Rz,rfl⟩
instance ahI:BH Tryz.prog 33 [.int .i64 ((0:Int)),.slice none 0 0,.slice none 0 0,.slice none 0 0,.slice none 0 0,.int .i64 ((0:Int)),.slice none 0 0,.slice none 0 0,.slice none 0 0,.slice none 0 0,.slice none 0 0,.slice none 0 0] [(0,5),(5,5),(10,1),(11,1)]:=⟨_,_,_,Tryz.underlying33,by kernel_rfl,vl,ID,rfl⟩
instance afX:BH Tryz.prog 194 [.slice none 0 0,.int .i64 ((0:Int)),.int .u64 ((0:Int))] [(0,1),(1,1),(2,1)]:=⟨_,_,_,Tryz.underlying194,by kernel_rfl,PD,UW,rfl⟩
instance afY:BH Tryz.prog 257 [.int .i64 ((0:Int)),.int .i64 ((0:Int))] [(0,1),(1,1)]:=⟨_,_,_,Tryz.underlying257,by kernel_rfl,Aa,Ov,rfl⟩
instance afZ:BH Tryz.prog 288 [.int .i64 ((0:Int)),.int .i64 ((0:Int)),.slice none 0 0] [(0,1),(1,1),(2,1)]:=⟨_,_,_,Tryz.underlying288,by kernel_rfl,th,D8,rfl⟩
instance af0:QB Tryz.prog 257 .i64 .i64:=⟨_,_,Tryz.underlying257,by decide,by decide,Tryz.underlying2,Tryz.underlying2,rfl,rfl,by kernel_rfl,by kernel_rfl⟩
instance ahJ:bo Tryz.prog 22:=⟨_,_,Tryz.func22,rfl,by kernel_rfl⟩
instance ahK:bo Tryz.prog 23:=⟨_,_,Tryz.func23,rfl,by kernel_rfl⟩
instance ahL:bo Tryz.prog 24:=⟨_,_,Tryz.func24,rfl,by kernel_rfl⟩
instance ahM:bo Tryz.prog 25:=⟨_,_,Tryz.func25,rfl,by kernel_rfl⟩
instance ahN:bo Tryz.prog 26:=⟨_,_,Tryz.func26,rfl,by kernel_rfl⟩
instance ahO:bo Tryz.prog 27:=⟨_,_,Tryz.func27,rfl,by kernel_rfl⟩
instance ahP:bo Tryz.prog 28:=⟨_,_,Tryz.func28,rfl,by kernel_rfl⟩
instance ahQ:bo Tryz.prog 29:=⟨_,_,Tryz.func29,rfl,by kernel_rfl⟩
instance ahR:bo Tryz.prog 30:=⟨_,_,Tryz.func30,rfl,by kernel_rfl⟩
instance ahS:bo Tryz.prog 31:=⟨_,_,Tryz.func31,rfl,by kernel_rfl⟩
instance ahT:bo Tryz.prog 32:=⟨_,_,Tryz.func32,rfl,by kernel_rfl⟩
instance ahU:bo Tryz.prog 33:=⟨_,_,Tryz.func33,rfl,by kernel_rfl⟩
instance ahV:bo Tryz.prog 34:=⟨_,_,Tryz.func34,rfl,by kernel_rfl⟩
instance ahW:bo Tryz.prog 35:=⟨_,_,Tryz.func35,rfl,by kernel_rfl⟩
instance ahX:bo Tryz.prog 36:=⟨_,_,Tryz.func36,rfl,by kernel_rfl⟩
instance ahY:bo Tryz.prog 59:=⟨_,_,Tryz.func59,rfl,by kernel_rfl⟩
instance ahZ:bo Tryz.prog 67:=⟨_,_,Tryz.func67,rfl,by kernel_rfl⟩
instance ah0:bo Tryz.prog 79:=⟨_,_,Tryz.func79,rfl,by kernel_rfl⟩
instance ah1:bo Tryz.prog 80:=⟨_,_,Tryz.func80,rfl,by kernel_rfl⟩
instance ah2:bo Tryz.prog 81:=⟨_,_,Tryz.func81,rfl,by kernel_rfl⟩
instance ah3:bo Tryz.prog 82:=⟨_,_,Tryz.func82,rfl,by kernel_rfl⟩
instance ah4:bo Tryz.prog 83:=⟨_,_,Tryz.func83,rfl,by kernel_rfl⟩
instance ah5:bo Tryz.prog 84:=⟨_,_,Tryz.func84,rfl,by kernel_rfl⟩
instance ah6:bo Tryz.prog 85:=⟨_,_,Tryz.func85,rfl,by kernel_rfl⟩
instance ah7:bo Tryz.prog 86:=⟨_,_,Tryz.func86,rfl,by kernel_rfl⟩
instance ah8:bo Tryz.prog 87:=⟨_,_,Tryz.func87,rfl,by kernel_rfl⟩
instance ah9:bo Tryz.prog 88:=⟨_,_,Tryz.func88,rfl,by kernel_rfl⟩
instance aia:bo Tryz.prog 89:=⟨_,_,Tryz.func89,rfl,by kernel_rfl⟩
instance aib:bo Tryz.prog 90:=⟨_,_,Tryz.func90,rfl,by kernel_rfl⟩
instance aic:bo Tryz.prog 91:=⟨_,_,Tryz.func91,rfl,by kernel_rfl⟩
instance aid:bo Tryz.prog 92:=⟨_,_,Tryz.func92,rfl,by kernel_rfl⟩
instance aie:bo Tryz.prog 93:=⟨_,_,Tryz.func93,rfl,by kernel_rfl⟩
instance aif:bo Tryz.prog 94:=⟨_,_,Tryz.func94,rfl,by kernel_rfl⟩
instance aih:bo Tryz.prog 95:=⟨_,_,Tryz.func95,rfl,by kernel_rfl⟩
instance aii:bo Tryz.prog 96:=⟨_,_,Tryz.func96,rfl,by kernel_rfl⟩
instance aij:bo Tryz.prog 97:=⟨_,_,Tryz.func97,rfl,by kernel_rfl⟩
instance aik:bo Tryz.prog 98:=⟨_,_,Tryz.func98,rfl,by kernel_rfl⟩
instance ail:bo Tryz.prog 99:=⟨_,_,Tryz.func99,rfl,by kernel_rfl⟩
instance af1:bo Tryz.prog 100:=⟨_,_,Tryz.func100,rfl,by kernel_rfl⟩
instance af2:bo Tryz.prog 101:=⟨_,_,Tryz.func101,rfl,by kernel_rfl⟩
instance af3:bo Tryz.prog 102:=⟨_,_,Tryz.func102,rfl,by kernel_rfl⟩
instance af4:bo Tryz.prog 103:=⟨_,_,Tryz.func103,rfl,by kernel_rfl⟩
instance af5:bo Tryz.prog 104:=⟨_,_,Tryz.func104,rfl,by kernel_rfl⟩
instance af6:bo Tryz.prog 105:=⟨_,_,Tryz.func105,rfl,by kernel_rfl⟩
instance af7:bo Tryz.prog 106:=⟨_,_,Tryz.func106,rfl,by kernel_rfl⟩
instance af8:bo Tryz.prog 107:=⟨_,_,Tryz.func107,rfl,by kernel_rfl⟩
instance af9:bo Tryz.prog 108:=⟨_,_,Tryz.func108,rfl,by kernel_rfl⟩
instance aga:bo Tryz.prog 109:=⟨_,_,Tryz.func109,rfl,by kernel_rfl⟩
instance agb:bo Tryz.prog 119:=⟨_,_,Tryz.func119,rfl,by kernel_rfl⟩
instance agc:bo Tryz.prog 123:=⟨_,_,Tryz.func123,rfl,by kernel_rfl⟩
instance agd:bo Tryz.prog 137:=⟨_,_,Tryz.func137,rfl,by kernel_rfl⟩
instance age:bo Tryz.prog 138:=⟨_,_,Tryz.func138,rfl,by kernel_rfl⟩
instance agf:bo Tryz.prog 161:=⟨_,_,Tryz.func161,rfl,by kernel_rfl⟩
instance agh:bo Tryz.prog 162:=⟨_,_,Tryz.func162,rfl,by kernel_rfl⟩
instance agi:bo Tryz.prog 163:=⟨_,_,Tryz.func163,rfl,by kernel_rfl⟩
instance agj:bo Tryz.prog 164:=⟨_,_,Tryz.func164,rfl,by kernel_rfl⟩
instance agk:bo Tryz.prog 165:=⟨_,_,Tryz.func165,rfl,by kernel_rfl⟩
instance agl:bo Tryz.prog 166:=⟨_,_,Tryz.func166,rfl,by kernel_rfl⟩
instance agm:bo Tryz.prog 167:=⟨_,_,Tryz.func167,rfl,by kernel_rfl⟩
instance agn:bo Tryz.prog 168:=⟨_,_,Tryz.func168,rfl,by kernel_rfl⟩
instance ago:bo Tryz.prog 169:=⟨_,_,Tryz.func169,rfl,by kernel_rfl⟩
instance agp:bo Tryz.prog 170:=⟨_,_,Tryz.func170,rfl,by kernel_rfl⟩
instance agq:bo Tryz.prog 171:=⟨_,_,Tryz.func171,rfl,by kernel_rfl⟩
instance ags:bo Tryz.prog 172:=⟨_,_,Tryz.func172,rfl,by kernel_rfl⟩
instance agt:bo Tryz.prog 173:=⟨_,_,Tryz.func173,rfl,by kernel_rfl⟩
instance agu:bo Tryz.prog 174:=⟨_,_,Tryz.func174,rfl,by kernel_rfl⟩
instance agv:bo Tryz.prog 175:=⟨_,_,Tryz.func175,rfl,by kernel_rfl⟩
instance agw:bo Tryz.prog 176:=⟨_,_,Tryz.func176,rfl,by kernel_rfl⟩
instance agx:bo Tryz.prog 177:=⟨_,_,Tryz.func177,rfl,by kernel_rfl⟩
instance agy:bo Tryz.prog 178:=⟨_,_,Tryz.func178,rfl,by kernel_rfl⟩
instance agz:bo Tryz.prog 179:=⟨_,_,Tryz.func179,rfl,by kernel_rfl⟩
instance agA:bo Tryz.prog 180:=⟨_,_,Tryz.func180,rfl,by kernel_rfl⟩
instance agB:bo Tryz.prog 181:=⟨_,_,Tryz.func181,rfl,by kernel_rfl⟩
instance agC:bo Tryz.prog 182:=⟨_,_,Tryz.func182,rfl,by kernel_rfl⟩
instance agD:bo Tryz.prog 183:=⟨_,_,Tryz.func183,rfl,by kernel_rfl⟩
instance agE:bo Tryz.prog 196:=⟨_,_,Tryz.func196,rfl,by kernel_rfl⟩
instance agF:bo Tryz.prog 198:=⟨_,_,Tryz.func198,rfl,by kernel_rfl⟩
instance agG:bo Tryz.prog 201:=⟨_,_,Tryz.func201,rfl,by kernel_rfl⟩
instance agH:bo Tryz.prog 211:=⟨_,_,Tryz.func211,rfl,by kernel_rfl⟩
instance agI:bo Tryz.prog 236:=⟨_,_,Tryz.func236,rfl,by kernel_rfl⟩
instance agJ:bo Tryz.prog 245:=⟨_,_,Tryz.func245,rfl,by kernel_rfl⟩
instance agK:bo Tryz.prog 247:=⟨_,_,Tryz.func247,rfl,by kernel_rfl⟩
instance agL:bo Tryz.prog 248:=⟨_,_,Tryz.func248,rfl,by kernel_rfl⟩
instance agM:bo Tryz.prog 249:=⟨_,_,Tryz.func249,rfl,by kernel_rfl⟩
instance agN:bo Tryz.prog 250:=⟨_,_,Tryz.func250,rfl,by kernel_rfl⟩
instance agO:bo Tryz.prog 251:=⟨_,_,Tryz.func251,rfl,by kernel_rfl⟩
instance agP:bo Tryz.prog 252:=⟨_,_,Tryz.func252,rfl,by kernel_rfl⟩
instance agQ:bo Tryz.prog 253:=⟨_,_,Tryz.func253,rfl,by kernel_rfl⟩
instance agR:bo Tryz.prog 254:=⟨_,_,Tryz.func254,rfl,by kernel_rfl⟩
instance agS:bo Tryz.prog 255:=⟨_,_,Tryz.func255,rfl,by kernel_rfl⟩
instance agT:bo Tryz.prog 256:=⟨_,_,Tryz.func256,rfl,by kernel_rfl⟩
instance agU:bo Tryz.prog 257:=⟨_,_,Tryz.func257,rfl,by kernel_rfl⟩
instance agV:bo Tryz.prog 258:=⟨_,_,Tryz.func258,rfl,by kernel_rfl⟩
instance agW:bo Tryz.prog 259:=⟨_,_,Tryz.func259,rfl,by kernel_rfl⟩
instance agX:bo Tryz.prog 260:=⟨_,_,Tryz.func260,rfl,by kernel_rfl⟩
instance agY:bo Tryz.prog 261:=⟨_,_,Tryz.func261,rfl,by kernel_rfl⟩
instance agZ:bo Tryz.prog 267:=⟨_,_,Tryz.func267,rfl,by kernel_rfl⟩
instance ag0:bo Tryz.prog 268:=⟨_,_,Tryz.func268,rfl,by kernel_rfl⟩
instance ag1:bo Tryz.prog 281:=⟨_,_,Tryz.func281,rfl,by kernel_rfl⟩
instance ag2:bo Tryz.prog 282:=⟨_,_,Tryz.func282,rfl,by kernel_rfl⟩
instance ag3:bo Tryz.prog 290:=⟨_,_,Tryz.func290,rfl,by kernel_rfl⟩
instance ag4:bo Tryz.prog 294:=⟨_,_,Tryz.func294,rfl,by kernel_rfl⟩
end Go.Proofs.YtcnehblmgfbfoaaGreat
