/- Closed facts on types, as instances. No condition. -/
import Derived.Test.YtkcpiblgpnjanaaGreatDp
import Derived.Test.YtkcpiblgpnjanaaGreatLn
import Derived.Test.YtkcpiblgpnjanaaGreatChecked
import Derived.KernelRfl
namespace Go.Proofs.YtkcpiblgpnjanaaGreat
open Go Go.Li Go.Dk
set_option linter.unusedVariables false
set_option maxRecDepth 100000
noncomputable def i2:TypeInfo:=(Tryz.prog.info? 2).getD default
theorem zS:Tryz.prog.info? 2=some i2:=by kernel_rfl
theorem ME:i2.size=1:=by kernel_rfl
theorem Ux:i2.size≠0:=by rw [ME]; decide
theorem YF:i2.zero=some (.int .i64 0):=by kernel_rfl
theorem by2:i2.bytes=8:=by kernel_rfl
noncomputable def i3:TypeInfo:=(Tryz.prog.info? 3).getD default
theorem Kv:Tryz.prog.info? 3=some i3:=by kernel_rfl
theorem YG:i3.size=1:=by kernel_rfl
theorem YH:i3.size≠0:=by rw [YG]; decide
theorem zr3:i3.zero=some (.int .i64 0):=by kernel_rfl
theorem by3:i3.bytes=8:=by kernel_rfl
noncomputable def i4:TypeInfo:=(Tryz.prog.info? 4).getD default
theorem Xv:Tryz.prog.info? 4=some i4:=by kernel_rfl
theorem sz4:i4.size=1:=by kernel_rfl
theorem ne4:i4.size≠0:=by rw [sz4]; decide
theorem zr4:i4.zero=some (.bool false):=by kernel_rfl
theorem by4:i4.bytes=1:=by kernel_rfl
noncomputable def i5:TypeInfo:=(Tryz.prog.info? 5).getD default
theorem Xw:Tryz.prog.info? 5=some i5:=by kernel_rfl
theorem YI:i5.size=1:=by kernel_rfl
theorem ne5:i5.size≠0:=by rw [YI]; decide
theorem zr5:i5.zero=some (.int .u8 0):=by kernel_rfl
theorem by5:i5.bytes=1:=by kernel_rfl
noncomputable def i22:TypeInfo:=(Tryz.prog.info? 22).getD default
theorem Uy:Tryz.prog.info? 22=some i22:=by kernel_rfl
theorem Z6:i22.size=1:=by kernel_rfl
theorem Z7:i22.size≠0:=by rw [Z6]; decide
theorem alh:i22.zero=some (.slice none 0 0):=by kernel_rfl
theorem ali:i22.bytes=24:=by kernel_rfl
noncomputable def i24:TypeInfo:=(Tryz.prog.info? 24).getD default
theorem r3:Tryz.prog.info? 24=some i24:=by kernel_rfl
theorem G7:i24.size=1:=by kernel_rfl
theorem CQ:i24.size≠0:=by rw [G7]; decide
theorem Pj:i24.zero=some (.slice none 0 0):=by kernel_rfl
theorem Z8:i24.bytes=24:=by kernel_rfl
noncomputable def i25:TypeInfo:=(Tryz.prog.info? 25).getD default
theorem Dz:Tryz.prog.info? 25=some i25:=by kernel_rfl
theorem Uz:i25.size=1:=by kernel_rfl
theorem UA:i25.size≠0:=by rw [Uz]; decide
theorem Z9:i25.zero=some (.slice none 0 0):=by kernel_rfl
theorem alj:i25.bytes=24:=by kernel_rfl
noncomputable def i27:TypeInfo:=(Tryz.prog.info? 27).getD default
theorem yV:Tryz.prog.info? 27=some i27:=by kernel_rfl
theorem Pk:i27.size=5:=by kernel_rfl
theorem UB:i27.size≠0:=by rw [Pk]; decide
theorem UC:i27.zero=some (.agg #[.int .i64 ((0:Int)),.slice none 0 0,.slice none 0 0,.slice none 0 0,.slice none 0 0]):=by kernel_rfl
noncomputable def i29:TypeInfo:=(Tryz.prog.info? 29).getD default
theorem sB:Tryz.prog.info? 29=some i29:=by kernel_rfl
theorem Ez:i29.size=12:=by kernel_rfl
theorem Kw:i29.size≠0:=by rw [Ez]; decide
theorem Kx:i29.zero=some (.agg #[.int .i64 ((0:Int)),.slice none 0 0,.slice none 0 0,.slice none 0 0,.slice none 0 0,.int .i64 ((0:Int)),.slice none 0 0,.slice none 0 0,.slice none 0 0,.slice none 0 0,.slice none 0 0,.slice none 0 0]):=by kernel_rfl
noncomputable def i40:TypeInfo:=(Tryz.prog.info? 40).getD default
theorem DA:Tryz.prog.info? 40=some i40:=by kernel_rfl
theorem Pl:i40.size=25:=by kernel_rfl
theorem alk:i40.size≠0:=by rw [Pl]; decide
theorem UD:i40.zero=some (.agg #[.int .i64 ((0:Int)),.slice none 0 0,.slice none 0 0,.slice none 0 0,.slice none 0 0,.int .i64 ((0:Int)),.slice none 0 0,.slice none 0 0,.slice none 0 0,.slice none 0 0,.slice none 0 0,.slice none 0 0,.int .i64 ((0:Int)),.slice none 0 0,.slice none 0 0,.slice none 0 0,.slice none 0 0,.int .i64 ((0:Int)),.slice none 0 0,.slice none 0 0,.slice none 0 0,.slice none 0 0,.slice none 0 0,.slice none 0 0,.slice none 0 0]):=by kernel_rfl
noncomputable def i80:TypeInfo:=(Tryz.prog.info? 80).getD default
theorem MG:Tryz.prog.info? 80=some i80:=by kernel_rfl
theorem Pm:i80.size=1:=by kernel_rfl
theorem alm:i80.size≠0:=by rw [Pm]; decide
theorem aaa:i80.zero=some (.pointer none):=by kernel_rfl
theorem aln:i80.bytes=8:=by kernel_rfl
noncomputable def i91:TypeInfo:=(Tryz.prog.info? 91).getD default
theorem MH:Tryz.prog.info? 91=some i91:=by kernel_rfl
theorem Pn:i91.size=1:=by kernel_rfl
theorem alo:i91.size≠0:=by rw [Pn]; decide
theorem aab:i91.zero=some (.pointer none):=by kernel_rfl
theorem alp:i91.bytes=8:=by kernel_rfl
noncomputable def i107:TypeInfo:=(Tryz.prog.info? 107).getD default
theorem B0:Tryz.prog.info? 107=some i107:=by kernel_rfl
theorem F8:i107.size=1:=by kernel_rfl
theorem ai7:i107.size≠0:=by rw [F8]; decide
theorem Rj:i107.zero=some (.pointer none):=by kernel_rfl
theorem ai8:i107.bytes=8:=by kernel_rfl
noncomputable def i140:TypeInfo:=(Tryz.prog.info? 140).getD default
theorem Jo:Tryz.prog.info? 140=some i140:=by kernel_rfl
theorem Rk:i140.size=1:=by kernel_rfl
theorem Xx:i140.size≠0:=by rw [Rk]; decide
theorem ai9:i140.zero=some (.int .u64 0):=by kernel_rfl
theorem aja:i140.bytes=8:=by kernel_rfl
noncomputable def i142:TypeInfo:=(Tryz.prog.info? 142).getD default
theorem SC:Tryz.prog.info? 142=some i142:=by kernel_rfl
theorem Xy:i142.size=3:=by kernel_rfl
theorem ajb:i142.size≠0:=by rw [Xy]; decide
theorem Xz:i142.zero=some (.agg #[.slice none 0 0,.int .i64 ((0:Int)),.int .u64 ((0:Int))]):=by kernel_rfl
noncomputable def i144:TypeInfo:=(Tryz.prog.info? 144).getD default
theorem Jp:Tryz.prog.info? 144=some i144:=by kernel_rfl
theorem Rm:i144.size=1:=by kernel_rfl
theorem ajc:i144.size≠0:=by rw [Rm]; decide
theorem XA:i144.zero=some (.nilFunc):=by kernel_rfl
theorem ajd:i144.bytes=8:=by kernel_rfl
noncomputable def i146:TypeInfo:=(Tryz.prog.info? 146).getD default
theorem adF:Tryz.prog.info? 146=some i146:=by kernel_rfl
theorem XB:i146.size=1:=by kernel_rfl
theorem aje:i146.size≠0:=by rw [XB]; decide
theorem ajf:i146.zero=some (.nilFunc):=by kernel_rfl
theorem ajg:i146.bytes=8:=by kernel_rfl
noncomputable def i150:TypeInfo:=(Tryz.prog.info? 150).getD default
theorem SD:Tryz.prog.info? 150=some i150:=by kernel_rfl
theorem XC:i150.size=27:=by kernel_rfl
theorem ajh:i150.size≠0:=by rw [XC]; decide
theorem XD:i150.zero=some (.agg #[.int .i64 ((0:Int)),.slice none 0 0,.slice none 0 0,.slice none 0 0,.slice none 0 0,.int .i64 ((0:Int)),.slice none 0 0,.slice none 0 0,.slice none 0 0,.slice none 0 0,.slice none 0 0,.slice none 0 0,.int .i64 ((0:Int)),.slice none 0 0,.slice none 0 0,.slice none 0 0,.slice none 0 0,.int .i64 ((0:Int)),.slice none 0 0,.slice none 0 0,.slice none 0 0,.slice none 0 0,.slice none 0 0,.slice none 0 0,.bool (false),.int .i64 ((0:Int)),.slice none 0 0]):=by kernel_rfl
noncomputable def i201:TypeInfo:=(Tryz.prog.info? 201).getD default
theorem B3:Tryz.prog.info? 201=some i201:=by kernel_rfl
theorem Kz:i201.size=2:=by kernel_rfl
theorem aji:i201.size≠0:=by rw [Kz]; decide
theorem Ro:i201.zero=some (.agg #[.int .i64 ((0:Int)),.int .i64 ((0:Int))]):=by kernel_rfl
noncomputable def i242:TypeInfo:=(Tryz.prog.info? 242).getD default
theorem u3:Tryz.prog.info? 242=some i242:=by kernel_rfl
theorem B4:i242.size=3:=by kernel_rfl
theorem ajj:i242.size≠0:=by rw [B4]; decide
theorem F9:i242.zero=some (.agg #[.int .i64 ((0:Int)),.int .i64 ((0:Int)),.slice none 0 0]):=by kernel_rfl
instance lk2:LK Tryz.prog 2 none:=⟨_,Tryz.underlying2,rfl⟩
instance lk3:LK Tryz.prog 3 none:=⟨_,Tryz.underlying3,rfl⟩
instance lk4:LK Tryz.prog 4 none:=⟨_,Tryz.underlying4,rfl⟩
instance lk5:LK Tryz.prog 5 none:=⟨_,Tryz.underlying5,rfl⟩
instance alq:LK Tryz.prog 22 none:=⟨_,Tryz.underlying22,rfl⟩
instance alr:LK Tryz.prog 24 none:=⟨_,Tryz.underlying24,rfl⟩
instance als:LK Tryz.prog 25 none:=⟨_,Tryz.underlying25,rfl⟩
instance alu:LK Tryz.prog 27 (some 5):=⟨_,_,Tryz.underlying27,rfl,yV,Pk⟩
instance alv:LK Tryz.prog 29 (some 12):=⟨_,_,Tryz.underlying29,rfl,sB,Ez⟩
instance alw:LK Tryz.prog 40 (some 25):=⟨_,_,Tryz.underlying40,rfl,DA,Pl⟩
instance alx:LK Tryz.prog 80 none:=⟨_,Tryz.underlying80,rfl⟩
instance aly:LK Tryz.prog 91 none:=⟨_,Tryz.underlying91,rfl⟩
instance ajk:LK Tryz.prog 107 none:=⟨_,Tryz.underlying107,rfl⟩
instance ajl:LK Tryz.prog 140 none:=⟨_,Tryz.underlying140,rfl⟩
instance ajm:LK Tryz.prog 144 none:=⟨_,Tryz.underlying144,rfl⟩
instance ajn:LK Tryz.prog 146 none:=⟨_,Tryz.underlying146,rfl⟩
instance ajo:LK Tryz.prog 201 (some 2):=⟨_,_,Tryz.underlying201,rfl,B3,Kz⟩
instance ajp:LK Tryz.prog 242 (some 3):=⟨_,_,Tryz.underlying242,rfl,u3,B4⟩
instance alz:uL Tryz.prog 22:=⟨_,_,Tryz.underlying22,Xw,YI⟩
instance alA:uL Tryz.prog 24:=⟨_,_,Tryz.underlying24,zS,ME⟩
instance alB:L7 Tryz.prog 24 2:=⟨Tryz.underlying24,_,_,zS,YF,ME⟩
instance alC:qc Tryz.prog 24 Int 2 (aB .i64) 0 8:=⟨Tryz.underlying24,rfl,_,_,zS,YF,ME,rfl,by2,fun _=>⟨rfl,rfl⟩⟩
instance alD:uL Tryz.prog 25:=⟨_,_,Tryz.underlying25,r3,G7⟩
instance alE:L7 Tryz.prog 25 24:=⟨Tryz.underlying25,_,_,r3,Pj,G7⟩
instance alF:qc Tryz.prog 25 (List Int) 24 (aK 2 (aB .i64)) [] 24:=⟨Tryz.underlying25,rfl,_,_,r3,Pj,G7,rfl,Z8,fun _=>Eo⟩
instance alG:Gr Tryz.prog 59 12:=⟨_,_,Tryz.underlying59,sB,Ez⟩
instance alH:Q6 Tryz.prog 59 29 12:=⟨Tryz.underlying59,_,_,sB,Kx,Ez,by decide⟩
theorem aac:i29.bytes=256:=by kernel_rfl
instance alI:AT Tryz.prog 59 29 12 256:=⟨Tryz.underlying59,_,_,sB,Kx,rfl,Ez,aac,by decide⟩
instance ajq:uL Tryz.prog 156:=⟨_,_,Tryz.underlying156,MH,Pn⟩
instance ajr:Gq Tryz.prog 156 91:=⟨Tryz.underlying156,_,_,MH,aab,Pn⟩
instance ajs:uL Tryz.prog 194:=⟨_,_,Tryz.underlying194,MG,Pm⟩
instance ajt:Gq Tryz.prog 194 80:=⟨Tryz.underlying194,_,_,MG,aaa,Pm⟩
instance aju:uL Tryz.prog 205:=⟨_,_,Tryz.underlying205,B0,F8⟩
instance ajv:Gq Tryz.prog 205 107:=⟨Tryz.underlying205,_,_,B0,Rj,F8⟩
instance ajw:Gr Tryz.prog 239 3:=⟨_,_,Tryz.underlying239,u3,B4⟩
instance ajx:Q6 Tryz.prog 239 242 3:=⟨Tryz.underlying239,_,_,u3,F9,B4,by decide⟩
theorem XE:i242.bytes=40:=by kernel_rfl
instance ajy:AT Tryz.prog 239 242 3 40:=⟨Tryz.underlying239,_,_,u3,F9,rfl,B4,XE,by decide⟩
instance so2:vB Tryz.prog 2 1:=⟨_,zS,ME⟩
instance so3:vB Tryz.prog 3 1:=⟨_,Kv,YG⟩
instance alJ:vB Tryz.prog 24 1:=⟨_,r3,G7⟩
instance alK:vB Tryz.prog 25 1:=⟨_,Dz,Uz⟩
instance alL:vB Tryz.prog 27 5:=⟨_,yV,Pk⟩
instance alM:vB Tryz.prog 29 12:=⟨_,sB,Ez⟩
instance alN:vB Tryz.prog 40 25:=⟨_,DA,Pl⟩
instance ajz:vB Tryz.prog 107 1:=⟨_,B0,F8⟩
instance ajA:vB Tryz.prog 140 1:=⟨_,Jo,Rk⟩
instance ajB:vB Tryz.prog 144 1:=⟨_,Jp,Rm⟩
instance ajC:vB Tryz.prog 201 2:=⟨_,B3,Kz⟩
instance ajD:vB Tryz.prog 242 3:=⟨_,u3,B4⟩
instance alO:yL Tryz.prog 24 [.slice none 0 0]:=⟨_,_,r3,Pj,rfl⟩
instance alP:yL Tryz.prog 25 [.slice none 0 0]:=⟨_,_,Dz,Z9,rfl⟩
instance alQ:yL Tryz.prog 27 [.int .i64 ((0:Int)),.slice none 0 0,.slice none 0 0,.slice none 0 0,.slice none 0 0]:=⟨_,_,yV,UC,rfl⟩
instance alR:yL Tryz.prog 29 [.int .i64 ((0:Int)),.slice none 0 0,.slice none 0 0,.slice none 0 0,.slice none 0 0,.int .i64 ((0:Int)),.slice none 0 0,.slice none 0 0,.slice none 0 0,.slice none 0 0,.slice none 0 0,.slice none 0 0]:=⟨_,_,sB,Kx,rfl⟩
instance alS:yL Tryz.prog 40 [.int .i64 ((0:Int)),.slice none 0 0,.slice none 0 0,.slice none 0 0,.slice none 0 0,.int .i64 ((0:Int)),.slice none 0 0,.slice none 0 0,.slice none 0 0,.slice none 0 0,.slice none 0 0,.slice none 0 0,.int .i64 ((0:Int)),.slice none 0 0,.slice none 0 0,.slice none 0 0,.slice none 0 0,.int .i64 ((0:Int)),.slice none 0 0,.slice none 0 0,.slice none 0 0,.slice none 0 0,.slice none 0 0,.slice none 0 0,.slice none 0 0]:=⟨_,_,DA,UD,rfl⟩
instance ajE:yL Tryz.prog 107 [.pointer none]:=⟨_,_,B0,Rj,rfl⟩
instance ajF:yL Tryz.prog 144 [.nilFunc]:=⟨_,_,Jp,XA,rfl⟩
instance ajG:yL Tryz.prog 201 [.int .i64 ((0:Int)),.int .i64 ((0:Int))]:=⟨_,_,B3,Ro,rfl⟩
instance ajH:yL Tryz.prog 242 [.int .i64 ((0:Int)),.int .i64 ((0:Int)),.slice none 0 0]:=⟨_,_,u3,F9,rfl⟩
instance af8:rX Tryz.prog 27 0 0:=⟨_,_,_,Tryz.underlying27,rfl,zS,Ux,rfl⟩
instance af9:rX Tryz.prog 27 1 1:=⟨_,_,_,Tryz.underlying27,rfl,r3,CQ,rfl⟩
instance aga:rX Tryz.prog 27 2 2:=⟨_,_,_,Tryz.underlying27,rfl,r3,CQ,rfl⟩
instance agb:rX Tryz.prog 27 3 3:=⟨_,_,_,Tryz.underlying27,rfl,r3,CQ,rfl⟩
instance agc:rX Tryz.prog 27 4 4:=⟨_,_,_,Tryz.underlying27,rfl,Dz,UA,rfl⟩
instance agd:rX Tryz.prog 29 0 0:=⟨_,_,_,Tryz.underlying29,rfl,yV,UB,rfl⟩
instance age:rX Tryz.prog 29 1 5:=⟨_,_,_,Tryz.underlying29,rfl,yV,UB,rfl⟩
instance agf:rX Tryz.prog 29 2 10:=⟨_,_,_,Tryz.underlying29,rfl,r3,CQ,rfl⟩
instance agh:rX Tryz.prog 29 3 11:=⟨_,_,_,Tryz.underlying29,rfl,r3,CQ,rfl⟩
instance agi:rX Tryz.prog 40 0 0:=⟨_,_,_,Tryz.underlying40,rfl,sB,Kw,rfl⟩
instance agj:rX Tryz.prog 40 1 12:=⟨_,_,_,Tryz.underlying40,rfl,sB,Kw,rfl⟩
instance agk:rX Tryz.prog 40 2 24:=⟨_,_,_,Tryz.underlying40,rfl,r3,CQ,rfl⟩
instance adG:rX Tryz.prog 142 0 0:=⟨_,_,_,Tryz.underlying142,rfl,Uy,Z7,rfl⟩
instance adH:rX Tryz.prog 142 1 1:=⟨_,_,_,Tryz.underlying142,rfl,Kv,YH,rfl⟩
instance adI:rX Tryz.prog 142 2 2:=⟨_,_,_,Tryz.underlying142,rfl,Jo,Xx,rfl⟩
instance adJ:rX Tryz.prog 150 0 0:=⟨_,_,_,Tryz.underlying150,rfl,sB,Kw,rfl⟩
instance adK:rX Tryz.prog 150 1 12:=⟨_,_,_,Tryz.underlying150,rfl,sB,Kw,rfl⟩
instance adL:rX Tryz.prog 150 2 24:=⟨_,_,_,Tryz.underlying150,rfl,Xv,ne4,rfl⟩
instance adM:rX Tryz.prog 150 3 25:=⟨_,_,_,Tryz.underlying150,rfl,Kv,YH,rfl⟩
instance adN:rX Tryz.prog 150 4 26:=⟨_,_,_,Tryz.underlying150,rfl,Dz,UA,rfl⟩
instance adO:rX Tryz.prog 242 0 0:=⟨_,_,_,Tryz.underlying242,rfl,zS,Ux,rfl⟩
instance adP:rX Tryz.prog 242 1 1:=⟨_,_,_,Tryz.underlying242,rfl,zS,Ux,rfl⟩
instance adQ:rX Tryz.prog 242 2 2:=⟨_,_,_,Tryz.underlying242,rfl,r3,CQ,rfl⟩
instance aad:Jf Tryz.prog 3 140 .u64:=⟨by rw [Tryz.underlying3]; rfl,Tryz.underlying140⟩
instance agl:Jf Tryz.prog 5 2 .i64:=⟨by rw [Tryz.underlying5]; rfl,Tryz.underlying2⟩
instance aae:Jf Tryz.prog 5 140 .u64:=⟨by rw [Tryz.underlying5]; rfl,Tryz.underlying140⟩
instance aaf:Jf Tryz.prog 140 2 .i64:=⟨by rw [Tryz.underlying140]; rfl,Tryz.underlying2⟩
instance alT:AS Tryz.prog 27 [.int .i64 ((0:Int)),.slice none 0 0,.slice none 0 0,.slice none 0 0,.slice none 0 0] [(0,1),(1,1),(2,1),(3,1),(4,1)]:=⟨_,_,_,Tryz.underlying27,by kernel_rfl,yV,UC,rfl⟩
instance alU:AS Tryz.prog 29 [.int .i64 ((0:Int)),.slice none 0 0,.slice none 0 0,.slice none 0 0,.slice none 0 0,.int .i64 ((0:Int)),.slice none 0 0,.slice none 0 0,.slice none 0 0,.slice none 0 0,.slice none 0 0,.slice none 0 0] [(0,5),(5,5),(10,1),(11,1)]:=⟨_,_,_,Tryz.underlying29,by kernel_rfl,sB,Kx,rfl⟩
instance alV:AS Tryz.prog 40 [.int .i64 ((0:Int)),.slice none 0 0,.slice none 0 0,.slice none 0 0,.slice none 0 0,.int .i64 ((0:Int)),.slice none 0 0,.slice none 0 0,.slice none 0 0,.slice none 0 0,.slice none 0 0,.slice none 0 0,.int .i64 ((0:Int)),.slice none 0 0,.slice none 0 0,.slice none 0 0,.slice none 0 0,.int .i64 ((0:Int)),.slice none 0 0,.slice none 0 0,.slice none 0 0,.slice none 0 0,.slice none 0 0,.slice none 0 0,.slice none 0 0] [(0,12),(12,12),(24,1)]:=⟨_,_,_,Tryz.underlying40,by kernel_rfl,DA,UD,rfl⟩
instance ajI:AS Tryz.prog 142 [.slice none 0 0,.int .i64 ((0:Int)),.int .u64 ((0:Int))] [(0,1),(1,1),(2,1)]:=⟨_,_,_,Tryz.underlying142,by kernel_rfl,SC,Xz,rfl⟩
instance ajJ:AS Tryz.prog 150 [.int .i64 ((0:Int)),.slice none 0 0,.slice none 0 0,.slice none 0 0,.slice none 0 0,.int .i64 ((0:Int)),.slice none 0 0,.slice none 0 0,.slice none 0 0,.slice none 0 0,.slice none 0 0,.slice none 0 0,.int .i64 ((0:Int)),.slice none 0 0,.slice none 0 0,.slice none 0 0,.slice none 0 0,.int .i64 ((0:Int)),.slice none 0 0,.slice none 0 0,.slice none 0 0,.slice none 0 0,.slice none 0 0,.slice none 0 0,.bool (false),.int .i64 ((0:Int)),.slice none 0 0] [(0,12),(12,12),(24,1),(25,1),(26,1)]:=⟨_,_,_,Tryz.underlying150,by kernel_rfl,SD,XD,rfl⟩
instance ajK:AS Tryz.prog 201 [.int .i64 ((0:Int)),.int .i64 ((0:Int))] [(0,1),(1,1)]:=⟨_,_,_,Tryz.underlying201,by kernel_rfl,B3,Ro,rfl⟩
instance ajL:AS Tryz.prog 242 [.int .i64 ((0:Int)),.int .i64 ((0:Int)),.slice none 0 0] [(0,1),(1,1),(2,1)]:=⟨_,_,_,Tryz.underlying242,by kernel_rfl,u3,F9,rfl⟩
instance ajM:TE Tryz.prog 201 .i64 .i64:=⟨_,_,Tryz.underlying201,by decide,by decide,Tryz.underlying2,Tryz.underlying2,rfl,rfl,by kernel_rfl,by kernel_rfl⟩
instance fn7:br Tryz.prog 7:=⟨_,_,Tryz.func7,rfl,by kernel_rfl⟩
instance alW:br Tryz.prog 11:=⟨_,_,Tryz.func11,rfl,by kernel_rfl⟩
instance alX:br Tryz.prog 12:=⟨_,_,Tryz.func12,rfl,by kernel_rfl⟩
instance alY:br Tryz.prog 15:=⟨_,_,Tryz.func15,rfl,by kernel_rfl⟩
instance alZ:br Tryz.prog 16:=⟨_,_,Tryz.func16,rfl,by kernel_rfl⟩
instance al0:br Tryz.prog 17:=⟨_,_,Tryz.func17,rfl,by kernel_rfl⟩
instance al1:br Tryz.prog 18:=⟨_,_,Tryz.func18,rfl,by kernel_rfl⟩
instance al2:br Tryz.prog 19:=⟨_,_,Tryz.func19,rfl,by kernel_rfl⟩
instance al3:br Tryz.prog 20:=⟨_,_,Tryz.func20,rfl,by kernel_rfl⟩
instance al4:br Tryz.prog 24:=⟨_,_,Tryz.func24,rfl,by kernel_rfl⟩
instance al5:br Tryz.prog 31:=⟨_,_,Tryz.func31,rfl,by kernel_rfl⟩
instance al6:br Tryz.prog 32:=⟨_,_,Tryz.func32,rfl,by kernel_rfl⟩
instance al7:br Tryz.prog 38:=⟨_,_,Tryz.func38,rfl,by kernel_rfl⟩
instance al8:br Tryz.prog 39:=⟨_,_,Tryz.func39,rfl,by kernel_rfl⟩
instance al9:br Tryz.prog 40:=⟨_,_,Tryz.func40,rfl,by kernel_rfl⟩
instance ama:br Tryz.prog 43:=⟨_,_,Tryz.func43,rfl,by kernel_rfl⟩
instance amb:br Tryz.prog 44:=⟨_,_,Tryz.func44,rfl,by kernel_rfl⟩
instance amc:br Tryz.prog 45:=⟨_,_,Tryz.func45,rfl,by kernel_rfl⟩
instance amd:br Tryz.prog 48:=⟨_,_,Tryz.func48,rfl,by kernel_rfl⟩
instance ame:br Tryz.prog 49:=⟨_,_,Tryz.func49,rfl,by kernel_rfl⟩
instance amf:br Tryz.prog 50:=⟨_,_,Tryz.func50,rfl,by kernel_rfl⟩
instance amg:br Tryz.prog 51:=⟨_,_,Tryz.func51,rfl,by kernel_rfl⟩
instance amh:br Tryz.prog 52:=⟨_,_,Tryz.func52,rfl,by kernel_rfl⟩
instance ami:br Tryz.prog 53:=⟨_,_,Tryz.func53,rfl,by kernel_rfl⟩
instance amj:br Tryz.prog 54:=⟨_,_,Tryz.func54,rfl,by kernel_rfl⟩
instance amk:br Tryz.prog 55:=⟨_,_,Tryz.func55,rfl,by kernel_rfl⟩
instance aml:br Tryz.prog 56:=⟨_,_,Tryz.func56,rfl,by kernel_rfl⟩
instance amm:br Tryz.prog 57:=⟨_,_,Tryz.func57,rfl,by kernel_rfl⟩
instance amn:br Tryz.prog 58:=⟨_,_,Tryz.func58,rfl,by kernel_rfl⟩
instance amo:br Tryz.prog 59:=⟨_,_,Tryz.func59,rfl,by kernel_rfl⟩
instance amp:br Tryz.prog 60:=⟨_,_,Tryz.func60,rfl,by kernel_rfl⟩
instance amq:br Tryz.prog 61:=⟨_,_,Tryz.func61,rfl,by kernel_rfl⟩
instance amr:br Tryz.prog 62:=⟨_,_,Tryz.func62,rfl,by kernel_rfl⟩
instance ams:br Tryz.prog 63:=⟨_,_,Tryz.func63,rfl,by kernel_rfl⟩
instance amt:br Tryz.prog 68:=⟨_,_,Tryz.func68,rfl,by kernel_rfl⟩
instance amu:br Tryz.prog 72:=⟨_,_,Tryz.func72,rfl,by kernel_rfl⟩
instance amv:br Tryz.prog 75:=⟨_,_,Tryz.func75,rfl,by kernel_rfl⟩
instance amw:br Tryz.prog 79:=⟨_,_,Tryz.func79,rfl,by kernel_rfl⟩
instance amx:br Tryz.prog 88:=⟨_,_,Tryz.func88,rfl,by kernel_rfl⟩
instance amy:br Tryz.prog 89:=⟨_,_,Tryz.func89,rfl,by kernel_rfl⟩
instance amz:br Tryz.prog 92:=⟨_,_,Tryz.func92,rfl,by kernel_rfl⟩
instance amA:br Tryz.prog 93:=⟨_,_,Tryz.func93,rfl,by kernel_rfl⟩
instance amB:br Tryz.prog 94:=⟨_,_,Tryz.func94,rfl,by kernel_rfl⟩
instance amC:br Tryz.prog 95:=⟨_,_,Tryz.func95,rfl,by kernel_rfl⟩
instance amD:br Tryz.prog 98:=⟨_,_,Tryz.func98,rfl,by kernel_rfl⟩
instance amE:br Tryz.prog 99:=⟨_,_,Tryz.func99,rfl,by kernel_rfl⟩
instance ajN:br Tryz.prog 100:=⟨_,_,Tryz.func100,rfl,by kernel_rfl⟩
instance ajO:br Tryz.prog 101:=⟨_,_,Tryz.func101,rfl,by kernel_rfl⟩
instance ajP:br Tryz.prog 102:=⟨_,_,Tryz.func102,rfl,by kernel_rfl⟩
instance ajQ:br Tryz.prog 103:=⟨_,_,Tryz.func103,rfl,by kernel_rfl⟩
instance ajR:br Tryz.prog 104:=⟨_,_,Tryz.func104,rfl,by kernel_rfl⟩
instance ajS:br Tryz.prog 105:=⟨_,_,Tryz.func105,rfl,by kernel_rfl⟩
instance ajT:br Tryz.prog 106:=⟨_,_,Tryz.func106,rfl,by kernel_rfl⟩
instance ajU:br Tryz.prog 107:=⟨_,_,Tryz.func107,rfl,by kernel_rfl⟩
instance ajV:br Tryz.prog 108:=⟨_,_,Tryz.func108,rfl,by kernel_rfl⟩
instance ajW:br Tryz.prog 109:=⟨_,_,Tryz.func109,rfl,by kernel_rfl⟩
instance ajX:br Tryz.prog 110:=⟨_,_,Tryz.func110,rfl,by kernel_rfl⟩
instance ajY:br Tryz.prog 111:=⟨_,_,Tryz.func111,rfl,by kernel_rfl⟩
instance ajZ:br Tryz.prog 112:=⟨_,_,Tryz.func112,rfl,by kernel_rfl⟩
instance aj0:br Tryz.prog 113:=⟨_,_,Tryz.func113,rfl,by kernel_rfl⟩
instance aj1:br Tryz.prog 114:=⟨_,_,Tryz.func114,rfl,by kernel_rfl⟩
instance aj2:br Tryz.prog 115:=⟨_,_,Tryz.func115,rfl,by kernel_rfl⟩
instance aj3:br Tryz.prog 116:=⟨_,_,Tryz.func116,rfl,by kernel_rfl⟩
instance aj4:br Tryz.prog 117:=⟨_,_,Tryz.func117,rfl,by kernel_rfl⟩
instance aj5:br Tryz.prog 118:=⟨_,_,Tryz.func118,rfl,by kernel_rfl⟩
instance aj6:br Tryz.prog 119:=⟨_,_,Tryz.func119,rfl,by kernel_rfl⟩
instance aj7:br Tryz.prog 120:=⟨_,_,Tryz.func120,rfl,by kernel_rfl⟩
instance aj8:br Tryz.prog 121:=⟨_,_,Tryz.func121,rfl,by kernel_rfl⟩
instance aj9:br Tryz.prog 122:=⟨_,_,Tryz.func122,rfl,by kernel_rfl⟩
instance aka:br Tryz.prog 123:=⟨_,_,Tryz.func123,rfl,by kernel_rfl⟩
instance akb:br Tryz.prog 136:=⟨_,_,Tryz.func136,rfl,by kernel_rfl⟩
instance akc:br Tryz.prog 138:=⟨_,_,Tryz.func138,rfl,by kernel_rfl⟩
instance akd:br Tryz.prog 140:=⟨_,_,Tryz.func140,rfl,by kernel_rfl⟩
instance ake:br Tryz.prog 142:=⟨_,_,Tryz.func142,rfl,by kernel_rfl⟩
instance akf:br Tryz.prog 145:=⟨_,_,Tryz.func145,rfl,by kernel_rfl⟩
instance akg:br Tryz.prog 146:=⟨_,_,Tryz.func146,rfl,by kernel_rfl⟩
instance akh:br Tryz.prog 155:=⟨_,_,Tryz.func155,rfl,by kernel_rfl⟩
instance aki:br Tryz.prog 161:=⟨_,_,Tryz.func161,rfl,by kernel_rfl⟩
instance akj:br Tryz.prog 162:=⟨_,_,Tryz.func162,rfl,by kernel_rfl⟩
instance akk:br Tryz.prog 163:=⟨_,_,Tryz.func163,rfl,by kernel_rfl⟩
instance akl:br Tryz.prog 164:=⟨_,_,Tryz.func164,rfl,by kernel_rfl⟩
instance akm:br Tryz.prog 165:=⟨_,_,Tryz.func165,rfl,by kernel_rfl⟩
instance akn:br Tryz.prog 166:=⟨_,_,Tryz.func166,rfl,by kernel_rfl⟩
instance ako:br Tryz.prog 167:=⟨_,_,Tryz.func167,rfl,by kernel_rfl⟩
instance akp:br Tryz.prog 168:=⟨_,_,Tryz.func168,rfl,by kernel_rfl⟩
instance akq:br Tryz.prog 169:=⟨_,_,Tryz.func169,rfl,by kernel_rfl⟩
instance akr:br Tryz.prog 170:=⟨_,_,Tryz.func170,rfl,by kernel_rfl⟩
instance aks:br Tryz.prog 171:=⟨_,_,Tryz.func171,rfl,by kernel_rfl⟩
instance akt:br Tryz.prog 172:=⟨_,_,Tryz.func172,rfl,by kernel_rfl⟩
instance aku:br Tryz.prog 173:=⟨_,_,Tryz.func173,rfl,by kernel_rfl⟩
instance akv:br Tryz.prog 174:=⟨_,_,Tryz.func174,rfl,by kernel_rfl⟩
instance akw:br Tryz.prog 175:=⟨_,_,Tryz.func175,rfl,by kernel_rfl⟩
instance akx:br Tryz.prog 176:=⟨_,_,Tryz.func176,rfl,by kernel_rfl⟩
instance aky:br Tryz.prog 177:=⟨_,_,Tryz.func177,rfl,by kernel_rfl⟩
instance akz:br Tryz.prog 178:=⟨_,_,Tryz.func178,rfl,by kernel_rfl⟩
instance akA:br Tryz.prog 184:=⟨_,_,Tryz.func184,rfl,by kernel_rfl⟩
instance akB:br Tryz.prog 185:=⟨_,_,Tryz.func185,rfl,by kernel_rfl⟩
instance akC:br Tryz.prog 186:=⟨_,_,Tryz.func186,rfl,by kernel_rfl⟩
instance akD:br Tryz.prog 192:=⟨_,_,Tryz.func192,rfl,by kernel_rfl⟩
instance akE:br Tryz.prog 193:=⟨_,_,Tryz.func193,rfl,by kernel_rfl⟩
instance akF:br Tryz.prog 194:=⟨_,_,Tryz.func194,rfl,by kernel_rfl⟩
instance akG:br Tryz.prog 195:=⟨_,_,Tryz.func195,rfl,by kernel_rfl⟩
instance akH:br Tryz.prog 196:=⟨_,_,Tryz.func196,rfl,by kernel_rfl⟩
instance akI:br Tryz.prog 197:=⟨_,_,Tryz.func197,rfl,by kernel_rfl⟩
instance akJ:br Tryz.prog 198:=⟨_,_,Tryz.func198,rfl,by kernel_rfl⟩
instance akK:br Tryz.prog 199:=⟨_,_,Tryz.func199,rfl,by kernel_rfl⟩
instance akL:br Tryz.prog 200:=⟨_,_,Tryz.func200,rfl,by kernel_rfl⟩
instance akM:br Tryz.prog 201:=⟨_,_,Tryz.func201,rfl,by kernel_rfl⟩
instance akN:br Tryz.prog 202:=⟨_,_,Tryz.func202,rfl,by kernel_rfl⟩
instance akO:br Tryz.prog 206:=⟨_,_,Tryz.func206,rfl,by kernel_rfl⟩
instance akP:br Tryz.prog 207:=⟨_,_,Tryz.func207,rfl,by kernel_rfl⟩
instance akQ:br Tryz.prog 208:=⟨_,_,Tryz.func208,rfl,by kernel_rfl⟩
instance akR:br Tryz.prog 209:=⟨_,_,Tryz.func209,rfl,by kernel_rfl⟩
instance akS:br Tryz.prog 210:=⟨_,_,Tryz.func210,rfl,by kernel_rfl⟩
instance akT:br Tryz.prog 211:=⟨_,_,Tryz.func211,rfl,by kernel_rfl⟩
instance akU:br Tryz.prog 212:=⟨_,_,Tryz.func212,rfl,by kernel_rfl⟩
instance akV:br Tryz.prog 213:=⟨_,_,Tryz.func213,rfl,by kernel_rfl⟩
instance akW:br Tryz.prog 214:=⟨_,_,Tryz.func214,rfl,by kernel_rfl⟩
instance akX:br Tryz.prog 215:=⟨_,_,Tryz.func215,rfl,by kernel_rfl⟩
instance akY:br Tryz.prog 216:=⟨_,_,Tryz.func216,rfl,by kernel_rfl⟩
instance akZ:br Tryz.prog 217:=⟨_,_,Tryz.func217,rfl,by kernel_rfl⟩
instance ak0:br Tryz.prog 218:=⟨_,_,Tryz.func218,rfl,by kernel_rfl⟩
end Go.Proofs.YtkcpiblgpnjanaaGreat
