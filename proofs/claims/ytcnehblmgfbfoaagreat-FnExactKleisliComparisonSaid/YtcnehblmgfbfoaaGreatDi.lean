/- Closed facts on types, as instances. No condition. -/
import Derived.Test.YtcnehblmgfbfoaaGreatDp
import Derived.Test.YtcnehblmgfbfoaaGreatLn
import Derived.Test.YtcnehblmgfbfoaaGreatChecked
import Derived.KernelRfl
namespace Go.Proofs.YtcnehblmgfbfoaaGreat
open Go Go.Li Go.Dk
set_option linter.unusedVariables false
set_option maxRecDepth 100000
noncomputable def i2:TypeInfo:=(Tryz.prog.info? 2).getD default
theorem s5:Tryz.prog.info? 2=some i2:=by kernel_rfl
theorem HF:i2.size=1:=by kernel_rfl
theorem L5:i2.size≠0:=by rw [HF]; decide
theorem Pd:i2.zero=some (.int .i64 0):=by kernel_rfl
theorem by2:i2.bytes=8:=by kernel_rfl
noncomputable def i5:TypeInfo:=(Tryz.prog.info? 5).getD default
theorem L6:Tryz.prog.info? 5=some i5:=by kernel_rfl
theorem Pe:i5.size=1:=by kernel_rfl
theorem ne5:i5.size≠0:=by rw [Pe]; decide
theorem T6:i5.zero=some (.int .u8 0):=by kernel_rfl
theorem by5:i5.bytes=1:=by kernel_rfl
noncomputable def i22:TypeInfo:=(Tryz.prog.info? 22).getD default
theorem iz:Tryz.prog.info? 22=some i22:=by kernel_rfl
theorem CN:i22.size=1:=by kernel_rfl
theorem qB:i22.size≠0:=by rw [CN]; decide
theorem Pf:i22.zero=some (.slice none 0 0):=by kernel_rfl
theorem U4:i22.bytes=24:=by kernel_rfl
noncomputable def i23:TypeInfo:=(Tryz.prog.info? 23).getD default
theorem xr:Tryz.prog.info? 23=some i23:=by kernel_rfl
theorem Pg:i23.size=1:=by kernel_rfl
theorem JZ:i23.size≠0:=by rw [Pg]; decide
theorem U5:i23.zero=some (.slice none 0 0):=by kernel_rfl
theorem afB:i23.bytes=24:=by kernel_rfl
noncomputable def i25:TypeInfo:=(Tryz.prog.info? 25).getD default
theorem CO:Tryz.prog.info? 25=some i25:=by kernel_rfl
theorem Ph:i25.size=5:=by kernel_rfl
theorem Pj:i25.size≠0:=by rw [Ph]; decide
noncomputable def i27:TypeInfo:=(Tryz.prog.info? 27).getD default
theorem HG:Tryz.prog.info? 27=some i27:=by kernel_rfl
theorem Pk:i27.size=12:=by kernel_rfl
theorem U6:i27.size≠0:=by rw [Pk]; decide
noncomputable def i29:TypeInfo:=(Tryz.prog.info? 29).getD default
theorem Pm:Tryz.prog.info? 29=some i29:=by kernel_rfl
theorem Pn:i29.size=14:=by kernel_rfl
theorem afC:i29.size≠0:=by rw [Pn]; decide
noncomputable def i31:TypeInfo:=(Tryz.prog.info? 31).getD default
theorem tN:Tryz.prog.info? 31=some i31:=by kernel_rfl
theorem J0:i31.size=5:=by kernel_rfl
theorem J1:i31.size≠0:=by rw [J0]; decide
theorem Po:i31.zero=some (.agg #[.int .i64 ((0:Int)),.slice none 0 0,.slice none 0 0,.slice none 0 0,.slice none 0 0]):=by kernel_rfl
noncomputable def i33:TypeInfo:=(Tryz.prog.info? 33).getD default
theorem tO:Tryz.prog.info? 33=some i33:=by kernel_rfl
theorem J2:i33.size=12:=by kernel_rfl
theorem J3:i33.size≠0:=by rw [J2]; decide
theorem Pp:i33.zero=some (.agg #[.int .i64 ((0:Int)),.slice none 0 0,.slice none 0 0,.slice none 0 0,.slice none 0 0,.int .i64 ((0:Int)),.slice none 0 0,.slice none 0 0,.slice none 0 0,.slice none 0 0,.slice none 0 0,.slice none 0 0]):=by kernel_rfl
noncomputable def i37:TypeInfo:=(Tryz.prog.info? 37).getD default
theorem CP:Tryz.prog.info? 37=some i37:=by kernel_rfl
theorem J4:i37.size=14:=by kernel_rfl
theorem afD:i37.size≠0:=by rw [J4]; decide
theorem U7:i37.zero=some (.agg #[.int .i64 ((0:Int)),.slice none 0 0,.slice none 0 0,.slice none 0 0,.slice none 0 0,.int .i64 ((0:Int)),.slice none 0 0,.slice none 0 0,.slice none 0 0,.slice none 0 0,.slice none 0 0,.slice none 0 0,.slice none 0 0,.slice none 0 0]):=by kernel_rfl
noncomputable def i99:TypeInfo:=(Tryz.prog.info? 99).getD default
theorem aat:Tryz.prog.info? 99=some i99:=by kernel_rfl
theorem U8:i99.size=1:=by kernel_rfl
theorem afE:i99.size≠0:=by rw [U8]; decide
theorem afF:i99.zero=some (.pointer none):=by kernel_rfl
theorem afG:i99.bytes=8:=by kernel_rfl
noncomputable def i100:TypeInfo:=(Tryz.prog.info? 100).getD default
theorem E8:Tryz.prog.info? 100=some i100:=by kernel_rfl
theorem L7:i100.size=1:=by kernel_rfl
theorem ada:i100.size≠0:=by rw [L7]; decide
theorem SE:i100.zero=some (.pointer none):=by kernel_rfl
theorem adb:i100.bytes=8:=by kernel_rfl
noncomputable def i103:TypeInfo:=(Tryz.prog.info? 103).getD default
theorem vA:Tryz.prog.info? 103=some i103:=by kernel_rfl
theorem BW:i103.size=1:=by kernel_rfl
theorem SF:i103.size≠0:=by rw [BW]; decide
theorem L8:i103.zero=some (.pointer none):=by kernel_rfl
theorem ade:i103.bytes=8:=by kernel_rfl
noncomputable def i120:TypeInfo:=(Tryz.prog.info? 120).getD default
theorem E9:Tryz.prog.info? 120=some i120:=by kernel_rfl
theorem Gi:i120.size=1:=by kernel_rfl
theorem adg:i120.size≠0:=by rw [Gi]; decide
theorem SG:i120.zero=some (.pointer none):=by kernel_rfl
theorem adh:i120.bytes=8:=by kernel_rfl
noncomputable def i144:TypeInfo:=(Tryz.prog.info? 144).getD default
theorem Aw:Tryz.prog.info? 144=some i144:=by kernel_rfl
theorem L9:i144.size=1:=by kernel_rfl
theorem SH:i144.size≠0:=by rw [L9]; decide
theorem SI:i144.zero=some (.map none):=by kernel_rfl
theorem adi:i144.bytes=8:=by kernel_rfl
noncomputable def i181:TypeInfo:=(Tryz.prog.info? 181).getD default
theorem Ax:Tryz.prog.info? 181=some i181:=by kernel_rfl
theorem BX:i181.size=1:=by kernel_rfl
theorem adj:i181.size≠0:=by rw [BX]; decide
theorem Ma:i181.zero=some (.pointer none):=by kernel_rfl
theorem SJ:i181.bytes=8:=by kernel_rfl
noncomputable def i182:TypeInfo:=(Tryz.prog.info? 182).getD default
theorem Ni:Tryz.prog.info? 182=some i182:=by kernel_rfl
theorem SK:i182.size=1:=by kernel_rfl
theorem SM:i182.size≠0:=by rw [SK]; decide
theorem adk:i182.zero=some (.nilFunc):=by kernel_rfl
theorem adl:i182.bytes=8:=by kernel_rfl
noncomputable def i183:TypeInfo:=(Tryz.prog.info? 183).getD default
theorem Nj:Tryz.prog.info? 183=some i183:=by kernel_rfl
theorem SN:i183.size=1:=by kernel_rfl
theorem SP:i183.size≠0:=by rw [SN]; decide
theorem adm:i183.zero=some (.slice none 0 0):=by kernel_rfl
theorem adn:i183.bytes=24:=by kernel_rfl
noncomputable def i185:TypeInfo:=(Tryz.prog.info? 185).getD default
theorem Nl:Tryz.prog.info? 185=some i185:=by kernel_rfl
theorem SR:i185.size=9:=by kernel_rfl
theorem ado:i185.size≠0:=by rw [SR]; decide
theorem SS:i185.zero=some (.agg #[.pointer none,.int .i64 ((0:Int)),.slice none 0 0,.slice none 0 0,.slice none 0 0,.slice none 0 0,.slice none 0 0,.slice none 0 0,.map none]):=by kernel_rfl
noncomputable def i187:TypeInfo:=(Tryz.prog.info? 187).getD default
theorem Fa:Tryz.prog.info? 187=some i187:=by kernel_rfl
theorem Mb:i187.size=2:=by kernel_rfl
theorem adp:i187.size≠0:=by rw [Mb]; decide
theorem SU:i187.zero=some (.agg #[.int .i64 ((0:Int)),.int .i64 ((0:Int))]):=by kernel_rfl
noncomputable def i244:TypeInfo:=(Tryz.prog.info? 244).getD default
theorem Ay:Tryz.prog.info? 244=some i244:=by kernel_rfl
theorem Mc:i244.size=25:=by kernel_rfl
theorem adq:i244.size≠0:=by rw [Mc]; decide
theorem Md:i244.zero=some (.agg #[.int .i64 ((0:Int)),.slice none 0 0,.slice none 0 0,.slice none 0 0,.slice none 0 0,.int .i64 ((0:Int)),.slice none 0 0,.slice none 0 0,.slice none 0 0,.slice none 0 0,.slice none 0 0,.slice none 0 0,.int .i64 ((0:Int)),.slice none 0 0,.slice none 0 0,.slice none 0 0,.slice none 0 0,.int .i64 ((0:Int)),.slice none 0 0,.slice none 0 0,.slice none 0 0,.slice none 0 0,.slice none 0 0,.slice none 0 0,.slice none 0 0]):=by kernel_rfl
noncomputable def i246:TypeInfo:=(Tryz.prog.info? 246).getD default
theorem Fb:Tryz.prog.info? 246=some i246:=by kernel_rfl
theorem Gj:i246.size=1:=by kernel_rfl
theorem adr:i246.size≠0:=by rw [Gj]; decide
theorem SV:i246.zero=some (.pointer none):=by kernel_rfl
theorem ads:i246.bytes=8:=by kernel_rfl
noncomputable def i248:TypeInfo:=(Tryz.prog.info? 248).getD default
theorem ya:Tryz.prog.info? 248=some i248:=by kernel_rfl
theorem Gk:i248.size=3:=by kernel_rfl
theorem adu:i248.size≠0:=by rw [Gk]; decide
theorem Me:i248.zero=some (.agg #[.pointer none,.pointer none,.nilFunc]):=by kernel_rfl
noncomputable def i257:TypeInfo:=(Tryz.prog.info? 257).getD default
theorem yb:Tryz.prog.info? 257=some i257:=by kernel_rfl
theorem Gl:i257.size=2:=by kernel_rfl
theorem adv:i257.size≠0:=by rw [Gl]; decide
theorem Mf:i257.zero=some (.agg #[.int .i64 ((0:Int)),.int .i64 ((0:Int))]):=by kernel_rfl
instance lk2:LK Tryz.prog 2 none:=⟨_,Tryz.underlying2,rfl⟩
instance afH:LK Tryz.prog 22 none:=⟨_,Tryz.underlying22,rfl⟩
instance afI:LK Tryz.prog 23 none:=⟨_,Tryz.underlying23,rfl⟩
instance afJ:LK Tryz.prog 25 (some 5):=⟨_,_,Tryz.underlying25,rfl,CO,Ph⟩
instance afK:LK Tryz.prog 27 (some 12):=⟨_,_,Tryz.underlying27,rfl,HG,Pk⟩
instance afL:LK Tryz.prog 29 (some 14):=⟨_,_,Tryz.underlying29,rfl,Pm,Pn⟩
instance afM:LK Tryz.prog 31 (some 5):=⟨_,_,Tryz.underlying31,rfl,tN,J0⟩
instance afN:LK Tryz.prog 33 (some 12):=⟨_,_,Tryz.underlying33,rfl,tO,J2⟩
instance afO:LK Tryz.prog 37 (some 14):=⟨_,_,Tryz.underlying37,rfl,CP,J4⟩
instance afP:LK Tryz.prog 99 none:=⟨_,Tryz.underlying99,rfl⟩
instance adw:LK Tryz.prog 100 none:=⟨_,Tryz.underlying100,rfl⟩
instance adx:LK Tryz.prog 103 none:=⟨_,Tryz.underlying103,rfl⟩
instance ady:LK Tryz.prog 120 none:=⟨_,Tryz.underlying120,rfl⟩
instance adz:LK Tryz.prog 144 none:=⟨_,Tryz.underlying144,rfl⟩
instance adA:LK Tryz.prog 181 none:=⟨_,Tryz.underlying181,rfl⟩
instance adB:LK Tryz.prog 182 none:=⟨_,Tryz.underlying182,rfl⟩
instance adC:LK Tryz.prog 183 none:=⟨_,Tryz.underlying183,rfl⟩
instance adD:LK Tryz.prog 187 (some 2):=⟨_,_,Tryz.underlying187,rfl,Fa,Mb⟩
instance adE:LK Tryz.prog 246 none:=⟨_,Tryz.underlying246,rfl⟩
instance adF:LK Tryz.prog 248 (some 3):=⟨_,_,Tryz.underlying248,rfl,ya,Gk⟩
instance adG:LK Tryz.prog 257 (some 2):=⟨_,_,Tryz.underlying257,rfl,yb,Gl⟩
instance afQ:wU Tryz.prog 22:=⟨_,_,Tryz.underlying22,s5,HF⟩
instance afR:ET Tryz.prog 22 2:=⟨Tryz.underlying22,_,_,s5,Pd,HF⟩
instance afS:pI Tryz.prog 22 Int 2 (aJ .i64) 0 8:=⟨Tryz.underlying22,rfl,_,_,s5,Pd,HF,rfl,by2,fun _=>⟨rfl,rfl⟩⟩
instance afT:wU Tryz.prog 23:=⟨_,_,Tryz.underlying23,iz,CN⟩
instance afU:ET Tryz.prog 23 22:=⟨Tryz.underlying23,_,_,iz,Pf,CN⟩
instance afV:pI Tryz.prog 23 (List Int) 22 (aI 2 (aJ .i64)) [] 24:=⟨Tryz.underlying23,rfl,_,_,iz,Pf,CN,rfl,U4,fun _=>Ak⟩
instance afW:ET Tryz.prog 54 5:=⟨Tryz.underlying54,_,_,L6,T6,Pe⟩
instance afX:pI Tryz.prog 54 Int 5 (aJ .u8) 0 1:=⟨Tryz.underlying54,rfl,_,_,L6,T6,Pe,rfl,by5,fun _=>⟨rfl,rfl⟩⟩
instance adH:wU Tryz.prog 183:=⟨_,_,Tryz.underlying183,Ax,BX⟩
instance adI:AX Tryz.prog 183 181:=⟨Tryz.underlying183,_,_,Ax,Ma,BX⟩
instance adJ:pI Tryz.prog 183 Value 181 nh (.pointer none) 8:=⟨Tryz.underlying183,rfl,_,_,Ax,Ma,BX,rfl,SJ,fun _=>⟨rfl,rfl,rfl⟩⟩
instance adK:wU Tryz.prog 199:=⟨_,_,Tryz.underlying199,E9,Gi⟩
instance adL:AX Tryz.prog 199 120:=⟨Tryz.underlying199,_,_,E9,SG,Gi⟩
instance adM:wU Tryz.prog 265:=⟨_,_,Tryz.underlying265,vA,BW⟩
instance adN:AX Tryz.prog 265 103:=⟨Tryz.underlying265,_,_,vA,L8,BW⟩
instance adO:wU Tryz.prog 281:=⟨_,_,Tryz.underlying281,Fb,Gj⟩
instance adP:AX Tryz.prog 281 246:=⟨Tryz.underlying281,_,_,Fb,SV,Gj⟩
instance so2:sg Tryz.prog 2 1:=⟨_,s5,HF⟩
instance afY:sg Tryz.prog 22 1:=⟨_,iz,CN⟩
instance afZ:sg Tryz.prog 23 1:=⟨_,xr,Pg⟩
instance af0:sg Tryz.prog 31 5:=⟨_,tN,J0⟩
instance af1:sg Tryz.prog 33 12:=⟨_,tO,J2⟩
instance af2:sg Tryz.prog 37 14:=⟨_,CP,J4⟩
instance adQ:sg Tryz.prog 100 1:=⟨_,E8,L7⟩
instance adR:sg Tryz.prog 103 1:=⟨_,vA,BW⟩
instance adS:sg Tryz.prog 144 1:=⟨_,Aw,L9⟩
instance adT:sg Tryz.prog 244 25:=⟨_,Ay,Mc⟩
instance adU:sg Tryz.prog 248 3:=⟨_,ya,Gk⟩
instance adV:sg Tryz.prog 257 2:=⟨_,yb,Gl⟩
instance af3:uE Tryz.prog 23 [.slice none 0 0]:=⟨_,_,xr,U5,rfl⟩
instance af4:uE Tryz.prog 31 [.int .i64 ((0:Int)),.slice none 0 0,.slice none 0 0,.slice none 0 0,.slice none 0 0]:=⟨_,_,tN,Po,rfl⟩
instance af5:uE Tryz.prog 33 [.int .i64 ((0:Int)),.slice none 0 0,.slice none 0 0,.slice none 0 0,.slice none 0 0,.int .i64 ((0:Int)),.slice none 0 0,.slice none 0 0,.slice none 0 0,.slice none 0 0,.slice none 0 0,.slice none 0 0]:=⟨_,_,tO,Pp,rfl⟩
instance af6:uE Tryz.prog 37 [.int .i64 ((0:Int)),.slice none 0 0,.slice none 0 0,.slice none 0 0,.slice none 0 0,.int .i64 ((0:Int)),.slice none 0 0,.slice none 0 0,.slice none 0 0,.slice none 0 0,.slice none 0 0,.slice none 0 0,.slice none 0 0,.slice none 0 0]:=⟨_,_,CP,U7,rfl⟩
instance adW:uE Tryz.prog 100 [.pointer none]:=⟨_,_,E8,SE,rfl⟩
instance adX:uE Tryz.prog 103 [.pointer none]:=⟨_,_,vA,L8,rfl⟩
instance adY:uE Tryz.prog 144 [.map none]:=⟨_,_,Aw,SI,rfl⟩
instance adZ:uE Tryz.prog 244 [.int .i64 ((0:Int)),.slice none 0 0,.slice none 0 0,.slice none 0 0,.slice none 0 0,.int .i64 ((0:Int)),.slice none 0 0,.slice none 0 0,.slice none 0 0,.slice none 0 0,.slice none 0 0,.slice none 0 0,.int .i64 ((0:Int)),.slice none 0 0,.slice none 0 0,.slice none 0 0,.slice none 0 0,.int .i64 ((0:Int)),.slice none 0 0,.slice none 0 0,.slice none 0 0,.slice none 0 0,.slice none 0 0,.slice none 0 0,.slice none 0 0]:=⟨_,_,Ay,Md,rfl⟩
instance ad0:uE Tryz.prog 248 [.pointer none,.pointer none,.nilFunc]:=⟨_,_,ya,Me,rfl⟩
instance ad1:uE Tryz.prog 257 [.int .i64 ((0:Int)),.int .i64 ((0:Int))]:=⟨_,_,yb,Mf,rfl⟩
instance aau:jo Tryz.prog 25 0 0:=⟨_,_,_,Tryz.underlying25,rfl,s5,L5,rfl⟩
instance aav:jo Tryz.prog 25 1 1:=⟨_,_,_,Tryz.underlying25,rfl,iz,qB,rfl⟩
instance aaw:jo Tryz.prog 25 2 2:=⟨_,_,_,Tryz.underlying25,rfl,iz,qB,rfl⟩
instance aax:jo Tryz.prog 25 3 3:=⟨_,_,_,Tryz.underlying25,rfl,iz,qB,rfl⟩
instance aay:jo Tryz.prog 25 4 4:=⟨_,_,_,Tryz.underlying25,rfl,xr,JZ,rfl⟩
instance aaz:jo Tryz.prog 27 0 0:=⟨_,_,_,Tryz.underlying27,rfl,CO,Pj,rfl⟩
instance aaA:jo Tryz.prog 27 1 5:=⟨_,_,_,Tryz.underlying27,rfl,CO,Pj,rfl⟩
instance aaB:jo Tryz.prog 27 2 10:=⟨_,_,_,Tryz.underlying27,rfl,iz,qB,rfl⟩
instance aaC:jo Tryz.prog 27 3 11:=⟨_,_,_,Tryz.underlying27,rfl,iz,qB,rfl⟩
instance aaD:jo Tryz.prog 29 0 0:=⟨_,_,_,Tryz.underlying29,rfl,HG,U6,rfl⟩
instance aaE:jo Tryz.prog 29 1 12:=⟨_,_,_,Tryz.underlying29,rfl,iz,qB,rfl⟩
instance aaF:jo Tryz.prog 29 2 13:=⟨_,_,_,Tryz.underlying29,rfl,iz,qB,rfl⟩
instance aaG:jo Tryz.prog 31 0 0:=⟨_,_,_,Tryz.underlying31,rfl,s5,L5,rfl⟩
instance aaH:jo Tryz.prog 31 1 1:=⟨_,_,_,Tryz.underlying31,rfl,iz,qB,rfl⟩
instance aaI:jo Tryz.prog 31 2 2:=⟨_,_,_,Tryz.underlying31,rfl,iz,qB,rfl⟩
instance aaJ:jo Tryz.prog 31 3 3:=⟨_,_,_,Tryz.underlying31,rfl,iz,qB,rfl⟩
instance aaK:jo Tryz.prog 31 4 4:=⟨_,_,_,Tryz.underlying31,rfl,xr,JZ,rfl⟩
instance aaL:jo Tryz.prog 33 0 0:=⟨_,_,_,Tryz.underlying33,rfl,tN,J1,rfl⟩
instance aaM:jo Tryz.prog 33 1 5:=⟨_,_,_,Tryz.underlying33,rfl,tN,J1,rfl⟩
instance aaN:jo Tryz.prog 33 2 10:=⟨_,_,_,Tryz.underlying33,rfl,iz,qB,rfl⟩
instance aaO:jo Tryz.prog 33 3 11:=⟨_,_,_,Tryz.underlying33,rfl,iz,qB,rfl⟩
instance aaP:jo Tryz.prog 37 0 0:=⟨_,_,_,Tryz.underlying37,rfl,tO,J3,rfl⟩
instance aaQ:jo Tryz.prog 37 1 12:=⟨_,_,_,Tryz.underlying37,rfl,iz,qB,rfl⟩
instance aaR:jo Tryz.prog 37 2 13:=⟨_,_,_,Tryz.underlying37,rfl,iz,qB,rfl⟩
instance Yt:jo Tryz.prog 185 1 1:=⟨_,_,_,Tryz.underlying185,rfl,tN,J1,rfl⟩
instance Yu:jo Tryz.prog 185 2 6:=⟨_,_,_,Tryz.underlying185,rfl,Nj,SP,rfl⟩
instance Yv:jo Tryz.prog 185 3 7:=⟨_,_,_,Tryz.underlying185,rfl,xr,JZ,rfl⟩
instance Yw:jo Tryz.prog 185 4 8:=⟨_,_,_,Tryz.underlying185,rfl,Aw,SH,rfl⟩
instance Yx:jo Tryz.prog 187 0 0:=⟨_,_,_,Tryz.underlying187,rfl,s5,L5,rfl⟩
instance Yy:jo Tryz.prog 187 1 1:=⟨_,_,_,Tryz.underlying187,rfl,s5,L5,rfl⟩
instance Yz:jo Tryz.prog 244 0 0:=⟨_,_,_,Tryz.underlying244,rfl,tO,J3,rfl⟩
instance YA:jo Tryz.prog 244 1 12:=⟨_,_,_,Tryz.underlying244,rfl,tO,J3,rfl⟩
instance YB:jo Tryz.prog 244 2 24:=⟨_,_,_,Tryz.underlying244,rfl,iz,qB,rfl⟩
instance YC:jo Tryz.prog 248 1 1:=⟨_,_,_,Tryz.underlying248,rfl,vA,SF,rfl⟩
instance YD:jo Tryz.prog 248 2 2:=⟨_,_,_,Tryz.underlying248,rfl,Ni,SM,rfl⟩
instance ad2:Hl Tryz.prog 144 ByteArray Int inferInstance Value.string (Value.int .i64):=⟨_,_,_,Tryz.underlying144,Tryz.underlying9,Ky.str⟩
instance aaS:TJ Tryz.prog 2 5 .u8:=⟨by rw [Tryz.underlying2]; rfl,Tryz.underlying5⟩
instance ad3:Oh Tryz.prog 144 Int (Value.int .i64) 0:=⟨_,_,_,Tryz.underlying144,s5,Pd⟩
instance YE:TK Tryz.prog 54 9:=⟨_,Tryz.underlying54,Tryz.underlying5,Tryz.underlying9⟩
instance af7:xj Tryz.prog 31 [.int .i64 ((0:Int)),.slice none 0 0,.slice none 0 0,.slice none 0 0,.slice none 0 0] [(0,1),(1,1),(2,1),(3,1),(4,1)]:=⟨_,_,_,Tryz.underlying31,by kernel_rfl,tN,Po,rfl⟩
instance af8:xj Tryz.prog 33 [.int .i64 ((0:Int)),.slice none 0 0,.slice none 0 0,.slice none 0 0,.slice none 0 0,.int .i64 ((0:Int)),.slice none 0 0,.slice none 0 0,.slice none 0 0,.slice none 0 0,.slice none 0 0,.slice none 0 0] [(0,5),(5,5),(10,1),(11,1)]:=⟨_,_,_,Tryz.underlying33,by kernel_rfl,tO,Pp,rfl⟩
instance ad4:xj Tryz.prog 185 [.pointer none,.int .i64 ((0:Int)),.slice none 0 0,.slice none 0 0,.slice none 0 0,.slice none 0 0,.slice none 0 0,.slice none 0 0,.map none] [(0,1),(1,5),(6,1),(7,1),(8,1)]:=⟨_,_,_,Tryz.underlying185,by kernel_rfl,Nl,SS,rfl⟩
instance ad5:xj Tryz.prog 187 [.int .i64 ((0:Int)),.int .i64 ((0:Int))] [(0,1),(1,1)]:=⟨_,_,_,Tryz.underlying187,by kernel_rfl,Fa,SU,rfl⟩
instance ad6:xj Tryz.prog 244 [.int .i64 ((0:Int)),.slice none 0 0,.slice none 0 0,.slice none 0 0,.slice none 0 0,.int .i64 ((0:Int)),.slice none 0 0,.slice none 0 0,.slice none 0 0,.slice none 0 0,.slice none 0 0,.slice none 0 0,.int .i64 ((0:Int)),.slice none 0 0,.slice none 0 0,.slice none 0 0,.slice none 0 0,.int .i64 ((0:Int)),.slice none 0 0,.slice none 0 0,.slice none 0 0,.slice none 0 0,.slice none 0 0,.slice none 0 0,.slice none 0 0] [(0,12),(12,12),(24,1)]:=⟨_,_,_,Tryz.underlying244,by kernel_rfl,Ay,Md,rfl⟩
instance ad7:xj Tryz.prog 248 [.pointer none,.pointer none,.nilFunc] [(0,1),(1,1),(2,1)]:=⟨_,_,_,Tryz.underlying248,by kernel_rfl,ya,Me,rfl⟩
instance ad8:xj Tryz.prog 257 [.int .i64 ((0:Int)),.int .i64 ((0:Int))] [(0,1),(1,1)]:=⟨_,_,_,Tryz.underlying257,by kernel_rfl,yb,Mf,rfl⟩
instance ad9:LM Tryz.prog 187 .i64 .i64:=⟨_,_,Tryz.underlying187,by decide,by decide,Tryz.underlying2,Tryz.underlying2,rfl,rfl,by kernel_rfl,by kernel_rfl⟩
instance aea:LM Tryz.prog 257 .i64 .i64:=⟨_,_,Tryz.underlying257,by decide,by decide,Tryz.underlying2,Tryz.underlying2,rfl,rfl,by kernel_rfl,by kernel_rfl⟩
instance fn8:bm Tryz.prog 8:=⟨_,_,Tryz.func8,rfl,by kernel_rfl⟩
instance fn9:bm Tryz.prog 9:=⟨_,_,Tryz.func9,rfl,by kernel_rfl⟩
instance af9:bm Tryz.prog 10:=⟨_,_,Tryz.func10,rfl,by kernel_rfl⟩
instance aga:bm Tryz.prog 11:=⟨_,_,Tryz.func11,rfl,by kernel_rfl⟩
instance agb:bm Tryz.prog 12:=⟨_,_,Tryz.func12,rfl,by kernel_rfl⟩
instance agc:bm Tryz.prog 13:=⟨_,_,Tryz.func13,rfl,by kernel_rfl⟩
instance agd:bm Tryz.prog 14:=⟨_,_,Tryz.func14,rfl,by kernel_rfl⟩
instance age:bm Tryz.prog 15:=⟨_,_,Tryz.func15,rfl,by kernel_rfl⟩
instance agf:bm Tryz.prog 16:=⟨_,_,Tryz.func16,rfl,by kernel_rfl⟩
instance agh:bm Tryz.prog 53:=⟨_,_,Tryz.func53,rfl,by kernel_rfl⟩
instance agi:bm Tryz.prog 54:=⟨_,_,Tryz.func54,rfl,by kernel_rfl⟩
instance agj:bm Tryz.prog 55:=⟨_,_,Tryz.func55,rfl,by kernel_rfl⟩
instance agk:bm Tryz.prog 56:=⟨_,_,Tryz.func56,rfl,by kernel_rfl⟩
instance agl:bm Tryz.prog 57:=⟨_,_,Tryz.func57,rfl,by kernel_rfl⟩
instance agm:bm Tryz.prog 58:=⟨_,_,Tryz.func58,rfl,by kernel_rfl⟩
instance agn:bm Tryz.prog 59:=⟨_,_,Tryz.func59,rfl,by kernel_rfl⟩
instance ago:bm Tryz.prog 60:=⟨_,_,Tryz.func60,rfl,by kernel_rfl⟩
instance agp:bm Tryz.prog 61:=⟨_,_,Tryz.func61,rfl,by kernel_rfl⟩
instance agq:bm Tryz.prog 62:=⟨_,_,Tryz.func62,rfl,by kernel_rfl⟩
instance ags:bm Tryz.prog 63:=⟨_,_,Tryz.func63,rfl,by kernel_rfl⟩
instance agt:bm Tryz.prog 64:=⟨_,_,Tryz.func64,rfl,by kernel_rfl⟩
instance agu:bm Tryz.prog 65:=⟨_,_,Tryz.func65,rfl,by kernel_rfl⟩
instance agv:bm Tryz.prog 66:=⟨_,_,Tryz.func66,rfl,by kernel_rfl⟩
instance agw:bm Tryz.prog 67:=⟨_,_,Tryz.func67,rfl,by kernel_rfl⟩
instance agx:bm Tryz.prog 68:=⟨_,_,Tryz.func68,rfl,by kernel_rfl⟩
instance agy:bm Tryz.prog 69:=⟨_,_,Tryz.func69,rfl,by kernel_rfl⟩
instance agz:bm Tryz.prog 70:=⟨_,_,Tryz.func70,rfl,by kernel_rfl⟩
instance agA:bm Tryz.prog 71:=⟨_,_,Tryz.func71,rfl,by kernel_rfl⟩
instance agB:bm Tryz.prog 72:=⟨_,_,Tryz.func72,rfl,by kernel_rfl⟩
instance agC:bm Tryz.prog 73:=⟨_,_,Tryz.func73,rfl,by kernel_rfl⟩
instance agD:bm Tryz.prog 74:=⟨_,_,Tryz.func74,rfl,by kernel_rfl⟩
instance agE:bm Tryz.prog 84:=⟨_,_,Tryz.func84,rfl,by kernel_rfl⟩
instance agF:bm Tryz.prog 85:=⟨_,_,Tryz.func85,rfl,by kernel_rfl⟩
instance agG:bm Tryz.prog 87:=⟨_,_,Tryz.func87,rfl,by kernel_rfl⟩
instance agH:bm Tryz.prog 88:=⟨_,_,Tryz.func88,rfl,by kernel_rfl⟩
instance agI:bm Tryz.prog 89:=⟨_,_,Tryz.func89,rfl,by kernel_rfl⟩
instance agJ:bm Tryz.prog 91:=⟨_,_,Tryz.func91,rfl,by kernel_rfl⟩
instance agK:bm Tryz.prog 93:=⟨_,_,Tryz.func93,rfl,by kernel_rfl⟩
instance agL:bm Tryz.prog 99:=⟨_,_,Tryz.func99,rfl,by kernel_rfl⟩
instance aeb:bm Tryz.prog 100:=⟨_,_,Tryz.func100,rfl,by kernel_rfl⟩
instance aec:bm Tryz.prog 103:=⟨_,_,Tryz.func103,rfl,by kernel_rfl⟩
instance aed:bm Tryz.prog 106:=⟨_,_,Tryz.func106,rfl,by kernel_rfl⟩
instance aee:bm Tryz.prog 109:=⟨_,_,Tryz.func109,rfl,by kernel_rfl⟩
instance aef:bm Tryz.prog 114:=⟨_,_,Tryz.func114,rfl,by kernel_rfl⟩
instance aeg:bm Tryz.prog 119:=⟨_,_,Tryz.func119,rfl,by kernel_rfl⟩
instance aeh:bm Tryz.prog 123:=⟨_,_,Tryz.func123,rfl,by kernel_rfl⟩
instance aei:bm Tryz.prog 129:=⟨_,_,Tryz.func129,rfl,by kernel_rfl⟩
instance aej:bm Tryz.prog 133:=⟨_,_,Tryz.func133,rfl,by kernel_rfl⟩
instance aek:bm Tryz.prog 134:=⟨_,_,Tryz.func134,rfl,by kernel_rfl⟩
instance ael:bm Tryz.prog 135:=⟨_,_,Tryz.func135,rfl,by kernel_rfl⟩
instance aem:bm Tryz.prog 136:=⟨_,_,Tryz.func136,rfl,by kernel_rfl⟩
instance aen:bm Tryz.prog 137:=⟨_,_,Tryz.func137,rfl,by kernel_rfl⟩
instance aeo:bm Tryz.prog 138:=⟨_,_,Tryz.func138,rfl,by kernel_rfl⟩
instance aep:bm Tryz.prog 139:=⟨_,_,Tryz.func139,rfl,by kernel_rfl⟩
instance aeq:bm Tryz.prog 140:=⟨_,_,Tryz.func140,rfl,by kernel_rfl⟩
instance aer:bm Tryz.prog 141:=⟨_,_,Tryz.func141,rfl,by kernel_rfl⟩
instance aes:bm Tryz.prog 142:=⟨_,_,Tryz.func142,rfl,by kernel_rfl⟩
instance aet:bm Tryz.prog 143:=⟨_,_,Tryz.func143,rfl,by kernel_rfl⟩
instance aeu:bm Tryz.prog 144:=⟨_,_,Tryz.func144,rfl,by kernel_rfl⟩
instance aev:bm Tryz.prog 145:=⟨_,_,Tryz.func145,rfl,by kernel_rfl⟩
instance aew:bm Tryz.prog 146:=⟨_,_,Tryz.func146,rfl,by kernel_rfl⟩
instance aex:bm Tryz.prog 147:=⟨_,_,Tryz.func147,rfl,by kernel_rfl⟩
instance aey:bm Tryz.prog 148:=⟨_,_,Tryz.func148,rfl,by kernel_rfl⟩
instance aez:bm Tryz.prog 165:=⟨_,_,Tryz.func165,rfl,by kernel_rfl⟩
instance aeA:bm Tryz.prog 166:=⟨_,_,Tryz.func166,rfl,by kernel_rfl⟩
instance aeB:bm Tryz.prog 168:=⟨_,_,Tryz.func168,rfl,by kernel_rfl⟩
instance aeC:bm Tryz.prog 169:=⟨_,_,Tryz.func169,rfl,by kernel_rfl⟩
instance aeD:bm Tryz.prog 171:=⟨_,_,Tryz.func171,rfl,by kernel_rfl⟩
instance aeE:bm Tryz.prog 172:=⟨_,_,Tryz.func172,rfl,by kernel_rfl⟩
instance aeF:bm Tryz.prog 173:=⟨_,_,Tryz.func173,rfl,by kernel_rfl⟩
instance aeG:bm Tryz.prog 174:=⟨_,_,Tryz.func174,rfl,by kernel_rfl⟩
instance aeH:bm Tryz.prog 175:=⟨_,_,Tryz.func175,rfl,by kernel_rfl⟩
instance aeI:bm Tryz.prog 179:=⟨_,_,Tryz.func179,rfl,by kernel_rfl⟩
instance aeJ:bm Tryz.prog 183:=⟨_,_,Tryz.func183,rfl,by kernel_rfl⟩
instance aeK:bm Tryz.prog 191:=⟨_,_,Tryz.func191,rfl,by kernel_rfl⟩
instance aeL:bm Tryz.prog 192:=⟨_,_,Tryz.func192,rfl,by kernel_rfl⟩
instance aeM:bm Tryz.prog 196:=⟨_,_,Tryz.func196,rfl,by kernel_rfl⟩
instance aeN:bm Tryz.prog 198:=⟨_,_,Tryz.func198,rfl,by kernel_rfl⟩
instance aeO:bm Tryz.prog 201:=⟨_,_,Tryz.func201,rfl,by kernel_rfl⟩
instance aeP:bm Tryz.prog 202:=⟨_,_,Tryz.func202,rfl,by kernel_rfl⟩
instance aeQ:bm Tryz.prog 211:=⟨_,_,Tryz.func211,rfl,by kernel_rfl⟩
instance aeR:bm Tryz.prog 217:=⟨_,_,Tryz.func217,rfl,by kernel_rfl⟩
instance aeS:bm Tryz.prog 218:=⟨_,_,Tryz.func218,rfl,by kernel_rfl⟩
instance aeT:bm Tryz.prog 219:=⟨_,_,Tryz.func219,rfl,by kernel_rfl⟩
instance aeU:bm Tryz.prog 220:=⟨_,_,Tryz.func220,rfl,by kernel_rfl⟩
instance aeV:bm Tryz.prog 221:=⟨_,_,Tryz.func221,rfl,by kernel_rfl⟩
instance aeW:bm Tryz.prog 222:=⟨_,_,Tryz.func222,rfl,by kernel_rfl⟩
instance aeX:bm Tryz.prog 223:=⟨_,_,Tryz.func223,rfl,by kernel_rfl⟩
instance aeY:bm Tryz.prog 224:=⟨_,_,Tryz.func224,rfl,by kernel_rfl⟩
instance aeZ:bm Tryz.prog 225:=⟨_,_,Tryz.func225,rfl,by kernel_rfl⟩
instance ae0:bm Tryz.prog 226:=⟨_,_,Tryz.func226,rfl,by kernel_rfl⟩
instance ae1:bm Tryz.prog 227:=⟨_,_,Tryz.func227,rfl,by kernel_rfl⟩
instance ae2:bm Tryz.prog 228:=⟨_,_,Tryz.func228,rfl,by kernel_rfl⟩
instance ae3:bm Tryz.prog 229:=⟨_,_,Tryz.func229,rfl,by kernel_rfl⟩
instance ae4:bm Tryz.prog 230:=⟨_,_,Tryz.func230,rfl,by kernel_rfl⟩
instance ae5:bm Tryz.prog 231:=⟨_,_,Tryz.func231,rfl,by kernel_rfl⟩
instance ae6:bm Tryz.prog 232:=⟨_,_,Tryz.func232,rfl,by kernel_rfl⟩
instance ae7:bm Tryz.prog 233:=⟨_,_,Tryz.func233,rfl,by kernel_rfl⟩
instance ae8:bm Tryz.prog 235:=⟨_,_,Tryz.func235,rfl,by kernel_rfl⟩
instance ae9:bm Tryz.prog 236:=⟨_,_,Tryz.func236,rfl,by kernel_rfl⟩
instance afa:bm Tryz.prog 237:=⟨_,_,Tryz.func237,rfl,by kernel_rfl⟩
instance afb:bm Tryz.prog 245:=⟨_,_,Tryz.func245,rfl,by kernel_rfl⟩
instance afc:bm Tryz.prog 255:=⟨_,_,Tryz.func255,rfl,by kernel_rfl⟩
instance afd:bm Tryz.prog 256:=⟨_,_,Tryz.func256,rfl,by kernel_rfl⟩
instance afe:bm Tryz.prog 257:=⟨_,_,Tryz.func257,rfl,by kernel_rfl⟩
instance aff:bm Tryz.prog 258:=⟨_,_,Tryz.func258,rfl,by kernel_rfl⟩
instance afg:bm Tryz.prog 267:=⟨_,_,Tryz.func267,rfl,by kernel_rfl⟩
instance afh:bm Tryz.prog 268:=⟨_,_,Tryz.func268,rfl,by kernel_rfl⟩
instance afi:bm Tryz.prog 274:=⟨_,_,Tryz.func274,rfl,by kernel_rfl⟩
instance afj:bm Tryz.prog 275:=⟨_,_,Tryz.func275,rfl,by kernel_rfl⟩
instance afk:bm Tryz.prog 276:=⟨_,_,Tryz.func276,rfl,by kernel_rfl⟩
instance afl:bm Tryz.prog 277:=⟨_,_,Tryz.func277,rfl,by kernel_rfl⟩
instance afm:bm Tryz.prog 287:=⟨_,_,Tryz.func287,rfl,by kernel_rfl⟩
instance afn:bm Tryz.prog 288:=⟨_,_,Tryz.func288,rfl,by kernel_rfl⟩
instance afo:bm Tryz.prog 289:=⟨_,_,Tryz.func289,rfl,by kernel_rfl⟩
instance afp:bm Tryz.prog 293:=⟨_,_,Tryz.func293,rfl,by kernel_rfl⟩
end Go.Proofs.YtcnehblmgfbfoaaGreat
