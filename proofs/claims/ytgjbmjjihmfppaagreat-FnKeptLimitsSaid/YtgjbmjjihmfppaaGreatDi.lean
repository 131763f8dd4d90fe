/- Closed facts on types, as instances. No condition. -/
import Derived.Test.YtgjbmjjihmfppaaGreatDp
import Derived.Test.YtgjbmjjihmfppaaGreatLn
import Derived.Test.YtgjbmjjihmfppaaGreatChecked
import Derived.KernelRfl
namespace Go.Proofs.YtgjbmjjihmfppaaGreat
open Go Go.Li Go.Dk
set_option linter.unusedVariables false
set_option maxRecDepth 100000
noncomputable def i2:TypeInfo:=(Tryz.prog.info? 2).getD default
theorem wO:Tryz.prog.info? 2=some i2:=by kernel_rfl
theorem Mx:i2.size=1:=by kernel_rfl
theorem Q0:i2.size≠0:=by rw [Mx]; decide
theorem Uk:i2.zero=some (.int .i64 0):=by kernel_rfl
theorem by2:i2.bytes=8:=by kernel_rfl
noncomputable def i3:TypeInfo:=(Tryz.prog.info? 3).getD default
theorem KF:Tryz.prog.info? 3=some i3:=by kernel_rfl
theorem YL:i3.size=1:=by kernel_rfl
theorem YM:i3.size≠0:=by rw [YL]; decide
theorem zr3:i3.zero=some (.int .i64 0):=by kernel_rfl
theorem by3:i3.bytes=8:=by kernel_rfl
noncomputable def i4:TypeInfo:=(Tryz.prog.info? 4).getD default
theorem XI:Tryz.prog.info? 4=some i4:=by kernel_rfl
theorem sz4:i4.size=1:=by kernel_rfl
theorem ne4:i4.size≠0:=by rw [sz4]; decide
theorem zr4:i4.zero=some (.bool false):=by kernel_rfl
theorem by4:i4.bytes=1:=by kernel_rfl
noncomputable def i5:TypeInfo:=(Tryz.prog.info? 5).getD default
theorem XJ:Tryz.prog.info? 5=some i5:=by kernel_rfl
theorem YN:i5.size=1:=by kernel_rfl
theorem ne5:i5.size≠0:=by rw [YN]; decide
theorem zr5:i5.zero=some (.int .u8 0):=by kernel_rfl
theorem by5:i5.bytes=1:=by kernel_rfl
noncomputable def i22:TypeInfo:=(Tryz.prog.info? 22).getD default
theorem Ul:Tryz.prog.info? 22=some i22:=by kernel_rfl
theorem aak:i22.size=1:=by kernel_rfl
theorem aal:i22.size≠0:=by rw [aak]; decide
theorem akO:i22.zero=some (.slice none 0 0):=by kernel_rfl
theorem akP:i22.bytes=24:=by kernel_rfl
noncomputable def i24:TypeInfo:=(Tryz.prog.info? 24).getD default
theorem sg:Tryz.prog.info? 24=some i24:=by kernel_rfl
theorem Hb:i24.size=1:=by kernel_rfl
theorem CU:i24.size≠0:=by rw [Hb]; decide
theorem ON:i24.zero=some (.slice none 0 0):=by kernel_rfl
theorem aam:i24.bytes=24:=by kernel_rfl
noncomputable def i25:TypeInfo:=(Tryz.prog.info? 25).getD default
theorem Hc:Tryz.prog.info? 25=some i25:=by kernel_rfl
theorem Um:i25.size=1:=by kernel_rfl
theorem Un:i25.size≠0:=by rw [Um]; decide
theorem akQ:i25.zero=some (.slice none 0 0):=by kernel_rfl
theorem akR:i25.bytes=24:=by kernel_rfl
noncomputable def i27:TypeInfo:=(Tryz.prog.info? 27).getD default
theorem zb:Tryz.prog.info? 27=some i27:=by kernel_rfl
theorem OP:i27.size=5:=by kernel_rfl
theorem Uo:i27.size≠0:=by rw [OP]; decide
theorem Up:i27.zero=some (.agg #[.int .i64 ((0:Int)),.slice none 0 0,.slice none 0 0,.slice none 0 0,.slice none 0 0]):=by kernel_rfl
noncomputable def i29:TypeInfo:=(Tryz.prog.info? 29).getD default
theorem sX:Tryz.prog.info? 29=some i29:=by kernel_rfl
theorem Ew:i29.size=12:=by kernel_rfl
theorem KG:i29.size≠0:=by rw [Ew]; decide
theorem KH:i29.zero=some (.agg #[.int .i64 ((0:Int)),.slice none 0 0,.slice none 0 0,.slice none 0 0,.slice none 0 0,.int .i64 ((0:Int)),.slice none 0 0,.slice none 0 0,.slice none 0 0,.slice none 0 0,.slice none 0 0,.slice none 0 0]):=by kernel_rfl
noncomputable def i32:TypeInfo:=(Tryz.prog.info? 32).getD default
theorem xn:Tryz.prog.info? 32=some i32:=by kernel_rfl
theorem Ey:i32.size=2:=by kernel_rfl
theorem akS:i32.size≠0:=by rw [Ey]; decide
theorem KJ:i32.zero=some (.agg #[.int .i64 ((0:Int)),.slice none 0 0]):=by kernel_rfl
noncomputable def i54:TypeInfo:=(Tryz.prog.info? 54).getD default
theorem Bi:Tryz.prog.info? 54=some i54:=by kernel_rfl
theorem OQ:i54.size=1:=by kernel_rfl
theorem OR:i54.size≠0:=by rw [OQ]; decide
theorem aan:i54.zero=some (.pointer none):=by kernel_rfl
theorem akT:i54.bytes=8:=by kernel_rfl
noncomputable def i73:TypeInfo:=(Tryz.prog.info? 73).getD default
theorem DC:Tryz.prog.info? 73=some i73:=by kernel_rfl
theorem KK:i73.size=1:=by kernel_rfl
theorem akU:i73.size≠0:=by rw [KK]; decide
theorem Uq:i73.zero=some (.pointer none):=by kernel_rfl
theorem akV:i73.bytes=8:=by kernel_rfl
noncomputable def i79:TypeInfo:=(Tryz.prog.info? 79).getD default
theorem My:Tryz.prog.info? 79=some i79:=by kernel_rfl
theorem Ur:i79.size=1:=by kernel_rfl
theorem aao:i79.size≠0:=by rw [Ur]; decide
theorem akW:i79.zero=some (.int .u64 0):=by kernel_rfl
theorem akX:i79.bytes=8:=by kernel_rfl
noncomputable def i81:TypeInfo:=(Tryz.prog.info? 81).getD default
theorem Us:Tryz.prog.info? 81=some i81:=by kernel_rfl
theorem aap:i81.size=3:=by kernel_rfl
theorem akY:i81.size≠0:=by rw [aap]; decide
theorem aaq:i81.zero=some (.agg #[.slice none 0 0,.int .i64 ((0:Int)),.int .u64 ((0:Int))]):=by kernel_rfl
noncomputable def i83:TypeInfo:=(Tryz.prog.info? 83).getD default
theorem DD:Tryz.prog.info? 83=some i83:=by kernel_rfl
theorem Ut:i83.size=1:=by kernel_rfl
theorem Uu:i83.size≠0:=by rw [Ut]; decide
theorem aar:i83.zero=some (.slice none 0 0):=by kernel_rfl
theorem akZ:i83.bytes=24:=by kernel_rfl
noncomputable def i116:TypeInfo:=(Tryz.prog.info? 116).getD default
theorem Sf:Tryz.prog.info? 116=some i116:=by kernel_rfl
theorem XK:i116.size=27:=by kernel_rfl
theorem aiU:i116.size≠0:=by rw [XK]; decide
theorem XL:i116.zero=some (.agg #[.int .i64 ((0:Int)),.slice none 0 0,.slice none 0 0,.slice none 0 0,.slice none 0 0,.int .i64 ((0:Int)),.slice none 0 0,.slice none 0 0,.slice none 0 0,.slice none 0 0,.slice none 0 0,.slice none 0 0,.int .i64 ((0:Int)),.slice none 0 0,.slice none 0 0,.slice none 0 0,.slice none 0 0,.int .i64 ((0:Int)),.slice none 0 0,.slice none 0 0,.slice none 0 0,.slice none 0 0,.slice none 0 0,.slice none 0 0,.pointer none,.slice none 0 0,.slice none 0 0]):=by kernel_rfl
noncomputable def i125:TypeInfo:=(Tryz.prog.info? 125).getD default
theorem B5:Tryz.prog.info? 125=some i125:=by kernel_rfl
theorem KL:i125.size=2:=by kernel_rfl
theorem aiV:i125.size≠0:=by rw [KL]; decide
theorem Q1:i125.zero=some (.agg #[.int .i64 ((0:Int)),.int .i64 ((0:Int))]):=by kernel_rfl
noncomputable def i130:TypeInfo:=(Tryz.prog.info? 130).getD default
theorem JG:Tryz.prog.info? 130=some i130:=by kernel_rfl
theorem XM:i130.size=1:=by kernel_rfl
theorem aiW:i130.size≠0:=by rw [XM]; decide
theorem XN:i130.zero=some (.agg #[.pointer none]):=by kernel_rfl
noncomputable def i143:TypeInfo:=(Tryz.prog.info? 143).getD default
theorem adP:Tryz.prog.info? 143=some i143:=by kernel_rfl
theorem XO:i143.size=1:=by kernel_rfl
theorem aiX:i143.size≠0:=by rw [XO]; decide
theorem aiY:i143.zero=some (.nilFunc):=by kernel_rfl
theorem aiZ:i143.bytes=8:=by kernel_rfl
noncomputable def i166:TypeInfo:=(Tryz.prog.info? 166).getD default
theorem JH:Tryz.prog.info? 166=some i166:=by kernel_rfl
theorem Q2:i166.size=1:=by kernel_rfl
theorem ai0:i166.size≠0:=by rw [Q2]; decide
theorem XP:i166.zero=some (.nilFunc):=by kernel_rfl
theorem ai1:i166.bytes=8:=by kernel_rfl
noncomputable def i176:TypeInfo:=(Tryz.prog.info? 176).getD default
theorem vq:Tryz.prog.info? 176=some i176:=by kernel_rfl
theorem B6:i176.size=3:=by kernel_rfl
theorem ai2:i176.size≠0:=by rw [B6]; decide
theorem Gh:i176.zero=some (.agg #[.int .i64 ((0:Int)),.int .i64 ((0:Int)),.slice none 0 0]):=by kernel_rfl
noncomputable def i180:TypeInfo:=(Tryz.prog.info? 180).getD default
theorem Sg:Tryz.prog.info? 180=some i180:=by kernel_rfl
theorem XQ:i180.size=27:=by kernel_rfl
theorem ai3:i180.size≠0:=by rw [XQ]; decide
theorem XR:i180.zero=some (.agg #[.int .i64 ((0:Int)),.slice none 0 0,.slice none 0 0,.slice none 0 0,.slice none 0 0,.int .i64 ((0:Int)),.slice none 0 0,.slice none 0 0,.slice none 0 0,.slice none 0 0,.slice none 0 0,.slice none 0 0,.int .i64 ((0:Int)),.slice none 0 0,.slice none 0 0,.slice none 0 0,.slice none 0 0,.int .i64 ((0:Int)),.slice none 0 0,.slice none 0 0,.slice none 0 0,.slice none 0 0,.slice none 0 0,.slice none 0 0,.bool (false),.int .i64 ((0:Int)),.slice none 0 0]):=by kernel_rfl
instance lk2:LK Tryz.prog 2 none:=⟨_,Tryz.underlying2,rfl⟩
instance lk3:LK Tryz.prog 3 none:=⟨_,Tryz.underlying3,rfl⟩
instance lk4:LK Tryz.prog 4 none:=⟨_,Tryz.underlying4,rfl⟩
instance lk5:LK Tryz.prog 5 none:=⟨_,Tryz.underlying5,rfl⟩
instance ak0:LK Tryz.prog 22 none:=⟨_,Tryz.underlying22,rfl⟩
instance ak1:LK Tryz.prog 24 none:=⟨_,Tryz.underlying24,rfl⟩
instance ak2:LK Tryz.prog 25 none:=⟨_,Tryz.underlying25,rfl⟩
instance ak3:LK Tryz.prog 27 (some 5):=⟨_,_,Tryz.underlying27,rfl,zb,OP⟩
instance ak4:LK Tryz.prog 29 (some 12):=⟨_,_,Tryz.underlying29,rfl,sX,Ew⟩
instance ak5:LK Tryz.prog 32 (some 2):=⟨_,_,Tryz.underlying32,rfl,xn,Ey⟩
instance ak6:LK Tryz.prog 54 none:=⟨_,Tryz.underlying54,rfl⟩
instance ak7:LK Tryz.prog 73 none:=⟨_,Tryz.underlying73,rfl⟩
instance ak8:LK Tryz.prog 79 none:=⟨_,Tryz.underlying79,rfl⟩
instance ak9:LK Tryz.prog 83 none:=⟨_,Tryz.underlying83,rfl⟩
instance ai4:LK Tryz.prog 125 (some 2):=⟨_,_,Tryz.underlying125,rfl,B5,KL⟩
instance ai5:LK Tryz.prog 143 none:=⟨_,Tryz.underlying143,rfl⟩
instance ai6:LK Tryz.prog 166 none:=⟨_,Tryz.underlying166,rfl⟩
instance ai7:LK Tryz.prog 176 (some 3):=⟨_,_,Tryz.underlying176,rfl,vq,B6⟩
instance ala:yf Tryz.prog 22:=⟨_,_,Tryz.underlying22,XJ,YN⟩
instance ald:yf Tryz.prog 24:=⟨_,_,Tryz.underlying24,wO,Mx⟩
instance ale:LZ Tryz.prog 24 2:=⟨Tryz.underlying24,_,_,wO,Uk,Mx⟩
instance alf:tD Tryz.prog 24 Int 2 (aC .i64) 0 8:=⟨Tryz.underlying24,rfl,_,_,wO,Uk,Mx,rfl,by2,fun _=>⟨rfl,rfl⟩⟩
instance alg:yf Tryz.prog 25:=⟨_,_,Tryz.underlying25,sg,Hb⟩
instance alh:LZ Tryz.prog 25 24:=⟨Tryz.underlying25,_,_,sg,ON,Hb⟩
instance ali:tD Tryz.prog 25 (List Int) 24 (aL 2 (aC .i64)) [] 24:=⟨Tryz.underlying25,rfl,_,_,sg,ON,Hb,rfl,aam,fun _=>Ej⟩
instance alj:Dm Tryz.prog 83 2:=⟨_,_,Tryz.underlying83,xn,Ey⟩
instance alk:Gw Tryz.prog 83 32 2:=⟨Tryz.underlying83,_,_,xn,KJ,Ey,by decide⟩
theorem aas:i32.bytes=32:=by kernel_rfl
instance alm:AF Tryz.prog 83 32 2 32:=⟨Tryz.underlying83,_,_,xn,KJ,rfl,Ey,aas,by decide⟩
instance ai8:Dm Tryz.prog 104 12:=⟨_,_,Tryz.underlying104,sX,Ew⟩
instance ai9:Gw Tryz.prog 104 29 12:=⟨Tryz.underlying104,_,_,sX,KH,Ew,by decide⟩
theorem aat:i29.bytes=256:=by kernel_rfl
instance aja:AF Tryz.prog 104 29 12 256:=⟨Tryz.underlying104,_,_,sX,KH,rfl,Ew,aat,by decide⟩
instance ajb:yf Tryz.prog 120:=⟨_,_,Tryz.underlying120,Bi,OQ⟩
instance ajc:Jt Tryz.prog 120 54:=⟨Tryz.underlying120,_,_,Bi,aan,OQ⟩
instance ajd:yf Tryz.prog 135:=⟨_,_,Tryz.underlying135,DC,KK⟩
instance aje:Jt Tryz.prog 135 73:=⟨Tryz.underlying135,_,_,DC,Uq,KK⟩
instance ajf:Dm Tryz.prog 173 3:=⟨_,_,Tryz.underlying173,vq,B6⟩
instance ajg:Gw Tryz.prog 173 176 3:=⟨Tryz.underlying173,_,_,vq,Gh,B6,by decide⟩
theorem XS:i176.bytes=40:=by kernel_rfl
instance ajh:AF Tryz.prog 173 176 3 40:=⟨Tryz.underlying173,_,_,vq,Gh,rfl,B6,XS,by decide⟩
instance so2:u5 Tryz.prog 2 1:=⟨_,wO,Mx⟩
instance so3:u5 Tryz.prog 3 1:=⟨_,KF,YL⟩
instance aln:u5 Tryz.prog 24 1:=⟨_,sg,Hb⟩
instance alo:u5 Tryz.prog 25 1:=⟨_,Hc,Um⟩
instance alp:u5 Tryz.prog 27 5:=⟨_,zb,OP⟩
instance alq:u5 Tryz.prog 29 12:=⟨_,sX,Ew⟩
instance alr:u5 Tryz.prog 32 2:=⟨_,xn,Ey⟩
instance als:u5 Tryz.prog 73 1:=⟨_,DC,KK⟩
instance alu:u5 Tryz.prog 79 1:=⟨_,My,Ur⟩
instance alv:u5 Tryz.prog 83 1:=⟨_,DD,Ut⟩
instance aji:u5 Tryz.prog 125 2:=⟨_,B5,KL⟩
instance ajj:u5 Tryz.prog 166 1:=⟨_,JH,Q2⟩
instance ajk:u5 Tryz.prog 176 3:=⟨_,vq,B6⟩
instance zv2:yg Tryz.prog 2 [.int .i64 0]:=⟨_,_,wO,Uk,rfl⟩
instance alw:yg Tryz.prog 24 [.slice none 0 0]:=⟨_,_,sg,ON,rfl⟩
instance alx:yg Tryz.prog 27 [.int .i64 ((0:Int)),.slice none 0 0,.slice none 0 0,.slice none 0 0,.slice none 0 0]:=⟨_,_,zb,Up,rfl⟩
instance aly:yg Tryz.prog 29 [.int .i64 ((0:Int)),.slice none 0 0,.slice none 0 0,.slice none 0 0,.slice none 0 0,.int .i64 ((0:Int)),.slice none 0 0,.slice none 0 0,.slice none 0 0,.slice none 0 0,.slice none 0 0,.slice none 0 0]:=⟨_,_,sX,KH,rfl⟩
instance alz:yg Tryz.prog 32 [.int .i64 ((0:Int)),.slice none 0 0]:=⟨_,_,xn,KJ,rfl⟩
instance alA:yg Tryz.prog 73 [.pointer none]:=⟨_,_,DC,Uq,rfl⟩
instance alB:yg Tryz.prog 83 [.slice none 0 0]:=⟨_,_,DD,aar,rfl⟩
instance ajl:yg Tryz.prog 125 [.int .i64 ((0:Int)),.int .i64 ((0:Int))]:=⟨_,_,B5,Q1,rfl⟩
instance ajm:yg Tryz.prog 166 [.nilFunc]:=⟨_,_,JH,XP,rfl⟩
instance ajn:yg Tryz.prog 176 [.int .i64 ((0:Int)),.int .i64 ((0:Int)),.slice none 0 0]:=⟨_,_,vq,Gh,rfl⟩
instance afK:oq Tryz.prog 27 0 0:=⟨_,_,_,Tryz.underlying27,rfl,wO,Q0,rfl⟩
instance afL:oq Tryz.prog 27 1 1:=⟨_,_,_,Tryz.underlying27,rfl,sg,CU,rfl⟩
instance afM:oq Tryz.prog 27 2 2:=⟨_,_,_,Tryz.underlying27,rfl,sg,CU,rfl⟩
instance afN:oq Tryz.prog 27 3 3:=⟨_,_,_,Tryz.underlying27,rfl,sg,CU,rfl⟩
instance afO:oq Tryz.prog 27 4 4:=⟨_,_,_,Tryz.underlying27,rfl,Hc,Un,rfl⟩
instance afP:oq Tryz.prog 29 0 0:=⟨_,_,_,Tryz.underlying29,rfl,zb,Uo,rfl⟩
instance afQ:oq Tryz.prog 29 1 5:=⟨_,_,_,Tryz.underlying29,rfl,zb,Uo,rfl⟩
instance afR:oq Tryz.prog 29 2 10:=⟨_,_,_,Tryz.underlying29,rfl,sg,CU,rfl⟩
instance afS:oq Tryz.prog 29 3 11:=⟨_,_,_,Tryz.underlying29,rfl,sg,CU,rfl⟩
instance afT:oq Tryz.prog 32 0 0:=⟨_,_,_,Tryz.underlying32,rfl,wO,Q0,rfl⟩
instance afU:oq Tryz.prog 32 1 1:=⟨_,_,_,Tryz.underlying32,rfl,sg,CU,rfl⟩
instance afV:oq Tryz.prog 81 0 0:=⟨_,_,_,Tryz.underlying81,rfl,Ul,aal,rfl⟩
instance afW:oq Tryz.prog 81 1 1:=⟨_,_,_,Tryz.underlying81,rfl,KF,YM,rfl⟩
instance afX:oq Tryz.prog 81 2 2:=⟨_,_,_,Tryz.underlying81,rfl,My,aao,rfl⟩
instance afY:oq Tryz.prog 87 0 0:=⟨_,_,_,Tryz.underlying87,rfl,Bi,OR,rfl⟩
instance adQ:oq Tryz.prog 116 0 0:=⟨_,_,_,Tryz.underlying116,rfl,sX,KG,rfl⟩
instance adR:oq Tryz.prog 116 1 12:=⟨_,_,_,Tryz.underlying116,rfl,sX,KG,rfl⟩
instance adS:oq Tryz.prog 116 2 24:=⟨_,_,_,Tryz.underlying116,rfl,Bi,OR,rfl⟩
instance adT:oq Tryz.prog 116 3 25:=⟨_,_,_,Tryz.underlying116,rfl,DD,Uu,rfl⟩
instance adU:oq Tryz.prog 116 4 26:=⟨_,_,_,Tryz.underlying116,rfl,DD,Uu,rfl⟩
instance adV:oq Tryz.prog 130 0 0:=⟨_,_,_,Tryz.underlying130,rfl,Bi,OR,rfl⟩
instance adW:oq Tryz.prog 176 0 0:=⟨_,_,_,Tryz.underlying176,rfl,wO,Q0,rfl⟩
instance adX:oq Tryz.prog 176 1 1:=⟨_,_,_,Tryz.underlying176,rfl,wO,Q0,rfl⟩
instance adY:oq Tryz.prog 176 2 2:=⟨_,_,_,Tryz.underlying176,rfl,sg,CU,rfl⟩
instance adZ:oq Tryz.prog 180 0 0:=⟨_,_,_,Tryz.underlying180,rfl,sX,KG,rfl⟩
instance ad0:oq Tryz.prog 180 1 12:=⟨_,_,_,Tryz.underlying180,rfl,sX,KG,rfl⟩
instance ad1:oq Tryz.prog 180 2 24:=⟨_,_,_,Tryz.underlying180,rfl,XI,ne4,rfl⟩
instance ad2:oq Tryz.prog 180 3 25:=⟨_,_,_,Tryz.underlying180,rfl,KF,YM,rfl⟩
instance ad3:oq Tryz.prog 180 4 26:=⟨_,_,_,Tryz.underlying180,rfl,Hc,Un,rfl⟩
instance ad4:Jw Tryz.prog 3 79 .u64:=⟨by rw [Tryz.underlying3]; rfl,Tryz.underlying79⟩
instance afZ:Jw Tryz.prog 5 2 .i64:=⟨by rw [Tryz.underlying5]; rfl,Tryz.underlying2⟩
instance ad5:Jw Tryz.prog 5 79 .u64:=⟨by rw [Tryz.underlying5]; rfl,Tryz.underlying79⟩
instance ad6:Jw Tryz.prog 79 2 .i64:=⟨by rw [Tryz.underlying79]; rfl,Tryz.underlying2⟩
instance bl4:Tn Tryz.prog 4:=⟨Tryz.underlying4⟩
instance alC:yY Tryz.prog 27 [.int .i64 ((0:Int)),.slice none 0 0,.slice none 0 0,.slice none 0 0,.slice none 0 0] [(0,1),(1,1),(2,1),(3,1),(4,1)]:=⟨_,_,_,Tryz.underlying27,by kernel_rfl,zb,Up,rfl⟩
instance alD:yY Tryz.prog 29 [.int .i64 ((0:Int)),.slice none 0 0,.slice none 0 0,.slice none 0 0,.slice none 0 0,.int .i64 ((0:Int)),.slice none 0 0,.slice none 0 0,.slice none 0 0,.slice none 0 0,.slice none 0 0,.slice none 0 0] [(0,5),(5,5),(10,1),(11,1)]:=⟨_,_,_,Tryz.underlying29,by kernel_rfl,sX,KH,rfl⟩
instance alE:yY Tryz.prog 32 [.int .i64 ((0:Int)),.slice none 0 0] [(0,1),(1,1)]:=⟨_,_,_,Tryz.underlying32,by kernel_rfl,xn,KJ,rfl⟩
instance alF:yY Tryz.prog 81 [.slice none 0 0,.int .i64 ((0:Int)),.int .u64 ((0:Int))] [(0,1),(1,1),(2,1)]:=⟨_,_,_,Tryz.underlying81,by kernel_rfl,Us,aaq,rfl⟩
instance ajo:yY Tryz.prog 116 [.int .i64 ((0:Int)),.slice none 0 0,.slice none 0 0,.slice none 0 0,.slice none 0 0,.int .i64 ((0:Int)),.slice none 0 0,.slice none 0 0,.slice none 0 0,.slice none 0 0,.slice none 0 0,.slice none 0 0,.int .i64 ((0:Int)),.slice none 0 0,.slice none 0 0,.slice none 0 0,.slice none 0 0,.int .i64 ((0:Int)),.slice none 0 0,.slice none 0 0,.slice none 0 0,.slice none 0 0,.slice none 0 0,.slice none 0 0,.pointer none,.slice none 0 0,.slice none 0 0] [(0,12),(12,12),(24,1),(25,1),(26,1)]:=⟨_,_,_,Tryz.underlying116,by kernel_rfl,Sf,XL,rfl⟩
instance ajp:yY Tryz.prog 125 [.int .i64 ((0:Int)),.int .i64 ((0:Int))] [(0,1),(1,1)]:=⟨_,_,_,Tryz.underlying125,by kernel_rfl,B5,Q1,rfl⟩
instance ajq:yY Tryz.prog 130 [.pointer none] [(0,1)]:=⟨_,_,_,Tryz.underlying130,by kernel_rfl,JG,XN,rfl⟩
instance ajr:yY Tryz.prog 176 [.int .i64 ((0:Int)),.int .i64 ((0:Int)),.slice none 0 0] [(0,1),(1,1),(2,1)]:=⟨_,_,_,Tryz.underlying176,by kernel_rfl,vq,Gh,rfl⟩
instance ajs:yY Tryz.prog 180 [.int .i64 ((0:Int)),.slice none 0 0,.slice none 0 0,.slice none 0 0,.slice none 0 0,.int .i64 ((0:Int)),.slice none 0 0,.slice none 0 0,.slice none 0 0,.slice none 0 0,.slice none 0 0,.slice none 0 0,.int .i64 ((0:Int)),.slice none 0 0,.slice none 0 0,.slice none 0 0,.slice none 0 0,.int .i64 ((0:Int)),.slice none 0 0,.slice none 0 0,.slice none 0 0,.slice none 0 0,.slice none 0 0,.slice none 0 0,.bool (false),.int .i64 ((0:Int)),.slice none 0 0] [(0,12),(12,12),(24,1),(25,1),(26,1)]:=⟨_,_,_,Tryz.underlying180,by kernel_rfl,Sg,XR,rfl⟩
instance ajt:Tp Tryz.prog 125 .i64 .i64:=⟨_,_,Tryz.underlying125,by decide,by decide,Tryz.underlying2,Tryz.underlying2,rfl,rfl,by kernel_rfl,by kernel_rfl⟩
instance aju:Ym Tryz.prog 130:=⟨_,Tryz.underlying130,rfl⟩
instance YO:Yn Tryz.prog 130 (i130.methods.getD 0 default).name 186:=⟨i130,i130.methods.getD 0 default,_,_,_,JG,by kernel_rfl,by kernel_rfl,by kernel_rfl,Tryz.underlying130,(fun _ h=>nomatch h),Tryz.func186,rfl,rfl⟩
instance fn7:bp Tryz.prog 7:=⟨_,_,Tryz.func7,rfl,by kernel_rfl⟩
instance alG:bp Tryz.prog 14:=⟨_,_,Tryz.func14,rfl,by kernel_rfl⟩
instance alH:bp Tryz.prog 20:=⟨_,_,Tryz.func20,rfl,by kernel_rfl⟩
instance alJ:bp Tryz.prog 25:=⟨_,_,Tryz.func25,rfl,by kernel_rfl⟩
instance alK:bp Tryz.prog 26:=⟨_,_,Tryz.func26,rfl,by kernel_rfl⟩
instance alL:bp Tryz.prog 27:=⟨_,_,Tryz.func27,rfl,by kernel_rfl⟩
instance alM:bp Tryz.prog 28:=⟨_,_,Tryz.func28,rfl,by kernel_rfl⟩
instance alN:bp Tryz.prog 29:=⟨_,_,Tryz.func29,rfl,by kernel_rfl⟩
instance alO:bp Tryz.prog 33:=⟨_,_,Tryz.func33,rfl,by kernel_rfl⟩
instance alP:bp Tryz.prog 34:=⟨_,_,Tryz.func34,rfl,by kernel_rfl⟩
instance alQ:bp Tryz.prog 35:=⟨_,_,Tryz.func35,rfl,by kernel_rfl⟩
instance alR:bp Tryz.prog 36:=⟨_,_,Tryz.func36,rfl,by kernel_rfl⟩
instance alS:bp Tryz.prog 38:=⟨_,_,Tryz.func38,rfl,by kernel_rfl⟩
instance alT:bp Tryz.prog 42:=⟨_,_,Tryz.func42,rfl,by kernel_rfl⟩
instance alU:bp Tryz.prog 43:=⟨_,_,Tryz.func43,rfl,by kernel_rfl⟩
instance alV:bp Tryz.prog 45:=⟨_,_,Tryz.func45,rfl,by kernel_rfl⟩
instance alW:bp Tryz.prog 46:=⟨_,_,Tryz.func46,rfl,by kernel_rfl⟩
instance alX:bp Tryz.prog 47:=⟨_,_,Tryz.func47,rfl,by kernel_rfl⟩
instance alY:bp Tryz.prog 48:=⟨_,_,Tryz.func48,rfl,by kernel_rfl⟩
instance alZ:bp Tryz.prog 52:=⟨_,_,Tryz.func52,rfl,by kernel_rfl⟩
instance al0:bp Tryz.prog 53:=⟨_,_,Tryz.func53,rfl,by kernel_rfl⟩
instance al1:bp Tryz.prog 54:=⟨_,_,Tryz.func54,rfl,by kernel_rfl⟩
instance al2:bp Tryz.prog 55:=⟨_,_,Tryz.func55,rfl,by kernel_rfl⟩
instance al3:bp Tryz.prog 56:=⟨_,_,Tryz.func56,rfl,by kernel_rfl⟩
instance al4:bp Tryz.prog 57:=⟨_,_,Tryz.func57,rfl,by kernel_rfl⟩
instance al5:bp Tryz.prog 61:=⟨_,_,Tryz.func61,rfl,by kernel_rfl⟩
instance al6:bp Tryz.prog 62:=⟨_,_,Tryz.func62,rfl,by kernel_rfl⟩
instance al7:bp Tryz.prog 63:=⟨_,_,Tryz.func63,rfl,by kernel_rfl⟩
instance al8:bp Tryz.prog 64:=⟨_,_,Tryz.func64,rfl,by kernel_rfl⟩
instance al9:bp Tryz.prog 65:=⟨_,_,Tryz.func65,rfl,by kernel_rfl⟩
instance ama:bp Tryz.prog 66:=⟨_,_,Tryz.func66,rfl,by kernel_rfl⟩
instance amb:bp Tryz.prog 67:=⟨_,_,Tryz.func67,rfl,by kernel_rfl⟩
instance amc:bp Tryz.prog 68:=⟨_,_,Tryz.func68,rfl,by kernel_rfl⟩
instance amd:bp Tryz.prog 69:=⟨_,_,Tryz.func69,rfl,by kernel_rfl⟩
instance ame:bp Tryz.prog 70:=⟨_,_,Tryz.func70,rfl,by kernel_rfl⟩
instance amf:bp Tryz.prog 71:=⟨_,_,Tryz.func71,rfl,by kernel_rfl⟩
instance amg:bp Tryz.prog 72:=⟨_,_,Tryz.func72,rfl,by kernel_rfl⟩
instance amh:bp Tryz.prog 73:=⟨_,_,Tryz.func73,rfl,by kernel_rfl⟩
instance ami:bp Tryz.prog 74:=⟨_,_,Tryz.func74,rfl,by kernel_rfl⟩
instance amj:bp Tryz.prog 75:=⟨_,_,Tryz.func75,rfl,by kernel_rfl⟩
instance amk:bp Tryz.prog 76:=⟨_,_,Tryz.func76,rfl,by kernel_rfl⟩
instance aml:bp Tryz.prog 77:=⟨_,_,Tryz.func77,rfl,by kernel_rfl⟩
instance amm:bp Tryz.prog 78:=⟨_,_,Tryz.func78,rfl,by kernel_rfl⟩
instance amn:bp Tryz.prog 79:=⟨_,_,Tryz.func79,rfl,by kernel_rfl⟩
instance amo:bp Tryz.prog 80:=⟨_,_,Tryz.func80,rfl,by kernel_rfl⟩
instance amp:bp Tryz.prog 81:=⟨_,_,Tryz.func81,rfl,by kernel_rfl⟩
instance amq:bp Tryz.prog 82:=⟨_,_,Tryz.func82,rfl,by kernel_rfl⟩
instance amr:bp Tryz.prog 83:=⟨_,_,Tryz.func83,rfl,by kernel_rfl⟩
instance ams:bp Tryz.prog 84:=⟨_,_,Tryz.func84,rfl,by kernel_rfl⟩
instance amt:bp Tryz.prog 85:=⟨_,_,Tryz.func85,rfl,by kernel_rfl⟩
instance amu:bp Tryz.prog 86:=⟨_,_,Tryz.func86,rfl,by kernel_rfl⟩
instance amv:bp Tryz.prog 87:=⟨_,_,Tryz.func87,rfl,by kernel_rfl⟩
instance amw:bp Tryz.prog 88:=⟨_,_,Tryz.func88,rfl,by kernel_rfl⟩
instance amx:bp Tryz.prog 89:=⟨_,_,Tryz.func89,rfl,by kernel_rfl⟩
instance amy:bp Tryz.prog 90:=⟨_,_,Tryz.func90,rfl,by kernel_rfl⟩
instance amz:bp Tryz.prog 92:=⟨_,_,Tryz.func92,rfl,by kernel_rfl⟩
instance amA:bp Tryz.prog 93:=⟨_,_,Tryz.func93,rfl,by kernel_rfl⟩
instance amB:bp Tryz.prog 94:=⟨_,_,Tryz.func94,rfl,by kernel_rfl⟩
instance amC:bp Tryz.prog 95:=⟨_,_,Tryz.func95,rfl,by kernel_rfl⟩
instance amD:bp Tryz.prog 96:=⟨_,_,Tryz.func96,rfl,by kernel_rfl⟩
instance amE:bp Tryz.prog 97:=⟨_,_,Tryz.func97,rfl,by kernel_rfl⟩
instance amF:bp Tryz.prog 98:=⟨_,_,Tryz.func98,rfl,by kernel_rfl⟩
instance amG:bp Tryz.prog 99:=⟨_,_,Tryz.func99,rfl,by kernel_rfl⟩
instance ajv:bp Tryz.prog 101:=⟨_,_,Tryz.func101,rfl,by kernel_rfl⟩
instance ajw:bp Tryz.prog 102:=⟨_,_,Tryz.func102,rfl,by kernel_rfl⟩
instance ajx:bp Tryz.prog 103:=⟨_,_,Tryz.func103,rfl,by kernel_rfl⟩
instance ajy:bp Tryz.prog 104:=⟨_,_,Tryz.func104,rfl,by kernel_rfl⟩
instance ajz:bp Tryz.prog 105:=⟨_,_,Tryz.func105,rfl,by kernel_rfl⟩
instance ajA:bp Tryz.prog 106:=⟨_,_,Tryz.func106,rfl,by kernel_rfl⟩
instance ajB:bp Tryz.prog 107:=⟨_,_,Tryz.func107,rfl,by kernel_rfl⟩
instance ajC:bp Tryz.prog 108:=⟨_,_,Tryz.func108,rfl,by kernel_rfl⟩
instance ajD:bp Tryz.prog 109:=⟨_,_,Tryz.func109,rfl,by kernel_rfl⟩
instance ajE:bp Tryz.prog 110:=⟨_,_,Tryz.func110,rfl,by kernel_rfl⟩
instance ajF:bp Tryz.prog 111:=⟨_,_,Tryz.func111,rfl,by kernel_rfl⟩
instance ajG:bp Tryz.prog 112:=⟨_,_,Tryz.func112,rfl,by kernel_rfl⟩
instance ajH:bp Tryz.prog 113:=⟨_,_,Tryz.func113,rfl,by kernel_rfl⟩
instance ajI:bp Tryz.prog 114:=⟨_,_,Tryz.func114,rfl,by kernel_rfl⟩
instance ajJ:bp Tryz.prog 115:=⟨_,_,Tryz.func115,rfl,by kernel_rfl⟩
instance ajK:bp Tryz.prog 116:=⟨_,_,Tryz.func116,rfl,by kernel_rfl⟩
instance ajL:bp Tryz.prog 117:=⟨_,_,Tryz.func117,rfl,by kernel_rfl⟩
instance ajM:bp Tryz.prog 118:=⟨_,_,Tryz.func118,rfl,by kernel_rfl⟩
instance ajN:bp Tryz.prog 119:=⟨_,_,Tryz.func119,rfl,by kernel_rfl⟩
instance ajO:bp Tryz.prog 120:=⟨_,_,Tryz.func120,rfl,by kernel_rfl⟩
instance ajP:bp Tryz.prog 121:=⟨_,_,Tryz.func121,rfl,by kernel_rfl⟩
instance ajQ:bp Tryz.prog 122:=⟨_,_,Tryz.func122,rfl,by kernel_rfl⟩
instance ajR:bp Tryz.prog 123:=⟨_,_,Tryz.func123,rfl,by kernel_rfl⟩
instance ajS:bp Tryz.prog 124:=⟨_,_,Tryz.func124,rfl,by kernel_rfl⟩
instance ajT:bp Tryz.prog 125:=⟨_,_,Tryz.func125,rfl,by kernel_rfl⟩
instance ajU:bp Tryz.prog 126:=⟨_,_,Tryz.func126,rfl,by kernel_rfl⟩
instance ajV:bp Tryz.prog 127:=⟨_,_,Tryz.func127,rfl,by kernel_rfl⟩
instance ajW:bp Tryz.prog 129:=⟨_,_,Tryz.func129,rfl,by kernel_rfl⟩
instance ajX:bp Tryz.prog 131:=⟨_,_,Tryz.func131,rfl,by kernel_rfl⟩
instance ajY:bp Tryz.prog 132:=⟨_,_,Tryz.func132,rfl,by kernel_rfl⟩
instance ajZ:bp Tryz.prog 133:=⟨_,_,Tryz.func133,rfl,by kernel_rfl⟩
instance aj0:bp Tryz.prog 134:=⟨_,_,Tryz.func134,rfl,by kernel_rfl⟩
instance aj1:bp Tryz.prog 135:=⟨_,_,Tryz.func135,rfl,by kernel_rfl⟩
instance aj2:bp Tryz.prog 136:=⟨_,_,Tryz.func136,rfl,by kernel_rfl⟩
instance aj3:bp Tryz.prog 137:=⟨_,_,Tryz.func137,rfl,by kernel_rfl⟩
instance aj4:bp Tryz.prog 138:=⟨_,_,Tryz.func138,rfl,by kernel_rfl⟩
instance aj5:bp Tryz.prog 139:=⟨_,_,Tryz.func139,rfl,by kernel_rfl⟩
instance aj6:bp Tryz.prog 140:=⟨_,_,Tryz.func140,rfl,by kernel_rfl⟩
instance aj7:bp Tryz.prog 141:=⟨_,_,Tryz.func141,rfl,by kernel_rfl⟩
instance aj8:bp Tryz.prog 142:=⟨_,_,Tryz.func142,rfl,by kernel_rfl⟩
instance aj9:bp Tryz.prog 143:=⟨_,_,Tryz.func143,rfl,by kernel_rfl⟩
instance aka:bp Tryz.prog 144:=⟨_,_,Tryz.func144,rfl,by kernel_rfl⟩
instance akb:bp Tryz.prog 145:=⟨_,_,Tryz.func145,rfl,by kernel_rfl⟩
instance akc:bp Tryz.prog 146:=⟨_,_,Tryz.func146,rfl,by kernel_rfl⟩
instance akd:bp Tryz.prog 147:=⟨_,_,Tryz.func147,rfl,by kernel_rfl⟩
instance ake:bp Tryz.prog 148:=⟨_,_,Tryz.func148,rfl,by kernel_rfl⟩
instance akf:bp Tryz.prog 149:=⟨_,_,Tryz.func149,rfl,by kernel_rfl⟩
instance akg:bp Tryz.prog 150:=⟨_,_,Tryz.func150,rfl,by kernel_rfl⟩
instance akh:bp Tryz.prog 151:=⟨_,_,Tryz.func151,rfl,by kernel_rfl⟩
instance aki:bp Tryz.prog 153:=⟨_,_,Tryz.func153,rfl,by kernel_rfl⟩
instance akj:bp Tryz.prog 154:=⟨_,_,Tryz.func154,rfl,by kernel_rfl⟩
instance akk:bp Tryz.prog 155:=⟨_,_,Tryz.func155,rfl,by kernel_rfl⟩
instance akl:bp Tryz.prog 156:=⟨_,_,Tryz.func156,rfl,by kernel_rfl⟩
instance akm:bp Tryz.prog 157:=⟨_,_,Tryz.func157,rfl,by kernel_rfl⟩
instance akn:bp Tryz.prog 158:=⟨_,_,Tryz.func158,rfl,by kernel_rfl⟩
instance ako:bp Tryz.prog 159:=⟨_,_,Tryz.func159,rfl,by kernel_rfl⟩
instance akp:bp Tryz.prog 160:=⟨_,_,Tryz.func160,rfl,by kernel_rfl⟩
instance akq:bp Tryz.prog 161:=⟨_,_,Tryz.func161,rfl,by kernel_rfl⟩
instance akr:bp Tryz.prog 162:=⟨_,_,Tryz.func162,rfl,by kernel_rfl⟩
instance aks:bp Tryz.prog 163:=⟨_,_,Tryz.func163,rfl,by kernel_rfl⟩
instance akt:bp Tryz.prog 164:=⟨_,_,Tryz.func164,rfl,by kernel_rfl⟩
instance aku:bp Tryz.prog 165:=⟨_,_,Tryz.func165,rfl,by kernel_rfl⟩
instance akv:bp Tryz.prog 166:=⟨_,_,Tryz.func166,rfl,by kernel_rfl⟩
instance akw:bp Tryz.prog 167:=⟨_,_,Tryz.func167,rfl,by kernel_rfl⟩
instance akx:bp Tryz.prog 168:=⟨_,_,Tryz.func168,rfl,by kernel_rfl⟩
end Go.Proofs.YtgjbmjjihmfppaaGreat
