/- Closed facts on types, as instances. No condition. -/
import Derived.Test.YtkcpiblgpnjanaaGreatDp
import Derived.Test.YtkcpiblgpnjanaaGreatLn
import Derived.Test.YtkcpiblgpnjanaaGreatChecked
import Derived.KernelRfl
namespace Go.Proofs.YtkcpiblgpnjanaaGreat
open Go Go.Li Go.Dk
set_option linter.unusedVariables false
set_option maxRecDepth 100000
noncomputable def i2:TypeInfo:=(Tryz.prog.info? 2).getD default
theorem zO:Tryz.prog.info? 2=some i2:=by kernel_rfl
theorem Mo:i2.size=1:=by kernel_rfl
theorem Uh:i2.size≠0:=by rw [Mo]; decide
theorem Yv:i2.zero=some (.int .i64 0):=by kernel_rfl
theorem by2:i2.bytes=8:=by kernel_rfl
noncomputable def i3:TypeInfo:=(Tryz.prog.info? 3).getD default
theorem Kr:Tryz.prog.info? 3=some i3:=by kernel_rfl
theorem Yw:i3.size=1:=by kernel_rfl
theorem Yx:i3.size≠0:=by rw [Yw]; decide
theorem zr3:i3.zero=some (.int .i64 0):=by kernel_rfl
theorem by3:i3.bytes=8:=by kernel_rfl
noncomputable def i4:TypeInfo:=(Tryz.prog.info? 4).getD default
theorem Xx:Tryz.prog.info? 4=some i4:=by kernel_rfl
theorem sz4:i4.size=1:=by kernel_rfl
theorem ne4:i4.size≠0:=by rw [sz4]; decide
theorem zr4:i4.zero=some (.bool false):=by kernel_rfl
theorem by4:i4.bytes=1:=by kernel_rfl
noncomputable def i5:TypeInfo:=(Tryz.prog.info? 5).getD default
theorem Xy:Tryz.prog.info? 5=some i5:=by kernel_rfl
theorem Yy:i5.size=1:=by kernel_rfl
theorem ne5:i5.size≠0:=by rw [Yy]; decide
theorem zr5:i5.zero=some (.int .u8 0):=by kernel_rfl
theorem by5:i5.bytes=1:=by kernel_rfl
noncomputable def i22:TypeInfo:=(Tryz.prog.info? 22).getD default
theorem Ui:Tryz.prog.info? 22=some i22:=by kernel_rfl
theorem Z5:i22.size=1:=by kernel_rfl
theorem Z6:i22.size≠0:=by rw [Z5]; decide
theorem ak6:i22.zero=some (.slice none 0 0):=by kernel_rfl
theorem ak7:i22.bytes=24:=by kernel_rfl
noncomputable def i24:TypeInfo:=(Tryz.prog.info? 24).getD default
theorem sd:Tryz.prog.info? 24=some i24:=by kernel_rfl
theorem GP:i24.size=1:=by kernel_rfl
theorem CM:i24.size≠0:=by rw [GP]; decide
theorem OP:i24.zero=some (.slice none 0 0):=by kernel_rfl
theorem Z7:i24.bytes=24:=by kernel_rfl
noncomputable def i25:TypeInfo:=(Tryz.prog.info? 25).getD default
theorem DA:Tryz.prog.info? 25=some i25:=by kernel_rfl
theorem Uj:i25.size=1:=by kernel_rfl
theorem Uk:i25.size≠0:=by rw [Uj]; decide
theorem Z8:i25.zero=some (.slice none 0 0):=by kernel_rfl
theorem ak8:i25.bytes=24:=by kernel_rfl
noncomputable def i27:TypeInfo:=(Tryz.prog.info? 27).getD default
theorem yP:Tryz.prog.info? 27=some i27:=by kernel_rfl
theorem OQ:i27.size=5:=by kernel_rfl
theorem Ul:i27.size≠0:=by rw [OQ]; decide
theorem Um:i27.zero=some (.agg #[.int .i64 ((0:Int)),.slice none 0 0,.slice none 0 0,.slice none 0 0,.slice none 0 0]):=by kernel_rfl
noncomputable def i29:TypeInfo:=(Tryz.prog.info? 29).getD default
theorem sO:Tryz.prog.info? 29=some i29:=by kernel_rfl
theorem Eu:i29.size=12:=by kernel_rfl
theorem Ks:i29.size≠0:=by rw [Eu]; decide
theorem Kt:i29.zero=some (.agg #[.int .i64 ((0:Int)),.slice none 0 0,.slice none 0 0,.slice none 0 0,.slice none 0 0,.int .i64 ((0:Int)),.slice none 0 0,.slice none 0 0,.slice none 0 0,.slice none 0 0,.slice none 0 0,.slice none 0 0]):=by kernel_rfl
noncomputable def i40:TypeInfo:=(Tryz.prog.info? 40).getD default
theorem DB:Tryz.prog.info? 40=some i40:=by kernel_rfl
theorem OR:i40.size=25:=by kernel_rfl
theorem ak9:i40.size≠0:=by rw [OR]; decide
theorem Un:i40.zero=some (.agg #[.int .i64 ((0:Int)),.slice none 0 0,.slice none 0 0,.slice none 0 0,.slice none 0 0,.int .i64 ((0:Int)),.slice none 0 0,.slice none 0 0,.slice none 0 0,.slice none 0 0,.slice none 0 0,.slice none 0 0,.int .i64 ((0:Int)),.slice none 0 0,.slice none 0 0,.slice none 0 0,.slice none 0 0,.int .i64 ((0:Int)),.slice none 0 0,.slice none 0 0,.slice none 0 0,.slice none 0 0,.slice none 0 0,.slice none 0 0,.slice none 0 0]):=by kernel_rfl
noncomputable def i80:TypeInfo:=(Tryz.prog.info? 80).getD default
theorem Mp:Tryz.prog.info? 80=some i80:=by kernel_rfl
theorem OS:i80.size=1:=by kernel_rfl
theorem ala:i80.size≠0:=by rw [OS]; decide
theorem Z9:i80.zero=some (.pointer none):=by kernel_rfl
theorem ald:i80.bytes=8:=by kernel_rfl
noncomputable def i91:TypeInfo:=(Tryz.prog.info? 91).getD default
theorem Mq:Tryz.prog.info? 91=some i91:=by kernel_rfl
theorem OT:i91.size=1:=by kernel_rfl
theorem ale:i91.size≠0:=by rw [OT]; decide
theorem aaa:i91.zero=some (.pointer none):=by kernel_rfl
theorem alf:i91.bytes=8:=by kernel_rfl
noncomputable def i107:TypeInfo:=(Tryz.prog.info? 107).getD default
theorem BZ:Tryz.prog.info? 107=some i107:=by kernel_rfl
theorem FY:i107.size=1:=by kernel_rfl
theorem ai5:i107.size≠0:=by rw [FY]; decide
theorem Q2:i107.zero=some (.pointer none):=by kernel_rfl
theorem ai6:i107.bytes=8:=by kernel_rfl
noncomputable def i140:TypeInfo:=(Tryz.prog.info? 140).getD default
theorem Jh:Tryz.prog.info? 140=some i140:=by kernel_rfl
theorem Q3:i140.size=1:=by kernel_rfl
theorem Xz:i140.size≠0:=by rw [Q3]; decide
theorem ai7:i140.zero=some (.int .u64 0):=by kernel_rfl
theorem ai8:i140.bytes=8:=by kernel_rfl
noncomputable def i142:TypeInfo:=(Tryz.prog.info? 142).getD default
theorem Sa:Tryz.prog.info? 142=some i142:=by kernel_rfl
theorem XA:i142.size=3:=by kernel_rfl
theorem ai9:i142.size≠0:=by rw [XA]; decide
theorem XB:i142.zero=some (.agg #[.slice none 0 0,.int .i64 ((0:Int)),.int .u64 ((0:Int))]):=by kernel_rfl
noncomputable def i144:TypeInfo:=(Tryz.prog.info? 144).getD default
theorem Ji:Tryz.prog.info? 144=some i144:=by kernel_rfl
theorem Q4:i144.size=1:=by kernel_rfl
theorem aja:i144.size≠0:=by rw [Q4]; decide
theorem XC:i144.zero=some (.nilFunc):=by kernel_rfl
theorem ajb:i144.bytes=8:=by kernel_rfl
noncomputable def i146:TypeInfo:=(Tryz.prog.info? 146).getD default
theorem adE:Tryz.prog.info? 146=some i146:=by kernel_rfl
theorem XD:i146.size=1:=by kernel_rfl
theorem ajc:i146.size≠0:=by rw [XD]; decide
theorem ajd:i146.zero=some (.nilFunc):=by kernel_rfl
theorem aje:i146.bytes=8:=by kernel_rfl
noncomputable def i150:TypeInfo:=(Tryz.prog.info? 150).getD default
theorem Sb:Tryz.prog.info? 150=some i150:=by kernel_rfl
theorem XE:i150.size=27:=by kernel_rfl
theorem ajf:i150.size≠0:=by rw [XE]; decide
theorem XF:i150.zero=some (.agg #[.int .i64 ((0:Int)),.slice none 0 0,.slice none 0 0,.slice none 0 0,.slice none 0 0,.int .i64 ((0:Int)),.slice none 0 0,.slice none 0 0,.slice none 0 0,.slice none 0 0,.slice none 0 0,.slice none 0 0,.int .i64 ((0:Int)),.slice none 0 0,.slice none 0 0,.slice none 0 0,.slice none 0 0,.int .i64 ((0:Int)),.slice none 0 0,.slice none 0 0,.slice none 0 0,.slice none 0 0,.slice none 0 0,.slice none 0 0,.bool (false),.int .i64 ((0:Int)),.slice none 0 0]):=by kernel_rfl
noncomputable def i201:TypeInfo:=(Tryz.prog.info? 201).getD default
theorem B0:Tryz.prog.info? 201=some i201:=by kernel_rfl
theorem Ku:i201.size=2:=by kernel_rfl
theorem ajg:i201.size≠0:=by rw [Ku]; decide
theorem Q5:i201.zero=some (.agg #[.int .i64 ((0:Int)),.int .i64 ((0:Int))]):=by kernel_rfl
noncomputable def i242:TypeInfo:=(Tryz.prog.info? 242).getD default
theorem vc:Tryz.prog.info? 242=some i242:=by kernel_rfl
theorem B3:i242.size=3:=by kernel_rfl
theorem ajh:i242.size≠0:=by rw [B3]; decide
theorem FZ:i242.zero=some (.agg #[.int .i64 ((0:Int)),.int .i64 ((0:Int)),.slice none 0 0]):=by kernel_rfl
instance lk2:LK Tryz.prog 2 none:=⟨_,Tryz.underlying2,rfl⟩
instance lk3:LK Tryz.prog 3 none:=⟨_,Tryz.underlying3,rfl⟩
instance lk4:LK Tryz.prog 4 none:=⟨_,Tryz.underlying4,rfl⟩
instance lk5:LK Tryz.prog 5 none:=⟨_,Tryz.underlying5,rfl⟩
instance alg:LK Tryz.prog 22 none:=⟨_,Tryz.underlying22,rfl⟩
instance alh:LK Tryz.prog 24 none:=⟨_,Tryz.underlying24,rfl⟩
instance ali:LK Tryz.prog 25 none:=⟨_,Tryz.underlying25,rfl⟩
instance alj:LK Tryz.prog 27 (some 5):=⟨_,_,Tryz.underlying27,rfl,yP,OQ⟩
instance alk:LK Tryz.prog 29 (some 12):=⟨_,_,Tryz.underlying29,rfl,sO,Eu⟩
instance alm:LK Tryz.prog 40 (some 25):=⟨_,_,Tryz.underlying40,rfl,DB,OR⟩
instance aln:LK Tryz.prog 80 none:=⟨_,Tryz.underlying80,rfl⟩
instance alo:LK Tryz.prog 91 none:=⟨_,Tryz.underlying91,rfl⟩
instance aji:LK Tryz.prog 107 none:=⟨_,Tryz.underlying107,rfl⟩
instance ajj:LK Tryz.prog 140 none:=⟨_,Tryz.underlying140,rfl⟩
instance ajk:LK Tryz.prog 144 none:=⟨_,Tryz.underlying144,rfl⟩
instance ajl:LK Tryz.prog 146 none:=⟨_,Tryz.underlying146,rfl⟩
instance ajm:LK Tryz.prog 201 (some 2):=⟨_,_,Tryz.underlying201,rfl,B0,Ku⟩
instance ajn:LK Tryz.prog 242 (some 3):=⟨_,_,Tryz.underlying242,rfl,vc,B3⟩
instance alp:uW Tryz.prog 22:=⟨_,_,Tryz.underlying22,Xy,Yy⟩
instance alq:uW Tryz.prog 24:=⟨_,_,Tryz.underlying24,zO,Mo⟩
instance alr:LC Tryz.prog 24 2:=⟨Tryz.underlying24,_,_,zO,Yv,Mo⟩
instance als:qp Tryz.prog 24 Int 2 (aA .i64) 0 8:=⟨Tryz.underlying24,rfl,_,_,zO,Yv,Mo,rfl,by2,fun _=>⟨rfl,rfl⟩⟩
instance alu:uW Tryz.prog 25:=⟨_,_,Tryz.underlying25,sd,GP⟩
instance alv:LC Tryz.prog 25 24:=⟨Tryz.underlying25,_,_,sd,OP,GP⟩
instance alw:qp Tryz.prog 25 (List Int) 24 (aK 2 (aA .i64)) [] 24:=⟨Tryz.underlying25,rfl,_,_,sd,OP,GP,rfl,Z7,fun _=>Ek⟩
instance alx:Gi Tryz.prog 59 12:=⟨_,_,Tryz.underlying59,sO,Eu⟩
instance aly:QP Tryz.prog 59 29 12:=⟨Tryz.underlying59,_,_,sO,Kt,Eu,by decide⟩
theorem aab:i29.bytes=256:=by kernel_rfl
instance alz:AN Tryz.prog 59 29 12 256:=⟨Tryz.underlying59,_,_,sO,Kt,rfl,Eu,aab,by decide⟩
instance ajo:uW Tryz.prog 156:=⟨_,_,Tryz.underlying156,Mq,OT⟩
instance ajp:Gh Tryz.prog 156 91:=⟨Tryz.underlying156,_,_,Mq,aaa,OT⟩
instance ajq:uW Tryz.prog 194:=⟨_,_,Tryz.underlying194,Mp,OS⟩
instance ajr:Gh Tryz.prog 194 80:=⟨Tryz.underlying194,_,_,Mp,Z9,OS⟩
instance ajs:uW Tryz.prog 205:=⟨_,_,Tryz.underlying205,BZ,FY⟩
instance ajt:Gh Tryz.prog 205 107:=⟨Tryz.underlying205,_,_,BZ,Q2,FY⟩
instance aju:Gi Tryz.prog 239 3:=⟨_,_,Tryz.underlying239,vc,B3⟩
instance ajv:QP Tryz.prog 239 242 3:=⟨Tryz.underlying239,_,_,vc,FZ,B3,by decide⟩
theorem XG:i242.bytes=40:=by kernel_rfl
instance ajw:AN Tryz.prog 239 242 3 40:=⟨Tryz.underlying239,_,_,vc,FZ,rfl,B3,XG,by decide⟩
instance so2:vI Tryz.prog 2 1:=⟨_,zO,Mo⟩
instance so3:vI Tryz.prog 3 1:=⟨_,Kr,Yw⟩
instance alA:vI Tryz.prog 24 1:=⟨_,sd,GP⟩
instance alB:vI Tryz.prog 25 1:=⟨_,DA,Uj⟩
instance alC:vI Tryz.prog 27 5:=⟨_,yP,OQ⟩
instance alD:vI Tryz.prog 29 12:=⟨_,sO,Eu⟩
instance alE:vI Tryz.prog 40 25:=⟨_,DB,OR⟩
instance ajx:vI Tryz.prog 107 1:=⟨_,BZ,FY⟩
instance ajy:vI Tryz.prog 140 1:=⟨_,Jh,Q3⟩
instance ajz:vI Tryz.prog 144 1:=⟨_,Ji,Q4⟩
instance ajA:vI Tryz.prog 201 2:=⟨_,B0,Ku⟩
instance ajB:vI Tryz.prog 242 3:=⟨_,vc,B3⟩
instance alF:yE Tryz.prog 24 [.slice none 0 0]:=⟨_,_,sd,OP,rfl⟩
instance alG:yE Tryz.prog 25 [.slice none 0 0]:=⟨_,_,DA,Z8,rfl⟩
instance alH:yE Tryz.prog 27 [.int .i64 ((0:Int)),.slice none 0 0,.slice none 0 0,.slice none 0 0,.slice none 0 0]:=⟨_,_,yP,Um,rfl⟩
instance alI:yE Tryz.prog 29 [.int .i64 ((0:Int)),.slice none 0 0,.slice none 0 0,.slice none 0 0,.slice none 0 0,.int .i64 ((0:Int)),.slice none 0 0,.slice none 0 0,.slice none 0 0,.slice none 0 0,.slice none 0 0,.slice none 0 0]:=⟨_,_,sO,Kt,rfl⟩
instance alJ:yE Tryz.prog 40 [.int .i64 ((0:Int)),.slice none 0 0,.slice none 0 0,.slice none 0 0,.slice none 0 0,.int .i64 ((0:Int)),.slice none 0 0,.slice none 0 0,.slice none 0 0,.slice none 0 0,.slice none 0 0,.slice none 0 0,.int .i64 ((0:Int)),.slice none 0 0,.slice none 0 0,.slice none 0 0,.slice none 0 0,.int .i64 ((0:Int)),.slice none 0 0,.slice none 0 0,.slice none 0 0,.slice none 0 0,.slice none 0 0,.slice none 0 0,.slice none 0 0]:=⟨_,_,DB,Un,rfl⟩
instance ajC:yE Tryz.prog 107 [.pointer none]:=⟨_,_,BZ,Q2,rfl⟩
instance ajD:yE Tryz.prog 144 [.nilFunc]:=⟨_,_,Ji,XC,rfl⟩
instance ajE:yE Tryz.prog 201 [.int .i64 ((0:Int)),.int .i64 ((0:Int))]:=⟨_,_,B0,Q5,rfl⟩
instance ajF:yE Tryz.prog 242 [.int .i64 ((0:Int)),.int .i64 ((0:Int)),.slice none 0 0]:=⟨_,_,vc,FZ,rfl⟩
instance af7:r9 Tryz.prog 27 0 0:=⟨_,_,_,Tryz.underlying27,rfl,zO,Uh,rfl⟩
instance af8:r9 Tryz.prog 27 1 1:=⟨_,_,_,Tryz.underlying27,rfl,sd,CM,rfl⟩
instance af9:r9 Tryz.prog 27 2 2:=⟨_,_,_,Tryz.underlying27,rfl,sd,CM,rfl⟩
instance aga:r9 Tryz.prog 27 3 3:=⟨_,_,_,Tryz.underlying27,rfl,sd,CM,rfl⟩
instance agb:r9 Tryz.prog 27 4 4:=⟨_,_,_,Tryz.underlying27,rfl,DA,Uk,rfl⟩
instance agc:r9 Tryz.prog 29 0 0:=⟨_,_,_,Tryz.underlying29,rfl,yP,Ul,rfl⟩
instance agd:r9 Tryz.prog 29 1 5:=⟨_,_,_,Tryz.underlying29,rfl,yP,Ul,rfl⟩
instance age:r9 Tryz.prog 29 2 10:=⟨_,_,_,Tryz.underlying29,rfl,sd,CM,rfl⟩
instance agf:r9 Tryz.prog 29 3 11:=⟨_,_,_,Tryz.underlying29,rfl,sd,CM,rfl⟩
instance agh:r9 Tryz.prog 40 0 0:=⟨_,_,_,Tryz.underlying40,rfl,sO,Ks,rfl⟩
instance agi:r9 Tryz.prog 40 1 12:=⟨_,_,_,Tryz.underlying40,rfl,sO,Ks,rfl⟩
instance agj:r9 Tryz.prog 40 2 24:=⟨_,_,_,Tryz.underlying40,rfl,sd,CM,rfl⟩
instance adF:r9 Tryz.prog 142 0 0:=⟨_,_,_,Tryz.underlying142,rfl,Ui,Z6,rfl⟩
instance adG:r9 Tryz.prog 142 1 1:=⟨_,_,_,Tryz.underlying142,rfl,Kr,Yx,rfl⟩
instance adH:r9 Tryz.prog 142 2 2:=⟨_,_,_,Tryz.underlying142,rfl,Jh,Xz,rfl⟩
instance adI:r9 Tryz.prog 150 0 0:=⟨_,_,_,Tryz.underlying150,rfl,sO,Ks,rfl⟩
instance adJ:r9 Tryz.prog 150 1 12:=⟨_,_,_,Tryz.underlying150,rfl,sO,Ks,rfl⟩
instance adK:r9 Tryz.prog 150 2 24:=⟨_,_,_,Tryz.underlying150,rfl,Xx,ne4,rfl⟩
instance adL:r9 Tryz.prog 150 3 25:=⟨_,_,_,Tryz.underlying150,rfl,Kr,Yx,rfl⟩
instance adM:r9 Tryz.prog 150 4 26:=⟨_,_,_,Tryz.underlying150,rfl,DA,Uk,rfl⟩
instance adN:r9 Tryz.prog 242 0 0:=⟨_,_,_,Tryz.underlying242,rfl,zO,Uh,rfl⟩
instance adO:r9 Tryz.prog 242 1 1:=⟨_,_,_,Tryz.underlying242,rfl,zO,Uh,rfl⟩
instance adP:r9 Tryz.prog 242 2 2:=⟨_,_,_,Tryz.underlying242,rfl,sd,CM,rfl⟩
instance aac:I5 Tryz.prog 3 140 .u64:=⟨by rw [Tryz.underlying3]; rfl,Tryz.underlying140⟩
instance agk:I5 Tryz.prog 5 2 .i64:=⟨by rw [Tryz.underlying5]; rfl,Tryz.underlying2⟩
instance aad:I5 Tryz.prog 5 140 .u64:=⟨by rw [Tryz.underlying5]; rfl,Tryz.underlying140⟩
instance aae:I5 Tryz.prog 140 2 .i64:=⟨by rw [Tryz.underlying140]; rfl,Tryz.underlying2⟩
instance bl4:Ti Tryz.prog 4:=⟨Tryz.underlying4⟩
instance alK:AM Tryz.prog 27 [.int .i64 ((0:Int)),.slice none 0 0,.slice none 0 0,.slice none 0 0,.slice none 0 0] [(0,1),(1,1),(2,1),(3,1),(4,1)]:=⟨_,_,_,Tryz.underlying27,by kernel_rfl,yP,Um,rfl⟩
instance alL:AM Tryz.prog 29 [.int .i64 ((0:Int)),.slice none 0 0,.slice none 0 0,.slice none 0 0,.slice none 0 0,.int .i64 ((0:Int)),.slice none 0 0,.slice none 0 0,.slice none 0 0,.slice none 0 0,.slice none 0 0,.slice none 0 0] [(0,5),(5,5),(10,1),(11,1)]:=⟨_,_,_,Tryz.underlying29,by kernel_rfl,sO,Kt,rfl⟩
instance alM:AM Tryz.prog 40 [.int .i64 ((0:Int)),.slice none 0 0,.slice none 0 0,.slice none 0 0,.slice none 0 0,.int .i64 ((0:Int)),.slice none 0 0,.slice none 0 0,.slice none 0 0,.slice none 0 0,.slice none 0 0,.slice none 0 0,.int .i64 ((0:Int)),.slice none 0 0,.slice none 0 0,.slice none 0 0,.slice none 0 0,.int .i64 ((0:Int)),.slice none 0 0,.slice none 0 0,.slice none 0 0,.slice none 0 0,.slice none 0 0,.slice none 0 0,.slice none 0 0] [(0,12),(12,12),(24,1)]:=⟨_,_,_,Tryz.underlying40,by kernel_rfl,DB,Un,rfl⟩
instance ajG:AM Tryz.prog 142 [.slice none 0 0,.int .i64 ((0:Int)),.int .u64 ((0:Int))] [(0,1),(1,1),(2,1)]:=⟨_,_,_,Tryz.underlying142,by kernel_rfl,Sa,XB,rfl⟩
instance ajH:AM Tryz.prog 150 [.int .i64 ((0:Int)),.slice none 0 0,.slice none 0 0,.slice none 0 0,.slice none 0 0,.int .i64 ((0:Int)),.slice none 0 0,.slice none 0 0,.slice none 0 0,.slice none 0 0,.slice none 0 0,.slice none 0 0,.int .i64 ((0:Int)),.slice none 0 0,.slice none 0 0,.slice none 0 0,.slice none 0 0,.int .i64 ((0:Int)),.slice none 0 0,.slice none 0 0,.slice none 0 0,.slice none 0 0,.slice none 0 0,.slice none 0 0,.bool (false),.int .i64 ((0:Int)),.slice none 0 0] [(0,12),(12,12),(24,1),(25,1),(26,1)]:=⟨_,_,_,Tryz.underlying150,by kernel_rfl,Sb,XF,rfl⟩
instance ajI:AM Tryz.prog 201 [.int .i64 ((0:Int)),.int .i64 ((0:Int))] [(0,1),(1,1)]:=⟨_,_,_,Tryz.underlying201,by kernel_rfl,B0,Q5,rfl⟩
instance ajJ:AM Tryz.prog 242 [.int .i64 ((0:Int)),.int .i64 ((0:Int)),.slice none 0 0] [(0,1),(1,1),(2,1)]:=⟨_,_,_,Tryz.underlying242,by kernel_rfl,vc,FZ,rfl⟩
instance ajK:Tj Tryz.prog 201 .i64 .i64:=⟨_,_,Tryz.underlying201,by decide,by decide,Tryz.underlying2,Tryz.underlying2,rfl,rfl,by kernel_rfl,by kernel_rfl⟩
instance fn7:bu Tryz.prog 7:=⟨_,_,Tryz.func7,rfl,by kernel_rfl⟩
instance fn8:bu Tryz.prog 8:=⟨_,_,Tryz.func8,rfl,by kernel_rfl⟩
instance fn9:bu Tryz.prog 9:=⟨_,_,Tryz.func9,rfl,by kernel_rfl⟩
instance alN:bu Tryz.prog 10:=⟨_,_,Tryz.func10,rfl,by kernel_rfl⟩
instance alO:bu Tryz.prog 11:=⟨_,_,Tryz.func11,rfl,by kernel_rfl⟩
instance alP:bu Tryz.prog 12:=⟨_,_,Tryz.func12,rfl,by kernel_rfl⟩
instance alQ:bu Tryz.prog 13:=⟨_,_,Tryz.func13,rfl,by kernel_rfl⟩
instance alR:bu Tryz.prog 14:=⟨_,_,Tryz.func14,rfl,by kernel_rfl⟩
instance alS:bu Tryz.prog 15:=⟨_,_,Tryz.func15,rfl,by kernel_rfl⟩
instance alT:bu Tryz.prog 16:=⟨_,_,Tryz.func16,rfl,by kernel_rfl⟩
instance alU:bu Tryz.prog 17:=⟨_,_,Tryz.func17,rfl,by kernel_rfl⟩
instance alV:bu Tryz.prog 24:=⟨_,_,Tryz.func24,rfl,by kernel_rfl⟩
instance alW:bu Tryz.prog 31:=⟨_,_,Tryz.func31,rfl,by kernel_rfl⟩
instance alX:bu Tryz.prog 32:=⟨_,_,Tryz.func32,rfl,by kernel_rfl⟩
instance alY:bu Tryz.prog 38:=⟨_,_,Tryz.func38,rfl,by kernel_rfl⟩
instance alZ:bu Tryz.prog 39:=⟨_,_,Tryz.func39,rfl,by kernel_rfl⟩
instance al0:bu Tryz.prog 40:=⟨_,_,Tryz.func40,rfl,by kernel_rfl⟩
instance al1:bu Tryz.prog 41:=⟨_,_,Tryz.func41,rfl,by kernel_rfl⟩
instance al2:bu Tryz.prog 42:=⟨_,_,Tryz.func42,rfl,by kernel_rfl⟩
instance al3:bu Tryz.prog 43:=⟨_,_,Tryz.func43,rfl,by kernel_rfl⟩
instance al4:bu Tryz.prog 44:=⟨_,_,Tryz.func44,rfl,by kernel_rfl⟩
instance al5:bu Tryz.prog 45:=⟨_,_,Tryz.func45,rfl,by kernel_rfl⟩
instance al6:bu Tryz.prog 46:=⟨_,_,Tryz.func46,rfl,by kernel_rfl⟩
instance al7:bu Tryz.prog 47:=⟨_,_,Tryz.func47,rfl,by kernel_rfl⟩
instance al8:bu Tryz.prog 48:=⟨_,_,Tryz.func48,rfl,by kernel_rfl⟩
instance al9:bu Tryz.prog 49:=⟨_,_,Tryz.func49,rfl,by kernel_rfl⟩
instance ama:bu Tryz.prog 50:=⟨_,_,Tryz.func50,rfl,by kernel_rfl⟩
instance amb:bu Tryz.prog 51:=⟨_,_,Tryz.func51,rfl,by kernel_rfl⟩
instance amc:bu Tryz.prog 52:=⟨_,_,Tryz.func52,rfl,by kernel_rfl⟩
instance amd:bu Tryz.prog 53:=⟨_,_,Tryz.func53,rfl,by kernel_rfl⟩
instance ame:bu Tryz.prog 56:=⟨_,_,Tryz.func56,rfl,by kernel_rfl⟩
instance amf:bu Tryz.prog 57:=⟨_,_,Tryz.func57,rfl,by kernel_rfl⟩
instance amg:bu Tryz.prog 58:=⟨_,_,Tryz.func58,rfl,by kernel_rfl⟩
instance amh:bu Tryz.prog 68:=⟨_,_,Tryz.func68,rfl,by kernel_rfl⟩
instance ami:bu Tryz.prog 72:=⟨_,_,Tryz.func72,rfl,by kernel_rfl⟩
instance amj:bu Tryz.prog 75:=⟨_,_,Tryz.func75,rfl,by kernel_rfl⟩
instance amk:bu Tryz.prog 79:=⟨_,_,Tryz.func79,rfl,by kernel_rfl⟩
instance aml:bu Tryz.prog 88:=⟨_,_,Tryz.func88,rfl,by kernel_rfl⟩
instance amm:bu Tryz.prog 89:=⟨_,_,Tryz.func89,rfl,by kernel_rfl⟩
instance amn:bu Tryz.prog 92:=⟨_,_,Tryz.func92,rfl,by kernel_rfl⟩
instance amo:bu Tryz.prog 93:=⟨_,_,Tryz.func93,rfl,by kernel_rfl⟩
instance amp:bu Tryz.prog 94:=⟨_,_,Tryz.func94,rfl,by kernel_rfl⟩
instance amq:bu Tryz.prog 95:=⟨_,_,Tryz.func95,rfl,by kernel_rfl⟩
instance amr:bu Tryz.prog 96:=⟨_,_,Tryz.func96,rfl,by kernel_rfl⟩
instance ams:bu Tryz.prog 97:=⟨_,_,Tryz.func97,rfl,by kernel_rfl⟩
instance amt:bu Tryz.prog 98:=⟨_,_,Tryz.func98,rfl,by kernel_rfl⟩
instance amu:bu Tryz.prog 99:=⟨_,_,Tryz.func99,rfl,by kernel_rfl⟩
instance ajL:bu Tryz.prog 100:=⟨_,_,Tryz.func100,rfl,by kernel_rfl⟩
instance ajM:bu Tryz.prog 101:=⟨_,_,Tryz.func101,rfl,by kernel_rfl⟩
instance ajN:bu Tryz.prog 102:=⟨_,_,Tryz.func102,rfl,by kernel_rfl⟩
instance ajO:bu Tryz.prog 103:=⟨_,_,Tryz.func103,rfl,by kernel_rfl⟩
instance ajP:bu Tryz.prog 104:=⟨_,_,Tryz.func104,rfl,by kernel_rfl⟩
instance ajQ:bu Tryz.prog 105:=⟨_,_,Tryz.func105,rfl,by kernel_rfl⟩
instance ajR:bu Tryz.prog 106:=⟨_,_,Tryz.func106,rfl,by kernel_rfl⟩
instance ajS:bu Tryz.prog 107:=⟨_,_,Tryz.func107,rfl,by kernel_rfl⟩
instance ajT:bu Tryz.prog 108:=⟨_,_,Tryz.func108,rfl,by kernel_rfl⟩
instance ajU:bu Tryz.prog 109:=⟨_,_,Tryz.func109,rfl,by kernel_rfl⟩
instance ajV:bu Tryz.prog 110:=⟨_,_,Tryz.func110,rfl,by kernel_rfl⟩
instance ajW:bu Tryz.prog 111:=⟨_,_,Tryz.func111,rfl,by kernel_rfl⟩
instance ajX:bu Tryz.prog 112:=⟨_,_,Tryz.func112,rfl,by kernel_rfl⟩
instance ajY:bu Tryz.prog 113:=⟨_,_,Tryz.func113,rfl,by kernel_rfl⟩
instance ajZ:bu Tryz.prog 117:=⟨_,_,Tryz.func117,rfl,by kernel_rfl⟩
instance aj0:bu Tryz.prog 118:=⟨_,_,Tryz.func118,rfl,by kernel_rfl⟩
instance aj1:bu Tryz.prog 121:=⟨_,_,Tryz.func121,rfl,by kernel_rfl⟩
instance aj2:bu Tryz.prog 122:=⟨_,_,Tryz.func122,rfl,by kernel_rfl⟩
instance aj3:bu Tryz.prog 123:=⟨_,_,Tryz.func123,rfl,by kernel_rfl⟩
instance aj4:bu Tryz.prog 136:=⟨_,_,Tryz.func136,rfl,by kernel_rfl⟩
instance aj5:bu Tryz.prog 138:=⟨_,_,Tryz.func138,rfl,by kernel_rfl⟩
instance aj6:bu Tryz.prog 140:=⟨_,_,Tryz.func140,rfl,by kernel_rfl⟩
instance aj7:bu Tryz.prog 142:=⟨_,_,Tryz.func142,rfl,by kernel_rfl⟩
instance aj8:bu Tryz.prog 145:=⟨_,_,Tryz.func145,rfl,by kernel_rfl⟩
instance aj9:bu Tryz.prog 146:=⟨_,_,Tryz.func146,rfl,by kernel_rfl⟩
instance aka:bu Tryz.prog 155:=⟨_,_,Tryz.func155,rfl,by kernel_rfl⟩
instance akb:bu Tryz.prog 161:=⟨_,_,Tryz.func161,rfl,by kernel_rfl⟩
instance akc:bu Tryz.prog 162:=⟨_,_,Tryz.func162,rfl,by kernel_rfl⟩
instance akd:bu Tryz.prog 163:=⟨_,_,Tryz.func163,rfl,by kernel_rfl⟩
instance ake:bu Tryz.prog 164:=⟨_,_,Tryz.func164,rfl,by kernel_rfl⟩
instance akf:bu Tryz.prog 165:=⟨_,_,Tryz.func165,rfl,by kernel_rfl⟩
instance akg:bu Tryz.prog 166:=⟨_,_,Tryz.func166,rfl,by kernel_rfl⟩
instance akh:bu Tryz.prog 167:=⟨_,_,Tryz.func167,rfl,by kernel_rfl⟩
instance aki:bu Tryz.prog 168:=⟨_,_,Tryz.func168,rfl,by kernel_rfl⟩
instance akj:bu Tryz.prog 169:=⟨_,_,Tryz.func169,rfl,by kernel_rfl⟩
instance akk:bu Tryz.prog 170:=⟨_,_,Tryz.func170,rfl,by kernel_rfl⟩
instance akl:bu Tryz.prog 172:=⟨_,_,Tryz.func172,rfl,by kernel_rfl⟩
instance akm:bu Tryz.prog 173:=⟨_,_,Tryz.func173,rfl,by kernel_rfl⟩
instance akn:bu Tryz.prog 174:=⟨_,_,Tryz.func174,rfl,by kernel_rfl⟩
instance ako:bu Tryz.prog 175:=⟨_,_,Tryz.func175,rfl,by kernel_rfl⟩
instance akp:bu Tryz.prog 176:=⟨_,_,Tryz.func176,rfl,by kernel_rfl⟩
instance akq:bu Tryz.prog 177:=⟨_,_,Tryz.func177,rfl,by kernel_rfl⟩
instance akr:bu Tryz.prog 178:=⟨_,_,Tryz.func178,rfl,by kernel_rfl⟩
instance aks:bu Tryz.prog 184:=⟨_,_,Tryz.func184,rfl,by kernel_rfl⟩
instance akt:bu Tryz.prog 185:=⟨_,_,Tryz.func185,rfl,by kernel_rfl⟩
instance aku:bu Tryz.prog 186:=⟨_,_,Tryz.func186,rfl,by kernel_rfl⟩
instance akv:bu Tryz.prog 192:=⟨_,_,Tryz.func192,rfl,by kernel_rfl⟩
instance akw:bu Tryz.prog 193:=⟨_,_,Tryz.func193,rfl,by kernel_rfl⟩
instance akx:bu Tryz.prog 194:=⟨_,_,Tryz.func194,rfl,by kernel_rfl⟩
instance aky:bu Tryz.prog 195:=⟨_,_,Tryz.func195,rfl,by kernel_rfl⟩
instance akz:bu Tryz.prog 196:=⟨_,_,Tryz.func196,rfl,by kernel_rfl⟩
instance akA:bu Tryz.prog 197:=⟨_,_,Tryz.func197,rfl,by kernel_rfl⟩
instance akB:bu Tryz.prog 198:=⟨_,_,Tryz.func198,rfl,by kernel_rfl⟩
instance akC:bu Tryz.prog 199:=⟨_,_,Tryz.func199,rfl,by kernel_rfl⟩
instance akD:bu Tryz.prog 200:=⟨_,_,Tryz.func200,rfl,by kernel_rfl⟩
instance akE:bu Tryz.prog 201:=⟨_,_,Tryz.func201,rfl,by kernel_rfl⟩
instance akF:bu Tryz.prog 202:=⟨_,_,Tryz.func202,rfl,by kernel_rfl⟩
instance akG:bu Tryz.prog 206:=⟨_,_,Tryz.func206,rfl,by kernel_rfl⟩
instance akH:bu Tryz.prog 207:=⟨_,_,Tryz.func207,rfl,by kernel_rfl⟩
instance akI:bu Tryz.prog 208:=⟨_,_,Tryz.func208,rfl,by kernel_rfl⟩
instance akJ:bu Tryz.prog 209:=⟨_,_,Tryz.func209,rfl,by kernel_rfl⟩
instance akK:bu Tryz.prog 210:=⟨_,_,Tryz.func210,rfl,by kernel_rfl⟩
instance akL:bu Tryz.prog 211:=⟨_,_,Tryz.func211,rfl,by kernel_rfl⟩
instance akM:bu Tryz.prog 212:=⟨_,_,Tryz.func212,rfl,by kernel_rfl⟩
instance akN:bu Tryz.prog 213:=⟨_,_,Tryz.func213,rfl,by kernel_rfl⟩
instance akO:bu Tryz.prog 214:=⟨_,_,Tryz.func214,rfl,by kernel_rfl⟩
instance akP:bu Tryz.prog 215:=⟨_,_,Tryz.func215,rfl,by kernel_rfl⟩
instance akQ:bu Tryz.prog 216:=⟨_,_,Tryz.func216,rfl,by kernel_rfl⟩
instance akR:bu Tryz.prog 217:=⟨_,_,Tryz.func217,rfl,by kernel_rfl⟩
instance akS:bu Tryz.prog 218:=⟨_,_,Tryz.func218,rfl,by kernel_rfl⟩
end Go.Proofs.YtkcpiblgpnjanaaGreat
