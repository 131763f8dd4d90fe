/- Closed facts on types, as instances. No condition. -/
import Derived.Test.YtkhdhnpokfibjaaGreatDp
import Derived.Test.YtkhdhnpokfibjaaGreatLn
import Derived.Test.YtkhdhnpokfibjaaGreatChecked
import Derived.KernelRfl
namespace Go.Proofs.YtkhdhnpokfibjaaGreat
open Go Go.Li Go.Dk
set_option linter.unusedVariables false
set_option maxRecDepth 100000
noncomputable def i2:TypeInfo:=(Tryz.prog.info? 2).getD default
theorem info2:Tryz.prog.info? 2=some i2:=by kernel_rfl
theorem sz2:i2.size=1:=by kernel_rfl
theorem ne2:i2.size≠0:=by rw [sz2]; decide
theorem zr2:i2.zero=some (.int .i64 0):=by kernel_rfl
theorem by2:i2.bytes=8:=by kernel_rfl
noncomputable def i3:TypeInfo:=(Tryz.prog.info? 3).getD default
theorem info3:Tryz.prog.info? 3=some i3:=by kernel_rfl
theorem sz3:i3.size=1:=by kernel_rfl
theorem ne3:i3.size≠0:=by rw [sz3]; decide
theorem zr3:i3.zero=some (.int .i64 0):=by kernel_rfl
theorem by3:i3.bytes=8:=by kernel_rfl
noncomputable def i4:TypeInfo:=(Tryz.prog.info? 4).getD default
theorem info4:Tryz.prog.info? 4=some i4:=by kernel_rfl
theorem sz4:i4.size=1:=by kernel_rfl
theorem ne4:i4.size≠0:=by rw [sz4]; decide
theorem zr4:i4.zero=some (.bool false):=by kernel_rfl
theorem by4:i4.bytes=1:=by kernel_rfl
noncomputable def i5:TypeInfo:=(Tryz.prog.info? 5).getD default
theorem info5:Tryz.prog.info? 5=some i5:=by kernel_rfl
theorem sz5:i5.size=1:=by kernel_rfl
theorem ne5:i5.size≠0:=by rw [sz5]; decide
theorem zr5:i5.zero=some (.int .u8 0):=by kernel_rfl
theorem by5:i5.bytes=1:=by kernel_rfl
noncomputable def i22:TypeInfo:=(Tryz.prog.info? 22).getD default
theorem info22:Tryz.prog.info? 22=some i22:=by kernel_rfl
theorem sz22:i22.size=1:=by kernel_rfl
theorem ne22:i22.size≠0:=by rw [sz22]; decide
theorem zr22:i22.zero=some (.slice none 0 0):=by kernel_rfl
theorem by22:i22.bytes=24:=by kernel_rfl
noncomputable def i24:TypeInfo:=(Tryz.prog.info? 24).getD default
theorem info24:Tryz.prog.info? 24=some i24:=by kernel_rfl
theorem sz24:i24.size=1:=by kernel_rfl
theorem ne24:i24.size≠0:=by rw [sz24]; decide
theorem zr24:i24.zero=some (.slice none 0 0):=by kernel_rfl
theorem by24:i24.bytes=24:=by kernel_rfl
noncomputable def i25:TypeInfo:=(Tryz.prog.info? 25).getD default
theorem info25:Tryz.prog.info? 25=some i25:=by kernel_rfl
theorem sz25:i25.size=1:=by kernel_rfl
theorem ne25:i25.size≠0:=by rw [sz25]; decide
theorem zr25:i25.zero=some (.slice none 0 0):=by kernel_rfl
theorem by25:i25.bytes=24:=by kernel_rfl
noncomputable def i27:TypeInfo:=(Tryz.prog.info? 27).getD default
theorem info27:Tryz.prog.info? 27=some i27:=by kernel_rfl
theorem sz27:i27.size=5:=by kernel_rfl
theorem ne27:i27.size≠0:=by rw [sz27]; decide
theorem zr27:i27.zero=some (.agg #[.int .i64 ((0:Int)),.slice none 0 0,.slice none 0 0,.slice none 0 0,.slice none 0 0]):=by kernel_rfl
noncomputable def i29:TypeInfo:=(Tryz.prog.info? 29).getD default
theorem info29:Tryz.prog.info? 29=some i29:=by kernel_rfl
theorem sz29:i29.size=12:=by kernel_rfl
theorem ne29:i29.size≠0:=by rw [sz29]; decide
theorem zr29:i29.zero=some (.agg #[.int .i64 ((0:Int)),.slice none 0 0,.slice none 0 0,.slice none 0 0,.slice none 0 0,.int .i64 ((0:Int)),.slice none 0 0,.slice none 0 0,.slice none 0 0,.slice none 0 0,.slice none 0 0,.slice none 0 0]):=by kernel_rfl
noncomputable def i31:TypeInfo:=(Tryz.prog.info? 31).getD default
theorem info31:Tryz.prog.info? 31=some i31:=by kernel_rfl
theorem sz31:i31.size=25:=by kernel_rfl
theorem ne31:i31.size≠0:=by rw [sz31]; decide
theorem zr31:i31.zero=some (.agg #[.int .i64 ((0:Int)),.slice none 0 0,.slice none 0 0,.slice none 0 0,.slice none 0 0,.int .i64 ((0:Int)),.slice none 0 0,.slice none 0 0,.slice none 0 0,.slice none 0 0,.slice none 0 0,.slice none 0 0,.int .i64 ((0:Int)),.slice none 0 0,.slice none 0 0,.slice none 0 0,.slice none 0 0,.int .i64 ((0:Int)),.slice none 0 0,.slice none 0 0,.slice none 0 0,.slice none 0 0,.slice none 0 0,.slice none 0 0,.slice none 0 0]):=by kernel_rfl
noncomputable def i63:TypeInfo:=(Tryz.prog.info? 63).getD default
theorem info63:Tryz.prog.info? 63=some i63:=by kernel_rfl
theorem sz63:i63.size=1:=by kernel_rfl
theorem ne63:i63.size≠0:=by rw [sz63]; decide
theorem zr63:i63.zero=some (.pointer none):=by kernel_rfl
theorem by63:i63.bytes=8:=by kernel_rfl
noncomputable def i65:TypeInfo:=(Tryz.prog.info? 65).getD default
theorem info65:Tryz.prog.info? 65=some i65:=by kernel_rfl
theorem sz65:i65.size=1:=by kernel_rfl
theorem ne65:i65.size≠0:=by rw [sz65]; decide
theorem zr65:i65.zero=some (.pointer none):=by kernel_rfl
theorem by65:i65.bytes=8:=by kernel_rfl
noncomputable def i67:TypeInfo:=(Tryz.prog.info? 67).getD default
theorem info67:Tryz.prog.info? 67=some i67:=by kernel_rfl
theorem sz67:i67.size=1:=by kernel_rfl
theorem ne67:i67.size≠0:=by rw [sz67]; decide
theorem zr67:i67.zero=some (.pointer none):=by kernel_rfl
theorem by67:i67.bytes=8:=by kernel_rfl
noncomputable def i85:TypeInfo:=(Tryz.prog.info? 85).getD default
theorem info85:Tryz.prog.info? 85=some i85:=by kernel_rfl
theorem sz85:i85.size=1:=by kernel_rfl
theorem ne85:i85.size≠0:=by rw [sz85]; decide
theorem zr85:i85.zero=some (.int .u64 0):=by kernel_rfl
theorem by85:i85.bytes=8:=by kernel_rfl
noncomputable def i87:TypeInfo:=(Tryz.prog.info? 87).getD default
theorem info87:Tryz.prog.info? 87=some i87:=by kernel_rfl
theorem sz87:i87.size=3:=by kernel_rfl
theorem ne87:i87.size≠0:=by rw [sz87]; decide
theorem zr87:i87.zero=some (.agg #[.slice none 0 0,.int .i64 ((0:Int)),.int .u64 ((0:Int))]):=by kernel_rfl
noncomputable def i115:TypeInfo:=(Tryz.prog.info? 115).getD default
theorem info115:Tryz.prog.info? 115=some i115:=by kernel_rfl
theorem sz115:i115.size=27:=by kernel_rfl
theorem ne115:i115.size≠0:=by rw [sz115]; decide
theorem zr115:i115.zero=some (.agg #[.int .i64 ((0:Int)),.slice none 0 0,.slice none 0 0,.slice none 0 0,.slice none 0 0,.int .i64 ((0:Int)),.slice none 0 0,.slice none 0 0,.slice none 0 0,.slice none 0 0,.slice none 0 0,.slice none 0 0,.int .i64 ((0:Int)),.slice none 0 0,.slice none 0 0,.slice none 0 0,.slice none 0 0,.int .i64 ((0:Int)),.slice none 0 0,.slice none 0 0,.slice none 0 0,.slice none 0 0,.slice none 0 0,.slice none 0 0,.bool (false),.int .i64 ((0:Int)),.slice none 0 0]):=by kernel_rfl
noncomputable def i135:TypeInfo:=(Tryz.prog.info? 135).getD default
theorem info135:Tryz.prog.info? 135=some i135:=by kernel_rfl
theorem sz135:i135.size=2:=by kernel_rfl
theorem ne135:i135.size≠0:=by rw [sz135]; decide
theorem zr135:i135.zero=some (.agg #[.int .i64 ((0:Int)),.int .i64 ((0:Int))]):=by kernel_rfl
noncomputable def i158:TypeInfo:=(Tryz.prog.info? 158).getD default
theorem info158:Tryz.prog.info? 158=some i158:=by kernel_rfl
theorem sz158:i158.size=3:=by kernel_rfl
theorem ne158:i158.size≠0:=by rw [sz158]; decide
theorem zr158:i158.zero=some (.agg #[.int .i64 ((0:Int)),.int .i64 ((0:Int)),.slice none 0 0]):=by kernel_rfl
instance lk2:LK Tryz.prog 2 none:=⟨_,Tryz.underlying2,rfl⟩
instance lk3:LK Tryz.prog 3 none:=⟨_,Tryz.underlying3,rfl⟩
instance lk4:LK Tryz.prog 4 none:=⟨_,Tryz.underlying4,rfl⟩
instance lk5:LK Tryz.prog 5 none:=⟨_,Tryz.underlying5,rfl⟩
instance lk22:LK Tryz.prog 22 none:=⟨_,Tryz.underlying22,rfl⟩
instance lk24:LK Tryz.prog 24 none:=⟨_,Tryz.underlying24,rfl⟩
instance lk25:LK Tryz.prog 25 none:=⟨_,Tryz.underlying25,rfl⟩
instance lk27:LK Tryz.prog 27 (some 5):=⟨_,_,Tryz.underlying27,rfl,info27,sz27⟩
instance lk29:LK Tryz.prog 29 (some 12):=⟨_,_,Tryz.underlying29,rfl,info29,sz29⟩
instance lk31:LK Tryz.prog 31 (some 25):=⟨_,_,Tryz.underlying31,rfl,info31,sz31⟩
instance lk63:LK Tryz.prog 63 none:=⟨_,Tryz.underlying63,rfl⟩
instance lk65:LK Tryz.prog 65 none:=⟨_,Tryz.underlying65,rfl⟩
instance lk67:LK Tryz.prog 67 none:=⟨_,Tryz.underlying67,rfl⟩
instance lk85:LK Tryz.prog 85 none:=⟨_,Tryz.underlying85,rfl⟩
instance lk135:LK Tryz.prog 135 (some 2):=⟨_,_,Tryz.underlying135,rfl,info135,sz135⟩
instance lk158:LK Tryz.prog 158 (some 3):=⟨_,_,Tryz.underlying158,rfl,info158,sz158⟩
instance sl22:SLc Tryz.prog 22:=⟨_,_,Tryz.underlying22,info5,sz5⟩
instance sl24:SLc Tryz.prog 24:=⟨_,_,Tryz.underlying24,info2,sz2⟩
instance lu24:LUc Tryz.prog 24 2:=⟨Tryz.underlying24,_,_,info2,zr2,sz2⟩
instance st24:STc Tryz.prog 24 Int 2 (aC .i64) 0 8:=⟨Tryz.underlying24,rfl,_,_,info2,zr2,sz2,rfl,by2,fun _=>⟨rfl,rfl⟩⟩
instance sl25:SLc Tryz.prog 25:=⟨_,_,Tryz.underlying25,info24,sz24⟩
instance lu25:LUc Tryz.prog 25 24:=⟨Tryz.underlying25,_,_,info24,zr24,sz24⟩
instance st25:STc Tryz.prog 25 (List Int) 24 (aK 2 (aC .i64)) [] 24:=⟨Tryz.underlying25,rfl,_,_,info24,zr24,sz24,rfl,by24,fun _=>nil_own⟩
instance sn57:SNc Tryz.prog 57 12:=⟨_,_,Tryz.underlying57,info29,sz29⟩
instance ls57:LSc Tryz.prog 57 29 12:=⟨Tryz.underlying57,_,_,info29,zr29,sz29,by decide⟩
theorem by29:i29.bytes=256:=by kernel_rfl
instance sb57:SBc Tryz.prog 57 29 12 256:=⟨Tryz.underlying57,_,_,info29,zr29,rfl,sz29,by29,by decide⟩
instance sl98:SLc Tryz.prog 98:=⟨_,_,Tryz.underlying98,info63,sz63⟩
instance lt98:LTc Tryz.prog 98 63:=⟨Tryz.underlying98,_,_,info63,zr63,sz63⟩
instance sl138:SLc Tryz.prog 138:=⟨_,_,Tryz.underlying138,info65,sz65⟩
instance lt138:LTc Tryz.prog 138 65:=⟨Tryz.underlying138,_,_,info65,zr65,sz65⟩
instance sl140:SLc Tryz.prog 140:=⟨_,_,Tryz.underlying140,info67,sz67⟩
instance lt140:LTc Tryz.prog 140 67:=⟨Tryz.underlying140,_,_,info67,zr67,sz67⟩
instance sn155:SNc Tryz.prog 155 3:=⟨_,_,Tryz.underlying155,info158,sz158⟩
instance ls155:LSc Tryz.prog 155 158 3:=⟨Tryz.underlying155,_,_,info158,zr158,sz158,by decide⟩
theorem by158:i158.bytes=40:=by kernel_rfl
instance sb155:SBc Tryz.prog 155 158 3 40:=⟨Tryz.underlying155,_,_,info158,zr158,rfl,sz158,by158,by decide⟩
instance so2:STo Tryz.prog 2 1:=⟨_,info2,sz2⟩
instance so3:STo Tryz.prog 3 1:=⟨_,info3,sz3⟩
instance so24:STo Tryz.prog 24 1:=⟨_,info24,sz24⟩
instance so25:STo Tryz.prog 25 1:=⟨_,info25,sz25⟩
instance so27:STo Tryz.prog 27 5:=⟨_,info27,sz27⟩
instance so29:STo Tryz.prog 29 12:=⟨_,info29,sz29⟩
instance so31:STo Tryz.prog 31 25:=⟨_,info31,sz31⟩
instance so85:STo Tryz.prog 85 1:=⟨_,info85,sz85⟩
instance so135:STo Tryz.prog 135 2:=⟨_,info135,sz135⟩
instance so158:STo Tryz.prog 158 3:=⟨_,info158,sz158⟩
instance zv27:ZVc Tryz.prog 27 [.int .i64 ((0:Int)),.slice none 0 0,.slice none 0 0,.slice none 0 0,.slice none 0 0]:=⟨_,_,info27,zr27,rfl⟩
instance zv29:ZVc Tryz.prog 29 [.int .i64 ((0:Int)),.slice none 0 0,.slice none 0 0,.slice none 0 0,.slice none 0 0,.int .i64 ((0:Int)),.slice none 0 0,.slice none 0 0,.slice none 0 0,.slice none 0 0,.slice none 0 0,.slice none 0 0]:=⟨_,_,info29,zr29,rfl⟩
instance zv31:ZVc Tryz.prog 31 [.int .i64 ((0:Int)),.slice none 0 0,.slice none 0 0,.slice none 0 0,.slice none 0 0,.int .i64 ((0:Int)),.slice none 0 0,.slice none 0 0,.slice none 0 0,.slice none 0 0,.slice none 0 0,.slice none 0 0,.int .i64 ((0:Int)),.slice none 0 0,.slice none 0 0,.slice none 0 0,.slice none 0 0,.int .i64 ((0:Int)),.slice none 0 0,.slice none 0 0,.slice none 0 0,.slice none 0 0,.slice none 0 0,.slice none 0 0,.slice none 0 0]:=⟨_,_,info31,zr31,rfl⟩
instance zv135:ZVc Tryz.prog 135 [.int .i64 ((0:Int)),.int .i64 ((0:Int))]:=⟨_,_,info135,zr135,rfl⟩
instance zv158:ZVc Tryz.prog 158 [.int .i64 ((0:Int)),.int .i64 ((0:Int)),.slice none 0 0]:=⟨_,_,info158,zr158,rfl⟩
instance fa27_0:FAc Tryz.prog 27 0 0:=⟨_,_,_,Tryz.underlying27,rfl,info2,ne2,rfl⟩
instance fa27_1:FAc Tryz.prog 27 1 1:=⟨_,_,_,Tryz.underlying27,rfl,info24,ne24,rfl⟩
instance fa27_2:FAc Tryz.prog 27 2 2:=⟨_,_,_,Tryz.underlying27,rfl,info24,ne24,rfl⟩
instance fa27_3:FAc Tryz.prog 27 3 3:=⟨_,_,_,Tryz.underlying27,rfl,info24,ne24,rfl⟩
instance fa27_4:FAc Tryz.prog 27 4 4:=⟨_,_,_,Tryz.underlying27,rfl,info25,ne25,rfl⟩
instance fa29_0:FAc Tryz.prog 29 0 0:=⟨_,_,_,Tryz.underlying29,rfl,info27,ne27,rfl⟩
instance fa29_1:FAc Tryz.prog 29 1 5:=⟨_,_,_,Tryz.underlying29,rfl,info27,ne27,rfl⟩
instance fa29_2:FAc Tryz.prog 29 2 10:=⟨_,_,_,Tryz.underlying29,rfl,info24,ne24,rfl⟩
instance fa29_3:FAc Tryz.prog 29 3 11:=⟨_,_,_,Tryz.underlying29,rfl,info24,ne24,rfl⟩
instance fa31_0:FAc Tryz.prog 31 0 0:=⟨_,_,_,Tryz.underlying31,rfl,info29,ne29,rfl⟩
instance fa31_1:FAc Tryz.prog 31 1 12:=⟨_,_,_,Tryz.underlying31,rfl,info29,ne29,rfl⟩
instance fa31_2:FAc Tryz.prog 31 2 24:=⟨_,_,_,Tryz.underlying31,rfl,info24,ne24,rfl⟩
instance fa87_0:FAc Tryz.prog 87 0 0:=⟨_,_,_,Tryz.underlying87,rfl,info22,ne22,rfl⟩
instance fa87_1:FAc Tryz.prog 87 1 1:=⟨_,_,_,Tryz.underlying87,rfl,info3,ne3,rfl⟩
instance fa87_2:FAc Tryz.prog 87 2 2:=⟨_,_,_,Tryz.underlying87,rfl,info85,ne85,rfl⟩
instance fa115_0:FAc Tryz.prog 115 0 0:=⟨_,_,_,Tryz.underlying115,rfl,info29,ne29,rfl⟩
instance fa115_1:FAc Tryz.prog 115 1 12:=⟨_,_,_,Tryz.underlying115,rfl,info29,ne29,rfl⟩
instance fa115_2:FAc Tryz.prog 115 2 24:=⟨_,_,_,Tryz.underlying115,rfl,info4,ne4,rfl⟩
instance fa115_3:FAc Tryz.prog 115 3 25:=⟨_,_,_,Tryz.underlying115,rfl,info3,ne3,rfl⟩
instance fa115_4:FAc Tryz.prog 115 4 26:=⟨_,_,_,Tryz.underlying115,rfl,info25,ne25,rfl⟩
instance fa158_0:FAc Tryz.prog 158 0 0:=⟨_,_,_,Tryz.underlying158,rfl,info2,ne2,rfl⟩
instance fa158_1:FAc Tryz.prog 158 1 1:=⟨_,_,_,Tryz.underlying158,rfl,info2,ne2,rfl⟩
instance fa158_2:FAc Tryz.prog 158 2 2:=⟨_,_,_,Tryz.underlying158,rfl,info24,ne24,rfl⟩
instance ic_3_85:ICc Tryz.prog 3 85 .u64:=⟨by rw [Tryz.underlying3]; rfl,Tryz.underlying85⟩
instance ic_5_2:ICc Tryz.prog 5 2 .i64:=⟨by rw [Tryz.underlying5]; rfl,Tryz.underlying2⟩
instance ic_5_85:ICc Tryz.prog 5 85 .u64:=⟨by rw [Tryz.underlying5]; rfl,Tryz.underlying85⟩
instance ic_85_2:ICc Tryz.prog 85 2 .i64:=⟨by rw [Tryz.underlying85]; rfl,Tryz.underlying2⟩
instance bu27:BuC Tryz.prog 27 [.int .i64 ((0:Int)),.slice none 0 0,.slice none 0 0,.slice none 0 0,.slice none 0 0] [(0,1),(1,1),(2,1),(3,1),(4,1)]:=⟨_,_,_,Tryz.underlying27,by kernel_rfl,info27,zr27,rfl⟩
instance bu29:BuC Tryz.prog 29 [.int .i64 ((0:Int)),.slice none 0 0,.slice none 0 0,.slice none 0 0,.slice none 0 0,.int .i64 ((0:Int)),.slice none 0 0,.slice none 0 0,.slice none 0 0,.slice none 0 0,.slice none 0 0,.slice none 0 0] [(0,5),(5,5),(10,1),(11,1)]:=⟨_,_,_,Tryz.underlying29,by kernel_rfl,info29,zr29,rfl⟩
instance bu31:BuC Tryz.prog 31 [.int .i64 ((0:Int)),.slice none 0 0,.slice none 0 0,.slice none 0 0,.slice none 0 0,.int .i64 ((0:Int)),.slice none 0 0,.slice none 0 0,.slice none 0 0,.slice none 0 0,.slice none 0 0,.slice none 0 0,.int .i64 ((0:Int)),.slice none 0 0,.slice none 0 0,.slice none 0 0,.slice none 0 0,.int .i64 ((0:Int)),.slice none 0 0,.slice none 0 0,.slice none 0 0,.slice none 0 0,.slice none 0 0,.slice none 0 0,.slice none 0 0] [(0,12),(12,12),(24,1)]:=⟨_,_,_,Tryz.underlying31,by kernel_rfl,info31,zr31,rfl⟩
instance bu87:BuC Tryz.prog 87 [.slice none 0 0,.int .i64 ((0:Int)),.int .u64 ((0:Int))] [(0,1),(1,1),(2,1)]:=⟨_,_,_,Tryz.underlying87,by kernel_rfl,info87,zr87,rfl⟩
instance bu115:BuC Tryz.prog 115 [.int .i64 ((0:Int)),.slice none 0 0,.slice none 0 0,.slice none 0 0,.slice none 0 0,.int .i64 ((0:Int)),.slice none 0 0,.slice none 0 0,.slice none 0 0,.slice none 0 0,.slice none 0 0,.slice none 0 0,.int .i64 ((0:Int)),.slice none 0 0,.slice none 0 0,.slice none 0 0,.slice none 0 0,.int .i64 ((0:Int)),.slice none 0 0,.slice none 0 0,.slice none 0 0,.slice none 0 0,.slice none 0 0,.slice none 0 0,.bool (false),.int .i64 ((0:Int)),.slice none 0 0] [(0,12),(12,12),(24,1),(25,1),(26,1)]:=⟨_,_,_,Tryz.underlying115,by kernel_rfl,info115,zr115,rfl⟩
instance bu135:BuC Tryz.prog 135 [.int .i64 ((0:Int)),.int .i64 ((0:Int))] [(0,1),(1,1)]:=⟨_,_,_,Tryz.underlying135,by kernel_rfl,info135,zr135,rfl⟩
instance bu158:BuC Tryz.prog 158 [.int .i64 ((0:Int)),.int .i64 ((0:Int)),.slice none 0 0] [(0,1),(1,1),(2,1)]:=⟨_,_,_,Tryz.underlying158,by kernel_rfl,info158,zr158,rfl⟩
instance s2135:S2c Tryz.prog 135 .i64 .i64:=⟨_,_,Tryz.underlying135,by decide,by decide,Tryz.underlying2,Tryz.underlying2,rfl,rfl,by kernel_rfl,by kernel_rfl⟩
instance fn6:FnC Tryz.prog 6:=⟨_,_,Tryz.func6,rfl,by kernel_rfl⟩
instance fn7:FnC Tryz.prog 7:=⟨_,_,Tryz.func7,rfl,by kernel_rfl⟩
instance fn8:FnC Tryz.prog 8:=⟨_,_,Tryz.func8,rfl,by kernel_rfl⟩
instance fn9:FnC Tryz.prog 9:=⟨_,_,Tryz.func9,rfl,by kernel_rfl⟩
instance fn10:FnC Tryz.prog 10:=⟨_,_,Tryz.func10,rfl,by kernel_rfl⟩
instance fn11:FnC Tryz.prog 11:=⟨_,_,Tryz.func11,rfl,by kernel_rfl⟩
instance fn12:FnC Tryz.prog 12:=⟨_,_,Tryz.func12,rfl,by kernel_rfl⟩
instance fn13:FnC Tryz.prog 13:=⟨_,_,Tryz.func13,rfl,by kernel_rfl⟩
instance fn14:FnC Tryz.prog 14:=⟨_,_,Tryz.func14,rfl,by kernel_rfl⟩
instance fn18:FnC Tryz.prog 18:=⟨_,_,Tryz.func18,rfl,by kernel_rfl⟩
instance fn25:FnC Tryz.prog 25:=⟨_,_,Tryz.func25,rfl,by kernel_rfl⟩
instance fn26:FnC Tryz.prog 26:=⟨_,_,Tryz.func26,rfl,by kernel_rfl⟩
instance fn27:FnC Tryz.prog 27:=⟨_,_,Tryz.func27,rfl,by kernel_rfl⟩
instance fn28:FnC Tryz.prog 28:=⟨_,_,Tryz.func28,rfl,by kernel_rfl⟩
instance fn29:FnC Tryz.prog 29:=⟨_,_,Tryz.func29,rfl,by kernel_rfl⟩
instance fn30:FnC Tryz.prog 30:=⟨_,_,Tryz.func30,rfl,by kernel_rfl⟩
instance fn31:FnC Tryz.prog 31:=⟨_,_,Tryz.func31,rfl,by kernel_rfl⟩
instance fn32:FnC Tryz.prog 32:=⟨_,_,Tryz.func32,rfl,by kernel_rfl⟩
instance fn33:FnC Tryz.prog 33:=⟨_,_,Tryz.func33,rfl,by kernel_rfl⟩
instance fn34:FnC Tryz.prog 34:=⟨_,_,Tryz.func34,rfl,by kernel_rfl⟩
instance fn35:FnC Tryz.prog 35:=⟨_,_,Tryz.func35,rfl,by kernel_rfl⟩
instance fn36:FnC Tryz.prog 36:=⟨_,_,Tryz.func36,rfl,by kernel_rfl⟩
instance fn37:FnC Tryz.prog 37:=⟨_,_,Tryz.func37,rfl,by kernel_rfl⟩
instance fn38:FnC Tryz.prog 38:=⟨_,_,Tryz.func38,rfl,by kernel_rfl⟩
instance fn39:FnC Tryz.prog 39:=⟨_,_,Tryz.func39,rfl,by kernel_rfl⟩
instance fn40:FnC Tryz.prog 40:=⟨_,_,Tryz.func40,rfl,by kernel_rfl⟩
instance fn41:FnC Tryz.prog 41:=⟨_,_,Tryz.func41,rfl,by kernel_rfl⟩
instance fn42:FnC Tryz.prog 42:=⟨_,_,Tryz.func42,rfl,by kernel_rfl⟩
instance fn43:FnC Tryz.prog 43:=⟨_,_,Tryz.func43,rfl,by kernel_rfl⟩
instance fn44:FnC Tryz.prog 44:=⟨_,_,Tryz.func44,rfl,by kernel_rfl⟩
instance fn45:FnC Tryz.prog 45:=⟨_,_,Tryz.func45,rfl,by kernel_rfl⟩
instance fn46:FnC Tryz.prog 46:=⟨_,_,Tryz.func46,rfl,by kernel_rfl⟩
instance fn47:FnC Tryz.prog 47:=⟨_,_,Tryz.func47,rfl,by kernel_rfl⟩
instance fn48:FnC Tryz.prog 48:=⟨_,_,Tryz.func48,rfl,by kernel_rfl⟩
instance fn49:FnC Tryz.prog 49:=⟨_,_,Tryz.func49,rfl,by kernel_rfl⟩
instance fn53:FnC Tryz.prog 53:=⟨_,_,Tryz.func53,rfl,by kernel_rfl⟩
instance fn58:FnC Tryz.prog 58:=⟨_,_,Tryz.func58,rfl,by kernel_rfl⟩
instance fn59:FnC Tryz.prog 59:=⟨_,_,Tryz.func59,rfl,by kernel_rfl⟩
instance fn60:FnC Tryz.prog 60:=⟨_,_,Tryz.func60,rfl,by kernel_rfl⟩
instance fn61:FnC Tryz.prog 61:=⟨_,_,Tryz.func61,rfl,by kernel_rfl⟩
instance fn62:FnC Tryz.prog 62:=⟨_,_,Tryz.func62,rfl,by kernel_rfl⟩
instance fn63:FnC Tryz.prog 63:=⟨_,_,Tryz.func63,rfl,by kernel_rfl⟩
instance fn64:FnC Tryz.prog 64:=⟨_,_,Tryz.func64,rfl,by kernel_rfl⟩
instance fn65:FnC Tryz.prog 65:=⟨_,_,Tryz.func65,rfl,by kernel_rfl⟩
instance fn66:FnC Tryz.prog 66:=⟨_,_,Tryz.func66,rfl,by kernel_rfl⟩
instance fn67:FnC Tryz.prog 67:=⟨_,_,Tryz.func67,rfl,by kernel_rfl⟩
instance fn68:FnC Tryz.prog 68:=⟨_,_,Tryz.func68,rfl,by kernel_rfl⟩
instance fn69:FnC Tryz.prog 69:=⟨_,_,Tryz.func69,rfl,by kernel_rfl⟩
instance fn70:FnC Tryz.prog 70:=⟨_,_,Tryz.func70,rfl,by kernel_rfl⟩
instance fn71:FnC Tryz.prog 71:=⟨_,_,Tryz.func71,rfl,by kernel_rfl⟩
instance fn72:FnC Tryz.prog 72:=⟨_,_,Tryz.func72,rfl,by kernel_rfl⟩
instance fn73:FnC Tryz.prog 73:=⟨_,_,Tryz.func73,rfl,by kernel_rfl⟩
instance fn74:FnC Tryz.prog 74:=⟨_,_,Tryz.func74,rfl,by kernel_rfl⟩
instance fn75:FnC Tryz.prog 75:=⟨_,_,Tryz.func75,rfl,by kernel_rfl⟩
instance fn76:FnC Tryz.prog 76:=⟨_,_,Tryz.func76,rfl,by kernel_rfl⟩
instance fn77:FnC Tryz.prog 77:=⟨_,_,Tryz.func77,rfl,by kernel_rfl⟩
instance fn78:FnC Tryz.prog 78:=⟨_,_,Tryz.func78,rfl,by kernel_rfl⟩
instance fn79:FnC Tryz.prog 79:=⟨_,_,Tryz.func79,rfl,by kernel_rfl⟩
instance fn80:FnC Tryz.prog 80:=⟨_,_,Tryz.func80,rfl,by kernel_rfl⟩
instance fn81:FnC Tryz.prog 81:=⟨_,_,Tryz.func81,rfl,by kernel_rfl⟩
instance fn82:FnC Tryz.prog 82:=⟨_,_,Tryz.func82,rfl,by kernel_rfl⟩
instance fn83:FnC Tryz.prog 83:=⟨_,_,Tryz.func83,rfl,by kernel_rfl⟩
instance fn84:FnC Tryz.prog 84:=⟨_,_,Tryz.func84,rfl,by kernel_rfl⟩
instance fn85:FnC Tryz.prog 85:=⟨_,_,Tryz.func85,rfl,by kernel_rfl⟩
instance fn86:FnC Tryz.prog 86:=⟨_,_,Tryz.func86,rfl,by kernel_rfl⟩
instance fn87:FnC Tryz.prog 87:=⟨_,_,Tryz.func87,rfl,by kernel_rfl⟩
instance fn91:FnC Tryz.prog 91:=⟨_,_,Tryz.func91,rfl,by kernel_rfl⟩
instance fn92:FnC Tryz.prog 92:=⟨_,_,Tryz.func92,rfl,by kernel_rfl⟩
instance fn96:FnC Tryz.prog 96:=⟨_,_,Tryz.func96,rfl,by kernel_rfl⟩
instance fn97:FnC Tryz.prog 97:=⟨_,_,Tryz.func97,rfl,by kernel_rfl⟩
instance fn98:FnC Tryz.prog 98:=⟨_,_,Tryz.func98,rfl,by kernel_rfl⟩
instance fn99:FnC Tryz.prog 99:=⟨_,_,Tryz.func99,rfl,by kernel_rfl⟩
instance fn100:FnC Tryz.prog 100:=⟨_,_,Tryz.func100,rfl,by kernel_rfl⟩
instance fn101:FnC Tryz.prog 101:=⟨_,_,Tryz.func101,rfl,by kernel_rfl⟩
instance fn102:FnC Tryz.prog 102:=⟨_,_,Tryz.func102,rfl,by kernel_rfl⟩
instance fn103:FnC Tryz.prog 103:=⟨_,_,Tryz.func103,rfl,by kernel_rfl⟩
instance fn104:FnC Tryz.prog 104:=⟨_,_,Tryz.func104,rfl,by kernel_rfl⟩
instance fn105:FnC Tryz.prog 105:=⟨_,_,Tryz.func105,rfl,by kernel_rfl⟩
instance fn106:FnC Tryz.prog 106:=⟨_,_,Tryz.func106,rfl,by kernel_rfl⟩
instance fn107:FnC Tryz.prog 107:=⟨_,_,Tryz.func107,rfl,by kernel_rfl⟩
instance fn108:FnC Tryz.prog 108:=⟨_,_,Tryz.func108,rfl,by kernel_rfl⟩
instance fn109:FnC Tryz.prog 109:=⟨_,_,Tryz.func109,rfl,by kernel_rfl⟩
instance fn110:FnC Tryz.prog 110:=⟨_,_,Tryz.func110,rfl,by kernel_rfl⟩
instance fn111:FnC Tryz.prog 111:=⟨_,_,Tryz.func111,rfl,by kernel_rfl⟩
instance fn112:FnC Tryz.prog 112:=⟨_,_,Tryz.func112,rfl,by kernel_rfl⟩
instance fn113:FnC Tryz.prog 113:=⟨_,_,Tryz.func113,rfl,by kernel_rfl⟩
instance fn114:FnC Tryz.prog 114:=⟨_,_,Tryz.func114,rfl,by kernel_rfl⟩
instance fn115:FnC Tryz.prog 115:=⟨_,_,Tryz.func115,rfl,by kernel_rfl⟩
instance fn116:FnC Tryz.prog 116:=⟨_,_,Tryz.func116,rfl,by kernel_rfl⟩
instance fn117:FnC Tryz.prog 117:=⟨_,_,Tryz.func117,rfl,by kernel_rfl⟩
instance fn119:FnC Tryz.prog 119:=⟨_,_,Tryz.func119,rfl,by kernel_rfl⟩
instance fn120:FnC Tryz.prog 120:=⟨_,_,Tryz.func120,rfl,by kernel_rfl⟩
instance fn121:FnC Tryz.prog 121:=⟨_,_,Tryz.func121,rfl,by kernel_rfl⟩
instance fn122:FnC Tryz.prog 122:=⟨_,_,Tryz.func122,rfl,by kernel_rfl⟩
instance fn123:FnC Tryz.prog 123:=⟨_,_,Tryz.func123,rfl,by kernel_rfl⟩
instance fn124:FnC Tryz.prog 124:=⟨_,_,Tryz.func124,rfl,by kernel_rfl⟩
instance fn125:FnC Tryz.prog 125:=⟨_,_,Tryz.func125,rfl,by kernel_rfl⟩
instance fn126:FnC Tryz.prog 126:=⟨_,_,Tryz.func126,rfl,by kernel_rfl⟩
instance fn127:FnC Tryz.prog 127:=⟨_,_,Tryz.func127,rfl,by kernel_rfl⟩
instance fn128:FnC Tryz.prog 128:=⟨_,_,Tryz.func128,rfl,by kernel_rfl⟩
instance fn129:FnC Tryz.prog 129:=⟨_,_,Tryz.func129,rfl,by kernel_rfl⟩
instance fn130:FnC Tryz.prog 130:=⟨_,_,Tryz.func130,rfl,by kernel_rfl⟩
instance fn131:FnC Tryz.prog 131:=⟨_,_,Tryz.func131,rfl,by kernel_rfl⟩
instance fn132:FnC Tryz.prog 132:=⟨_,_,Tryz.func132,rfl,by kernel_rfl⟩
instance fn133:FnC Tryz.prog 133:=⟨_,_,Tryz.func133,rfl,by kernel_rfl⟩
instance fn134:FnC Tryz.prog 134:=⟨_,_,Tryz.func134,rfl,by kernel_rfl⟩
instance fn135:FnC Tryz.prog 135:=⟨_,_,Tryz.func135,rfl,by kernel_rfl⟩
instance fn136:FnC Tryz.prog 136:=⟨_,_,Tryz.func136,rfl,by kernel_rfl⟩
instance fn137:FnC Tryz.prog 137:=⟨_,_,Tryz.func137,rfl,by kernel_rfl⟩
instance fn138:FnC Tryz.prog 138:=⟨_,_,Tryz.func138,rfl,by kernel_rfl⟩
instance fn139:FnC Tryz.prog 139:=⟨_,_,Tryz.func139,rfl,by kernel_rfl⟩
instance fn140:FnC Tryz.prog 140:=⟨_,_,Tryz.func140,rfl,by kernel_rfl⟩
instance fn141:FnC Tryz.prog 141:=⟨_,_,Tryz.func141,rfl,by kernel_rfl⟩
instance fn142:FnC Tryz.prog 142:=⟨_,_,Tryz.func142,rfl,by kernel_rfl⟩
instance fn143:FnC Tryz.prog 143:=⟨_,_,Tryz.func143,rfl,by kernel_rfl⟩
instance fn144:FnC Tryz.prog 144:=⟨_,_,Tryz.func144,rfl,by kernel_rfl⟩
instance fn145:FnC Tryz.prog 145:=⟨_,_,Tryz.func145,rfl,by kernel_rfl⟩
instance fn146:FnC Tryz.prog 146:=⟨_,_,Tryz.func146,rfl,by kernel_rfl⟩
instance fn147:FnC Tryz.prog 147:=⟨_,_,Tryz.func147,rfl,by kernel_rfl⟩
end Go.Proofs.YtkhdhnpokfibjaaGreat
