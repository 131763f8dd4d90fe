/- Closed facts on types, as instances. No condition. -/
import Derived.Test.YtacpfhajafmigaaGreatDg
import Derived.Test.YtacpfhajafmigaaGreatLn
import Derived.Test.YtacpfhajafmigaaGreatChecked
import Derived.KernelRfl
namespace Go.Proofs.YtacpfhajafmigaaGreat
open Go Go.Li Go.Dk
set_option linter.unusedVariables false
set_option maxRecDepth 100000
noncomputable def i2:TypeInfo:=(Tryz.prog.info? 2).getD default
theorem info2:Tryz.prog.info? 2=some i2:=by kernel_rfl
theorem sz2:i2.size=1:=by kernel_rfl
theorem ne2:i2.size≠0:=by rw [sz2]; decide
theorem zr2:i2.zero=some (.int .i64 0):=by kernel_rfl
theorem by2:i2.bytes=8:=by kernel_rfl
noncomputable def i3:TypeInfo:=(Tryz.prog.info? 3).getD default
theorem info3:Tryz.prog.info? 3=some i3:=by kernel_rfl
theorem sz3:i3.size=1:=by kernel_rfl
theorem ne3:i3.size≠0:=by rw [sz3]; decide
theorem zr3:i3.zero=some (.int .i64 0):=by kernel_rfl
theorem by3:i3.bytes=8:=by kernel_rfl
noncomputable def i4:TypeInfo:=(Tryz.prog.info? 4).getD default
theorem info4:Tryz.prog.info? 4=some i4:=by kernel_rfl
theorem sz4:i4.size=1:=by kernel_rfl
theorem ne4:i4.size≠0:=by rw [sz4]; decide
theorem zr4:i4.zero=some (.bool false):=by kernel_rfl
theorem by4:i4.bytes=1:=by kernel_rfl
noncomputable def i5:TypeInfo:=(Tryz.prog.info? 5).getD default
theorem info5:Tryz.prog.info? 5=some i5:=by kernel_rfl
theorem sz5:i5.size=1:=by kernel_rfl
theorem ne5:i5.size≠0:=by rw [sz5]; decide
theorem zr5:i5.zero=some (.int .u8 0):=by kernel_rfl
theorem by5:i5.bytes=1:=by kernel_rfl
noncomputable def i22:TypeInfo:=(Tryz.prog.info? 22).getD default
theorem info22:Tryz.prog.info? 22=some i22:=by kernel_rfl
theorem sz22:i22.size=1:=by kernel_rfl
theorem ne22:i22.size≠0:=by rw [sz22]; decide
theorem zr22:i22.zero=some (.slice none 0 0):=by kernel_rfl
theorem by22:i22.bytes=24:=by kernel_rfl
noncomputable def i24:TypeInfo:=(Tryz.prog.info? 24).getD default
theorem info24:Tryz.prog.info? 24=some i24:=by kernel_rfl
theorem sz24:i24.size=1:=by kernel_rfl
theorem ne24:i24.size≠0:=by rw [sz24]; decide
theorem zr24:i24.zero=some (.slice none 0 0):=by kernel_rfl
theorem by24:i24.bytes=24:=by kernel_rfl
noncomputable def i25:TypeInfo:=(Tryz.prog.info? 25).getD default
theorem info25:Tryz.prog.info? 25=some i25:=by kernel_rfl
theorem sz25:i25.size=1:=by kernel_rfl
theorem ne25:i25.size≠0:=by rw [sz25]; decide
theorem zr25:i25.zero=some (.slice none 0 0):=by kernel_rfl
theorem by25:i25.bytes=24:=by kernel_rfl
noncomputable def i27:TypeInfo:=(Tryz.prog.info? 27).getD default
theorem info27:Tryz.prog.info? 27=some i27:=by kernel_rfl
theorem sz27:i27.size=5:=by kernel_rfl
theorem ne27:i27.size≠0:=by rw [sz27]; decide
theorem zr27:i27.zero=some (.agg #[.int .i64 ((0:Int)),.slice none 0 0,.slice none 0 0,.slice none 0 0,.slice none 0 0]):=by kernel_rfl
noncomputable def i29:TypeInfo:=(Tryz.prog.info? 29).getD default
theorem info29:Tryz.prog.info? 29=some i29:=by kernel_rfl
theorem sz29:i29.size=7:=by kernel_rfl
theorem ne29:i29.size≠0:=by rw [sz29]; decide
theorem zr29:i29.zero=some (.agg #[.int .i64 ((0:Int)),.slice none 0 0,.slice none 0 0,.slice none 0 0,.slice none 0 0,.slice none 0 0,.slice none 0 0]):=by kernel_rfl
noncomputable def i31:TypeInfo:=(Tryz.prog.info? 31).getD default
theorem info31:Tryz.prog.info? 31=some i31:=by kernel_rfl
theorem sz31:i31.size=15:=by kernel_rfl
theorem ne31:i31.size≠0:=by rw [sz31]; decide
theorem zr31:i31.zero=some (.agg #[.int .i64 ((0:Int)),.slice none 0 0,.slice none 0 0,.slice none 0 0,.slice none 0 0,.slice none 0 0,.slice none 0 0,.int .i64 ((0:Int)),.slice none 0 0,.slice none 0 0,.slice none 0 0,.slice none 0 0,.slice none 0 0,.slice none 0 0,.slice none 0 0]):=by kernel_rfl
noncomputable def i45:TypeInfo:=(Tryz.prog.info? 45).getD default
theorem info45:Tryz.prog.info? 45=some i45:=by kernel_rfl
theorem sz45:i45.size=1:=by kernel_rfl
theorem ne45:i45.size≠0:=by rw [sz45]; decide
theorem zr45:i45.zero=some (.pointer none):=by kernel_rfl
theorem by45:i45.bytes=8:=by kernel_rfl
noncomputable def i47:TypeInfo:=(Tryz.prog.info? 47).getD default
theorem info47:Tryz.prog.info? 47=some i47:=by kernel_rfl
theorem sz47:i47.size=1:=by kernel_rfl
theorem ne47:i47.size≠0:=by rw [sz47]; decide
theorem zr47:i47.zero=some (.pointer none):=by kernel_rfl
theorem by47:i47.bytes=8:=by kernel_rfl
noncomputable def i68:TypeInfo:=(Tryz.prog.info? 68).getD default
theorem info68:Tryz.prog.info? 68=some i68:=by kernel_rfl
theorem sz68:i68.size=1:=by kernel_rfl
theorem ne68:i68.size≠0:=by rw [sz68]; decide
theorem zr68:i68.zero=some (.slice none 0 0):=by kernel_rfl
theorem by68:i68.bytes=24:=by kernel_rfl
noncomputable def i70:TypeInfo:=(Tryz.prog.info? 70).getD default
theorem info70:Tryz.prog.info? 70=some i70:=by kernel_rfl
theorem sz70:i70.size=1:=by kernel_rfl
theorem ne70:i70.size≠0:=by rw [sz70]; decide
theorem zr70:i70.zero=some (.int .u64 0):=by kernel_rfl
theorem by70:i70.bytes=8:=by kernel_rfl
noncomputable def i72:TypeInfo:=(Tryz.prog.info? 72).getD default
theorem info72:Tryz.prog.info? 72=some i72:=by kernel_rfl
theorem sz72:i72.size=3:=by kernel_rfl
theorem ne72:i72.size≠0:=by rw [sz72]; decide
theorem zr72:i72.zero=some (.agg #[.slice none 0 0,.int .i64 ((0:Int)),.int .u64 ((0:Int))]):=by kernel_rfl
noncomputable def i109:TypeInfo:=(Tryz.prog.info? 109).getD default
theorem info109:Tryz.prog.info? 109=some i109:=by kernel_rfl
theorem sz109:i109.size=17:=by kernel_rfl
theorem ne109:i109.size≠0:=by rw [sz109]; decide
theorem zr109:i109.zero=some (.agg #[.int .i64 ((0:Int)),.slice none 0 0,.slice none 0 0,.slice none 0 0,.slice none 0 0,.slice none 0 0,.slice none 0 0,.int .i64 ((0:Int)),.slice none 0 0,.slice none 0 0,.slice none 0 0,.slice none 0 0,.slice none 0 0,.slice none 0 0,.bool (false),.int .i64 ((0:Int)),.slice none 0 0]):=by kernel_rfl
noncomputable def i136:TypeInfo:=(Tryz.prog.info? 136).getD default
theorem info136:Tryz.prog.info? 136=some i136:=by kernel_rfl
theorem sz136:i136.size=2:=by kernel_rfl
theorem ne136:i136.size≠0:=by rw [sz136]; decide
theorem zr136:i136.zero=some (.agg #[.int .i64 ((0:Int)),.int .i64 ((0:Int))]):=by kernel_rfl
noncomputable def i151:TypeInfo:=(Tryz.prog.info? 151).getD default
theorem info151:Tryz.prog.info? 151=some i151:=by kernel_rfl
theorem sz151:i151.size=3:=by kernel_rfl
theorem ne151:i151.size≠0:=by rw [sz151]; decide
theorem zr151:i151.zero=some (.agg #[.int .i64 ((0:Int)),.int .i64 ((0:Int)),.slice none 0 0]):=by kernel_rfl
instance lk2:LK Tryz.prog 2 none:=⟨_,Tryz.underlying2,rfl⟩
instance lk3:LK Tryz.prog 3 none:=⟨_,Tryz.underlying3,rfl⟩
instance lk4:LK Tryz.prog 4 none:=⟨_,Tryz.underlying4,rfl⟩
instance lk5:LK Tryz.prog 5 none:=⟨_,Tryz.underlying5,rfl⟩
instance lk22:LK Tryz.prog 22 none:=⟨_,Tryz.underlying22,rfl⟩
instance lk24:LK Tryz.prog 24 none:=⟨_,Tryz.underlying24,rfl⟩
instance lk25:LK Tryz.prog 25 none:=⟨_,Tryz.underlying25,rfl⟩
instance lk27:LK Tryz.prog 27 (some 5):=⟨_,_,Tryz.underlying27,rfl,info27,sz27⟩
instance lk29:LK Tryz.prog 29 (some 7):=⟨_,_,Tryz.underlying29,rfl,info29,sz29⟩
instance lk31:LK Tryz.prog 31 (some 15):=⟨_,_,Tryz.underlying31,rfl,info31,sz31⟩
instance lk45:LK Tryz.prog 45 none:=⟨_,Tryz.underlying45,rfl⟩
instance lk47:LK Tryz.prog 47 none:=⟨_,Tryz.underlying47,rfl⟩
instance lk68:LK Tryz.prog 68 none:=⟨_,Tryz.underlying68,rfl⟩
instance lk70:LK Tryz.prog 70 none:=⟨_,Tryz.underlying70,rfl⟩
instance lk136:LK Tryz.prog 136 (some 2):=⟨_,_,Tryz.underlying136,rfl,info136,sz136⟩
instance lk151:LK Tryz.prog 151 (some 3):=⟨_,_,Tryz.underlying151,rfl,info151,sz151⟩
instance sl22:SLc Tryz.prog 22:=⟨_,_,Tryz.underlying22,info5,sz5⟩
instance sl24:SLc Tryz.prog 24:=⟨_,_,Tryz.underlying24,info2,sz2⟩
instance lu24:LUc Tryz.prog 24 2:=⟨Tryz.underlying24,_,_,info2,zr2,sz2⟩
instance st24:STc Tryz.prog 24 Int 2 (aC .i64) 0 8:=⟨Tryz.underlying24,rfl,_,_,info2,zr2,sz2,rfl,by2,fun _=>⟨rfl,rfl⟩⟩
instance sl25:SLc Tryz.prog 25:=⟨_,_,Tryz.underlying25,info24,sz24⟩
instance lu25:LUc Tryz.prog 25 24:=⟨Tryz.underlying25,_,_,info24,zr24,sz24⟩
instance st25:STc Tryz.prog 25 (List Int) 24 (aJ 2 (aC .i64)) [] 24:=⟨Tryz.underlying25,rfl,_,_,info24,zr24,sz24,rfl,by24,fun _=>nil_own⟩
instance sl68:SLc Tryz.prog 68:=⟨_,_,Tryz.underlying68,info25,sz25⟩
instance lu68:LUc Tryz.prog 68 25:=⟨Tryz.underlying68,_,_,info25,zr25,sz25⟩
instance st68:STc Tryz.prog 68 (List (List Int)) 25 (aJ 24 (aJ 2 (aC .i64))) [] 24:=⟨Tryz.underlying68,rfl,_,_,info25,zr25,sz25,rfl,by25,fun _=>nil_own⟩
instance sl73:SLc Tryz.prog 73:=⟨_,_,Tryz.underlying73,info45,sz45⟩
instance lt73:LTc Tryz.prog 73 45:=⟨Tryz.underlying73,_,_,info45,zr45,sz45⟩
instance sl91:SLc Tryz.prog 91:=⟨_,_,Tryz.underlying91,info2,sz2⟩
instance sl95:SLc Tryz.prog 95:=⟨_,_,Tryz.underlying95,info2,sz2⟩
instance lu95:LUc Tryz.prog 95 2:=⟨Tryz.underlying95,_,_,info2,zr2,sz2⟩
instance st95:STc Tryz.prog 95 Int 2 (aC .i64) 0 8:=⟨Tryz.underlying95,rfl,_,_,info2,zr2,sz2,rfl,by2,fun _=>⟨rfl,rfl⟩⟩
instance sl114:SLc Tryz.prog 114:=⟨_,_,Tryz.underlying114,info47,sz47⟩
instance lt114:LTc Tryz.prog 114 47:=⟨Tryz.underlying114,_,_,info47,zr47,sz47⟩
instance sn148:SNc Tryz.prog 148 3:=⟨_,_,Tryz.underlying148,info151,sz151⟩
instance ls148:LSc Tryz.prog 148 151 3:=⟨Tryz.underlying148,_,_,info151,zr151,sz151,by decide⟩
theorem by151:i151.bytes=40:=by kernel_rfl
instance sb148:SBc Tryz.prog 148 151 3 40:=⟨Tryz.underlying148,_,_,info151,zr151,rfl,sz151,by151,by decide⟩
instance so2:STo Tryz.prog 2 1:=⟨_,info2,sz2⟩
instance so3:STo Tryz.prog 3 1:=⟨_,info3,sz3⟩
instance so24:STo Tryz.prog 24 1:=⟨_,info24,sz24⟩
instance so25:STo Tryz.prog 25 1:=⟨_,info25,sz25⟩
instance so27:STo Tryz.prog 27 5:=⟨_,info27,sz27⟩
instance so29:STo Tryz.prog 29 7:=⟨_,info29,sz29⟩
instance so31:STo Tryz.prog 31 15:=⟨_,info31,sz31⟩
instance so68:STo Tryz.prog 68 1:=⟨_,info68,sz68⟩
instance so70:STo Tryz.prog 70 1:=⟨_,info70,sz70⟩
instance so136:STo Tryz.prog 136 2:=⟨_,info136,sz136⟩
instance so151:STo Tryz.prog 151 3:=⟨_,info151,sz151⟩
instance zv27:ZVc Tryz.prog 27 [.int .i64 ((0:Int)),.slice none 0 0,.slice none 0 0,.slice none 0 0,.slice none 0 0]:=⟨_,_,info27,zr27,rfl⟩
instance zv29:ZVc Tryz.prog 29 [.int .i64 ((0:Int)),.slice none 0 0,.slice none 0 0,.slice none 0 0,.slice none 0 0,.slice none 0 0,.slice none 0 0]:=⟨_,_,info29,zr29,rfl⟩
instance zv31:ZVc Tryz.prog 31 [.int .i64 ((0:Int)),.slice none 0 0,.slice none 0 0,.slice none 0 0,.slice none 0 0,.slice none 0 0,.slice none 0 0,.int .i64 ((0:Int)),.slice none 0 0,.slice none 0 0,.slice none 0 0,.slice none 0 0,.slice none 0 0,.slice none 0 0,.slice none 0 0]:=⟨_,_,info31,zr31,rfl⟩
instance zv136:ZVc Tryz.prog 136 [.int .i64 ((0:Int)),.int .i64 ((0:Int))]:=⟨_,_,info136,zr136,rfl⟩
instance zv151:ZVc Tryz.prog 151 [.int .i64 ((0:Int)),.int .i64 ((0:Int)),.slice none 0 0]:=⟨_,_,info151,zr151,rfl⟩
instance fa27_0:FAc Tryz.prog 27 0 0:=⟨_,_,_,Tryz.underlying27,rfl,info2,ne2,rfl⟩
instance fa27_1:FAc Tryz.prog 27 1 1:=⟨_,_,_,Tryz.underlying27,rfl,info24,ne24,rfl⟩
instance fa27_2:FAc Tryz.prog 27 2 2:=⟨_,_,_,Tryz.underlying27,rfl,info24,ne24,rfl⟩
instance fa27_3:FAc Tryz.prog 27 3 3:=⟨_,_,_,Tryz.underlying27,rfl,info24,ne24,rfl⟩
instance fa27_4:FAc Tryz.prog 27 4 4:=⟨_,_,_,Tryz.underlying27,rfl,info25,ne25,rfl⟩
instance fa29_0:FAc Tryz.prog 29 0 0:=⟨_,_,_,Tryz.underlying29,rfl,info27,ne27,rfl⟩
instance fa29_1:FAc Tryz.prog 29 1 5:=⟨_,_,_,Tryz.underlying29,rfl,info24,ne24,rfl⟩
instance fa29_2:FAc Tryz.prog 29 2 6:=⟨_,_,_,Tryz.underlying29,rfl,info25,ne25,rfl⟩
instance fa31_0:FAc Tryz.prog 31 0 0:=⟨_,_,_,Tryz.underlying31,rfl,info29,ne29,rfl⟩
instance fa31_1:FAc Tryz.prog 31 1 7:=⟨_,_,_,Tryz.underlying31,rfl,info29,ne29,rfl⟩
instance fa31_2:FAc Tryz.prog 31 2 14:=⟨_,_,_,Tryz.underlying31,rfl,info25,ne25,rfl⟩
instance fa72_0:FAc Tryz.prog 72 0 0:=⟨_,_,_,Tryz.underlying72,rfl,info22,ne22,rfl⟩
instance fa72_1:FAc Tryz.prog 72 1 1:=⟨_,_,_,Tryz.underlying72,rfl,info3,ne3,rfl⟩
instance fa72_2:FAc Tryz.prog 72 2 2:=⟨_,_,_,Tryz.underlying72,rfl,info70,ne70,rfl⟩
instance fa109_0:FAc Tryz.prog 109 0 0:=⟨_,_,_,Tryz.underlying109,rfl,info29,ne29,rfl⟩
instance fa109_1:FAc Tryz.prog 109 1 7:=⟨_,_,_,Tryz.underlying109,rfl,info29,ne29,rfl⟩
instance fa109_2:FAc Tryz.prog 109 2 14:=⟨_,_,_,Tryz.underlying109,rfl,info4,ne4,rfl⟩
instance fa109_3:FAc Tryz.prog 109 3 15:=⟨_,_,_,Tryz.underlying109,rfl,info3,ne3,rfl⟩
instance fa109_4:FAc Tryz.prog 109 4 16:=⟨_,_,_,Tryz.underlying109,rfl,info68,ne68,rfl⟩
instance fa151_0:FAc Tryz.prog 151 0 0:=⟨_,_,_,Tryz.underlying151,rfl,info2,ne2,rfl⟩
instance fa151_1:FAc Tryz.prog 151 1 1:=⟨_,_,_,Tryz.underlying151,rfl,info2,ne2,rfl⟩
instance fa151_2:FAc Tryz.prog 151 2 2:=⟨_,_,_,Tryz.underlying151,rfl,info24,ne24,rfl⟩
instance mp128:MPc Tryz.prog 128 Int Int inferInstance (Value.int .i64) (Value.int .i64):=⟨_,_,_,Tryz.underlying128,Tryz.underlying2,Ky.int⟩
instance ic_3_70:ICc Tryz.prog 3 70 .u64:=⟨by rw [Tryz.underlying3]; rfl,Tryz.underlying70⟩
instance ic_5_2:ICc Tryz.prog 5 2 .i64:=⟨by rw [Tryz.underlying5]; rfl,Tryz.underlying2⟩
instance ic_5_70:ICc Tryz.prog 5 70 .u64:=⟨by rw [Tryz.underlying5]; rfl,Tryz.underlying70⟩
instance ic_70_2:ICc Tryz.prog 70 2 .i64:=⟨by rw [Tryz.underlying70]; rfl,Tryz.underlying2⟩
instance mz128:MZc Tryz.prog 128 Int (Value.int .i64) 0:=⟨_,_,_,Tryz.underlying128,info2,zr2⟩
instance bu27:BuC Tryz.prog 27 [.int .i64 ((0:Int)),.slice none 0 0,.slice none 0 0,.slice none 0 0,.slice none 0 0] [(0,1),(1,1),(2,1),(3,1),(4,1)]:=⟨_,_,_,Tryz.underlying27,by kernel_rfl,info27,zr27,rfl⟩
instance bu29:BuC Tryz.prog 29 [.int .i64 ((0:Int)),.slice none 0 0,.slice none 0 0,.slice none 0 0,.slice none 0 0,.slice none 0 0,.slice none 0 0] [(0,5),(5,1),(6,1)]:=⟨_,_,_,Tryz.underlying29,by kernel_rfl,info29,zr29,rfl⟩
instance bu31:BuC Tryz.prog 31 [.int .i64 ((0:Int)),.slice none 0 0,.slice none 0 0,.slice none 0 0,.slice none 0 0,.slice none 0 0,.slice none 0 0,.int .i64 ((0:Int)),.slice none 0 0,.slice none 0 0,.slice none 0 0,.slice none 0 0,.slice none 0 0,.slice none 0 0,.slice none 0 0] [(0,7),(7,7),(14,1)]:=⟨_,_,_,Tryz.underlying31,by kernel_rfl,info31,zr31,rfl⟩
instance bu72:BuC Tryz.prog 72 [.slice none 0 0,.int .i64 ((0:Int)),.int .u64 ((0:Int))] [(0,1),(1,1),(2,1)]:=⟨_,_,_,Tryz.underlying72,by kernel_rfl,info72,zr72,rfl⟩
instance bu109:BuC Tryz.prog 109 [.int .i64 ((0:Int)),.slice none 0 0,.slice none 0 0,.slice none 0 0,.slice none 0 0,.slice none 0 0,.slice none 0 0,.int .i64 ((0:Int)),.slice none 0 0,.slice none 0 0,.slice none 0 0,.slice none 0 0,.slice none 0 0,.slice none 0 0,.bool (false),.int .i64 ((0:Int)),.slice none 0 0] [(0,7),(7,7),(14,1),(15,1),(16,1)]:=⟨_,_,_,Tryz.underlying109,by kernel_rfl,info109,zr109,rfl⟩
instance bu136:BuC Tryz.prog 136 [.int .i64 ((0:Int)),.int .i64 ((0:Int))] [(0,1),(1,1)]:=⟨_,_,_,Tryz.underlying136,by kernel_rfl,info136,zr136,rfl⟩
instance bu151:BuC Tryz.prog 151 [.int .i64 ((0:Int)),.int .i64 ((0:Int)),.slice none 0 0] [(0,1),(1,1),(2,1)]:=⟨_,_,_,Tryz.underlying151,by kernel_rfl,info151,zr151,rfl⟩
instance s2136:S2c Tryz.prog 136 .i64 .i64:=⟨_,_,Tryz.underlying136,by decide,by decide,Tryz.underlying2,Tryz.underlying2,rfl,rfl,by kernel_rfl,by kernel_rfl⟩
instance fn4:FnC Tryz.prog 4:=⟨_,_,Tryz.func4,rfl,by kernel_rfl⟩
instance fn5:FnC Tryz.prog 5:=⟨_,_,Tryz.func5,rfl,by kernel_rfl⟩
instance fn6:FnC Tryz.prog 6:=⟨_,_,Tryz.func6,rfl,by kernel_rfl⟩
instance fn7:FnC Tryz.prog 7:=⟨_,_,Tryz.func7,rfl,by kernel_rfl⟩
instance fn8:FnC Tryz.prog 8:=⟨_,_,Tryz.func8,rfl,by kernel_rfl⟩
instance fn9:FnC Tryz.prog 9:=⟨_,_,Tryz.func9,rfl,by kernel_rfl⟩
instance fn10:FnC Tryz.prog 10:=⟨_,_,Tryz.func10,rfl,by kernel_rfl⟩
instance fn11:FnC Tryz.prog 11:=⟨_,_,Tryz.func11,rfl,by kernel_rfl⟩
instance fn12:FnC Tryz.prog 12:=⟨_,_,Tryz.func12,rfl,by kernel_rfl⟩
instance fn13:FnC Tryz.prog 13:=⟨_,_,Tryz.func13,rfl,by kernel_rfl⟩
instance fn14:FnC Tryz.prog 14:=⟨_,_,Tryz.func14,rfl,by kernel_rfl⟩
instance fn15:FnC Tryz.prog 15:=⟨_,_,Tryz.func15,rfl,by kernel_rfl⟩
instance fn16:FnC Tryz.prog 16:=⟨_,_,Tryz.func16,rfl,by kernel_rfl⟩
instance fn17:FnC Tryz.prog 17:=⟨_,_,Tryz.func17,rfl,by kernel_rfl⟩
instance fn18:FnC Tryz.prog 18:=⟨_,_,Tryz.func18,rfl,by kernel_rfl⟩
instance fn19:FnC Tryz.prog 19:=⟨_,_,Tryz.func19,rfl,by kernel_rfl⟩
instance fn20:FnC Tryz.prog 20:=⟨_,_,Tryz.func20,rfl,by kernel_rfl⟩
instance fn21:FnC Tryz.prog 21:=⟨_,_,Tryz.func21,rfl,by kernel_rfl⟩
instance fn22:FnC Tryz.prog 22:=⟨_,_,Tryz.func22,rfl,by kernel_rfl⟩
instance fn23:FnC Tryz.prog 23:=⟨_,_,Tryz.func23,rfl,by kernel_rfl⟩
instance fn24:FnC Tryz.prog 24:=⟨_,_,Tryz.func24,rfl,by kernel_rfl⟩
instance fn25:FnC Tryz.prog 25:=⟨_,_,Tryz.func25,rfl,by kernel_rfl⟩
instance fn26:FnC Tryz.prog 26:=⟨_,_,Tryz.func26,rfl,by kernel_rfl⟩
instance fn27:FnC Tryz.prog 27:=⟨_,_,Tryz.func27,rfl,by kernel_rfl⟩
instance fn28:FnC Tryz.prog 28:=⟨_,_,Tryz.func28,rfl,by kernel_rfl⟩
instance fn29:FnC Tryz.prog 29:=⟨_,_,Tryz.func29,rfl,by kernel_rfl⟩
instance fn30:FnC Tryz.prog 30:=⟨_,_,Tryz.func30,rfl,by kernel_rfl⟩
instance fn31:FnC Tryz.prog 31:=⟨_,_,Tryz.func31,rfl,by kernel_rfl⟩
instance fn32:FnC Tryz.prog 32:=⟨_,_,Tryz.func32,rfl,by kernel_rfl⟩
instance fn33:FnC Tryz.prog 33:=⟨_,_,Tryz.func33,rfl,by kernel_rfl⟩
instance fn34:FnC Tryz.prog 34:=⟨_,_,Tryz.func34,rfl,by kernel_rfl⟩
instance fn35:FnC Tryz.prog 35:=⟨_,_,Tryz.func35,rfl,by kernel_rfl⟩
instance fn36:FnC Tryz.prog 36:=⟨_,_,Tryz.func36,rfl,by kernel_rfl⟩
instance fn37:FnC Tryz.prog 37:=⟨_,_,Tryz.func37,rfl,by kernel_rfl⟩
instance fn38:FnC Tryz.prog 38:=⟨_,_,Tryz.func38,rfl,by kernel_rfl⟩
instance fn39:FnC Tryz.prog 39:=⟨_,_,Tryz.func39,rfl,by kernel_rfl⟩
instance fn40:FnC Tryz.prog 40:=⟨_,_,Tryz.func40,rfl,by kernel_rfl⟩
instance fn41:FnC Tryz.prog 41:=⟨_,_,Tryz.func41,rfl,by kernel_rfl⟩
instance fn42:FnC Tryz.prog 42:=⟨_,_,Tryz.func42,rfl,by kernel_rfl⟩
instance fn43:FnC Tryz.prog 43:=⟨_,_,Tryz.func43,rfl,by kernel_rfl⟩
instance fn44:FnC Tryz.prog 44:=⟨_,_,Tryz.func44,rfl,by kernel_rfl⟩
instance fn45:FnC Tryz.prog 45:=⟨_,_,Tryz.func45,rfl,by kernel_rfl⟩
instance fn46:FnC Tryz.prog 46:=⟨_,_,Tryz.func46,rfl,by kernel_rfl⟩
instance fn47:FnC Tryz.prog 47:=⟨_,_,Tryz.func47,rfl,by kernel_rfl⟩
instance fn48:FnC Tryz.prog 48:=⟨_,_,Tryz.func48,rfl,by kernel_rfl⟩
instance fn49:FnC Tryz.prog 49:=⟨_,_,Tryz.func49,rfl,by kernel_rfl⟩
instance fn50:FnC Tryz.prog 50:=⟨_,_,Tryz.func50,rfl,by kernel_rfl⟩
instance fn51:FnC Tryz.prog 51:=⟨_,_,Tryz.func51,rfl,by kernel_rfl⟩
instance fn52:FnC Tryz.prog 52:=⟨_,_,Tryz.func52,rfl,by kernel_rfl⟩
instance fn53:FnC Tryz.prog 53:=⟨_,_,Tryz.func53,rfl,by kernel_rfl⟩
instance fn54:FnC Tryz.prog 54:=⟨_,_,Tryz.func54,rfl,by kernel_rfl⟩
instance fn55:FnC Tryz.prog 55:=⟨_,_,Tryz.func55,rfl,by kernel_rfl⟩
instance fn56:FnC Tryz.prog 56:=⟨_,_,Tryz.func56,rfl,by kernel_rfl⟩
instance fn57:FnC Tryz.prog 57:=⟨_,_,Tryz.func57,rfl,by kernel_rfl⟩
instance fn58:FnC Tryz.prog 58:=⟨_,_,Tryz.func58,rfl,by kernel_rfl⟩
instance fn59:FnC Tryz.prog 59:=⟨_,_,Tryz.func59,rfl,by kernel_rfl⟩
instance fn60:FnC Tryz.prog 60:=⟨_,_,Tryz.func60,rfl,by kernel_rfl⟩
instance fn61:FnC Tryz.prog 61:=⟨_,_,Tryz.func61,rfl,by kernel_rfl⟩
instance fn62:FnC Tryz.prog 62:=⟨_,_,Tryz.func62,rfl,by kernel_rfl⟩
instance fn63:FnC Tryz.prog 63:=⟨_,_,Tryz.func63,rfl,by kernel_rfl⟩
instance fn64:FnC Tryz.prog 64:=⟨_,_,Tryz.func64,rfl,by kernel_rfl⟩
instance fn65:FnC Tryz.prog 65:=⟨_,_,Tryz.func65,rfl,by kernel_rfl⟩
instance fn66:FnC Tryz.prog 66:=⟨_,_,Tryz.func66,rfl,by kernel_rfl⟩
instance fn67:FnC Tryz.prog 67:=⟨_,_,Tryz.func67,rfl,by kernel_rfl⟩
instance fn68:FnC Tryz.prog 68:=⟨_,_,Tryz.func68,rfl,by kernel_rfl⟩
instance fn69:FnC Tryz.prog 69:=⟨_,_,Tryz.func69,rfl,by kernel_rfl⟩
instance fn70:FnC Tryz.prog 70:=⟨_,_,Tryz.func70,rfl,by kernel_rfl⟩
instance fn71:FnC Tryz.prog 71:=⟨_,_,Tryz.func71,rfl,by kernel_rfl⟩
instance fn72:FnC Tryz.prog 72:=⟨_,_,Tryz.func72,rfl,by kernel_rfl⟩
instance fn73:FnC Tryz.prog 73:=⟨_,_,Tryz.func73,rfl,by kernel_rfl⟩
instance fn74:FnC Tryz.prog 74:=⟨_,_,Tryz.func74,rfl,by kernel_rfl⟩
instance fn75:FnC Tryz.prog 75:=⟨_,_,Tryz.func75,rfl,by kernel_rfl⟩
instance fn76:FnC Tryz.prog 76:=⟨_,_,Tryz.func76,rfl,by kernel_rfl⟩
instance fn77:FnC Tryz.prog 77:=⟨_,_,Tryz.func77,rfl,by kernel_rfl⟩
instance fn78:FnC Tryz.prog 78:=⟨_,_,Tryz.func78,rfl,by kernel_rfl⟩
instance fn79:FnC Tryz.prog 79:=⟨_,_,Tryz.func79,rfl,by kernel_rfl⟩
instance fn80:FnC Tryz.prog 80:=⟨_,_,Tryz.func80,rfl,by kernel_rfl⟩
instance fn81:FnC Tryz.prog 81:=⟨_,_,Tryz.func81,rfl,by kernel_rfl⟩
instance fn82:FnC Tryz.prog 82:=⟨_,_,Tryz.func82,rfl,by kernel_rfl⟩
instance fn83:FnC Tryz.prog 83:=⟨_,_,Tryz.func83,rfl,by kernel_rfl⟩
instance fn84:FnC Tryz.prog 84:=⟨_,_,Tryz.func84,rfl,by kernel_rfl⟩
instance fn85:FnC Tryz.prog 85:=⟨_,_,Tryz.func85,rfl,by kernel_rfl⟩
instance fn86:FnC Tryz.prog 86:=⟨_,_,Tryz.func86,rfl,by kernel_rfl⟩
instance fn87:FnC Tryz.prog 87:=⟨_,_,Tryz.func87,rfl,by kernel_rfl⟩
instance fn88:FnC Tryz.prog 88:=⟨_,_,Tryz.func88,rfl,by kernel_rfl⟩
instance fn89:FnC Tryz.prog 89:=⟨_,_,Tryz.func89,rfl,by kernel_rfl⟩
instance fn90:FnC Tryz.prog 90:=⟨_,_,Tryz.func90,rfl,by kernel_rfl⟩
instance fn91:FnC Tryz.prog 91:=⟨_,_,Tryz.func91,rfl,by kernel_rfl⟩
instance fn92:FnC Tryz.prog 92:=⟨_,_,Tryz.func92,rfl,by kernel_rfl⟩
instance fn93:FnC Tryz.prog 93:=⟨_,_,Tryz.func93,rfl,by kernel_rfl⟩
instance fn94:FnC Tryz.prog 94:=⟨_,_,Tryz.func94,rfl,by kernel_rfl⟩
instance fn95:FnC Tryz.prog 95:=⟨_,_,Tryz.func95,rfl,by kernel_rfl⟩
instance fn96:FnC Tryz.prog 96:=⟨_,_,Tryz.func96,rfl,by kernel_rfl⟩
instance fn97:FnC Tryz.prog 97:=⟨_,_,Tryz.func97,rfl,by kernel_rfl⟩
instance fn98:FnC Tryz.prog 98:=⟨_,_,Tryz.func98,rfl,by kernel_rfl⟩
instance fn99:FnC Tryz.prog 99:=⟨_,_,Tryz.func99,rfl,by kernel_rfl⟩
instance fn100:FnC Tryz.prog 100:=⟨_,_,Tryz.func100,rfl,by kernel_rfl⟩
instance fn101:FnC Tryz.prog 101:=⟨_,_,Tryz.func101,rfl,by kernel_rfl⟩
instance fn102:FnC Tryz.prog 102:=⟨_,_,Tryz.func102,rfl,by kernel_rfl⟩
instance fn103:FnC Tryz.prog 103:=⟨_,_,Tryz.func103,rfl,by kernel_rfl⟩
instance fn104:FnC Tryz.prog 104:=⟨_,_,Tryz.func104,rfl,by kernel_rfl⟩
instance fn105:FnC Tryz.prog 105:=⟨_,_,Tryz.func105,rfl,by kernel_rfl⟩
instance fn106:FnC Tryz.prog 106:=⟨_,_,Tryz.func106,rfl,by kernel_rfl⟩
instance fn107:FnC Tryz.prog 107:=⟨_,_,Tryz.func107,rfl,by kernel_rfl⟩
instance fn108:FnC Tryz.prog 108:=⟨_,_,Tryz.func108,rfl,by kernel_rfl⟩
instance fn109:FnC Tryz.prog 109:=⟨_,_,Tryz.func109,rfl,by kernel_rfl⟩
instance fn110:FnC Tryz.prog 110:=⟨_,_,Tryz.func110,rfl,by kernel_rfl⟩
instance fn111:FnC Tryz.prog 111:=⟨_,_,Tryz.func111,rfl,by kernel_rfl⟩
instance fn112:FnC Tryz.prog 112:=⟨_,_,Tryz.func112,rfl,by kernel_rfl⟩
instance fn113:FnC Tryz.prog 113:=⟨_,_,Tryz.func113,rfl,by kernel_rfl⟩
instance fn114:FnC Tryz.prog 114:=⟨_,_,Tryz.func114,rfl,by kernel_rfl⟩
instance fn115:FnC Tryz.prog 115:=⟨_,_,Tryz.func115,rfl,by kernel_rfl⟩
instance fn116:FnC Tryz.prog 116:=⟨_,_,Tryz.func116,rfl,by kernel_rfl⟩
instance fn117:FnC Tryz.prog 117:=⟨_,_,Tryz.func117,rfl,by kernel_rfl⟩
instance fn118:FnC Tryz.prog 118:=⟨_,_,Tryz.func118,rfl,by kernel_rfl⟩
instance fn119:FnC Tryz.prog 119:=⟨_,_,Tryz.func119,rfl,by kernel_rfl⟩
instance fn120:FnC Tryz.prog 120:=⟨_,_,Tryz.func120,rfl,by kernel_rfl⟩
instance fn121:FnC Tryz.prog 121:=⟨_,_,Tryz.func121,rfl,by kernel_rfl⟩
instance fn122:FnC Tryz.prog 122:=⟨_,_,Tryz.func122,rfl,by kernel_rfl⟩
instance fn123:FnC Tryz.prog 123:=⟨_,_,Tryz.func123,rfl,by kernel_rfl⟩
instance fn124:FnC Tryz.prog 124:=⟨_,_,Tryz.func124,rfl,by kernel_rfl⟩
instance fn125:FnC Tryz.prog 125:=⟨_,_,Tryz.func125,rfl,by kernel_rfl⟩
instance fn126:FnC Tryz.prog 126:=⟨_,_,Tryz.func126,rfl,by kernel_rfl⟩
instance fn127:FnC Tryz.prog 127:=⟨_,_,Tryz.func127,rfl,by kernel_rfl⟩
instance fn128:FnC Tryz.prog 128:=⟨_,_,Tryz.func128,rfl,by kernel_rfl⟩
end Go.Proofs.YtacpfhajafmigaaGreat
