/- Closed facts on types, as instances. No condition. -/
import Derived.Test.YtgjbmjjihmfppaaGreatDp
import Derived.Test.YtgjbmjjihmfppaaGreatLn
import Derived.Test.YtgjbmjjihmfppaaGreatChecked
import Derived.KernelRfl
namespace Go.Proofs.YtgjbmjjihmfppaaGreat
open Go Go.Li Go.Dk
set_option linter.unusedVariables false
set_option maxRecDepth 100000
noncomputable def i2:TypeInfo:=(Tryz.prog.info? 2).getD default
theorem xE:Tryz.prog.info? 2=some i2:=by kernel_rfl
theorem Nv:i2.size=1:=by kernel_rfl
theorem R9:i2.size≠0:=by rw [Nv]; decide
theorem Vy:i2.zero=some (.int .i64 0):=by kernel_rfl
theorem by2:i2.bytes=8:=by kernel_rfl
noncomputable def i3:TypeInfo:=(Tryz.prog.info? 3).getD default
theorem Lx:Tryz.prog.info? 3=some i3:=by kernel_rfl
theorem Z5:i3.size=1:=by kernel_rfl
theorem Z6:i3.size≠0:=by rw [Z5]; decide
theorem zr3:i3.zero=some (.int .i64 0):=by kernel_rfl
theorem by3:i3.bytes=8:=by kernel_rfl
noncomputable def i4:TypeInfo:=(Tryz.prog.info? 4).getD default
theorem Y0:Tryz.prog.info? 4=some i4:=by kernel_rfl
theorem sz4:i4.size=1:=by kernel_rfl
theorem ne4:i4.size≠0:=by rw [sz4]; decide
theorem zr4:i4.zero=some (.bool false):=by kernel_rfl
theorem by4:i4.bytes=1:=by kernel_rfl
noncomputable def i5:TypeInfo:=(Tryz.prog.info? 5).getD default
theorem Ly:Tryz.prog.info? 5=some i5:=by kernel_rfl
theorem Sa:i5.size=1:=by kernel_rfl
theorem ne5:i5.size≠0:=by rw [Sa]; decide
theorem Z7:i5.zero=some (.int .u8 0):=by kernel_rfl
theorem by5:i5.bytes=1:=by kernel_rfl
noncomputable def i22:TypeInfo:=(Tryz.prog.info? 22).getD default
theorem Vz:Tryz.prog.info? 22=some i22:=by kernel_rfl
theorem abJ:i22.size=1:=by kernel_rfl
theorem abK:i22.size≠0:=by rw [abJ]; decide
theorem amr:i22.zero=some (.slice none 0 0):=by kernel_rfl
theorem ams:i22.bytes=24:=by kernel_rfl
noncomputable def i24:TypeInfo:=(Tryz.prog.info? 24).getD default
theorem sT:Tryz.prog.info? 24=some i24:=by kernel_rfl
theorem H4:i24.size=1:=by kernel_rfl
theorem Dz:i24.size≠0:=by rw [H4]; decide
theorem PN:i24.zero=some (.slice none 0 0):=by kernel_rfl
theorem abL:i24.bytes=24:=by kernel_rfl
noncomputable def i25:TypeInfo:=(Tryz.prog.info? 25).getD default
theorem H5:Tryz.prog.info? 25=some i25:=by kernel_rfl
theorem VA:i25.size=1:=by kernel_rfl
theorem VB:i25.size≠0:=by rw [VA]; decide
theorem amt:i25.zero=some (.slice none 0 0):=by kernel_rfl
theorem amu:i25.bytes=24:=by kernel_rfl
noncomputable def i27:TypeInfo:=(Tryz.prog.info? 27).getD default
theorem zO:Tryz.prog.info? 27=some i27:=by kernel_rfl
theorem PO:i27.size=5:=by kernel_rfl
theorem VC:i27.size≠0:=by rw [PO]; decide
theorem VD:i27.zero=some (.agg #[.int .i64 ((0:Int)),.slice none 0 0,.slice none 0 0,.slice none 0 0,.slice none 0 0]):=by kernel_rfl
noncomputable def i29:TypeInfo:=(Tryz.prog.info? 29).getD default
theorem tF:Tryz.prog.info? 29=some i29:=by kernel_rfl
theorem Fh:i29.size=12:=by kernel_rfl
theorem Lz:i29.size≠0:=by rw [Fh]; decide
theorem LA:i29.zero=some (.agg #[.int .i64 ((0:Int)),.slice none 0 0,.slice none 0 0,.slice none 0 0,.slice none 0 0,.int .i64 ((0:Int)),.slice none 0 0,.slice none 0 0,.slice none 0 0,.slice none 0 0,.slice none 0 0,.slice none 0 0]):=by kernel_rfl
noncomputable def i32:TypeInfo:=(Tryz.prog.info? 32).getD default
theorem yc:Tryz.prog.info? 32=some i32:=by kernel_rfl
theorem Fi:i32.size=2:=by kernel_rfl
theorem amv:i32.size≠0:=by rw [Fi]; decide
theorem LB:i32.zero=some (.agg #[.int .i64 ((0:Int)),.slice none 0 0]):=by kernel_rfl
noncomputable def i54:TypeInfo:=(Tryz.prog.info? 54).getD default
theorem H6:Tryz.prog.info? 54=some i54:=by kernel_rfl
theorem PQ:i54.size=1:=by kernel_rfl
theorem abM:i54.size≠0:=by rw [PQ]; decide
theorem abN:i54.zero=some (.pointer none):=by kernel_rfl
theorem amw:i54.bytes=8:=by kernel_rfl
noncomputable def i73:TypeInfo:=(Tryz.prog.info? 73).getD default
theorem Ed:Tryz.prog.info? 73=some i73:=by kernel_rfl
theorem LC:i73.size=1:=by kernel_rfl
theorem amx:i73.size≠0:=by rw [LC]; decide
theorem VE:i73.zero=some (.pointer none):=by kernel_rfl
theorem amy:i73.bytes=8:=by kernel_rfl
noncomputable def i79:TypeInfo:=(Tryz.prog.info? 79).getD default
theorem Nw:Tryz.prog.info? 79=some i79:=by kernel_rfl
theorem VF:i79.size=1:=by kernel_rfl
theorem abO:i79.size≠0:=by rw [VF]; decide
theorem amz:i79.zero=some (.int .u64 0):=by kernel_rfl
theorem amA:i79.bytes=8:=by kernel_rfl
noncomputable def i81:TypeInfo:=(Tryz.prog.info? 81).getD default
theorem VG:Tryz.prog.info? 81=some i81:=by kernel_rfl
theorem abP:i81.size=3:=by kernel_rfl
theorem amB:i81.size≠0:=by rw [abP]; decide
theorem abQ:i81.zero=some (.agg #[.slice none 0 0,.int .i64 ((0:Int)),.int .u64 ((0:Int))]):=by kernel_rfl
noncomputable def i83:TypeInfo:=(Tryz.prog.info? 83).getD default
theorem BU:Tryz.prog.info? 83=some i83:=by kernel_rfl
theorem VH:i83.size=1:=by kernel_rfl
theorem VI:i83.size≠0:=by rw [VH]; decide
theorem VJ:i83.zero=some (.slice none 0 0):=by kernel_rfl
theorem amC:i83.bytes=24:=by kernel_rfl
noncomputable def i116:TypeInfo:=(Tryz.prog.info? 116).getD default
theorem TD:Tryz.prog.info? 116=some i116:=by kernel_rfl
theorem Y1:i116.size=27:=by kernel_rfl
theorem aks:i116.size≠0:=by rw [Y1]; decide
theorem Y2:i116.zero=some (.agg #[.int .i64 ((0:Int)),.slice none 0 0,.slice none 0 0,.slice none 0 0,.slice none 0 0,.int .i64 ((0:Int)),.slice none 0 0,.slice none 0 0,.slice none 0 0,.slice none 0 0,.slice none 0 0,.slice none 0 0,.int .i64 ((0:Int)),.slice none 0 0,.slice none 0 0,.slice none 0 0,.slice none 0 0,.int .i64 ((0:Int)),.slice none 0 0,.slice none 0 0,.slice none 0 0,.slice none 0 0,.slice none 0 0,.slice none 0 0,.pointer none,.slice none 0 0,.slice none 0 0]):=by kernel_rfl
noncomputable def i125:TypeInfo:=(Tryz.prog.info? 125).getD default
theorem CF:Tryz.prog.info? 125=some i125:=by kernel_rfl
theorem LD:i125.size=2:=by kernel_rfl
theorem akt:i125.size≠0:=by rw [LD]; decide
theorem Sb:i125.zero=some (.agg #[.int .i64 ((0:Int)),.int .i64 ((0:Int))]):=by kernel_rfl
noncomputable def i143:TypeInfo:=(Tryz.prog.info? 143).getD default
theorem aff:Tryz.prog.info? 143=some i143:=by kernel_rfl
theorem Y3:i143.size=1:=by kernel_rfl
theorem aku:i143.size≠0:=by rw [Y3]; decide
theorem akv:i143.zero=some (.nilFunc):=by kernel_rfl
theorem akw:i143.bytes=8:=by kernel_rfl
noncomputable def i166:TypeInfo:=(Tryz.prog.info? 166).getD default
theorem KD:Tryz.prog.info? 166=some i166:=by kernel_rfl
theorem Sd:i166.size=1:=by kernel_rfl
theorem akx:i166.size≠0:=by rw [Sd]; decide
theorem Y4:i166.zero=some (.nilFunc):=by kernel_rfl
theorem aky:i166.bytes=8:=by kernel_rfl
noncomputable def i176:TypeInfo:=(Tryz.prog.info? 176).getD default
theorem vY:Tryz.prog.info? 176=some i176:=by kernel_rfl
theorem CG:i176.size=3:=by kernel_rfl
theorem akz:i176.size≠0:=by rw [CG]; decide
theorem G6:i176.zero=some (.agg #[.int .i64 ((0:Int)),.int .i64 ((0:Int)),.slice none 0 0]):=by kernel_rfl
noncomputable def i180:TypeInfo:=(Tryz.prog.info? 180).getD default
theorem TE:Tryz.prog.info? 180=some i180:=by kernel_rfl
theorem Y5:i180.size=27:=by kernel_rfl
theorem akA:i180.size≠0:=by rw [Y5]; decide
theorem Y6:i180.zero=some (.agg #[.int .i64 ((0:Int)),.slice none 0 0,.slice none 0 0,.slice none 0 0,.slice none 0 0,.int .i64 ((0:Int)),.slice none 0 0,.slice none 0 0,.slice none 0 0,.slice none 0 0,.slice none 0 0,.slice none 0 0,.int .i64 ((0:Int)),.slice none 0 0,.slice none 0 0,.slice none 0 0,.slice none 0 0,.int .i64 ((0:Int)),.slice none 0 0,.slice none 0 0,.slice none 0 0,.slice none 0 0,.slice none 0 0,.slice none 0 0,.bool (false),.int .i64 ((0:Int)),.slice none 0 0]):=by kernel_rfl
instance lk2:LK Tryz.prog 2 none:=⟨_,Tryz.underlying2,rfl⟩
instance lk3:LK Tryz.prog 3 none:=⟨_,Tryz.underlying3,rfl⟩
instance lk4:LK Tryz.prog 4 none:=⟨_,Tryz.underlying4,rfl⟩
instance lk5:LK Tryz.prog 5 none:=⟨_,Tryz.underlying5,rfl⟩
instance amD:LK Tryz.prog 22 none:=⟨_,Tryz.underlying22,rfl⟩
instance amE:LK Tryz.prog 24 none:=⟨_,Tryz.underlying24,rfl⟩
instance amF:LK Tryz.prog 25 none:=⟨_,Tryz.underlying25,rfl⟩
instance amG:LK Tryz.prog 27 (some 5):=⟨_,_,Tryz.underlying27,rfl,zO,PO⟩
instance amH:LK Tryz.prog 29 (some 12):=⟨_,_,Tryz.underlying29,rfl,tF,Fh⟩
instance amI:LK Tryz.prog 32 (some 2):=⟨_,_,Tryz.underlying32,rfl,yc,Fi⟩
instance amJ:LK Tryz.prog 54 none:=⟨_,Tryz.underlying54,rfl⟩
instance amK:LK Tryz.prog 73 none:=⟨_,Tryz.underlying73,rfl⟩
instance amL:LK Tryz.prog 79 none:=⟨_,Tryz.underlying79,rfl⟩
instance amM:LK Tryz.prog 83 none:=⟨_,Tryz.underlying83,rfl⟩
instance akB:LK Tryz.prog 125 (some 2):=⟨_,_,Tryz.underlying125,rfl,CF,LD⟩
instance akC:LK Tryz.prog 143 none:=⟨_,Tryz.underlying143,rfl⟩
instance akD:LK Tryz.prog 166 none:=⟨_,Tryz.underlying166,rfl⟩
instance akE:LK Tryz.prog 176 (some 3):=⟨_,_,Tryz.underlying176,rfl,vY,CG⟩
instance amN:yT Tryz.prog 22:=⟨_,_,Tryz.underlying22,Ly,Sa⟩
instance amO:Kr Tryz.prog 22 5:=⟨Tryz.underlying22,_,_,Ly,Z7,Sa⟩
instance amP:tX Tryz.prog 22 Int 5 (aM .u8) 0 1:=⟨Tryz.underlying22,rfl,_,_,Ly,Z7,Sa,rfl,by5,fun _=>⟨rfl,rfl⟩⟩
instance amQ:yT Tryz.prog 24:=⟨_,_,Tryz.underlying24,xE,Nv⟩
instance amR:Kr Tryz.prog 24 2:=⟨Tryz.underlying24,_,_,xE,Vy,Nv⟩
instance amS:tX Tryz.prog 24 Int 2 (aM .i64) 0 8:=⟨Tryz.underlying24,rfl,_,_,xE,Vy,Nv,rfl,by2,fun _=>⟨rfl,rfl⟩⟩
instance amT:yT Tryz.prog 25:=⟨_,_,Tryz.underlying25,sT,H4⟩
instance amU:Kr Tryz.prog 25 24:=⟨Tryz.underlying25,_,_,sT,PN,H4⟩
instance amV:tX Tryz.prog 25 (List Int) 24 (aJ 2 (aM .i64)) [] 24:=⟨Tryz.underlying25,rfl,_,_,sT,PN,H4,rfl,abL,fun _=>E3⟩
instance amW:D0 Tryz.prog 83 2:=⟨_,_,Tryz.underlying83,yc,Fi⟩
instance amX:Hl Tryz.prog 83 32 2:=⟨Tryz.underlying83,_,_,yc,LB,Fi,by decide⟩
theorem abR:i32.bytes=32:=by kernel_rfl
instance amY:Bv Tryz.prog 83 32 2 32:=⟨Tryz.underlying83,_,_,yc,LB,rfl,Fi,abR,by decide⟩
instance akF:D0 Tryz.prog 104 12:=⟨_,_,Tryz.underlying104,tF,Fh⟩
instance akG:Hl Tryz.prog 104 29 12:=⟨Tryz.underlying104,_,_,tF,LA,Fh,by decide⟩
theorem abS:i29.bytes=256:=by kernel_rfl
instance akH:Bv Tryz.prog 104 29 12 256:=⟨Tryz.underlying104,_,_,tF,LA,rfl,Fh,abS,by decide⟩
instance akI:yT Tryz.prog 120:=⟨_,_,Tryz.underlying120,H6,PQ⟩
instance akJ:Ko Tryz.prog 120 54:=⟨Tryz.underlying120,_,_,H6,abN,PQ⟩
instance akK:yT Tryz.prog 135:=⟨_,_,Tryz.underlying135,Ed,LC⟩
instance akL:Ko Tryz.prog 135 73:=⟨Tryz.underlying135,_,_,Ed,VE,LC⟩
instance akM:D0 Tryz.prog 173 3:=⟨_,_,Tryz.underlying173,vY,CG⟩
instance akN:Hl Tryz.prog 173 176 3:=⟨Tryz.underlying173,_,_,vY,G6,CG,by decide⟩
theorem Y7:i176.bytes=40:=by kernel_rfl
instance akO:Bv Tryz.prog 173 176 3 40:=⟨Tryz.underlying173,_,_,vY,G6,rfl,CG,Y7,by decide⟩
instance so2:vH Tryz.prog 2 1:=⟨_,xE,Nv⟩
instance so3:vH Tryz.prog 3 1:=⟨_,Lx,Z5⟩
instance amZ:vH Tryz.prog 24 1:=⟨_,sT,H4⟩
instance am0:vH Tryz.prog 25 1:=⟨_,H5,VA⟩
instance am1:vH Tryz.prog 27 5:=⟨_,zO,PO⟩
instance am2:vH Tryz.prog 29 12:=⟨_,tF,Fh⟩
instance am3:vH Tryz.prog 32 2:=⟨_,yc,Fi⟩
instance am4:vH Tryz.prog 73 1:=⟨_,Ed,LC⟩
instance am5:vH Tryz.prog 79 1:=⟨_,Nw,VF⟩
instance am6:vH Tryz.prog 83 1:=⟨_,BU,VH⟩
instance akP:vH Tryz.prog 125 2:=⟨_,CF,LD⟩
instance akQ:vH Tryz.prog 166 1:=⟨_,KD,Sd⟩
instance akR:vH Tryz.prog 176 3:=⟨_,vY,CG⟩
instance zv2:yU Tryz.prog 2 [.int .i64 0]:=⟨_,_,xE,Vy,rfl⟩
instance am7:yU Tryz.prog 24 [.slice none 0 0]:=⟨_,_,sT,PN,rfl⟩
instance am8:yU Tryz.prog 27 [.int .i64 ((0:Int)),.slice none 0 0,.slice none 0 0,.slice none 0 0,.slice none 0 0]:=⟨_,_,zO,VD,rfl⟩
instance am9:yU Tryz.prog 29 [.int .i64 ((0:Int)),.slice none 0 0,.slice none 0 0,.slice none 0 0,.slice none 0 0,.int .i64 ((0:Int)),.slice none 0 0,.slice none 0 0,.slice none 0 0,.slice none 0 0,.slice none 0 0,.slice none 0 0]:=⟨_,_,tF,LA,rfl⟩
instance ana:yU Tryz.prog 32 [.int .i64 ((0:Int)),.slice none 0 0]:=⟨_,_,yc,LB,rfl⟩
instance anb:yU Tryz.prog 73 [.pointer none]:=⟨_,_,Ed,VE,rfl⟩
instance anc:yU Tryz.prog 83 [.slice none 0 0]:=⟨_,_,BU,VJ,rfl⟩
instance akS:yU Tryz.prog 125 [.int .i64 ((0:Int)),.int .i64 ((0:Int))]:=⟨_,_,CF,Sb,rfl⟩
instance akT:yU Tryz.prog 166 [.nilFunc]:=⟨_,_,KD,Y4,rfl⟩
instance akU:yU Tryz.prog 176 [.int .i64 ((0:Int)),.int .i64 ((0:Int)),.slice none 0 0]:=⟨_,_,vY,G6,rfl⟩
instance ahg:qu Tryz.prog 27 0 0:=⟨_,_,_,Tryz.underlying27,rfl,xE,R9,rfl⟩
instance ahh:qu Tryz.prog 27 1 1:=⟨_,_,_,Tryz.underlying27,rfl,sT,Dz,rfl⟩
instance ahi:qu Tryz.prog 27 2 2:=⟨_,_,_,Tryz.underlying27,rfl,sT,Dz,rfl⟩
instance ahj:qu Tryz.prog 27 3 3:=⟨_,_,_,Tryz.underlying27,rfl,sT,Dz,rfl⟩
instance ahk:qu Tryz.prog 27 4 4:=⟨_,_,_,Tryz.underlying27,rfl,H5,VB,rfl⟩
instance ahl:qu Tryz.prog 29 0 0:=⟨_,_,_,Tryz.underlying29,rfl,zO,VC,rfl⟩
instance ahm:qu Tryz.prog 29 1 5:=⟨_,_,_,Tryz.underlying29,rfl,zO,VC,rfl⟩
instance ahn:qu Tryz.prog 29 2 10:=⟨_,_,_,Tryz.underlying29,rfl,sT,Dz,rfl⟩
instance aho:qu Tryz.prog 29 3 11:=⟨_,_,_,Tryz.underlying29,rfl,sT,Dz,rfl⟩
instance ahp:qu Tryz.prog 32 0 0:=⟨_,_,_,Tryz.underlying32,rfl,xE,R9,rfl⟩
instance ahq:qu Tryz.prog 32 1 1:=⟨_,_,_,Tryz.underlying32,rfl,sT,Dz,rfl⟩
instance ahr:qu Tryz.prog 81 0 0:=⟨_,_,_,Tryz.underlying81,rfl,Vz,abK,rfl⟩
instance ahs:qu Tryz.prog 81 1 1:=⟨_,_,_,Tryz.underlying81,rfl,Lx,Z6,rfl⟩
instance aht:qu Tryz.prog 81 2 2:=⟨_,_,_,Tryz.underlying81,rfl,Nw,abO,rfl⟩
instance afg:qu Tryz.prog 116 0 0:=⟨_,_,_,Tryz.underlying116,rfl,tF,Lz,rfl⟩
instance afh:qu Tryz.prog 116 1 12:=⟨_,_,_,Tryz.underlying116,rfl,tF,Lz,rfl⟩
instance afi:qu Tryz.prog 116 2 24:=⟨_,_,_,Tryz.underlying116,rfl,H6,abM,rfl⟩
instance afj:qu Tryz.prog 116 3 25:=⟨_,_,_,Tryz.underlying116,rfl,BU,VI,rfl⟩
instance afk:qu Tryz.prog 116 4 26:=⟨_,_,_,Tryz.underlying116,rfl,BU,VI,rfl⟩
instance afl:qu Tryz.prog 176 0 0:=⟨_,_,_,Tryz.underlying176,rfl,xE,R9,rfl⟩
instance afm:qu Tryz.prog 176 1 1:=⟨_,_,_,Tryz.underlying176,rfl,xE,R9,rfl⟩
instance afn:qu Tryz.prog 176 2 2:=⟨_,_,_,Tryz.underlying176,rfl,sT,Dz,rfl⟩
instance afo:qu Tryz.prog 180 0 0:=⟨_,_,_,Tryz.underlying180,rfl,tF,Lz,rfl⟩
instance afp:qu Tryz.prog 180 1 12:=⟨_,_,_,Tryz.underlying180,rfl,tF,Lz,rfl⟩
instance afq:qu Tryz.prog 180 2 24:=⟨_,_,_,Tryz.underlying180,rfl,Y0,ne4,rfl⟩
instance afr:qu Tryz.prog 180 3 25:=⟨_,_,_,Tryz.underlying180,rfl,Lx,Z6,rfl⟩
instance afs:qu Tryz.prog 180 4 26:=⟨_,_,_,Tryz.underlying180,rfl,H5,VB,rfl⟩
instance akV:Nx Tryz.prog 118 ByteArray inferInstance (fun s:ByteArray=>Value.string s):=⟨_,_,_,_,Tryz.underlying118,Tryz.underlying9,Ky.str,BU,VJ⟩
instance ahu:Hm Tryz.prog 2 5 .u8:=⟨by rw [Tryz.underlying2]; rfl,Tryz.underlying5⟩
instance afu:Hm Tryz.prog 3 79 .u64:=⟨by rw [Tryz.underlying3]; rfl,Tryz.underlying79⟩
instance ahv:Hm Tryz.prog 5 2 .i64:=⟨by rw [Tryz.underlying5]; rfl,Tryz.underlying2⟩
instance afv:Hm Tryz.prog 5 79 .u64:=⟨by rw [Tryz.underlying5]; rfl,Tryz.underlying79⟩
instance afw:Hm Tryz.prog 79 2 .i64:=⟨by rw [Tryz.underlying79]; rfl,Tryz.underlying2⟩
instance afx:ZF Tryz.prog 22 9:=⟨_,Tryz.underlying22,Tryz.underlying5,Tryz.underlying9⟩
instance bl4:UC Tryz.prog 4:=⟨Tryz.underlying4⟩
instance ane:Bt Tryz.prog 27 [.int .i64 ((0:Int)),.slice none 0 0,.slice none 0 0,.slice none 0 0,.slice none 0 0] [(0,1),(1,1),(2,1),(3,1),(4,1)]:=⟨_,_,_,Tryz.underlying27,by kernel_rfl,zO,VD,rfl⟩
instance anf:Bt Tryz.prog 29 [.int .i64 ((0:Int)),.slice none 0 0,.slice none 0 0,.slice none 0 0,.slice none 0 0,.int .i64 ((0:Int)),.slice none 0 0,.slice none 0 0,.slice none 0 0,.slice none 0 0,.slice none 0 0,.slice none 0 0] [(0,5),(5,5),(10,1),(11,1)]:=⟨_,_,_,Tryz.underlying29,by kernel_rfl,tF,LA,rfl⟩
instance ang:Bt Tryz.prog 32 [.int .i64 ((0:Int)),.slice none 0 0] [(0,1),(1,1)]:=⟨_,_,_,Tryz.underlying32,by kernel_rfl,yc,LB,rfl⟩
instance anh:Bt Tryz.prog 81 [.slice none 0 0,.int .i64 ((0:Int)),.int .u64 ((0:Int))] [(0,1),(1,1),(2,1)]:=⟨_,_,_,Tryz.underlying81,by kernel_rfl,VG,abQ,rfl⟩
instance akW:Bt Tryz.prog 116 [.int .i64 ((0:Int)),.slice none 0 0,.slice none 0 0,.slice none 0 0,.slice none 0 0,.int .i64 ((0:Int)),.slice none 0 0,.slice none 0 0,.slice none 0 0,.slice none 0 0,.slice none 0 0,.slice none 0 0,.int .i64 ((0:Int)),.slice none 0 0,.slice none 0 0,.slice none 0 0,.slice none 0 0,.int .i64 ((0:Int)),.slice none 0 0,.slice none 0 0,.slice none 0 0,.slice none 0 0,.slice none 0 0,.slice none 0 0,.pointer none,.slice none 0 0,.slice none 0 0] [(0,12),(12,12),(24,1),(25,1),(26,1)]:=⟨_,_,_,Tryz.underlying116,by kernel_rfl,TD,Y2,rfl⟩
instance akX:Bt Tryz.prog 125 [.int .i64 ((0:Int)),.int .i64 ((0:Int))] [(0,1),(1,1)]:=⟨_,_,_,Tryz.underlying125,by kernel_rfl,CF,Sb,rfl⟩
instance akY:Bt Tryz.prog 176 [.int .i64 ((0:Int)),.int .i64 ((0:Int)),.slice none 0 0] [(0,1),(1,1),(2,1)]:=⟨_,_,_,Tryz.underlying176,by kernel_rfl,vY,G6,rfl⟩
instance akZ:Bt Tryz.prog 180 [.int .i64 ((0:Int)),.slice none 0 0,.slice none 0 0,.slice none 0 0,.slice none 0 0,.int .i64 ((0:Int)),.slice none 0 0,.slice none 0 0,.slice none 0 0,.slice none 0 0,.slice none 0 0,.slice none 0 0,.int .i64 ((0:Int)),.slice none 0 0,.slice none 0 0,.slice none 0 0,.slice none 0 0,.int .i64 ((0:Int)),.slice none 0 0,.slice none 0 0,.slice none 0 0,.slice none 0 0,.slice none 0 0,.slice none 0 0,.bool (false),.int .i64 ((0:Int)),.slice none 0 0] [(0,12),(12,12),(24,1),(25,1),(26,1)]:=⟨_,_,_,Tryz.underlying180,by kernel_rfl,TE,Y6,rfl⟩
instance ak0:UD Tryz.prog 125 .i64 .i64:=⟨_,_,Tryz.underlying125,by decide,by decide,Tryz.underlying2,Tryz.underlying2,rfl,rfl,by kernel_rfl,by kernel_rfl⟩
instance fn7:bn Tryz.prog 7:=⟨_,_,Tryz.func7,rfl,by kernel_rfl⟩
instance ani:bn Tryz.prog 13:=⟨_,_,Tryz.func13,rfl,by kernel_rfl⟩
instance anj:bn Tryz.prog 17:=⟨_,_,Tryz.func17,rfl,by kernel_rfl⟩
instance ank:bn Tryz.prog 18:=⟨_,_,Tryz.func18,rfl,by kernel_rfl⟩
instance anl:bn Tryz.prog 19:=⟨_,_,Tryz.func19,rfl,by kernel_rfl⟩
instance anm:bn Tryz.prog 20:=⟨_,_,Tryz.func20,rfl,by kernel_rfl⟩
instance ann:bn Tryz.prog 21:=⟨_,_,Tryz.func21,rfl,by kernel_rfl⟩
instance ano:bn Tryz.prog 22:=⟨_,_,Tryz.func22,rfl,by kernel_rfl⟩
instance anp:bn Tryz.prog 23:=⟨_,_,Tryz.func23,rfl,by kernel_rfl⟩
instance anq:bn Tryz.prog 24:=⟨_,_,Tryz.func24,rfl,by kernel_rfl⟩
instance anr:bn Tryz.prog 33:=⟨_,_,Tryz.func33,rfl,by kernel_rfl⟩
instance ans:bn Tryz.prog 34:=⟨_,_,Tryz.func34,rfl,by kernel_rfl⟩
instance ant:bn Tryz.prog 35:=⟨_,_,Tryz.func35,rfl,by kernel_rfl⟩
instance anu:bn Tryz.prog 38:=⟨_,_,Tryz.func38,rfl,by kernel_rfl⟩
instance anv:bn Tryz.prog 40:=⟨_,_,Tryz.func40,rfl,by kernel_rfl⟩
instance anw:bn Tryz.prog 42:=⟨_,_,Tryz.func42,rfl,by kernel_rfl⟩
instance anx:bn Tryz.prog 45:=⟨_,_,Tryz.func45,rfl,by kernel_rfl⟩
instance anz:bn Tryz.prog 46:=⟨_,_,Tryz.func46,rfl,by kernel_rfl⟩
instance anA:bn Tryz.prog 47:=⟨_,_,Tryz.func47,rfl,by kernel_rfl⟩
instance anB:bn Tryz.prog 48:=⟨_,_,Tryz.func48,rfl,by kernel_rfl⟩
instance anC:bn Tryz.prog 49:=⟨_,_,Tryz.func49,rfl,by kernel_rfl⟩
instance anD:bn Tryz.prog 50:=⟨_,_,Tryz.func50,rfl,by kernel_rfl⟩
instance anE:bn Tryz.prog 51:=⟨_,_,Tryz.func51,rfl,by kernel_rfl⟩
instance anF:bn Tryz.prog 52:=⟨_,_,Tryz.func52,rfl,by kernel_rfl⟩
instance anG:bn Tryz.prog 54:=⟨_,_,Tryz.func54,rfl,by kernel_rfl⟩
instance anH:bn Tryz.prog 55:=⟨_,_,Tryz.func55,rfl,by kernel_rfl⟩
instance anI:bn Tryz.prog 56:=⟨_,_,Tryz.func56,rfl,by kernel_rfl⟩
instance anJ:bn Tryz.prog 61:=⟨_,_,Tryz.func61,rfl,by kernel_rfl⟩
instance anK:bn Tryz.prog 62:=⟨_,_,Tryz.func62,rfl,by kernel_rfl⟩
instance anL:bn Tryz.prog 63:=⟨_,_,Tryz.func63,rfl,by kernel_rfl⟩
instance anM:bn Tryz.prog 64:=⟨_,_,Tryz.func64,rfl,by kernel_rfl⟩
instance anN:bn Tryz.prog 65:=⟨_,_,Tryz.func65,rfl,by kernel_rfl⟩
instance anO:bn Tryz.prog 67:=⟨_,_,Tryz.func67,rfl,by kernel_rfl⟩
instance anP:bn Tryz.prog 68:=⟨_,_,Tryz.func68,rfl,by kernel_rfl⟩
instance anQ:bn Tryz.prog 69:=⟨_,_,Tryz.func69,rfl,by kernel_rfl⟩
instance anR:bn Tryz.prog 70:=⟨_,_,Tryz.func70,rfl,by kernel_rfl⟩
instance anS:bn Tryz.prog 71:=⟨_,_,Tryz.func71,rfl,by kernel_rfl⟩
instance anT:bn Tryz.prog 72:=⟨_,_,Tryz.func72,rfl,by kernel_rfl⟩
instance anU:bn Tryz.prog 73:=⟨_,_,Tryz.func73,rfl,by kernel_rfl⟩
instance anV:bn Tryz.prog 74:=⟨_,_,Tryz.func74,rfl,by kernel_rfl⟩
instance anW:bn Tryz.prog 76:=⟨_,_,Tryz.func76,rfl,by kernel_rfl⟩
instance anX:bn Tryz.prog 77:=⟨_,_,Tryz.func77,rfl,by kernel_rfl⟩
instance anY:bn Tryz.prog 78:=⟨_,_,Tryz.func78,rfl,by kernel_rfl⟩
instance anZ:bn Tryz.prog 79:=⟨_,_,Tryz.func79,rfl,by kernel_rfl⟩
instance an0:bn Tryz.prog 80:=⟨_,_,Tryz.func80,rfl,by kernel_rfl⟩
instance an1:bn Tryz.prog 81:=⟨_,_,Tryz.func81,rfl,by kernel_rfl⟩
instance an2:bn Tryz.prog 82:=⟨_,_,Tryz.func82,rfl,by kernel_rfl⟩
instance an3:bn Tryz.prog 83:=⟨_,_,Tryz.func83,rfl,by kernel_rfl⟩
instance an4:bn Tryz.prog 84:=⟨_,_,Tryz.func84,rfl,by kernel_rfl⟩
instance an5:bn Tryz.prog 85:=⟨_,_,Tryz.func85,rfl,by kernel_rfl⟩
instance an6:bn Tryz.prog 86:=⟨_,_,Tryz.func86,rfl,by kernel_rfl⟩
instance an7:bn Tryz.prog 87:=⟨_,_,Tryz.func87,rfl,by kernel_rfl⟩
instance an8:bn Tryz.prog 88:=⟨_,_,Tryz.func88,rfl,by kernel_rfl⟩
instance an9:bn Tryz.prog 89:=⟨_,_,Tryz.func89,rfl,by kernel_rfl⟩
instance aoa:bn Tryz.prog 90:=⟨_,_,Tryz.func90,rfl,by kernel_rfl⟩
instance aob:bn Tryz.prog 91:=⟨_,_,Tryz.func91,rfl,by kernel_rfl⟩
instance aoc:bn Tryz.prog 92:=⟨_,_,Tryz.func92,rfl,by kernel_rfl⟩
instance aod:bn Tryz.prog 93:=⟨_,_,Tryz.func93,rfl,by kernel_rfl⟩
instance aoe:bn Tryz.prog 94:=⟨_,_,Tryz.func94,rfl,by kernel_rfl⟩
instance aof:bn Tryz.prog 95:=⟨_,_,Tryz.func95,rfl,by kernel_rfl⟩
instance aog:bn Tryz.prog 96:=⟨_,_,Tryz.func96,rfl,by kernel_rfl⟩
instance aoh:bn Tryz.prog 97:=⟨_,_,Tryz.func97,rfl,by kernel_rfl⟩
instance aoi:bn Tryz.prog 98:=⟨_,_,Tryz.func98,rfl,by kernel_rfl⟩
instance aoj:bn Tryz.prog 99:=⟨_,_,Tryz.func99,rfl,by kernel_rfl⟩
instance ak1:bn Tryz.prog 101:=⟨_,_,Tryz.func101,rfl,by kernel_rfl⟩
instance ak2:bn Tryz.prog 102:=⟨_,_,Tryz.func102,rfl,by kernel_rfl⟩
instance ak3:bn Tryz.prog 103:=⟨_,_,Tryz.func103,rfl,by kernel_rfl⟩
instance ak4:bn Tryz.prog 104:=⟨_,_,Tryz.func104,rfl,by kernel_rfl⟩
instance ak5:bn Tryz.prog 105:=⟨_,_,Tryz.func105,rfl,by kernel_rfl⟩
instance ak6:bn Tryz.prog 106:=⟨_,_,Tryz.func106,rfl,by kernel_rfl⟩
instance ak7:bn Tryz.prog 107:=⟨_,_,Tryz.func107,rfl,by kernel_rfl⟩
instance ak8:bn Tryz.prog 108:=⟨_,_,Tryz.func108,rfl,by kernel_rfl⟩
instance ak9:bn Tryz.prog 109:=⟨_,_,Tryz.func109,rfl,by kernel_rfl⟩
instance ala:bn Tryz.prog 110:=⟨_,_,Tryz.func110,rfl,by kernel_rfl⟩
instance ald:bn Tryz.prog 111:=⟨_,_,Tryz.func111,rfl,by kernel_rfl⟩
instance ale:bn Tryz.prog 112:=⟨_,_,Tryz.func112,rfl,by kernel_rfl⟩
instance alf:bn Tryz.prog 113:=⟨_,_,Tryz.func113,rfl,by kernel_rfl⟩
instance alg:bn Tryz.prog 114:=⟨_,_,Tryz.func114,rfl,by kernel_rfl⟩
instance alh:bn Tryz.prog 115:=⟨_,_,Tryz.func115,rfl,by kernel_rfl⟩
instance ali:bn Tryz.prog 116:=⟨_,_,Tryz.func116,rfl,by kernel_rfl⟩
instance alj:bn Tryz.prog 117:=⟨_,_,Tryz.func117,rfl,by kernel_rfl⟩
instance alk:bn Tryz.prog 118:=⟨_,_,Tryz.func118,rfl,by kernel_rfl⟩
instance alm:bn Tryz.prog 119:=⟨_,_,Tryz.func119,rfl,by kernel_rfl⟩
instance aln:bn Tryz.prog 120:=⟨_,_,Tryz.func120,rfl,by kernel_rfl⟩
instance alo:bn Tryz.prog 121:=⟨_,_,Tryz.func121,rfl,by kernel_rfl⟩
instance alp:bn Tryz.prog 122:=⟨_,_,Tryz.func122,rfl,by kernel_rfl⟩
instance alq:bn Tryz.prog 123:=⟨_,_,Tryz.func123,rfl,by kernel_rfl⟩
instance alr:bn Tryz.prog 124:=⟨_,_,Tryz.func124,rfl,by kernel_rfl⟩
instance als:bn Tryz.prog 125:=⟨_,_,Tryz.func125,rfl,by kernel_rfl⟩
instance alu:bn Tryz.prog 126:=⟨_,_,Tryz.func126,rfl,by kernel_rfl⟩
instance alv:bn Tryz.prog 127:=⟨_,_,Tryz.func127,rfl,by kernel_rfl⟩
instance alw:bn Tryz.prog 128:=⟨_,_,Tryz.func128,rfl,by kernel_rfl⟩
instance alx:bn Tryz.prog 129:=⟨_,_,Tryz.func129,rfl,by kernel_rfl⟩
instance aly:bn Tryz.prog 131:=⟨_,_,Tryz.func131,rfl,by kernel_rfl⟩
instance alz:bn Tryz.prog 132:=⟨_,_,Tryz.func132,rfl,by kernel_rfl⟩
instance alA:bn Tryz.prog 133:=⟨_,_,Tryz.func133,rfl,by kernel_rfl⟩
instance alB:bn Tryz.prog 134:=⟨_,_,Tryz.func134,rfl,by kernel_rfl⟩
instance alC:bn Tryz.prog 135:=⟨_,_,Tryz.func135,rfl,by kernel_rfl⟩
instance alD:bn Tryz.prog 136:=⟨_,_,Tryz.func136,rfl,by kernel_rfl⟩
instance alE:bn Tryz.prog 137:=⟨_,_,Tryz.func137,rfl,by kernel_rfl⟩
instance alF:bn Tryz.prog 138:=⟨_,_,Tryz.func138,rfl,by kernel_rfl⟩
instance alG:bn Tryz.prog 139:=⟨_,_,Tryz.func139,rfl,by kernel_rfl⟩
instance alH:bn Tryz.prog 140:=⟨_,_,Tryz.func140,rfl,by kernel_rfl⟩
instance alJ:bn Tryz.prog 141:=⟨_,_,Tryz.func141,rfl,by kernel_rfl⟩
instance alK:bn Tryz.prog 142:=⟨_,_,Tryz.func142,rfl,by kernel_rfl⟩
instance alL:bn Tryz.prog 143:=⟨_,_,Tryz.func143,rfl,by kernel_rfl⟩
instance alM:bn Tryz.prog 144:=⟨_,_,Tryz.func144,rfl,by kernel_rfl⟩
instance alN:bn Tryz.prog 145:=⟨_,_,Tryz.func145,rfl,by kernel_rfl⟩
instance alO:bn Tryz.prog 146:=⟨_,_,Tryz.func146,rfl,by kernel_rfl⟩
instance alP:bn Tryz.prog 147:=⟨_,_,Tryz.func147,rfl,by kernel_rfl⟩
instance alQ:bn Tryz.prog 148:=⟨_,_,Tryz.func148,rfl,by kernel_rfl⟩
instance alR:bn Tryz.prog 149:=⟨_,_,Tryz.func149,rfl,by kernel_rfl⟩
instance alS:bn Tryz.prog 150:=⟨_,_,Tryz.func150,rfl,by kernel_rfl⟩
instance alT:bn Tryz.prog 151:=⟨_,_,Tryz.func151,rfl,by kernel_rfl⟩
instance alU:bn Tryz.prog 153:=⟨_,_,Tryz.func153,rfl,by kernel_rfl⟩
instance alV:bn Tryz.prog 154:=⟨_,_,Tryz.func154,rfl,by kernel_rfl⟩
instance alW:bn Tryz.prog 155:=⟨_,_,Tryz.func155,rfl,by kernel_rfl⟩
instance alX:bn Tryz.prog 156:=⟨_,_,Tryz.func156,rfl,by kernel_rfl⟩
instance alY:bn Tryz.prog 157:=⟨_,_,Tryz.func157,rfl,by kernel_rfl⟩
instance alZ:bn Tryz.prog 158:=⟨_,_,Tryz.func158,rfl,by kernel_rfl⟩
instance al0:bn Tryz.prog 159:=⟨_,_,Tryz.func159,rfl,by kernel_rfl⟩
instance al1:bn Tryz.prog 160:=⟨_,_,Tryz.func160,rfl,by kernel_rfl⟩
instance al2:bn Tryz.prog 161:=⟨_,_,Tryz.func161,rfl,by kernel_rfl⟩
instance al3:bn Tryz.prog 162:=⟨_,_,Tryz.func162,rfl,by kernel_rfl⟩
instance al4:bn Tryz.prog 163:=⟨_,_,Tryz.func163,rfl,by kernel_rfl⟩
instance al5:bn Tryz.prog 164:=⟨_,_,Tryz.func164,rfl,by kernel_rfl⟩
instance al6:bn Tryz.prog 165:=⟨_,_,Tryz.func165,rfl,by kernel_rfl⟩
instance al7:bn Tryz.prog 166:=⟨_,_,Tryz.func166,rfl,by kernel_rfl⟩
instance al8:bn Tryz.prog 167:=⟨_,_,Tryz.func167,rfl,by kernel_rfl⟩
instance al9:bn Tryz.prog 168:=⟨_,_,Tryz.func168,rfl,by kernel_rfl⟩
end Go.Proofs.YtgjbmjjihmfppaaGreat
