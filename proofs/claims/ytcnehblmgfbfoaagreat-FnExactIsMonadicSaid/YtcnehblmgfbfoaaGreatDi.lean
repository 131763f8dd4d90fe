/- Closed facts on types, as instances. No condition. -/
import Derived.Test.YtcnehblmgfbfoaaGreatDp
import Derived.Test.YtcnehblmgfbfoaaGreatLn
import Derived.Test.YtcnehblmgfbfoaaGreatChecked
import Derived.KernelRfl
namespace Go.Proofs.YtcnehblmgfbfoaaGreat
open Go Go.Li Go.Dk
set_option linter.unusedVariables false
set_option maxRecDepth 100000
noncomputable def i2:TypeInfo:=(Tryz.prog.info? 2).getD default
theorem tK:Tryz.prog.info? 2=some i2:=by kernel_rfl
theorem IX:i2.size=1:=by kernel_rfl
theorem Ns:i2.size≠0:=by rw [IX]; decide
theorem Qo:i2.zero=some (.int .i64 0):=by kernel_rfl
theorem by2:i2.bytes=8:=by kernel_rfl
noncomputable def i5:TypeInfo:=(Tryz.prog.info? 5).getD default
theorem Nu:Tryz.prog.info? 5=some i5:=by kernel_rfl
theorem Qp:i5.size=1:=by kernel_rfl
theorem ne5:i5.size≠0:=by rw [Qp]; decide
theorem VI:i5.zero=some (.int .u8 0):=by kernel_rfl
theorem by5:i5.bytes=1:=by kernel_rfl
noncomputable def i22:TypeInfo:=(Tryz.prog.info? 22).getD default
theorem ig:Tryz.prog.info? 22=some i22:=by kernel_rfl
theorem Ds:i22.size=1:=by kernel_rfl
theorem qk:i22.size≠0:=by rw [Ds]; decide
theorem Qq:i22.zero=some (.slice none 0 0):=by kernel_rfl
theorem WM:i22.bytes=24:=by kernel_rfl
noncomputable def i23:TypeInfo:=(Tryz.prog.info? 23).getD default
theorem zX:Tryz.prog.info? 23=some i23:=by kernel_rfl
theorem Qr:i23.size=1:=by kernel_rfl
theorem K3:i23.size≠0:=by rw [Qr]; decide
theorem ahO:i23.zero=some (.slice none 0 0):=by kernel_rfl
theorem ahP:i23.bytes=24:=by kernel_rfl
noncomputable def i25:TypeInfo:=(Tryz.prog.info? 25).getD default
theorem Du:Tryz.prog.info? 25=some i25:=by kernel_rfl
theorem Qs:i25.size=5:=by kernel_rfl
theorem Qt:i25.size≠0:=by rw [Qs]; decide
noncomputable def i27:TypeInfo:=(Tryz.prog.info? 27).getD default
theorem Dv:Tryz.prog.info? 27=some i27:=by kernel_rfl
theorem Qu:i27.size=12:=by kernel_rfl
theorem Qv:i27.size≠0:=by rw [Qu]; decide
noncomputable def i31:TypeInfo:=(Tryz.prog.info? 31).getD default
theorem uo:Tryz.prog.info? 31=some i31:=by kernel_rfl
theorem K4:i31.size=5:=by kernel_rfl
theorem K5:i31.size≠0:=by rw [K4]; decide
theorem Qw:i31.zero=some (.agg #[.int .i64 ((0:Int)),.slice none 0 0,.slice none 0 0,.slice none 0 0,.slice none 0 0]):=by kernel_rfl
noncomputable def i33:TypeInfo:=(Tryz.prog.info? 33).getD default
theorem rV:Tryz.prog.info? 33=some i33:=by kernel_rfl
theorem K6:i33.size=12:=by kernel_rfl
theorem Dw:i33.size≠0:=by rw [K6]; decide
theorem Qx:i33.zero=some (.agg #[.int .i64 ((0:Int)),.slice none 0 0,.slice none 0 0,.slice none 0 0,.slice none 0 0,.int .i64 ((0:Int)),.slice none 0 0,.slice none 0 0,.slice none 0 0,.slice none 0 0,.slice none 0 0,.slice none 0 0]):=by kernel_rfl
noncomputable def i37:TypeInfo:=(Tryz.prog.info? 37).getD default
theorem zY:Tryz.prog.info? 37=some i37:=by kernel_rfl
theorem K7:i37.size=14:=by kernel_rfl
theorem ahQ:i37.size≠0:=by rw [K7]; decide
theorem Qy:i37.zero=some (.agg #[.int .i64 ((0:Int)),.slice none 0 0,.slice none 0 0,.slice none 0 0,.slice none 0 0,.int .i64 ((0:Int)),.slice none 0 0,.slice none 0 0,.slice none 0 0,.slice none 0 0,.slice none 0 0,.slice none 0 0,.slice none 0 0,.slice none 0 0]):=by kernel_rfl
noncomputable def i45:TypeInfo:=(Tryz.prog.info? 45).getD default
theorem Qz:Tryz.prog.info? 45=some i45:=by kernel_rfl
theorem QB:i45.size=26:=by kernel_rfl
theorem ahR:i45.size≠0:=by rw [QB]; decide
noncomputable def i50:TypeInfo:=(Tryz.prog.info? 50).getD default
theorem Dx:Tryz.prog.info? 50=some i50:=by kernel_rfl
theorem K8:i50.size=26:=by kernel_rfl
theorem ahS:i50.size≠0:=by rw [K8]; decide
theorem WN:i50.zero=some (.agg #[.int .i64 ((0:Int)),.slice none 0 0,.slice none 0 0,.slice none 0 0,.slice none 0 0,.int .i64 ((0:Int)),.slice none 0 0,.slice none 0 0,.slice none 0 0,.slice none 0 0,.slice none 0 0,.slice none 0 0,.int .i64 ((0:Int)),.slice none 0 0,.slice none 0 0,.slice none 0 0,.slice none 0 0,.int .i64 ((0:Int)),.slice none 0 0,.slice none 0 0,.slice none 0 0,.slice none 0 0,.slice none 0 0,.slice none 0 0,.slice none 0 0,.slice none 0 0]):=by kernel_rfl
noncomputable def i99:TypeInfo:=(Tryz.prog.info? 99).getD default
theorem ab6:Tryz.prog.info? 99=some i99:=by kernel_rfl
theorem WO:i99.size=1:=by kernel_rfl
theorem ahT:i99.size≠0:=by rw [WO]; decide
theorem ahU:i99.zero=some (.pointer none):=by kernel_rfl
theorem ahV:i99.bytes=8:=by kernel_rfl
noncomputable def i100:TypeInfo:=(Tryz.prog.info? 100).getD default
theorem Gn:Tryz.prog.info? 100=some i100:=by kernel_rfl
theorem Nv:i100.size=1:=by kernel_rfl
theorem ae5:i100.size≠0:=by rw [Nv]; decide
theorem TM:i100.zero=some (.pointer none):=by kernel_rfl
theorem ae6:i100.bytes=8:=by kernel_rfl
noncomputable def i103:TypeInfo:=(Tryz.prog.info? 103).getD default
theorem yG:Tryz.prog.info? 103=some i103:=by kernel_rfl
theorem CA:i103.size=1:=by kernel_rfl
theorem ae7:i103.size≠0:=by rw [CA]; decide
theorem Nw:i103.zero=some (.pointer none):=by kernel_rfl
theorem ae8:i103.bytes=8:=by kernel_rfl
noncomputable def i111:TypeInfo:=(Tryz.prog.info? 111).getD default
theorem aaa:Tryz.prog.info? 111=some i111:=by kernel_rfl
theorem TN:i111.size=1:=by kernel_rfl
theorem ae9:i111.size≠0:=by rw [TN]; decide
theorem afa:i111.zero=some (.pointer none):=by kernel_rfl
theorem afb:i111.bytes=8:=by kernel_rfl
noncomputable def i120:TypeInfo:=(Tryz.prog.info? 120).getD default
theorem Gp:Tryz.prog.info? 120=some i120:=by kernel_rfl
theorem Ho:i120.size=1:=by kernel_rfl
theorem afc:i120.size≠0:=by rw [Ho]; decide
theorem TO:i120.zero=some (.pointer none):=by kernel_rfl
theorem afd:i120.bytes=8:=by kernel_rfl
noncomputable def i144:TypeInfo:=(Tryz.prog.info? 144).getD default
theorem Gq:Tryz.prog.info? 144=some i144:=by kernel_rfl
theorem Nx:i144.size=1:=by kernel_rfl
theorem TP:i144.size≠0:=by rw [Nx]; decide
theorem afe:i144.zero=some (.map none):=by kernel_rfl
theorem aff:i144.bytes=8:=by kernel_rfl
noncomputable def i181:TypeInfo:=(Tryz.prog.info? 181).getD default
theorem AZ:Tryz.prog.info? 181=some i181:=by kernel_rfl
theorem CB:i181.size=1:=by kernel_rfl
theorem afg:i181.size≠0:=by rw [CB]; decide
theorem Ny:i181.zero=some (.pointer none):=by kernel_rfl
theorem TQ:i181.bytes=8:=by kernel_rfl
noncomputable def i183:TypeInfo:=(Tryz.prog.info? 183).getD default
theorem OF:Tryz.prog.info? 183=some i183:=by kernel_rfl
theorem TR:i183.size=1:=by kernel_rfl
theorem TS:i183.size≠0:=by rw [TR]; decide
theorem afh:i183.zero=some (.slice none 0 0):=by kernel_rfl
theorem afi:i183.bytes=24:=by kernel_rfl
noncomputable def i185:TypeInfo:=(Tryz.prog.info? 185).getD default
theorem OG:Tryz.prog.info? 185=some i185:=by kernel_rfl
theorem TU:i185.size=9:=by kernel_rfl
theorem afj:i185.size≠0:=by rw [TU]; decide
theorem TV:i185.zero=some (.agg #[.pointer none,.int .i64 ((0:Int)),.slice none 0 0,.slice none 0 0,.slice none 0 0,.slice none 0 0,.slice none 0 0,.slice none 0 0,.map none]):=by kernel_rfl
noncomputable def i187:TypeInfo:=(Tryz.prog.info? 187).getD default
theorem Gr:Tryz.prog.info? 187=some i187:=by kernel_rfl
theorem Nz:i187.size=2:=by kernel_rfl
theorem afk:i187.size≠0:=by rw [Nz]; decide
theorem TW:i187.zero=some (.agg #[.int .i64 ((0:Int)),.int .i64 ((0:Int))]):=by kernel_rfl
noncomputable def i244:TypeInfo:=(Tryz.prog.info? 244).getD default
theorem A3:Tryz.prog.info? 244=some i244:=by kernel_rfl
theorem NB:i244.size=25:=by kernel_rfl
theorem afl:i244.size≠0:=by rw [NB]; decide
theorem NC:i244.zero=some (.agg #[.int .i64 ((0:Int)),.slice none 0 0,.slice none 0 0,.slice none 0 0,.slice none 0 0,.int .i64 ((0:Int)),.slice none 0 0,.slice none 0 0,.slice none 0 0,.slice none 0 0,.slice none 0 0,.slice none 0 0,.int .i64 ((0:Int)),.slice none 0 0,.slice none 0 0,.slice none 0 0,.slice none 0 0,.int .i64 ((0:Int)),.slice none 0 0,.slice none 0 0,.slice none 0 0,.slice none 0 0,.slice none 0 0,.slice none 0 0,.slice none 0 0]):=by kernel_rfl
noncomputable def i246:TypeInfo:=(Tryz.prog.info? 246).getD default
theorem Gs:Tryz.prog.info? 246=some i246:=by kernel_rfl
theorem Hp:i246.size=1:=by kernel_rfl
theorem afm:i246.size≠0:=by rw [Hp]; decide
theorem TX:i246.zero=some (.pointer none):=by kernel_rfl
theorem afn:i246.bytes=8:=by kernel_rfl
noncomputable def i257:TypeInfo:=(Tryz.prog.info? 257).getD default
theorem yH:Tryz.prog.info? 257=some i257:=by kernel_rfl
theorem Hq:i257.size=2:=by kernel_rfl
theorem afo:i257.size≠0:=by rw [Hq]; decide
theorem ND:i257.zero=some (.agg #[.int .i64 ((0:Int)),.int .i64 ((0:Int))]):=by kernel_rfl
instance lk2:LK Tryz.prog 2 none:=⟨_,Tryz.underlying2,rfl⟩
instance ahW:LK Tryz.prog 22 none:=⟨_,Tryz.underlying22,rfl⟩
instance ahX:LK Tryz.prog 23 none:=⟨_,Tryz.underlying23,rfl⟩
instance ahY:LK Tryz.prog 25 (some 5):=⟨_,_,Tryz.underlying25,rfl,Du,Qs⟩
instance ahZ:LK Tryz.prog 27 (some 12):=⟨_,_,Tryz.underlying27,rfl,Dv,Qu⟩
instance ah0:LK Tryz.prog 31 (some 5):=⟨_,_,Tryz.underlying31,rfl,uo,K4⟩
instance ah1:LK Tryz.prog 33 (some 12):=⟨_,_,Tryz.underlying33,rfl,rV,K6⟩
instance ah2:LK Tryz.prog 37 (some 14):=⟨_,_,Tryz.underlying37,rfl,zY,K7⟩
instance ah3:LK Tryz.prog 45 (some 26):=⟨_,_,Tryz.underlying45,rfl,Qz,QB⟩
instance ah4:LK Tryz.prog 50 (some 26):=⟨_,_,Tryz.underlying50,rfl,Dx,K8⟩
instance afp:LK Tryz.prog 100 none:=⟨_,Tryz.underlying100,rfl⟩
instance afq:LK Tryz.prog 103 none:=⟨_,Tryz.underlying103,rfl⟩
instance afr:LK Tryz.prog 111 none:=⟨_,Tryz.underlying111,rfl⟩
instance afs:LK Tryz.prog 120 none:=⟨_,Tryz.underlying120,rfl⟩
instance afu:LK Tryz.prog 144 none:=⟨_,Tryz.underlying144,rfl⟩
instance afv:LK Tryz.prog 181 none:=⟨_,Tryz.underlying181,rfl⟩
instance afw:LK Tryz.prog 183 none:=⟨_,Tryz.underlying183,rfl⟩
instance afx:LK Tryz.prog 187 (some 2):=⟨_,_,Tryz.underlying187,rfl,Gr,Nz⟩
instance afy:LK Tryz.prog 246 none:=⟨_,Tryz.underlying246,rfl⟩
instance afz:LK Tryz.prog 257 (some 2):=⟨_,_,Tryz.underlying257,rfl,yH,Hq⟩
instance ah5:vK Tryz.prog 22:=⟨_,_,Tryz.underlying22,tK,IX⟩
instance ah6:F9 Tryz.prog 22 2:=⟨Tryz.underlying22,_,_,tK,Qo,IX⟩
instance ah7:qG Tryz.prog 22 Int 2 (aK .i64) 0 8:=⟨Tryz.underlying22,rfl,_,_,tK,Qo,IX,rfl,by2,fun _=>⟨rfl,rfl⟩⟩
instance ah8:vK Tryz.prog 23:=⟨_,_,Tryz.underlying23,ig,Ds⟩
instance ah9:F9 Tryz.prog 23 22:=⟨Tryz.underlying23,_,_,ig,Qq,Ds⟩
instance aia:qG Tryz.prog 23 (List Int) 22 (aL 2 (aK .i64)) [] 24:=⟨Tryz.underlying23,rfl,_,_,ig,Qq,Ds,rfl,WM,fun _=>AQ⟩
instance aib:F9 Tryz.prog 54 5:=⟨Tryz.underlying54,_,_,Nu,VI,Qp⟩
instance aic:qG Tryz.prog 54 Int 5 (aK .u8) 0 1:=⟨Tryz.underlying54,rfl,_,_,Nu,VI,Qp,rfl,by5,fun _=>⟨rfl,rfl⟩⟩
instance afA:vK Tryz.prog 183:=⟨_,_,Tryz.underlying183,AZ,CB⟩
instance afB:BI Tryz.prog 183 181:=⟨Tryz.underlying183,_,_,AZ,Ny,CB⟩
instance afC:qG Tryz.prog 183 Value 181 nr (.pointer none) 8:=⟨Tryz.underlying183,rfl,_,_,AZ,Ny,CB,rfl,TQ,fun _=>⟨rfl,rfl,rfl⟩⟩
instance afD:vK Tryz.prog 199:=⟨_,_,Tryz.underlying199,Gp,Ho⟩
instance afE:BI Tryz.prog 199 120:=⟨Tryz.underlying199,_,_,Gp,TO,Ho⟩
instance afF:vK Tryz.prog 265:=⟨_,_,Tryz.underlying265,yG,CA⟩
instance afG:BI Tryz.prog 265 103:=⟨Tryz.underlying265,_,_,yG,Nw,CA⟩
instance afH:vK Tryz.prog 281:=⟨_,_,Tryz.underlying281,Gs,Hp⟩
instance afI:BI Tryz.prog 281 246:=⟨Tryz.underlying281,_,_,Gs,TX,Hp⟩
instance so2:sS Tryz.prog 2 1:=⟨_,tK,IX⟩
instance aid:sS Tryz.prog 22 1:=⟨_,ig,Ds⟩
instance aie:sS Tryz.prog 23 1:=⟨_,zX,Qr⟩
instance aif:sS Tryz.prog 31 5:=⟨_,uo,K4⟩
instance aih:sS Tryz.prog 33 12:=⟨_,rV,K6⟩
instance aii:sS Tryz.prog 37 14:=⟨_,zY,K7⟩
instance aij:sS Tryz.prog 50 26:=⟨_,Dx,K8⟩
instance afJ:sS Tryz.prog 100 1:=⟨_,Gn,Nv⟩
instance afK:sS Tryz.prog 103 1:=⟨_,yG,CA⟩
instance afL:sS Tryz.prog 144 1:=⟨_,Gq,Nx⟩
instance afM:sS Tryz.prog 244 25:=⟨_,A3,NB⟩
instance afN:sS Tryz.prog 257 2:=⟨_,yH,Hq⟩
instance aik:xq Tryz.prog 31 [.int .i64 ((0:Int)),.slice none 0 0,.slice none 0 0,.slice none 0 0,.slice none 0 0]:=⟨_,_,uo,Qw,rfl⟩
instance ail:xq Tryz.prog 33 [.int .i64 ((0:Int)),.slice none 0 0,.slice none 0 0,.slice none 0 0,.slice none 0 0,.int .i64 ((0:Int)),.slice none 0 0,.slice none 0 0,.slice none 0 0,.slice none 0 0,.slice none 0 0,.slice none 0 0]:=⟨_,_,rV,Qx,rfl⟩
instance aim:xq Tryz.prog 37 [.int .i64 ((0:Int)),.slice none 0 0,.slice none 0 0,.slice none 0 0,.slice none 0 0,.int .i64 ((0:Int)),.slice none 0 0,.slice none 0 0,.slice none 0 0,.slice none 0 0,.slice none 0 0,.slice none 0 0,.slice none 0 0,.slice none 0 0]:=⟨_,_,zY,Qy,rfl⟩
instance ain:xq Tryz.prog 50 [.int .i64 ((0:Int)),.slice none 0 0,.slice none 0 0,.slice none 0 0,.slice none 0 0,.int .i64 ((0:Int)),.slice none 0 0,.slice none 0 0,.slice none 0 0,.slice none 0 0,.slice none 0 0,.slice none 0 0,.int .i64 ((0:Int)),.slice none 0 0,.slice none 0 0,.slice none 0 0,.slice none 0 0,.int .i64 ((0:Int)),.slice none 0 0,.slice none 0 0,.slice none 0 0,.slice none 0 0,.slice none 0 0,.slice none 0 0,.slice none 0 0,.slice none 0 0]:=⟨_,_,Dx,WN,rfl⟩
instance afO:xq Tryz.prog 100 [.pointer none]:=⟨_,_,Gn,TM,rfl⟩
instance afP:xq Tryz.prog 103 [.pointer none]:=⟨_,_,yG,Nw,rfl⟩
instance afQ:xq Tryz.prog 244 [.int .i64 ((0:Int)),.slice none 0 0,.slice none 0 0,.slice none 0 0,.slice none 0 0,.int .i64 ((0:Int)),.slice none 0 0,.slice none 0 0,.slice none 0 0,.slice none 0 0,.slice none 0 0,.slice none 0 0,.int .i64 ((0:Int)),.slice none 0 0,.slice none 0 0,.slice none 0 0,.slice none 0 0,.int .i64 ((0:Int)),.slice none 0 0,.slice none 0 0,.slice none 0 0,.slice none 0 0,.slice none 0 0,.slice none 0 0,.slice none 0 0]:=⟨_,_,A3,NC,rfl⟩
instance afR:xq Tryz.prog 257 [.int .i64 ((0:Int)),.int .i64 ((0:Int))]:=⟨_,_,yH,ND,rfl⟩
instance ab7:jc Tryz.prog 25 0 0:=⟨_,_,_,Tryz.underlying25,rfl,tK,Ns,rfl⟩
instance ab8:jc Tryz.prog 25 1 1:=⟨_,_,_,Tryz.underlying25,rfl,ig,qk,rfl⟩
instance ab9:jc Tryz.prog 25 2 2:=⟨_,_,_,Tryz.underlying25,rfl,ig,qk,rfl⟩
instance aca:jc Tryz.prog 25 3 3:=⟨_,_,_,Tryz.underlying25,rfl,ig,qk,rfl⟩
instance acb:jc Tryz.prog 25 4 4:=⟨_,_,_,Tryz.underlying25,rfl,zX,K3,rfl⟩
instance acd:jc Tryz.prog 27 0 0:=⟨_,_,_,Tryz.underlying27,rfl,Du,Qt,rfl⟩
instance ace:jc Tryz.prog 27 1 5:=⟨_,_,_,Tryz.underlying27,rfl,Du,Qt,rfl⟩
instance acf:jc Tryz.prog 27 2 10:=⟨_,_,_,Tryz.underlying27,rfl,ig,qk,rfl⟩
instance acg:jc Tryz.prog 27 3 11:=⟨_,_,_,Tryz.underlying27,rfl,ig,qk,rfl⟩
instance ach:jc Tryz.prog 31 0 0:=⟨_,_,_,Tryz.underlying31,rfl,tK,Ns,rfl⟩
instance aci:jc Tryz.prog 31 1 1:=⟨_,_,_,Tryz.underlying31,rfl,ig,qk,rfl⟩
instance acj:jc Tryz.prog 31 2 2:=⟨_,_,_,Tryz.underlying31,rfl,ig,qk,rfl⟩
instance ack:jc Tryz.prog 31 3 3:=⟨_,_,_,Tryz.underlying31,rfl,ig,qk,rfl⟩
instance acm:jc Tryz.prog 31 4 4:=⟨_,_,_,Tryz.underlying31,rfl,zX,K3,rfl⟩
instance acn:jc Tryz.prog 33 0 0:=⟨_,_,_,Tryz.underlying33,rfl,uo,K5,rfl⟩
instance aco:jc Tryz.prog 33 1 5:=⟨_,_,_,Tryz.underlying33,rfl,uo,K5,rfl⟩
instance acp:jc Tryz.prog 33 2 10:=⟨_,_,_,Tryz.underlying33,rfl,ig,qk,rfl⟩
instance acq:jc Tryz.prog 33 3 11:=⟨_,_,_,Tryz.underlying33,rfl,ig,qk,rfl⟩
instance acr:jc Tryz.prog 37 0 0:=⟨_,_,_,Tryz.underlying37,rfl,rV,Dw,rfl⟩
instance acs:jc Tryz.prog 37 1 12:=⟨_,_,_,Tryz.underlying37,rfl,ig,qk,rfl⟩
instance acu:jc Tryz.prog 37 2 13:=⟨_,_,_,Tryz.underlying37,rfl,ig,qk,rfl⟩
instance acv:jc Tryz.prog 45 0 0:=⟨_,_,_,Tryz.underlying45,rfl,Dv,Qv,rfl⟩
instance acw:jc Tryz.prog 45 1 12:=⟨_,_,_,Tryz.underlying45,rfl,Dv,Qv,rfl⟩
instance acx:jc Tryz.prog 45 2 24:=⟨_,_,_,Tryz.underlying45,rfl,ig,qk,rfl⟩
instance acy:jc Tryz.prog 45 3 25:=⟨_,_,_,Tryz.underlying45,rfl,ig,qk,rfl⟩
instance acz:jc Tryz.prog 50 0 0:=⟨_,_,_,Tryz.underlying50,rfl,rV,Dw,rfl⟩
instance acA:jc Tryz.prog 50 1 12:=⟨_,_,_,Tryz.underlying50,rfl,rV,Dw,rfl⟩
instance acB:jc Tryz.prog 50 2 24:=⟨_,_,_,Tryz.underlying50,rfl,ig,qk,rfl⟩
instance acC:jc Tryz.prog 50 3 25:=⟨_,_,_,Tryz.underlying50,rfl,ig,qk,rfl⟩
instance aab:jc Tryz.prog 185 1 1:=⟨_,_,_,Tryz.underlying185,rfl,uo,K5,rfl⟩
instance aac:jc Tryz.prog 185 2 6:=⟨_,_,_,Tryz.underlying185,rfl,OF,TS,rfl⟩
instance aad:jc Tryz.prog 185 3 7:=⟨_,_,_,Tryz.underlying185,rfl,zX,K3,rfl⟩
instance aae:jc Tryz.prog 185 4 8:=⟨_,_,_,Tryz.underlying185,rfl,Gq,TP,rfl⟩
instance aaf:jc Tryz.prog 187 0 0:=⟨_,_,_,Tryz.underlying187,rfl,tK,Ns,rfl⟩
instance aag:jc Tryz.prog 187 1 1:=⟨_,_,_,Tryz.underlying187,rfl,tK,Ns,rfl⟩
instance aah:jc Tryz.prog 244 0 0:=⟨_,_,_,Tryz.underlying244,rfl,rV,Dw,rfl⟩
instance aai:jc Tryz.prog 244 1 12:=⟨_,_,_,Tryz.underlying244,rfl,rV,Dw,rfl⟩
instance aaj:jc Tryz.prog 244 2 24:=⟨_,_,_,Tryz.underlying244,rfl,ig,qk,rfl⟩
instance afS:Iz Tryz.prog 144 ByteArray Int inferInstance Value.string (Value.int .i64):=⟨_,_,_,Tryz.underlying144,Tryz.underlying9,Ky.str⟩
instance acD:Vm Tryz.prog 2 5 .u8:=⟨by rw [Tryz.underlying2]; rfl,Tryz.underlying5⟩
instance afT:PC Tryz.prog 144 Int (Value.int .i64) 0:=⟨_,_,_,Tryz.underlying144,tK,Qo⟩
instance aak:Vn Tryz.prog 54 9:=⟨_,Tryz.underlying54,Tryz.underlying5,Tryz.underlying9⟩
instance bl4:Pz Tryz.prog 4:=⟨Tryz.underlying4⟩
instance aio:xT Tryz.prog 31 [.int .i64 ((0:Int)),.slice none 0 0,.slice none 0 0,.slice none 0 0,.slice none 0 0] [(0,1),(1,1),(2,1),(3,1),(4,1)]:=⟨_,_,_,Tryz.underlying31,by kernel_rfl,uo,Qw,rfl⟩
instance aip:xT Tryz.prog 33 [.int .i64 ((0:Int)),.slice none 0 0,.slice none 0 0,.slice none 0 0,.slice none 0 0,.int .i64 ((0:Int)),.slice none 0 0,.slice none 0 0,.slice none 0 0,.slice none 0 0,.slice none 0 0,.slice none 0 0] [(0,5),(5,5),(10,1),(11,1)]:=⟨_,_,_,Tryz.underlying33,by kernel_rfl,rV,Qx,rfl⟩
instance aiq:xT Tryz.prog 37 [.int .i64 ((0:Int)),.slice none 0 0,.slice none 0 0,.slice none 0 0,.slice none 0 0,.int .i64 ((0:Int)),.slice none 0 0,.slice none 0 0,.slice none 0 0,.slice none 0 0,.slice none 0 0,.slice none 0 0,.slice none 0 0,.slice none 0 0] [(0,12),(12,1),(13,1)]:=⟨_,_,_,Tryz.underlying37,by kernel_rfl,zY,Qy,rfl⟩
instance afU:xT Tryz.prog 185 [.pointer none,.int .i64 ((0:Int)),.slice none 0 0,.slice none 0 0,.slice none 0 0,.slice none 0 0,.slice none 0 0,.slice none 0 0,.map none] [(0,1),(1,5),(6,1),(7,1),(8,1)]:=⟨_,_,_,Tryz.underlying185,by kernel_rfl,OG,TV,rfl⟩
instance afV:xT Tryz.prog 187 [.int .i64 ((0:Int)),.int .i64 ((0:Int))] [(0,1),(1,1)]:=⟨_,_,_,Tryz.underlying187,by kernel_rfl,Gr,TW,rfl⟩
instance afW:xT Tryz.prog 244 [.int .i64 ((0:Int)),.slice none 0 0,.slice none 0 0,.slice none 0 0,.slice none 0 0,.int .i64 ((0:Int)),.slice none 0 0,.slice none 0 0,.slice none 0 0,.slice none 0 0,.slice none 0 0,.slice none 0 0,.int .i64 ((0:Int)),.slice none 0 0,.slice none 0 0,.slice none 0 0,.slice none 0 0,.int .i64 ((0:Int)),.slice none 0 0,.slice none 0 0,.slice none 0 0,.slice none 0 0,.slice none 0 0,.slice none 0 0,.slice none 0 0] [(0,12),(12,12),(24,1)]:=⟨_,_,_,Tryz.underlying244,by kernel_rfl,A3,NC,rfl⟩
instance afX:xT Tryz.prog 257 [.int .i64 ((0:Int)),.int .i64 ((0:Int))] [(0,1),(1,1)]:=⟨_,_,_,Tryz.underlying257,by kernel_rfl,yH,ND,rfl⟩
instance afY:Nd Tryz.prog 187 .i64 .i64:=⟨_,_,Tryz.underlying187,by decide,by decide,Tryz.underlying2,Tryz.underlying2,rfl,rfl,by kernel_rfl,by kernel_rfl⟩
instance afZ:Nd Tryz.prog 257 .i64 .i64:=⟨_,_,Tryz.underlying257,by decide,by decide,Tryz.underlying2,Tryz.underlying2,rfl,rfl,by kernel_rfl,by kernel_rfl⟩
instance air:bm Tryz.prog 12:=⟨_,_,Tryz.func12,rfl,by kernel_rfl⟩
instance ais:bm Tryz.prog 17:=⟨_,_,Tryz.func17,rfl,by kernel_rfl⟩
instance ait:bm Tryz.prog 18:=⟨_,_,Tryz.func18,rfl,by kernel_rfl⟩
instance aiu:bm Tryz.prog 19:=⟨_,_,Tryz.func19,rfl,by kernel_rfl⟩
instance aiv:bm Tryz.prog 20:=⟨_,_,Tryz.func20,rfl,by kernel_rfl⟩
instance aiw:bm Tryz.prog 21:=⟨_,_,Tryz.func21,rfl,by kernel_rfl⟩
instance aix:bm Tryz.prog 53:=⟨_,_,Tryz.func53,rfl,by kernel_rfl⟩
instance aiy:bm Tryz.prog 54:=⟨_,_,Tryz.func54,rfl,by kernel_rfl⟩
instance aiz:bm Tryz.prog 55:=⟨_,_,Tryz.func55,rfl,by kernel_rfl⟩
instance aiA:bm Tryz.prog 57:=⟨_,_,Tryz.func57,rfl,by kernel_rfl⟩
instance aiB:bm Tryz.prog 58:=⟨_,_,Tryz.func58,rfl,by kernel_rfl⟩
instance aiC:bm Tryz.prog 59:=⟨_,_,Tryz.func59,rfl,by kernel_rfl⟩
instance aiD:bm Tryz.prog 60:=⟨_,_,Tryz.func60,rfl,by kernel_rfl⟩
instance aiE:bm Tryz.prog 61:=⟨_,_,Tryz.func61,rfl,by kernel_rfl⟩
instance aiF:bm Tryz.prog 64:=⟨_,_,Tryz.func64,rfl,by kernel_rfl⟩
instance aiG:bm Tryz.prog 67:=⟨_,_,Tryz.func67,rfl,by kernel_rfl⟩
instance aiH:bm Tryz.prog 68:=⟨_,_,Tryz.func68,rfl,by kernel_rfl⟩
instance aiI:bm Tryz.prog 69:=⟨_,_,Tryz.func69,rfl,by kernel_rfl⟩
instance aiJ:bm Tryz.prog 70:=⟨_,_,Tryz.func70,rfl,by kernel_rfl⟩
instance aiK:bm Tryz.prog 75:=⟨_,_,Tryz.func75,rfl,by kernel_rfl⟩
instance aiL:bm Tryz.prog 76:=⟨_,_,Tryz.func76,rfl,by kernel_rfl⟩
instance aiM:bm Tryz.prog 77:=⟨_,_,Tryz.func77,rfl,by kernel_rfl⟩
instance aiN:bm Tryz.prog 78:=⟨_,_,Tryz.func78,rfl,by kernel_rfl⟩
instance aiO:bm Tryz.prog 84:=⟨_,_,Tryz.func84,rfl,by kernel_rfl⟩
instance aiP:bm Tryz.prog 85:=⟨_,_,Tryz.func85,rfl,by kernel_rfl⟩
instance aiQ:bm Tryz.prog 87:=⟨_,_,Tryz.func87,rfl,by kernel_rfl⟩
instance aiR:bm Tryz.prog 88:=⟨_,_,Tryz.func88,rfl,by kernel_rfl⟩
instance aiS:bm Tryz.prog 89:=⟨_,_,Tryz.func89,rfl,by kernel_rfl⟩
instance aiT:bm Tryz.prog 91:=⟨_,_,Tryz.func91,rfl,by kernel_rfl⟩
instance aiU:bm Tryz.prog 93:=⟨_,_,Tryz.func93,rfl,by kernel_rfl⟩
instance aiV:bm Tryz.prog 99:=⟨_,_,Tryz.func99,rfl,by kernel_rfl⟩
instance af0:bm Tryz.prog 100:=⟨_,_,Tryz.func100,rfl,by kernel_rfl⟩
instance af1:bm Tryz.prog 103:=⟨_,_,Tryz.func103,rfl,by kernel_rfl⟩
instance af2:bm Tryz.prog 106:=⟨_,_,Tryz.func106,rfl,by kernel_rfl⟩
instance af3:bm Tryz.prog 109:=⟨_,_,Tryz.func109,rfl,by kernel_rfl⟩
instance af4:bm Tryz.prog 114:=⟨_,_,Tryz.func114,rfl,by kernel_rfl⟩
instance af5:bm Tryz.prog 119:=⟨_,_,Tryz.func119,rfl,by kernel_rfl⟩
instance af6:bm Tryz.prog 123:=⟨_,_,Tryz.func123,rfl,by kernel_rfl⟩
instance af7:bm Tryz.prog 129:=⟨_,_,Tryz.func129,rfl,by kernel_rfl⟩
instance af8:bm Tryz.prog 133:=⟨_,_,Tryz.func133,rfl,by kernel_rfl⟩
instance af9:bm Tryz.prog 134:=⟨_,_,Tryz.func134,rfl,by kernel_rfl⟩
instance aga:bm Tryz.prog 135:=⟨_,_,Tryz.func135,rfl,by kernel_rfl⟩
instance agb:bm Tryz.prog 137:=⟨_,_,Tryz.func137,rfl,by kernel_rfl⟩
instance agc:bm Tryz.prog 138:=⟨_,_,Tryz.func138,rfl,by kernel_rfl⟩
instance agd:bm Tryz.prog 139:=⟨_,_,Tryz.func139,rfl,by kernel_rfl⟩
instance age:bm Tryz.prog 142:=⟨_,_,Tryz.func142,rfl,by kernel_rfl⟩
instance agf:bm Tryz.prog 143:=⟨_,_,Tryz.func143,rfl,by kernel_rfl⟩
instance agh:bm Tryz.prog 144:=⟨_,_,Tryz.func144,rfl,by kernel_rfl⟩
instance agi:bm Tryz.prog 145:=⟨_,_,Tryz.func145,rfl,by kernel_rfl⟩
instance agj:bm Tryz.prog 146:=⟨_,_,Tryz.func146,rfl,by kernel_rfl⟩
instance agk:bm Tryz.prog 149:=⟨_,_,Tryz.func149,rfl,by kernel_rfl⟩
instance agl:bm Tryz.prog 150:=⟨_,_,Tryz.func150,rfl,by kernel_rfl⟩
instance agm:bm Tryz.prog 151:=⟨_,_,Tryz.func151,rfl,by kernel_rfl⟩
instance agn:bm Tryz.prog 152:=⟨_,_,Tryz.func152,rfl,by kernel_rfl⟩
instance ago:bm Tryz.prog 153:=⟨_,_,Tryz.func153,rfl,by kernel_rfl⟩
instance agp:bm Tryz.prog 154:=⟨_,_,Tryz.func154,rfl,by kernel_rfl⟩
instance agq:bm Tryz.prog 155:=⟨_,_,Tryz.func155,rfl,by kernel_rfl⟩
instance ags:bm Tryz.prog 156:=⟨_,_,Tryz.func156,rfl,by kernel_rfl⟩
instance agt:bm Tryz.prog 157:=⟨_,_,Tryz.func157,rfl,by kernel_rfl⟩
instance agu:bm Tryz.prog 158:=⟨_,_,Tryz.func158,rfl,by kernel_rfl⟩
instance agv:bm Tryz.prog 159:=⟨_,_,Tryz.func159,rfl,by kernel_rfl⟩
instance agw:bm Tryz.prog 160:=⟨_,_,Tryz.func160,rfl,by kernel_rfl⟩
instance agx:bm Tryz.prog 165:=⟨_,_,Tryz.func165,rfl,by kernel_rfl⟩
instance agy:bm Tryz.prog 166:=⟨_,_,Tryz.func166,rfl,by kernel_rfl⟩
instance agz:bm Tryz.prog 168:=⟨_,_,Tryz.func168,rfl,by kernel_rfl⟩
instance agA:bm Tryz.prog 169:=⟨_,_,Tryz.func169,rfl,by kernel_rfl⟩
instance agB:bm Tryz.prog 171:=⟨_,_,Tryz.func171,rfl,by kernel_rfl⟩
instance agC:bm Tryz.prog 172:=⟨_,_,Tryz.func172,rfl,by kernel_rfl⟩
instance agD:bm Tryz.prog 173:=⟨_,_,Tryz.func173,rfl,by kernel_rfl⟩
instance agE:bm Tryz.prog 174:=⟨_,_,Tryz.func174,rfl,by kernel_rfl⟩
instance agF:bm Tryz.prog 175:=⟨_,_,Tryz.func175,rfl,by kernel_rfl⟩
instance agG:bm Tryz.prog 179:=⟨_,_,Tryz.func179,rfl,by kernel_rfl⟩
instance agH:bm Tryz.prog 183:=⟨_,_,Tryz.func183,rfl,by kernel_rfl⟩
instance agI:bm Tryz.prog 191:=⟨_,_,Tryz.func191,rfl,by kernel_rfl⟩
instance agJ:bm Tryz.prog 192:=⟨_,_,Tryz.func192,rfl,by kernel_rfl⟩
instance agK:bm Tryz.prog 196:=⟨_,_,Tryz.func196,rfl,by kernel_rfl⟩
instance agL:bm Tryz.prog 198:=⟨_,_,Tryz.func198,rfl,by kernel_rfl⟩
instance agM:bm Tryz.prog 201:=⟨_,_,Tryz.func201,rfl,by kernel_rfl⟩
instance agN:bm Tryz.prog 202:=⟨_,_,Tryz.func202,rfl,by kernel_rfl⟩
instance agO:bm Tryz.prog 211:=⟨_,_,Tryz.func211,rfl,by kernel_rfl⟩
instance agP:bm Tryz.prog 217:=⟨_,_,Tryz.func217,rfl,by kernel_rfl⟩
instance agQ:bm Tryz.prog 218:=⟨_,_,Tryz.func218,rfl,by kernel_rfl⟩
instance agR:bm Tryz.prog 219:=⟨_,_,Tryz.func219,rfl,by kernel_rfl⟩
instance agS:bm Tryz.prog 220:=⟨_,_,Tryz.func220,rfl,by kernel_rfl⟩
instance agT:bm Tryz.prog 221:=⟨_,_,Tryz.func221,rfl,by kernel_rfl⟩
instance agU:bm Tryz.prog 222:=⟨_,_,Tryz.func222,rfl,by kernel_rfl⟩
instance agV:bm Tryz.prog 223:=⟨_,_,Tryz.func223,rfl,by kernel_rfl⟩
instance agW:bm Tryz.prog 225:=⟨_,_,Tryz.func225,rfl,by kernel_rfl⟩
instance agX:bm Tryz.prog 226:=⟨_,_,Tryz.func226,rfl,by kernel_rfl⟩
instance agY:bm Tryz.prog 231:=⟨_,_,Tryz.func231,rfl,by kernel_rfl⟩
instance agZ:bm Tryz.prog 232:=⟨_,_,Tryz.func232,rfl,by kernel_rfl⟩
instance ag0:bm Tryz.prog 233:=⟨_,_,Tryz.func233,rfl,by kernel_rfl⟩
instance ag1:bm Tryz.prog 234:=⟨_,_,Tryz.func234,rfl,by kernel_rfl⟩
instance ag2:bm Tryz.prog 235:=⟨_,_,Tryz.func235,rfl,by kernel_rfl⟩
instance ag3:bm Tryz.prog 236:=⟨_,_,Tryz.func236,rfl,by kernel_rfl⟩
instance ag4:bm Tryz.prog 237:=⟨_,_,Tryz.func237,rfl,by kernel_rfl⟩
instance ag5:bm Tryz.prog 238:=⟨_,_,Tryz.func238,rfl,by kernel_rfl⟩
instance ag6:bm Tryz.prog 239:=⟨_,_,Tryz.func239,rfl,by kernel_rfl⟩
instance ag7:bm Tryz.prog 240:=⟨_,_,Tryz.func240,rfl,by kernel_rfl⟩
instance ag8:bm Tryz.prog 241:=⟨_,_,Tryz.func241,rfl,by kernel_rfl⟩
instance ag9:bm Tryz.prog 242:=⟨_,_,Tryz.func242,rfl,by kernel_rfl⟩
instance aha:bm Tryz.prog 243:=⟨_,_,Tryz.func243,rfl,by kernel_rfl⟩
instance ahb:bm Tryz.prog 244:=⟨_,_,Tryz.func244,rfl,by kernel_rfl⟩
instance ahc:bm Tryz.prog 245:=⟨_,_,Tryz.func245,rfl,by kernel_rfl⟩
instance ahd:bm Tryz.prog 246:=⟨_,_,Tryz.func246,rfl,by kernel_rfl⟩
instance ahe:bm Tryz.prog 255:=⟨_,_,Tryz.func255,rfl,by kernel_rfl⟩
instance ahf:bm Tryz.prog 256:=⟨_,_,Tryz.func256,rfl,by kernel_rfl⟩
instance ahg:bm Tryz.prog 257:=⟨_,_,Tryz.func257,rfl,by kernel_rfl⟩
instance ahh:bm Tryz.prog 258:=⟨_,_,Tryz.func258,rfl,by kernel_rfl⟩
instance ahi:bm Tryz.prog 267:=⟨_,_,Tryz.func267,rfl,by kernel_rfl⟩
instance ahj:bm Tryz.prog 268:=⟨_,_,Tryz.func268,rfl,by kernel_rfl⟩
instance ahk:bm Tryz.prog 274:=⟨_,_,Tryz.func274,rfl,by kernel_rfl⟩
instance ahl:bm Tryz.prog 275:=⟨_,_,Tryz.func275,rfl,by kernel_rfl⟩
instance ahm:bm Tryz.prog 277:=⟨_,_,Tryz.func277,rfl,by kernel_rfl⟩
instance ahn:bm Tryz.prog 278:=⟨_,_,Tryz.func278,rfl,by kernel_rfl⟩
instance aho:bm Tryz.prog 279:=⟨_,_,Tryz.func279,rfl,by kernel_rfl⟩
instance ahp:bm Tryz.prog 280:=⟨_,_,Tryz.func280,rfl,by kernel_rfl⟩
instance ahq:bm Tryz.prog 287:=⟨_,_,Tryz.func287,rfl,by kernel_rfl⟩
instance ahr:bm Tryz.prog 288:=⟨_,_,Tryz.func288,rfl,by kernel_rfl⟩
instance ahs:bm Tryz.prog 289:=⟨_,_,Tryz.func289,rfl,by kernel_rfl⟩
instance aht:bm Tryz.prog 293:=⟨_,_,Tryz.func293,rfl,by kernel_rfl⟩
end Go.Proofs.YtcnehblmgfbfoaaGreat
