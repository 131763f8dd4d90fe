/- Walks, printed by a program: that a call of each function computes what its model says. No condition beside those that each theorem names. -/
import Derived.Test.YtcmckiiafgcmjaaGreatTy
import Derived.Test.YtcmckiiafgcmjaaGreatMo
import Derived.Test.YtcmckiiafgcmjaaGreatZ00
import Derived.Test.YtcmckiiafgcmjaaGreatZ05
import Derived.Test.YtcmckiiafgcmjaaGreatZ06
namespace Go.Proofs.YtcmckiiafgcmjaaGreat
open Go Go.Li
set_option linter.unusedVariables false
set_option maxHeartbeats 4000000
set_option maxRecDepth 100000
abbrev laws_FnExactGeneratedTopology_post (w:World) (x:(Bool)) (e:Ending) (w':World):Prop:=e = .returned (.bool x)∧Chg [] w w'
abbrev laws_FnExactGeneratedTopology_T (w:World):=Tm Tryz.prog Tryz.f7 96 (laws_FnExactGeneratedTopology_post w)
theorem laws_FnExactGeneratedTopology_calls {w:World} {x0:MTopology} {zk:Value} {zo:List Nat} {zl:Value} {zp:List Nat} {zm:Value} {zq:List Nat} {zn:Value} {zr:List Nat} {ze:Value} {z8:List Nat} (zu:(sImm (sInt .i64)).rep w.heap [zk] x0.Shape.From zo) (zv:(sImm (sInt .i64)).rep w.heap [zl] x0.Shape.To zp) (zw:(sImm (sInt .i64)).rep w.heap [zm] x0.Shape.Identity zq) (zx:(sImm (sImm (sInt .i64))).rep w.heap [zn] x0.Shape.Composites zr) (zj:(sImm (sImm (sImm (sInt .i64)))).rep w.heap [ze] x0.Covers z8) {y:(Bool)} (hm:laws_FnExactGeneratedTopology x0=some y) :
  Calls Tryz.prog 7 #[.agg #[.int .i64 (x0.Shape.Objects),zk,zl,zm,zn,ze]] w (laws_FnExactGeneratedTopology_post w y):=by
 refine Cm (S:=Unit) Tryz.func7 rfl Tryz.ntmps7 rfl hm fun o ho hB=>?_
 clear hm
 refine wq <| W_region rfl <| WL.box fun b1 wd2 hC3 hr4 hl5=>?_
 replace hr4:Row wd2 b1 [.int .i64 (x0.Shape.Objects),zk,zl,zm,zn,ze] 28:=hr4
 replace hB:=(hB.trans hC3)
 refine Wb (Ab rfl) <| anz <| wq <| Wq rfl (cr [] wd2) <| Qa (Ai rfl) <| fun wd8 hC9=>anz <| wq <| Wq rfl hC9 <| Qa (Lg ag28 hr4.at rfl rfl) <| Qa (Mi rfl) <| ?_
 obtain ⟨y10,kn,ho⟩:=bs ho
 refine Qc Tryz.func15 rfl rfl (fun _ hC=>laws_szTopology_calls (kp _ zu (hB.trans hC)) (kp _ zv (hB.trans hC)) (kp _ zw (hB.trans hC)) (kp _ zx (hB.trans hC)) (kp _ zj (hB.trans hC)) kn) <| Qa (Ai rfl) <| fun p41 kq=>anz <| wq <| wq <| Wq rfl kq <| Qa (Mi rfl) <| Qa (Bl rfl rfl) <| fun p42 pw=>anz <| W_cond (b:=decide (y10 < (0:Int))) rfl ?_ ?_
 intro jd
 rw [jd] at ho
 refine wq <| Wq rfl pw <| Qa (Ab rfl) <| fun p43 ks=>anz <| ?_
 cases ho
 exact W_ret ⟨_,res_1 Tryz.results7,rfl,(hB.trans ks)⟩
 intro jd
 rw [jd] at ho
 refine W_skip <| anz <| wq <| W_region rfl <| Wa pw (Lg ag28 hr4.at rfl rfl) <| ?_
 obtain ⟨y19,kt,ho⟩:=bs ho
 refine WL.call rfl (op_callF Tryz.func17 rfl rfl) (laws_toTopology_calls (kp _ zu (hB.trans pw)) (kp _ zv (hB.trans pw)) (kp _ zw (hB.trans pw)) (kp _ zx (hB.trans pw)) (kp _ zj (hB.trans pw)) kt) <| ?_
 rintro _ p44 ⟨v23,f24,v26,f27,v29,f30,v32,f33,v35,f36,rfl,ku,qi,qj,qk,ql,qm,d38,d39,d40,d41,d42,d43,d44,d45,d46,d47⟩
 refine ⟨_,rfl,?_⟩
 replace qi:=OE.low (G:=[]) qi (hB.trans pw).size
 replace qj:=OE.low (G:=[]) qj (hB.trans pw).size
 replace qk:=OE.low (G:=[]) qk (hB.trans pw).size
 replace ql:=OE.low (G:=[]) ql (hB.trans pw).size
 replace qm:=OE.low (G:=[]) qm (hB.trans pw).size
 have js:=pw.trans ku
 replace hr4:=kr hr4 js
 replace hB:=(hB.trans js)
 obtain ⟨y54,kv,ho⟩:=bs ho
 refine WL.call rfl (op_callF Tryz.func34 rfl rfl) (spec_GeneratedTopology_calls ((Le.own (Le.refl _) 2).le qi.1) ((Le.own (Le.refl _) 2).le qj.1) ((Le.own (Le.refl _) 2).le qk.1) ((Le.own (Le.own (Le.refl _) 2) 22).le ql.1) ((Le.own (Le.own (Le.own (Le.refl _) 2) 22) 23).le qm.1) kv) <| ?_
 rintro _ p4k ⟨v58,f59,v61,f62,v64,f65,v67,f68,v70,f71,rfl,j5,p0,p1,p2,p3,p4,d73,d74,d75,d76,d77,d78,d79,d80,d81,d82⟩
 refine ⟨_,rfl,?_⟩
 replace p0:=OE.low (G:=[]) p0 hB.size
 replace p1:=OE.low (G:=[]) p1 hB.size
 replace p2:=OE.low (G:=[]) p2 hB.size
 replace p3:=OE.low (G:=[]) p3 hB.size
 replace p4:=OE.low (G:=[]) p4 hB.size
 replace hr4:=kr hr4 j5
 replace qi:=ko qi j5
 replace qj:=ko qj j5
 replace qk:=ko qk j5
 replace ql:=ko ql j5
 replace qm:=ko qm j5
 replace hB:=(hB.trans j5)
 refine Wb (Mt rfl) <| Wb (Ex (.agg #[.int .i64 (y54.1.Shape.Objects),v58,v61,v64,v67,v70]) rfl rfl) <| Wb (Exi rfl rfl) <| WL.alloc info34 zr34 fun j9 kw q7 je q8=>?_
 replace je:Row kw j9 [.int .i64 ((0:Int)),.slice none 0 0,.slice none 0 0,.slice none 0 0,.slice none 0 0,.slice none 0 0] 34:=je
 have kx:w.heap.size≤j9:=Nat.le_trans hB.size q8
 have ky:=dl (onw q8) (one_lt (Row.lt hr4))
 have kz:=dl (onw q8) (sl _ qi.1)
 have n0:=dl (onw q8) (sl _ qj.1)
 have n1:=dl (onw q8) (sl _ qk.1)
 have n2:=dl (onw q8) (sl _ ql.1)
 have n3:=dl (onw q8) (sl _ qm.1)
 have n4:=dl (onw q8) (sl _ p0.1)
 have n5:=dl (onw q8) (sl _ p1.1)
 have n6:=dl (onw q8) (sl _ p2.1)
 have n7:=dl (onw q8) (sl _ p3.1)
 have n8:=dl (onw q8) (sl _ p4.1)
 replace hr4:=kr hr4 q7
 replace qi:=ko qi q7
 replace qj:=ko qj q7
 replace qk:=ko qk q7
 replace ql:=ko ql q7
 replace qm:=ko qm q7
 replace p0:=ko p0 q7
 replace p1:=ko p1 q7
 replace p2:=ko p2 q7
 replace p3:=ko p3 q7
 replace p4:=ko p4 q7
 replace hB:=(hB.trans q7)
 refine WL.storeAll (us:=[.int .i64 (y54.1.Shape.Objects),v58,v61,v64,v67,v70]) info34 (by rw [sz34]; rfl) je rfl rfl rfl (by intro u hu; simp only [List.mem_cons,List.mem_nil_iff,or_false] at hu; rcases hu with rfl | rfl | rfl | rfl | rfl | rfl <;> first | exact rfl | exact (STy.one _ p0.1 _ (ms rfl)) | exact (STy.one _ p1.1 _ (ms rfl)) | exact (STy.one _ p2.1 _ (ms rfl)) | exact (STy.one _ p3.1 _ (ms rfl)) | exact (STy.one _ p4.1 _ (ms rfl))) fun n9 q9 p5=>?_
 replace p5:Row n9 j9 [.int .i64 (y54.1.Shape.Objects),v58,v61,v64,v67,v70] 34:=p5
 replace hr4:=Row.keep hr4 q9 ((ky).symm _ (ms rfl))
 replace qi:=okp qi q9 (kz).symm
 replace qj:=okp qj q9 (n0).symm
 replace qk:=okp qk q9 (n1).symm
 replace ql:=okp ql q9 (n2).symm
 replace qm:=okp qm q9 (n3).symm
 replace p0:=okp p0 q9 (n4).symm
 replace p1:=okp p1 q9 (n5).symm
 replace p2:=okp p2 q9 (n6).symm
 replace p3:=okp p3 q9 (n7).symm
 replace p4:=okp p4 q9 (n8).symm
 replace hB:=hB.then q9 (one_then kx)
 refine Wb (Ai rfl) <| anz <| wq <| W_region rfl <| Wb (Lg ag28 hr4.at rfl rfl) <| ?_
 obtain ⟨y136,na,ho⟩:=bs ho
 refine WL.call rfl (op_callF Tryz.func17 rfl rfl) (laws_toTopology_calls (kp _ zu hB) (kp _ zv hB) (kp _ zw hB) (kp _ zx hB) (kp _ zj hB) na) <| ?_
 rintro _ p50 ⟨v140,nb,v143,nc,v146,nd,v149,ne,v152,nf,rfl,qz,p6,p7,p8,p9,pa,ng,nh,ni,nj,nk,nl,nm,nn,no,np⟩
 refine ⟨_,rfl,?_⟩
 have nq:=dl (ofr p6) (one_lt (Row.lt hr4))
 have nr:=dl (ofr p6) (sl _ p0.1)
 have ns:=dl (ofr p6) (sl _ p1.1)
 have nt:=dl (ofr p6) (sl _ p2.1)
 have nu:=dl (ofr p6) (sl _ p3.1)
 have nv:=dl (ofr p6) (sl _ p4.1)
 have nw:=dl (ofr p6) (one_lt (Row.lt p5))
 replace p6:=OE.low (G:=[]) p6 hB.size
 have nx:=dl (ofr p7) (one_lt (Row.lt hr4))
 have ny:=dl (ofr p7) (sl _ p0.1)
 have nz:=dl (ofr p7) (sl _ p1.1)
 have g0:=dl (ofr p7) (sl _ p2.1)
 have g1:=dl (ofr p7) (sl _ p3.1)
 have g2:=dl (ofr p7) (sl _ p4.1)
 have g3:=dl (ofr p7) (one_lt (Row.lt p5))
 replace p7:=OE.low (G:=[]) p7 hB.size
 have g4:=dl (ofr p8) (one_lt (Row.lt hr4))
 have g5:=dl (ofr p8) (sl _ p0.1)
 have g6:=dl (ofr p8) (sl _ p1.1)
 have g7:=dl (ofr p8) (sl _ p2.1)
 have g8:=dl (ofr p8) (sl _ p3.1)
 have g9:=dl (ofr p8) (sl _ p4.1)
 have ga:=dl (ofr p8) (one_lt (Row.lt p5))
 replace p8:=OE.low (G:=[]) p8 hB.size
 have gb:=dl (ofr p9) (one_lt (Row.lt hr4))
 have gc:=dl (ofr p9) (sl _ p0.1)
 have gd:=dl (ofr p9) (sl _ p1.1)
 have ge:=dl (ofr p9) (sl _ p2.1)
 have gf:=dl (ofr p9) (sl _ p3.1)
 have gg:=dl (ofr p9) (sl _ p4.1)
 have gh:=dl (ofr p9) (one_lt (Row.lt p5))
 replace p9:=OE.low (G:=[]) p9 hB.size
 have gi:=dl (ofr pa) (one_lt (Row.lt hr4))
 have gj:=dl (ofr pa) (sl _ p0.1)
 have gk:=dl (ofr pa) (sl _ p1.1)
 have gl:=dl (ofr pa) (sl _ p2.1)
 have gm:=dl (ofr pa) (sl _ p3.1)
 have gn:=dl (ofr pa) (sl _ p4.1)
 have go:=dl (ofr pa) (one_lt (Row.lt p5))
 replace pa:=OE.low (G:=[]) pa hB.size
 replace hr4:=kr hr4 qz
 replace p0:=ko p0 qz
 replace p1:=ko p1 qz
 replace p2:=ko p2 qz
 replace p3:=ko p3 qz
 replace p4:=ko p4 qz
 replace p5:=kr p5 qz
 replace hB:=(hB.trans qz)
 refine WL.alloc info34 zr34 fun ja gp px jf py=>?_
 replace jf:Row gp ja [.int .i64 ((0:Int)),.slice none 0 0,.slice none 0 0,.slice none 0 0,.slice none 0 0,.slice none 0 0] 34:=jf
 have gq:w.heap.size≤ja:=Nat.le_trans hB.size py
 have gr:=dl (onw py) (one_lt (Row.lt hr4))
 have gs:=dl (onw py) (sl _ p0.1)
 have gt:=dl (onw py) (sl _ p1.1)
 have gu:=dl (onw py) (sl _ p2.1)
 have gv:=dl (onw py) (sl _ p3.1)
 have gw:=dl (onw py) (sl _ p4.1)
 have gx:=dl (onw py) (one_lt (Row.lt p5))
 have jt:=dl (onw py) (sl _ p6.1)
 have ju:=dl (onw py) (sl _ p7.1)
 have jv:=dl (onw py) (sl _ p8.1)
 have jw:=dl (onw py) (sl _ p9.1)
 have jx:=dl (onw py) (sl _ pa.1)
 replace hr4:=kr hr4 px
 replace p0:=ko p0 px
 replace p1:=ko p1 px
 replace p2:=ko p2 px
 replace p3:=ko p3 px
 replace p4:=ko p4 px
 replace p5:=kr p5 px
 replace p6:=ko p6 px
 replace p7:=ko p7 px
 replace p8:=ko p8 px
 replace p9:=ko p9 px
 replace pa:=ko pa px
 replace hB:=(hB.trans px)
 refine WL.storeAll (us:=[.int .i64 (y136.Shape.Objects),v140,v143,v146,v149,v152]) info34 (by rw [sz34]; rfl) jf rfl rfl rfl (by intro u hu; simp only [List.mem_cons,List.mem_nil_iff,or_false] at hu; rcases hu with rfl | rfl | rfl | rfl | rfl | rfl <;> first | exact rfl | exact (STy.one _ p6.1 _ (ms rfl)) | exact (STy.one _ p7.1 _ (ms rfl)) | exact (STy.one _ p8.1 _ (ms rfl)) | exact (STy.one _ p9.1 _ (ms rfl)) | exact (STy.one _ pa.1 _ (ms rfl))) fun gy pz pr=>?_
 replace pr:Row gy ja [.int .i64 (y136.Shape.Objects),v140,v143,v146,v149,v152] 34:=pr
 replace hr4:=Row.keep hr4 pz ((gr).symm _ (ms rfl))
 replace p0:=okp p0 pz (gs).symm
 replace p1:=okp p1 pz (gt).symm
 replace p2:=okp p2 pz (gu).symm
 replace p3:=okp p3 pz (gv).symm
 replace p4:=okp p4 pz (gw).symm
 replace p5:=Row.keep p5 pz ((gx).symm _ (ms rfl))
 replace p6:=okp p6 pz (jt).symm
 replace p7:=okp p7 pz (ju).symm
 replace p8:=okp p8 pz (jv).symm
 replace p9:=okp p9 pz (jw).symm
 replace pa:=okp pa pz (jx).symm
 replace hB:=hB.then pz (one_then gq)
 refine anz <| wq <| W_region rfl <| Wb (Lg ag34 pr.at rfl rfl) <| ?_
 obtain ⟨y224,gz,ho⟩:=bs ho
 refine WL.call rfl (op_callF Tryz.func35 rfl rfl) (impl_GeneratedTopology_calls ((Le.own (Le.refl _) 2).le p6.1) ((Le.own (Le.refl _) 2).le p7.1) ((Le.own (Le.refl _) 2).le p8.1) ((Le.own (Le.own (Le.refl _) 2) 22).le p9.1) ((Le.own (Le.own (Le.own (Le.refl _) 2) 22) 23).le pa.1) gz) <| ?_
 rintro _ p51 ⟨v228,p00,v231,p01,v234,p02,v237,p03,v240,p04,rfl,pt,pb,pc,pd,pe,pf,p05,p06,p07,p08,p09,p0a,p0b,p0c,p0d,p0e⟩
 refine ⟨_,rfl,?_⟩
 have p0f:=dl (ofr pb) (one_lt (Row.lt hr4))
 have p0g:=dl (ofr pb) (sl _ p0.1)
 have p0h:=dl (ofr pb) (sl _ p1.1)
 have p0i:=dl (ofr pb) (sl _ p2.1)
 have p0j:=dl (ofr pb) (sl _ p3.1)
 have p0k:=dl (ofr pb) (sl _ p4.1)
 have p0l:=dl (ofr pb) (one_lt (Row.lt p5))
 have p0m:=dl (ofr pb) (sl _ p6.1)
 have p0n:=dl (ofr pb) (sl _ p7.1)
 have p0o:=dl (ofr pb) (sl _ p8.1)
 have p0p:=dl (ofr pb) (sl _ p9.1)
 have p0q:=dl (ofr pb) (sl _ pa.1)
 replace pb:=OE.low (G:=[]) pb hB.size
 have p0r:=dl (ofr pc) (one_lt (Row.lt hr4))
 have p0s:=dl (ofr pc) (sl _ p0.1)
 have p0t:=dl (ofr pc) (sl _ p1.1)
 have p0u:=dl (ofr pc) (sl _ p2.1)
 have p0v:=dl (ofr pc) (sl _ p3.1)
 have p0w:=dl (ofr pc) (sl _ p4.1)
 have p0x:=dl (ofr pc) (one_lt (Row.lt p5))
 have p0y:=dl (ofr pc) (sl _ p6.1)
 have p0z:=dl (ofr pc) (sl _ p7.1)
 have p10:=dl (ofr pc) (sl _ p8.1)
 have p11:=dl (ofr pc) (sl _ p9.1)
 have p12:=dl (ofr pc) (sl _ pa.1)
 replace pc:=OE.low (G:=[]) pc hB.size
 have p13:=dl (ofr pd) (one_lt (Row.lt hr4))
 have p14:=dl (ofr pd) (sl _ p0.1)
 have p15:=dl (ofr pd) (sl _ p1.1)
 have p16:=dl (ofr pd) (sl _ p2.1)
 have p17:=dl (ofr pd) (sl _ p3.1)
 have p18:=dl (ofr pd) (sl _ p4.1)
 have p19:=dl (ofr pd) (one_lt (Row.lt p5))
 have p1a:=dl (ofr pd) (sl _ p6.1)
 have p1b:=dl (ofr pd) (sl _ p7.1)
 have p1c:=dl (ofr pd) (sl _ p8.1)
 have p1d:=dl (ofr pd) (sl _ p9.1)
 have p1e:=dl (ofr pd) (sl _ pa.1)
 replace pd:=OE.low (G:=[]) pd hB.size
 have p1f:=dl (ofr pe) (one_lt (Row.lt hr4))
 have p1g:=dl (ofr pe) (sl _ p0.1)
 have p1h:=dl (ofr pe) (sl _ p1.1)
 have p1i:=dl (ofr pe) (sl _ p2.1)
 have p1j:=dl (ofr pe) (sl _ p3.1)
 have p1k:=dl (ofr pe) (sl _ p4.1)
 have p1l:=dl (ofr pe) (one_lt (Row.lt p5))
 have p1m:=dl (ofr pe) (sl _ p6.1)
 have p1n:=dl (ofr pe) (sl _ p7.1)
 have p1o:=dl (ofr pe) (sl _ p8.1)
 have p1p:=dl (ofr pe) (sl _ p9.1)
 have p1q:=dl (ofr pe) (sl _ pa.1)
 replace pe:=OE.low (G:=[]) pe hB.size
 have p1r:=dl (ofr pf) (one_lt (Row.lt hr4))
 have p1s:=dl (ofr pf) (sl _ p0.1)
 have p1t:=dl (ofr pf) (sl _ p1.1)
 have p1u:=dl (ofr pf) (sl _ p2.1)
 have p1v:=dl (ofr pf) (sl _ p3.1)
 have p1w:=dl (ofr pf) (sl _ p4.1)
 have p1x:=dl (ofr pf) (one_lt (Row.lt p5))
 have p1y:=dl (ofr pf) (sl _ p6.1)
 have p1z:=dl (ofr pf) (sl _ p7.1)
 have p20:=dl (ofr pf) (sl _ p8.1)
 have p21:=dl (ofr pf) (sl _ p9.1)
 have p22:=dl (ofr pf) (sl _ pa.1)
 replace pf:=OE.low (G:=[]) pf hB.size
 replace hr4:=kr hr4 pt
 replace p0:=ko p0 pt
 replace p1:=ko p1 pt
 replace p2:=ko p2 pt
 replace p3:=ko p3 pt
 replace p4:=ko p4 pt
 replace p5:=kr p5 pt
 replace p6:=ko p6 pt
 replace p7:=ko p7 pt
 replace p8:=ko p8 pt
 replace p9:=ko p9 pt
 replace pa:=ko pa pt
 replace pr:=kr pr pt
 replace hB:=(hB.trans pt)
 refine Wb (Mt rfl) <| Wb (Ex (.agg #[.int .i64 (y224.1.Shape.Objects),v228,v231,v234,v237,v240]) rfl rfl) <| Wb (Exi rfl rfl) <| WL.alloc info34 zr34 fun j6 p23 pn jg po=>?_
 replace jg:Row p23 j6 [.int .i64 ((0:Int)),.slice none 0 0,.slice none 0 0,.slice none 0 0,.slice none 0 0,.slice none 0 0] 34:=jg
 have p24:w.heap.size≤j6:=Nat.le_trans hB.size po
 have p25:=dl (onw po) (one_lt (Row.lt hr4))
 have p26:=dl (onw po) (sl _ p0.1)
 have p27:=dl (onw po) (sl _ p1.1)
 have p28:=dl (onw po) (sl _ p2.1)
 have p29:=dl (onw po) (sl _ p3.1)
 have p2a:=dl (onw po) (sl _ p4.1)
 have p2b:=dl (onw po) (one_lt (Row.lt p5))
 have jy:=dl (onw po) (sl _ p6.1)
 have jz:=dl (onw po) (sl _ p7.1)
 have k0:=dl (onw po) (sl _ p8.1)
 have k1:=dl (onw po) (sl _ p9.1)
 have k2:=dl (onw po) (sl _ pa.1)
 have p2c:=dl (onw po) (one_lt (Row.lt pr))
 have k3:=dl (onw po) (sl _ pb.1)
 have k4:=dl (onw po) (sl _ pc.1)
 have k5:=dl (onw po) (sl _ pd.1)
 have k6:=dl (onw po) (sl _ pe.1)
 have k7:=dl (onw po) (sl _ pf.1)
 replace hr4:=kr hr4 pn
 replace p0:=ko p0 pn
 replace p1:=ko p1 pn
 replace p2:=ko p2 pn
 replace p3:=ko p3 pn
 replace p4:=ko p4 pn
 replace p5:=kr p5 pn
 replace p6:=ko p6 pn
 replace p7:=ko p7 pn
 replace p8:=ko p8 pn
 replace p9:=ko p9 pn
 replace pa:=ko pa pn
 replace pr:=kr pr pn
 replace pb:=ko pb pn
 replace pc:=ko pc pn
 replace pd:=ko pd pn
 replace pe:=ko pe pn
 replace pf:=ko pf pn
 replace hB:=(hB.trans pn)
 refine WL.storeAll (us:=[.int .i64 (y224.1.Shape.Objects),v228,v231,v234,v237,v240]) info34 (by rw [sz34]; rfl) jg rfl rfl rfl (by intro u hu; simp only [List.mem_cons,List.mem_nil_iff,or_false] at hu; rcases hu with rfl | rfl | rfl | rfl | rfl | rfl <;> first | exact rfl | exact (STy.one _ pb.1 _ (ms rfl)) | exact (STy.one _ pc.1 _ (ms rfl)) | exact (STy.one _ pd.1 _ (ms rfl)) | exact (STy.one _ pe.1 _ (ms rfl)) | exact (STy.one _ pf.1 _ (ms rfl))) fun k8 pp pg=>?_
 replace pg:Row k8 j6 [.int .i64 (y224.1.Shape.Objects),v228,v231,v234,v237,v240] 34:=pg
 replace hr4:=Row.keep hr4 pp ((p25).symm _ (ms rfl))
 replace p0:=okp p0 pp (p26).symm
 replace p1:=okp p1 pp (p27).symm
 replace p2:=okp p2 pp (p28).symm
 replace p3:=okp p3 pp (p29).symm
 replace p4:=okp p4 pp (p2a).symm
 replace p5:=Row.keep p5 pp ((p2b).symm _ (ms rfl))
 replace p6:=okp p6 pp (jy).symm
 replace p7:=okp p7 pp (jz).symm
 replace p8:=okp p8 pp (k0).symm
 replace p9:=okp p9 pp (k1).symm
 replace pa:=okp pa pp (k2).symm
 replace pr:=Row.keep pr pp ((p2c).symm _ (ms rfl))
 replace pb:=okp pb pp (k3).symm
 replace pc:=okp pc pp (k4).symm
 replace pd:=okp pd pp (k5).symm
 replace pe:=okp pe pp (k6).symm
 replace pf:=okp pf pp (k7).symm
 replace hB:=hB.then pp (one_then p24)
 refine Wb (Ai rfl) <| anz <| wq <| wq <| Wq rfl (cr [] k8) <| ?_
 obtain ⟨g348,hm349,ho⟩:=bs ho
 refine QL.meet (fun r=>∃ F,r=updL F [(1,.pointer (some (⟨b1,0,none⟩))),(4,.pointer (some (⟨j9,0,none⟩))),(5,.int .i64 (y54.2)),(6,.pointer (some (⟨ja,0,none⟩))),(7,.pointer (some (⟨j6,0,none⟩))),(8,.int .i64 (y224.2)),(40,.bool (g348))]) ?_ ?_
 skip
 refine Qa (Lg ag34 pg.at rfl rfl) <| Qa (Lg ag34 p5.at rfl rfl) <| ?_
 obtain ⟨y350,p2d,hm349⟩:=bs hm349
 refine Qc Tryz.func19 rfl rfl (fun _ hC=>laws_eqTopology_calls ((Le.own (Le.refl _) 2).le (kp _ pb.1 hC)) ((Le.own (Le.refl _) 2).le (kp _ pc.1 hC)) ((Le.own (Le.refl _) 2).le (kp _ pd.1 hC)) ((Le.own (Le.own (Le.refl _) 2) 22).le (kp _ pe.1 hC)) ((Le.own (Le.own (Le.own (Le.refl _) 2) 22) 23).le (kp _ pf.1 hC)) ((Le.own (Le.refl _) 2).le (kp _ p0.1 hC)) ((Le.own (Le.refl _) 2).le (kp _ p1.1 hC)) ((Le.own (Le.refl _) 2).le (kp _ p2.1 hC)) ((Le.own (Le.own (Le.refl _) 2) 22).le (kp _ p3.1 hC)) ((Le.own (Le.own (Le.own (Le.refl _) 2) 22) 23).le (kp _ p4.1 hC)) p2d) <| Qa (Nt rfl) <| Qa (Mb rfl) <| ?_
 rcases Bool.eq_false_or_eq_true (!(y350)) with qf | qf
 rw [qf] at hm349
 refine Sk rfl qf rfl <| Sk rfl qf rfl <| Sk rfl qf rfl <| Qa (PTb rfl qf rfl) <| ?_
 cases hm349
 exact fe rfl
 rw [qf] at hm349
 refine Qg rfl qf (Mi rfl) <| Qg rfl qf (Mi rfl) <| Qg rfl qf (Bn rfl rfl) <| Qa (PFb rfl qf rfl) <| ?_
 cases hm349
 exact fe rfl
 rintro _ ⟨F,rfl⟩
 refine fun jb qn=>anz <| W_cond (b:=g348) rfl ?_ ?_
 intro jh
 rw [jh] at ho
 refine wq <| Wq rfl qn <| Qa (Ab rfl) <| fun p52 p2e=>anz <| ?_
 cases ho
 exact W_ret ⟨_,res_1 Tryz.results7,rfl,(hB.trans p2e)⟩
 intro jh
 rw [jh] at ho
 refine W_skip <| anz <| wq <| wq <| ?_
 obtain ⟨y358,p2f,ho⟩:=bs ho
 refine W_any (m:=3) (U:=.replicate 3 []) (S:=[sV (.agg #[.int .i64 (y136.Shape.Objects),v140,v143,v146,v149,v152]),sV (.agg #[.int .i64 (x0.Shape.Objects),zk,zl,zm,zn,ze]),⟨true,pl (fun f w v=>∃ (v360:Value) (qa:List Nat) (v363:Value) (qb:List Nat) (v366:Value) (qc:List Nat) (v369:Value) (qd:List Nat) (v372:Value) (qe:List Nat),v = .agg #[.int .i64 (y358.Shape.Objects),v360,v363,v366,v369,v372]∧f=(qa++(qb++(qc++(qd++qe))))∧(sOwn 2 (sInt .i64)).rep w.heap [v360] (y358.Shape.From) qa∧(sOwn 2 (sInt .i64)).rep w.heap [v363] (y358.Shape.To) qb∧(sOwn 2 (sInt .i64)).rep w.heap [v366] (y358.Shape.Identity) qc∧(sOwn 22 (sOwn 2 (sInt .i64))).rep w.heap [v369] (y358.Shape.Composites) qd∧(sOwn 23 (sOwn 22 (sOwn 2 (sInt .i64)))).rep w.heap [v372] (y358.Covers) qe∧List.Nodup ((qa++(qb++(qc++(qd++qe))))))⟩]) (Z:=[]) hmix rfl (by decide) (by decide +kernel) (fun _ _ _ h=>np_out h) (by decide) rfl (by decide +kernel) (stable_all <| stable_cons stable_val (stable_cons stable_val (stable_cons (stable_pl <| by rintro f F w w' v hC hn ⟨v360,qa,v363,qb,v366,qc,v369,qd,v372,qe,e1_,e2_,ho362,ho365,ho368,ho371,ho374,hnd⟩; exact ⟨v360,qa,v363,qb,v366,qc,v369,qd,v372,qe,e1_,e2_,STy.keep _ ho362 hC (fun b hb=>hn b (by rw [e2_]; simp [hb])),STy.keep _ ho365 hC (fun b hb=>hn b (by rw [e2_]; simp [hb])),STy.keep _ ho368 hC (fun b hb=>hn b (by rw [e2_]; simp [hb])),STy.keep _ ho371 hC (fun b hb=>hn b (by rw [e2_]; simp [hb])),STy.keep _ ho374 hC (fun b hb=>hn b (by rw [e2_]; simp [hb])),hnd⟩) ( stable_nil)))) ?_ ?_
 refine owes_cons ?_ <| owes_cons ?_ <| owes_cons ?_ <| owes_nil
 exact Oh rfl rfl rfl [(6,.pointer (some (⟨ja,0,none⟩)))] qn rfl rfl fun _=>Lg ag34 pr.at rfl rfl
 exact Oh rfl rfl rfl [(1,.pointer (some (⟨b1,0,none⟩)))] qn rfl rfl fun _=>Lg ag28 hr4.at rfl rfl
 refine Owes.mem rfl rfl rfl <| fun g r wr hCr H hot=>?_
 have hC:=qn.trans hCr
 obtain ⟨F,rfl⟩:=fr (r:=r) (l:=[(42,.agg #[.int .i64 (x0.Shape.Objects),zk,zl,zm,zn,ze])]) ⟨(H 1 (by decide +kernel) 42 rfl),trivial⟩
 exact OpW.callV (op_callF Tryz.func17 rfl rfl) (laws_toTopology_calls (kp _ zu (hB.trans hC)) (kp _ zv (hB.trans hC)) (kp _ zw (hB.trans hC)) (kp _ zx (hB.trans hC)) (kp _ zj (hB.trans hC)) p2f) fun e w' ⟨v360,qa,v363,qb,v366,qc,v369,qd,v372,qe,he,hC',j0,j1,j2,j3,j4,d0_1,d0_2,d0_3,d0_4,d1_2,d1_3,d1_4,d2_3,d2_4,d3_4⟩=>⟨_,he,hC',(qa++(qb++(qc++(qd++qe)))),(fun b hb=>(List.mem_append.1 hb).elim (fun hb=>⟨ofr j0 b hb,sl _ j0.1 b hb⟩) (fun hb=>(List.mem_append.1 hb).elim (fun hb=>⟨ofr j1 b hb,sl _ j1.1 b hb⟩) (fun hb=>(List.mem_append.1 hb).elim (fun hb=>⟨ofr j2 b hb,sl _ j2.1 b hb⟩) (fun hb=>(List.mem_append.1 hb).elim (fun hb=>⟨ofr j3 b hb,sl _ j3.1 b hb⟩) (fun hb=>⟨ofr j4 b hb,sl _ j4.1 b hb⟩))))),v360,qa,v363,qb,v366,qc,v369,qd,v372,qe,rfl,rfl,j0.1,j1.1,j2.1,j3.1,j4.1,(nodup_app j0.2.1 (nodup_app j1.2.1 (nodup_app j2.2.1 (nodup_app j3.2.1 j4.2.1 d3_4) (dis_appR d2_3 d2_4)) (dis_appR d1_2 (dis_appR d1_3 d1_4))) (dis_appR d0_1 (dis_appR d0_2 (dis_appR d0_3 d0_4))))⟩
 rintro g r jc ⟨p2g,hdone,hot,hfresh,hdis⟩
 obtain ⟨v360,qa,v363,qb,v366,qc,v369,qd,v372,qe,hvo362,hgo362,j0,j1,j2,j3,j4,hno362⟩:=hdone 2 (by decide) (by decide) 43 rfl
 have hfo362:=hfresh 2 (by decide)
 have hdd:=hdis
 obtain ⟨F,rfl⟩:=fw hdone hot [(1,.pointer (some (⟨b1,0,none⟩))),(4,.pointer (some (⟨j9,0,none⟩))),(5,.int .i64 (y54.2)),(6,.pointer (some (⟨ja,0,none⟩))),(7,.pointer (some (⟨j6,0,none⟩))),(8,.int .i64 (y224.2))] [(41,.agg #[.int .i64 (y136.Shape.Objects),v140,v143,v146,v149,v152])] [0] rfl rfl rfl rfl (z:=[(43,.agg #[.int .i64 (y358.Shape.Objects),v360,v363,v366,v369,v372])]) ⟨hvo362,trivial⟩
 have p2h : ∀ b∈qa,jb.heap.size≤b:=fun b hb=>(hfo362 b (show b∈g 2 from (show ∀ b∈qa,b∈g 2 from (fun b hb=>(by rw [hgo362]; simp [hb]))) b hb)).1
 replace j0:OE [] w.heap.size jc (sOwn 2 (sInt .i64)) [v360] (y358.Shape.From) qa:=⟨j0,(List.nodup_append.1 hno362).1,fun b hb=>.inr (Nat.le_trans (hB.trans qn).size (p2h b hb))⟩
 have p2i : ∀ b∈qb,jb.heap.size≤b:=fun b hb=>(hfo362 b (show b∈g 2 from (show ∀ b∈qb,b∈g 2 from (fun b hb=>(by rw [hgo362]; simp [hb]))) b hb)).1
 replace j1:OE [] w.heap.size jc (sOwn 2 (sInt .i64)) [v363] (y358.Shape.To) qb:=⟨j1,(List.nodup_append.1 (List.nodup_append.1 hno362).2.1).1,fun b hb=>.inr (Nat.le_trans (hB.trans qn).size (p2i b hb))⟩
 have p2j : ∀ b∈qc,jb.heap.size≤b:=fun b hb=>(hfo362 b (show b∈g 2 from (show ∀ b∈qc,b∈g 2 from (fun b hb=>(by rw [hgo362]; simp [hb]))) b hb)).1
 replace j2:OE [] w.heap.size jc (sOwn 2 (sInt .i64)) [v366] (y358.Shape.Identity) qc:=⟨j2,(List.nodup_append.1 (List.nodup_append.1 (List.nodup_append.1 hno362).2.1).2.1).1,fun b hb=>.inr (Nat.le_trans (hB.trans qn).size (p2j b hb))⟩
 have p2k : ∀ b∈qd,jb.heap.size≤b:=fun b hb=>(hfo362 b (show b∈g 2 from (show ∀ b∈qd,b∈g 2 from (fun b hb=>(by rw [hgo362]; simp [hb]))) b hb)).1
 replace j3:OE [] w.heap.size jc (sOwn 22 (sOwn 2 (sInt .i64))) [v369] (y358.Shape.Composites) qd:=⟨j3,(List.nodup_append.1 (List.nodup_append.1 (List.nodup_append.1 (List.nodup_append.1 hno362).2.1).2.1).2.1).1,fun b hb=>.inr (Nat.le_trans (hB.trans qn).size (p2k b hb))⟩
 have p2l : ∀ b∈qe,jb.heap.size≤b:=fun b hb=>(hfo362 b (show b∈g 2 from (show ∀ b∈qe,b∈g 2 from (fun b hb=>(by rw [hgo362]; simp [hb]))) b hb)).1
 replace j4:OE [] w.heap.size jc (sOwn 23 (sOwn 22 (sOwn 2 (sInt .i64)))) [v372] (y358.Covers) qe:=⟨j4,(List.nodup_append.1 (List.nodup_append.1 (List.nodup_append.1 (List.nodup_append.1 hno362).2.1).2.1).2.1).2.1,fun b hb=>.inr (Nat.le_trans (hB.trans qn).size (p2l b hb))⟩
 have pk:=(qn.trans p2g)
 replace hr4:=kr hr4 pk
 replace p0:=ko p0 pk
 replace p1:=ko p1 pk
 replace p2:=ko p2 pk
 replace p3:=ko p3 pk
 replace p4:=ko p4 pk
 replace p5:=kr p5 pk
 replace p6:=ko p6 pk
 replace p7:=ko p7 pk
 replace p8:=ko p8 pk
 replace p9:=ko p9 pk
 replace pa:=ko pa pk
 replace pr:=kr pr pk
 replace pb:=ko pb pk
 replace pc:=ko pc pk
 replace pd:=ko pd pk
 replace pe:=ko pe pk
 replace pf:=ko pf pk
 replace pg:=kr pg pk
 replace hB:=(hB.trans pk)
 obtain ⟨y478,p2m,ho⟩:=bs ho
 refine WL.call rfl (op_callF Tryz.func19 rfl rfl) (laws_eqTopology_calls ((Le.own (Le.refl _) 2).le p6.1) ((Le.own (Le.refl _) 2).le p7.1) ((Le.own (Le.refl _) 2).le p8.1) ((Le.own (Le.own (Le.refl _) 2) 22).le p9.1) ((Le.own (Le.own (Le.own (Le.refl _) 2) 22) 23).le pa.1) ((Le.own (Le.refl _) 2).le j0.1) ((Le.own (Le.refl _) 2).le j1.1) ((Le.own (Le.refl _) 2).le j2.1) ((Le.own (Le.own (Le.refl _) 2) 22).le j3.1) ((Le.own (Le.own (Le.own (Le.refl _) 2) 22) 23).le j4.1) p2m) <| ?_
 rintro _ p53 ⟨rfl,k9⟩
 refine ⟨_,rfl,?_⟩
 refine Wb (Nt rfl) <| anz <| W_cond (b:=!(y478)) rfl ?_ ?_
 intro ji
 rw [ji] at ho
 refine wq <| Wq rfl k9 <| Qa (Ab rfl) <| fun p54 p2n=>anz <| ?_
 cases ho
 exact W_ret ⟨_,res_1 Tryz.results7,rfl,(hB.trans p2n)⟩
 intro ji
 rw [ji] at ho
 refine W_skip <| anz <| wq <| Wq rfl k9 <| Qa (Ai rfl) <| fun j7 ka=>anz <| wq <| W_region rfl <| Wa ka (Lg ag34 pr.at rfl rfl) <| Wb (Mi rfl) <| ?_
 have pm:=ka.trans (cr [] j7)
 replace hr4:=kr hr4 pm
 replace p0:=ko p0 pm
 replace p1:=ko p1 pm
 replace p2:=ko p2 pm
 replace p3:=ko p3 pm
 replace p4:=ko p4 pm
 replace p5:=kr p5 pm
 replace p6:=ko p6 pm
 replace p7:=ko p7 pm
 replace p8:=ko p8 pm
 replace p9:=ko p9 pm
 replace pa:=ko pa pm
 replace pr:=kr pr pm
 replace pb:=ko pb pm
 replace pc:=ko pc pm
 replace pd:=ko pd pm
 replace pe:=ko pe pm
 replace pf:=ko pf pm
 replace pg:=kr pg pm
 replace hB:=(hB.trans pm)
 obtain ⟨y488,p2o,ho⟩:=bs ho
 refine WL.call rfl (op_callF Tryz.func24 rfl rfl) (laws_markTopology_calls (OE.give (B':=j7.heap.size) p6 fun _ h=>h) (OE.give (B':=j7.heap.size) p7 fun _ h=>h) (OE.give (B':=j7.heap.size) p8 fun _ h=>h) (OE.give (B':=j7.heap.size) p9 fun _ h=>h) (OE.give (B':=j7.heap.size) pa fun _ h=>h) ng nh ni nj nk nl nm nn no np p2o) <| ?_
 rintro _ p2p ⟨p55,p56,p57,p58,p59,rfl,p2q,kb,kc,kd,ke,kf,p5a,p5b,p5c,p5d,p5e,p5f,p5g,p5h,p5i,p5j⟩
 refine ⟨_,rfl,?_⟩
 replace kb:=OE.back kb (low_app p6.2.2 (low_app p7.2.2 (low_app p8.2.2 (low_app p9.2.2 pa.2.2)))) hB.size
 replace kc:=OE.back kc (low_app p6.2.2 (low_app p7.2.2 (low_app p8.2.2 (low_app p9.2.2 pa.2.2)))) hB.size
 replace kd:=OE.back kd (low_app p6.2.2 (low_app p7.2.2 (low_app p8.2.2 (low_app p9.2.2 pa.2.2)))) hB.size
 replace ke:=OE.back ke (low_app p6.2.2 (low_app p7.2.2 (low_app p8.2.2 (low_app p9.2.2 pa.2.2)))) hB.size
 replace kf:=OE.back kf (low_app p6.2.2 (low_app p7.2.2 (low_app p8.2.2 (low_app p9.2.2 pa.2.2)))) hB.size
 have ps:=((cr [] j7).nil (G:=(nb++(nc++(nd++(ne++nf)))))).trans p2q
 replace hr4:=Row.keep hr4 ps ((Dis.symm (da nq (da nx (da g4 (da gb gi))))) _ (ms rfl))
 replace p0:=okp p0 ps (Dis.symm (da nr (da ny (da g5 (da gc gj)))))
 replace p1:=okp p1 ps (Dis.symm (da ns (da nz (da g6 (da gd gk)))))
 replace p2:=okp p2 ps (Dis.symm (da nt (da g0 (da g7 (da ge gl)))))
 replace p3:=okp p3 ps (Dis.symm (da nu (da g1 (da g8 (da gf gm)))))
 replace p4:=okp p4 ps (Dis.symm (da nv (da g2 (da g9 (da gg gn)))))
 replace p5:=Row.keep p5 ps ((Dis.symm (da nw (da g3 (da ga (da gh go))))) _ (ms rfl))
 replace pr:=Row.keep pr ps ((Dis.symm (da (jt).symm (da (ju).symm (da (jv).symm (da (jw).symm (jx).symm))))) _ (ms rfl))
 replace pb:=okp pb ps (Dis.symm (da (p0m).symm (da (p0n).symm (da (p0o).symm (da (p0p).symm (p0q).symm)))))
 replace pc:=okp pc ps (Dis.symm (da (p0y).symm (da (p0z).symm (da (p10).symm (da (p11).symm (p12).symm)))))
 replace pd:=okp pd ps (Dis.symm (da (p1a).symm (da (p1b).symm (da (p1c).symm (da (p1d).symm (p1e).symm)))))
 replace pe:=okp pe ps (Dis.symm (da (p1m).symm (da (p1n).symm (da (p1o).symm (da (p1p).symm (p1q).symm)))))
 replace pf:=okp pf ps (Dis.symm (da (p1y).symm (da (p1z).symm (da (p20).symm (da (p21).symm (p22).symm)))))
 replace pg:=Row.keep pg ps ((Dis.symm (da (jy).symm (da (jz).symm (da (k0).symm (da (k1).symm (k2).symm))))) _ (ms rfl))
 replace hB:=hB.then ps (low_app p6.2.2 (low_app p7.2.2 (low_app p8.2.2 (low_app p9.2.2 pa.2.2))))
 refine Wb (Ai rfl) <| anz <| wq <| wq <| Wq rfl (cr [] p2p) <| ?_
 obtain ⟨g583,hm584,ho⟩:=bs ho
 refine QL.meet (fun r=>∃ F,r=updL F [(1,.pointer (some (⟨b1,0,none⟩))),(4,.pointer (some (⟨j9,0,none⟩))),(5,.int .i64 (y54.2)),(7,.pointer (some (⟨j6,0,none⟩))),(61,.bool (g583))]) ?_ ?_
 skip
 refine Qa (Mi rfl) <| Qa (Bl rfl rfl) <| Qa (Mb rfl) <| ?_
 rcases Bool.eq_false_or_eq_true (decide (y488.1 < (0:Int))) with q0 | q0
 rw [q0] at hm584
 refine Sk rfl q0 rfl <| Sk rfl q0 rfl <| Sk rfl q0 rfl <| Sk rfl q0 rfl <| Qa (PTb rfl q0 rfl) <| Qa (Mb rfl) <| Sk rfl rfl rfl <| Sk rfl rfl rfl <| Sk rfl rfl rfl <| Qa (PTb rfl rfl rfl) <| ?_
 cases hm584
 exact fe rfl
 rw [q0] at hm584
 refine Qg rfl q0 (Lg ag34 pg.at rfl rfl) <| Qg rfl q0 (Lg ag34 p5.at rfl rfl) <| ?_
 obtain ⟨y586,p2r,hm584⟩:=bs hm584
 refine Qcg rfl q0 Tryz.func19 rfl rfl (fun _ hC=>laws_eqTopology_calls ((Le.own (Le.refl _) 2).le (kp _ pb.1 hC)) ((Le.own (Le.refl _) 2).le (kp _ pc.1 hC)) ((Le.own (Le.refl _) 2).le (kp _ pd.1 hC)) ((Le.own (Le.own (Le.refl _) 2) 22).le (kp _ pe.1 hC)) ((Le.own (Le.own (Le.own (Le.refl _) 2) 22) 23).le (kp _ pf.1 hC)) ((Le.own (Le.refl _) 2).le (kp _ p0.1 hC)) ((Le.own (Le.refl _) 2).le (kp _ p1.1 hC)) ((Le.own (Le.refl _) 2).le (kp _ p2.1 hC)) ((Le.own (Le.own (Le.refl _) 2) 22).le (kp _ p3.1 hC)) ((Le.own (Le.own (Le.own (Le.refl _) 2) 22) 23).le (kp _ p4.1 hC)) p2r) <| Qg rfl q0 (Nt rfl) <| Qa (PFb rfl q0 rfl) <| Qa (Mb rfl) <| ?_
 rcases Bool.eq_false_or_eq_true (!(y586)) with qg | qg
 rw [qg] at hm584
 refine Sk rfl qg rfl <| Sk rfl qg rfl <| Sk rfl qg rfl <| Qa (PTb rfl qg rfl) <| ?_
 cases hm584
 exact fe rfl
 rw [qg] at hm584
 refine Qg rfl qg (Mi rfl) <| Qg rfl qg (Mi rfl) <| Qg rfl qg (Bn rfl rfl) <| Qa (PFb rfl qg rfl) <| ?_
 cases hm584
 exact fe rfl
 rintro _ ⟨F,rfl⟩
 refine fun p5k kg=>anz <| W_cond (b:=g583) rfl ?_ ?_
 intro jj
 rw [jj] at ho
 refine wq <| Wq rfl kg <| Qa (Ab rfl) <| fun p5l p2s=>anz <| ?_
 cases ho
 exact W_ret ⟨_,res_1 Tryz.results7,rfl,(hB.trans p2s)⟩
 intro jj
 rw [jj] at ho
 refine W_skip <| anz <| wq <| Wq rfl kg <| Qa (Ai rfl) <| fun j8 kh=>anz <| wq <| W_region rfl <| Wa kh (Lg ag34 pg.at rfl rfl) <| Wb (Mi rfl) <| ?_
 have pu:=kh.trans (cr [] j8)
 replace hr4:=kr hr4 pu
 replace p0:=ko p0 pu
 replace p1:=ko p1 pu
 replace p2:=ko p2 pu
 replace p3:=ko p3 pu
 replace p4:=ko p4 pu
 replace p5:=kr p5 pu
 replace pb:=ko pb pu
 replace pc:=ko pc pu
 replace pd:=ko pd pu
 replace pe:=ko pe pu
 replace pf:=ko pf pu
 replace pg:=kr pg pu
 replace hB:=(hB.trans pu)
 obtain ⟨y597,p2t,ho⟩:=bs ho
 refine WL.call rfl (op_callF Tryz.func24 rfl rfl) (laws_markTopology_calls (OE.give (B':=j8.heap.size) pb fun _ h=>h) (OE.give (B':=j8.heap.size) pc fun _ h=>h) (OE.give (B':=j8.heap.size) pd fun _ h=>h) (OE.give (B':=j8.heap.size) pe fun _ h=>h) (OE.give (B':=j8.heap.size) pf fun _ h=>h) p05 p06 p07 p08 p09 p0a p0b p0c p0d p0e p2t) <| ?_
 rintro _ p2u ⟨p5m,p5n,p5o,p5p,p5q,rfl,p2v,q1,q2,q3,q4,q5,p5r,p5s,p5t,p5u,p5v,p5w,p5x,p5y,p5z,p60⟩
 refine ⟨_,rfl,?_⟩
 replace q1:=OE.back q1 (low_app pb.2.2 (low_app pc.2.2 (low_app pd.2.2 (low_app pe.2.2 pf.2.2)))) hB.size
 replace q2:=OE.back q2 (low_app pb.2.2 (low_app pc.2.2 (low_app pd.2.2 (low_app pe.2.2 pf.2.2)))) hB.size
 replace q3:=OE.back q3 (low_app pb.2.2 (low_app pc.2.2 (low_app pd.2.2 (low_app pe.2.2 pf.2.2)))) hB.size
 replace q4:=OE.back q4 (low_app pb.2.2 (low_app pc.2.2 (low_app pd.2.2 (low_app pe.2.2 pf.2.2)))) hB.size
 replace q5:=OE.back q5 (low_app pb.2.2 (low_app pc.2.2 (low_app pd.2.2 (low_app pe.2.2 pf.2.2)))) hB.size
 have qt:=((cr [] j8).nil (G:=(p00++(p01++(p02++(p03++p04)))))).trans p2v
 replace hr4:=Row.keep hr4 qt ((Dis.symm (da p0f (da p0r (da p13 (da p1f p1r))))) _ (ms rfl))
 replace p0:=okp p0 qt (Dis.symm (da p0g (da p0s (da p14 (da p1g p1s)))))
 replace p1:=okp p1 qt (Dis.symm (da p0h (da p0t (da p15 (da p1h p1t)))))
 replace p2:=okp p2 qt (Dis.symm (da p0i (da p0u (da p16 (da p1i p1u)))))
 replace p3:=okp p3 qt (Dis.symm (da p0j (da p0v (da p17 (da p1j p1v)))))
 replace p4:=okp p4 qt (Dis.symm (da p0k (da p0w (da p18 (da p1k p1w)))))
 replace p5:=Row.keep p5 qt ((Dis.symm (da p0l (da p0x (da p19 (da p1l p1x))))) _ (ms rfl))
 replace pg:=Row.keep pg qt ((Dis.symm (da (k3).symm (da (k4).symm (da (k5).symm (da (k6).symm (k7).symm))))) _ (ms rfl))
 replace hB:=hB.then qt (low_app pb.2.2 (low_app pc.2.2 (low_app pd.2.2 (low_app pe.2.2 pf.2.2))))
 refine Wb (Ai rfl) <| anz <| wq <| Wq rfl (cr [] p2u) <| Qa (Ai rfl) <| fun p61 p2w=>anz <| wq <| Wq rfl p2w <| Qa (Lg ag34 pg.at rfl rfl) <| Qa (Mi rfl) <| ?_
 obtain ⟨y664,p2x,ho⟩:=bs ho
 refine Qc Tryz.func36 rfl rfl (fun _ hC=>laws_heldTopology_calls (x0:=(MTopology.mk (MCategory.mk y224.1.Shape.Objects y597.2.1 y597.2.2.1 y597.2.2.2.1 y597.2.2.2.2.1) y597.2.2.2.2.2)) ((Le.own (Le.refl _) 2).le (kp _ q1.1 hC)) ((Le.own (Le.refl _) 2).le (kp _ q2.1 hC)) ((Le.own (Le.refl _) 2).le (kp _ q3.1 hC)) ((Le.own (Le.own (Le.refl _) 2) 22).le (kp _ q4.1 hC)) ((Le.own (Le.own (Le.own (Le.refl _) 2) 22) 23).le (kp _ q5.1 hC)) p2x) <| Qa (Ai rfl) <| fun p62 p2y=>anz <| wq <| wq <| Wq rfl p2y <| Qa (Mi rfl) <| Qa (Bl rfl rfl) <| fun p63 ki=>anz <| W_cond (b:=decide (y664 < (0:Int))) rfl ?_ ?_
 intro jk
 rw [jk] at ho
 refine wq <| Wq rfl ki <| Qa (Ab rfl) <| fun p64 p2z=>anz <| ?_
 cases ho
 exact W_ret ⟨_,res_1 Tryz.results7,rfl,(hB.trans p2z)⟩
 intro jk
 rw [jk] at ho
 refine W_skip <| anz <| wq <| wq <| Wq rfl ki <| Qa (Mi rfl) <| Qa (Mi rfl) <| Qa (Bn rfl rfl) <| fun p65 q6=>anz <| W_cond (b:=(y664) != (y597.1)) rfl ?_ ?_
 intro jl
 rw [jl] at ho
 refine wq <| Wq rfl q6 <| Qa (Ab rfl) <| fun p66 p30=>anz <| ?_
 cases ho
 exact W_ret ⟨_,res_1 Tryz.results7,rfl,(hB.trans p30)⟩
 intro jl
 rw [jl] at ho
 refine W_skip <| anz <| wq <| W_region rfl <| Wa q6 (Lg ag28 hr4.at rfl rfl) <| ?_
 obtain ⟨y678,p31,ho⟩:=bs ho
 refine WL.call rfl (op_callF Tryz.func17 rfl rfl) (laws_toTopology_calls (kp _ zu (hB.trans q6)) (kp _ zv (hB.trans q6)) (kp _ zw (hB.trans q6)) (kp _ zx (hB.trans q6)) (kp _ zj (hB.trans q6)) p31) <| ?_
 rintro _ p67 ⟨v682,p68,v685,p69,v688,p6a,v691,p6b,v694,p6c,rfl,p32,qo,qp,qq,qr,qs,p6d,p6e,p6f,p6g,p6h,p6i,p6j,p6k,p6l,p6m⟩
 refine ⟨_,rfl,?_⟩
 replace qo:=OE.low (G:=[]) qo (hB.trans q6).size
 replace qp:=OE.low (G:=[]) qp (hB.trans q6).size
 replace qq:=OE.low (G:=[]) qq (hB.trans q6).size
 replace qr:=OE.low (G:=[]) qr (hB.trans q6).size
 replace qs:=OE.low (G:=[]) qs (hB.trans q6).size
 have pv:=q6.trans p32
 replace hr4:=kr hr4 pv
 replace p0:=ko p0 pv
 replace p1:=ko p1 pv
 replace p2:=ko p2 pv
 replace p3:=ko p3 pv
 replace p4:=ko p4 pv
 replace p5:=kr p5 pv
 replace pg:=kr pg pv
 replace q1:=ko q1 pv
 replace q2:=ko q2 pv
 replace q3:=ko q3 pv
 replace q4:=ko q4 pv
 replace q5:=ko q5 pv
 replace hB:=(hB.trans pv)
 obtain ⟨y773,p33,ho⟩:=bs ho
 refine WL.call rfl (op_callF Tryz.func35 rfl rfl) (impl_GeneratedTopology_calls ((Le.own (Le.refl _) 2).le qo.1) ((Le.own (Le.refl _) 2).le qp.1) ((Le.own (Le.refl _) 2).le qq.1) ((Le.own (Le.own (Le.refl _) 2) 22).le qr.1) ((Le.own (Le.own (Le.own (Le.refl _) 2) 22) 23).le qs.1) p33) <| ?_
 rintro _ p6n ⟨v777,p6o,v780,p6p,v783,p6q,v786,p6r,v789,p6s,rfl,pq,qu,qv,qw,qx,qy,p6t,p6u,p6v,p6w,p6x,p6y,p6z,p70,p71,p72⟩
 refine ⟨_,rfl,?_⟩
 replace qu:=OE.low (G:=[]) qu hB.size
 replace qv:=OE.low (G:=[]) qv hB.size
 replace qw:=OE.low (G:=[]) qw hB.size
 replace qx:=OE.low (G:=[]) qx hB.size
 replace qy:=OE.low (G:=[]) qy hB.size
 replace hr4:=kr hr4 pq
 replace p0:=ko p0 pq
 replace p1:=ko p1 pq
 replace p2:=ko p2 pq
 replace p3:=ko p3 pq
 replace p4:=ko p4 pq
 replace p5:=kr p5 pq
 replace pg:=kr pg pq
 replace q1:=ko q1 pq
 replace q2:=ko q2 pq
 replace q3:=ko q3 pq
 replace q4:=ko q4 pq
 replace q5:=ko q5 pq
 replace qo:=ko qo pq
 replace qp:=ko qp pq
 replace qq:=ko qq pq
 replace qr:=ko qr pq
 replace qs:=ko qs pq
 replace hB:=(hB.trans pq)
 refine Wb (Mt rfl) <| Wb (Ex (.agg #[.int .i64 (y773.1.Shape.Objects),v777,v780,v783,v786,v789]) rfl rfl) <| Wb (Exi rfl rfl) <| WL.alloc info34 zr34 fun jm p34 ph jn pi=>?_
 replace jn:Row p34 jm [.int .i64 ((0:Int)),.slice none 0 0,.slice none 0 0,.slice none 0 0,.slice none 0 0,.slice none 0 0] 34:=jn
 have p35:w.heap.size≤jm:=Nat.le_trans hB.size pi
 have p36:=dl (onw pi) (one_lt (Row.lt hr4))
 have p37:=dl (onw pi) (sl _ p0.1)
 have p38:=dl (onw pi) (sl _ p1.1)
 have p39:=dl (onw pi) (sl _ p2.1)
 have p3a:=dl (onw pi) (sl _ p3.1)
 have p3b:=dl (onw pi) (sl _ p4.1)
 have p3c:=dl (onw pi) (one_lt (Row.lt p5))
 have p3d:=dl (onw pi) (one_lt (Row.lt pg))
 have p3e:=dl (onw pi) (sl _ q1.1)
 have p3f:=dl (onw pi) (sl _ q2.1)
 have p3g:=dl (onw pi) (sl _ q3.1)
 have p3h:=dl (onw pi) (sl _ q4.1)
 have p3i:=dl (onw pi) (sl _ q5.1)
 have p3j:=dl (onw pi) (sl _ qo.1)
 have p3k:=dl (onw pi) (sl _ qp.1)
 have p3l:=dl (onw pi) (sl _ qq.1)
 have p3m:=dl (onw pi) (sl _ qr.1)
 have p3n:=dl (onw pi) (sl _ qs.1)
 have p3o:=dl (onw pi) (sl _ qu.1)
 have p3p:=dl (onw pi) (sl _ qv.1)
 have p3q:=dl (onw pi) (sl _ qw.1)
 have p3r:=dl (onw pi) (sl _ qx.1)
 have p3s:=dl (onw pi) (sl _ qy.1)
 replace hr4:=kr hr4 ph
 replace p0:=ko p0 ph
 replace p1:=ko p1 ph
 replace p2:=ko p2 ph
 replace p3:=ko p3 ph
 replace p4:=ko p4 ph
 replace p5:=kr p5 ph
 replace pg:=kr pg ph
 replace q1:=ko q1 ph
 replace q2:=ko q2 ph
 replace q3:=ko q3 ph
 replace q4:=ko q4 ph
 replace q5:=ko q5 ph
 replace qo:=ko qo ph
 replace qp:=ko qp ph
 replace qq:=ko qq ph
 replace qr:=ko qr ph
 replace qs:=ko qs ph
 replace qu:=ko qu ph
 replace qv:=ko qv ph
 replace qw:=ko qw ph
 replace qx:=ko qx ph
 replace qy:=ko qy ph
 replace hB:=(hB.trans ph)
 refine WL.storeAll (us:=[.int .i64 (y773.1.Shape.Objects),v777,v780,v783,v786,v789]) info34 (by rw [sz34]; rfl) jn rfl rfl rfl (by intro u hu; simp only [List.mem_cons,List.mem_nil_iff,or_false] at hu; rcases hu with rfl | rfl | rfl | rfl | rfl | rfl <;> first | exact rfl | exact (STy.one _ qu.1 _ (ms rfl)) | exact (STy.one _ qv.1 _ (ms rfl)) | exact (STy.one _ qw.1 _ (ms rfl)) | exact (STy.one _ qx.1 _ (ms rfl)) | exact (STy.one _ qy.1 _ (ms rfl))) fun kj pj jo=>?_
 replace jo:Row kj jm [.int .i64 (y773.1.Shape.Objects),v777,v780,v783,v786,v789] 34:=jo
 replace hr4:=Row.keep hr4 pj ((p36).symm _ (ms rfl))
 replace p0:=okp p0 pj (p37).symm
 replace p1:=okp p1 pj (p38).symm
 replace p2:=okp p2 pj (p39).symm
 replace p3:=okp p3 pj (p3a).symm
 replace p4:=okp p4 pj (p3b).symm
 replace p5:=Row.keep p5 pj ((p3c).symm _ (ms rfl))
 replace pg:=Row.keep pg pj ((p3d).symm _ (ms rfl))
 replace q1:=okp q1 pj (p3e).symm
 replace q2:=okp q2 pj (p3f).symm
 replace q3:=okp q3 pj (p3g).symm
 replace q4:=okp q4 pj (p3h).symm
 replace q5:=okp q5 pj (p3i).symm
 replace qo:=okp qo pj (p3j).symm
 replace qp:=okp qp pj (p3k).symm
 replace qq:=okp qq pj (p3l).symm
 replace qr:=okp qr pj (p3m).symm
 replace qs:=okp qs pj (p3n).symm
 replace qu:=okp qu pj (p3o).symm
 replace qv:=okp qv pj (p3p).symm
 replace qw:=okp qw pj (p3q).symm
 replace qx:=okp qx pj (p3r).symm
 replace qy:=okp qy pj (p3s).symm
 replace hB:=hB.then pj (one_then p35)
 refine Wb (Ai rfl) <| anz <| wq <| wq <| Wq rfl (cr [] kj) <| ?_
 obtain ⟨g927,hm928,ho⟩:=bs ho
 refine QL.meet (fun r=>∃ F,r=updL F [(7,.pointer (some (⟨j6,0,none⟩))),(10,.int .i64 (y597.1)),(87,.bool (g927))]) ?_ ?_
 skip
 refine Qa (Lg ag34 jo.at rfl rfl) <| Qa (Lg ag34 p5.at rfl rfl) <| ?_
 obtain ⟨y929,p3t,hm928⟩:=bs hm928
 refine Qc Tryz.func19 rfl rfl (fun _ hC=>laws_eqTopology_calls ((Le.own (Le.refl _) 2).le (kp _ qu.1 hC)) ((Le.own (Le.refl _) 2).le (kp _ qv.1 hC)) ((Le.own (Le.refl _) 2).le (kp _ qw.1 hC)) ((Le.own (Le.own (Le.refl _) 2) 22).le (kp _ qx.1 hC)) ((Le.own (Le.own (Le.own (Le.refl _) 2) 22) 23).le (kp _ qy.1 hC)) ((Le.own (Le.refl _) 2).le (kp _ p0.1 hC)) ((Le.own (Le.refl _) 2).le (kp _ p1.1 hC)) ((Le.own (Le.refl _) 2).le (kp _ p2.1 hC)) ((Le.own (Le.own (Le.refl _) 2) 22).le (kp _ p3.1 hC)) ((Le.own (Le.own (Le.own (Le.refl _) 2) 22) 23).le (kp _ p4.1 hC)) p3t) <| Qa (Nt rfl) <| Qa (Mb rfl) <| ?_
 rcases Bool.eq_false_or_eq_true (!(y929)) with qh | qh
 rw [qh] at hm928
 refine Sk rfl qh rfl <| Sk rfl qh rfl <| Sk rfl qh rfl <| Qa (PTb rfl qh rfl) <| ?_
 cases hm928
 exact fe rfl
 rw [qh] at hm928
 refine Qg rfl qh (Mi rfl) <| Qg rfl qh (Mi rfl) <| Qg rfl qh (Bn rfl rfl) <| Qa (PFb rfl qh rfl) <| ?_
 cases hm928
 exact fe rfl
 rintro _ ⟨F,rfl⟩
 refine fun p73 kk=>anz <| W_cond (b:=g927) rfl ?_ ?_
 intro jp
 rw [jp] at ho
 refine wq <| Wq rfl kk <| Qa (Ab rfl) <| fun p74 p3u=>anz <| ?_
 cases ho
 exact W_ret ⟨_,res_1 Tryz.results7,rfl,(hB.trans p3u)⟩
 intro jp
 rw [jp] at ho
 refine W_skip <| anz <| wq <| Wq rfl kk <| Qa (Ai rfl) <| fun p75 p3v=>anz <| wq <| Wq rfl p3v <| Qa (Lg ag34 pg.at rfl rfl) <| Qa (Mi rfl) <| ?_
 obtain ⟨y939,p3w,ho⟩:=bs ho
 refine Qc Tryz.func36 rfl rfl (fun _ hC=>laws_heldTopology_calls (x0:=(MTopology.mk (MCategory.mk y224.1.Shape.Objects y597.2.1 y597.2.2.1 y597.2.2.2.1 y597.2.2.2.2.1) y597.2.2.2.2.2)) ((Le.own (Le.refl _) 2).le (kp _ q1.1 hC)) ((Le.own (Le.refl _) 2).le (kp _ q2.1 hC)) ((Le.own (Le.refl _) 2).le (kp _ q3.1 hC)) ((Le.own (Le.own (Le.refl _) 2) 22).le (kp _ q4.1 hC)) ((Le.own (Le.own (Le.own (Le.refl _) 2) 22) 23).le (kp _ q5.1 hC)) p3w) <| Qa (Ai rfl) <| fun p76 p3x=>anz <| wq <| wq <| Wq rfl p3x <| Qa (Mi rfl) <| Qa (Bl rfl rfl) <| fun p77 kl=>anz <| W_cond (b:=decide (y939 < (0:Int))) rfl ?_ ?_
 intro jq
 rw [jq] at ho
 refine wq <| Wq rfl kl <| Qa (Ab rfl) <| fun p78 p3y=>anz <| ?_
 cases ho
 exact W_ret ⟨_,res_1 Tryz.results7,rfl,(hB.trans p3y)⟩
 intro jq
 rw [jq] at ho
 refine W_skip <| anz <| wq <| wq <| Wq rfl kl <| Qa (Mi rfl) <| Qa (Mi rfl) <| Qa (Bn rfl rfl) <| fun p79 km=>anz <| W_cond (b:=(y939) != (y597.1)) rfl ?_ ?_
 intro jr
 rw [jr] at ho
 refine wq <| Wq rfl km <| Qa (Ab rfl) <| fun p7a p3z=>anz <| ?_
 cases ho
 exact W_ret ⟨_,res_1 Tryz.results7,rfl,(hB.trans p3z)⟩
 intro jr
 rw [jr] at ho
 refine W_skip <| anz <| wq <| Wq rfl km <| Qa (Ab rfl) <| fun p7b p40=>anz <| ?_
 cases ho
 exact W_ret ⟨_,res_1 Tryz.results7,rfl,(hB.trans p40)⟩
end Go.Proofs.YtcmckiiafgcmjaaGreat
