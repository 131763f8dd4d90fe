/- Walks, printed by a program: what each function computes (a model on plain data), and that a call computes it. No condition beside those that each theorem names. -/
import Derived.Test.YtfbijbginbjecaaGreatTy
import Derived.Test.YtfbijbginbjecaaGreatZ00
import Derived.Test.YtfbijbginbjecaaGreatZ06
import Derived.Test.YtfbijbginbjecaaGreatZ07
import Derived.Test.YtfbijbginbjecaaGreatZ10
namespace Go.Proofs.YtfbijbginbjecaaGreat
open Go Go.Li
set_option linter.unusedVariables false
set_option maxHeartbeats 4000000
set_option maxRecDepth 100000
noncomputable def laws_FnExactDenseTopology (x0:MCategory):Option (Bool):=
 retM (S:=Unit) ((laws_szCategory x0 ((1048576:Int)))>>=fun y10=>(bif decide (y10 < (0:Int)) then (some (Out.ret (true))) else ((laws_toCategory x0)>>=fun y19=>((spec_DenseTopology y19)>>=fun y46=>((laws_toCategory x0)>>=fun y122=>((impl_DenseTopology y122)>>=fun y215=>((((laws_eqTopology y215.1 y46.1)>>=fun y359=>(bif !(y359) then (some (true)) else (some ((y215.2) != (y46.2))))))>>=fun g357=>(bif g357 then (some (Out.ret (false))) else ((laws_toCategory x0)>>=fun y367=>((laws_eqCategory y122 y367)>>=fun y476=>(bif !(y476) then (some (Out.ret (false))) else ((laws_markCategory y122 ((1:Int)))>>=fun y486=>(((bif decide (y486.1 < (0:Int)) then (some (true)) else ((laws_eqTopology y215.1 y46.1)>>=fun y596=>(bif !(y596) then (some (true)) else (some ((y215.2) != (y46.2)))))))>>=fun g593=>(bif g593 then (some (Out.ret (false))) else ((laws_markTopology y215.1 ((1:Int)))>>=fun y607=>((laws_heldTopology (MTopology.mk (MCategory.mk y215.1.Shape.Objects y607.2.1 y607.2.2.1 y607.2.2.2.1 y607.2.2.2.2.1) y607.2.2.2.2.2) ((1:Int)))>>=fun y739=>(bif decide (y739 < (0:Int)) then (some (Out.ret (false))) else (bif (y739) != (y607.1) then (some (Out.ret (false))) else ((laws_toCategory x0)>>=fun y753=>((impl_DenseTopology y753)>>=fun y880=>((((laws_eqTopology y880.1 y46.1)>>=fun y1108=>(bif !(y1108) then (some (true)) else (some ((y880.2) != (y46.2))))))>>=fun g1106=>(bif g1106 then (some (Out.ret (false))) else ((laws_heldTopology (MTopology.mk (MCategory.mk y215.1.Shape.Objects y607.2.1 y607.2.2.1 y607.2.2.2.1 y607.2.2.2.2.1) y607.2.2.2.2.2) ((1:Int)))>>=fun y1118=>(bif decide (y1118 < (0:Int)) then (some (Out.ret (false))) else (bif (y1118) != (y607.1) then (some (Out.ret (false))) else (some (Out.ret (true))))))))))))))))))))))))))))
abbrev laws_FnExactDenseTopology_post (w:World) (x:(Bool)) (e:Ending) (w':World):Prop:=e = .returned (.bool x)∧Chg [] w w'
abbrev laws_FnExactDenseTopology_T (w:World) (x:(Bool)) (r:Nat→Value) (w':World):Prop:=∃ v,(∀ a:Act,a.tmps.size=96→rho a=r→(results Tryz.f5 a.tmps).run Tryz.prog w' = .ok v w')∧laws_FnExactDenseTopology_post w x (.returned v) w'
theorem laws_FnExactDenseTopology_calls {w:World} {x0:MCategory} {z6:Value} {zh:List Nat} {z7:Value} {zg:List Nat} {z9:Value} {zf:List Nat} {z8:Value} {ze:List Nat} (za:(sImm (sInt .i64)).rep w.heap [z6] x0.From zh) (zb:(sImm (sInt .i64)).rep w.heap [z7] x0.To zg) (zd:(sImm (sInt .i64)).rep w.heap [z9] x0.Identity zf) (zc:(sImm (sImm (sInt .i64))).rep w.heap [z8] x0.Composites ze) {y:(Bool)} (hm:laws_FnExactDenseTopology x0=some y) :
  Calls Tryz.prog 5 #[.agg #[.int .i64 (x0.Objects),z6,z7,z9,z8]] w (laws_FnExactDenseTopology_post w y):=by
 refine calls_of_M (S:=Unit) (args:=[.agg #[.int .i64 (x0.Objects),z6,z7,z9,z8]]) Tryz.func5 rfl Tryz.ntmps5 (Nat.le_of_ble_eq_true rfl) (retM_some hm) ?_
 clear hm
 intro o ho
 have hB:Chg [] w w:=cr _ _
 refine wq ?_
 refine Ko rfl ?_
 refine WL.box fun b1 wd2 hC3 hr4 hl5=>?_
 replace hr4:Row wd2 b1 [.int .i64 (x0.Objects),z6,z7,z9,z8] 25:=hr4
 have hT7:=(cr [] w).trans hC3
 replace hB:=(hB.trans hT7)
 refine wv (v:=.bool (false)) rfl (oa _) ?_
 refine anz ?_
 refine wq ?_
 refine Wq rfl (cr [] wd2) ?_
 refine qv (v:=.int .i64 ((1048576:Int))) rfl (fun _ _=>oa _) ?_
 intro wd8 hC9
 refine anz ?_
 refine wq ?_
 refine Wq rfl hC9 ?_
 refine qv (v:=.agg #[.int .i64 (x0.Objects),z6,z7,z9,z8]) rfl (fun _ hC=>Kk u25z rfl info25 (by rw [sz25]; rfl) rfl (kr hr4 hC).at) ?_
 refine qv (v:=.int .i64 ((1048576:Int))) rfl (fun _ _=>om _) ?_
 obtain ⟨y10,g7,ho⟩:=bs ho
 refine QL.call (v:=.int .i64 (y10)) rfl (fun _ _=>Ks Tryz.func15 rfl rfl) (fun _ hC=>(laws_szCategory_calls (kp _ za (hB.trans hC)) (kp _ zb (hB.trans hC)) (kp _ zd (hB.trans hC)) (kp _ zc (hB.trans hC)) g7).mono fun _ _ h=>⟨h.1,hC.trans h.2⟩) ?_
 refine qv (v:=.int .i64 (y10)) rfl (fun _ _=>oa _) ?_
 intro p7v g8
 refine anz ?_
 refine wq ?_
 refine wq ?_
 refine Wq rfl g8 ?_
 refine qv (v:=.int .i64 (y10)) rfl (fun _ _=>om _) ?_
 refine qv (v:=.bool (decide (y10 < (0:Int)))) rfl (fun _ _=>Kv rfl rfl bin_lss) ?_
 intro p7w jk
 refine anz ?_
 refine W_cond (b:=decide (y10 < (0:Int))) rfl ?_ ?_
 intro n1
 rw [n1] at ho
 refine wq ?_
 refine Wq rfl jk ?_
 refine qv (v:=.bool (true)) rfl (fun _ _=>oa _) ?_
 intro p7x g9
 refine anz ?_
 cases ho
 exact W_ret ⟨_,res_1 Tryz.results5,rfl,(hB.trans g9)⟩
 intro n1
 rw [n1] at ho
 refine W_skip ?_
 refine anz ?_
 refine wq ?_
 refine Ko rfl ?_
 refine wv (v:=.agg #[.int .i64 (x0.Objects),z6,z7,z9,z8]) rfl (Kk u25z rfl info25 (by rw [sz25]; rfl) rfl (kr hr4 jk).at) ?_
 obtain ⟨y19,ga,ho⟩:=bs ho
 refine Kr rfl (Ks Tryz.func17 rfl rfl) (laws_toCategory_calls (kp _ za (hB.trans jk)) (kp _ zb (hB.trans jk)) (kp _ zd (hB.trans jk)) (kp _ zc (hB.trans jk)) ga) ?_
 rintro _ js ⟨v23,j3,v26,j4,v29,j5,v32,j6,rfl,gb,p7,p8,p9,pa,d35,d36,d37,d38,d39,d40⟩
 refine ⟨_,rfl,?_⟩
 replace p7:=Ki (G:=[]) p7 (hB.trans jk).size
 replace p8:=Ki (G:=[]) p8 (hB.trans jk).size
 replace p9:=Ki (G:=[]) p9 (hB.trans jk).size
 replace pa:=Ki (G:=[]) pa (hB.trans jk).size
 have nj:=jk.trans gb
 replace hr4:=kr hr4 nj
 replace hB:=(hB.trans nj)
 obtain ⟨y46,gc,ho⟩:=bs ho
 refine Kr rfl (Ks Tryz.func26 rfl rfl) (spec_DenseTopology_calls ((Ka (Kb _) 2).le (kp _ p7.1 (cr [] js))) ((Ka (Kb _) 2).le (kp _ p8.1 (cr [] js))) ((Ka (Kb _) 2).le (kp _ p9.1 (cr [] js))) ((Ka (Ka (Kb _) 2) 22).le (kp _ pa.1 (cr [] js))) gc) ?_
 rintro _ ji ⟨v50,j7,v53,j8,v56,j9,v59,ja,v62,jb,rfl,gd,p2,p3,p4,p5,p6,d65,d66,d67,d68,d69,d70,d71,d72,d73,d74⟩
 refine ⟨_,rfl,?_⟩
 replace p2:=Ki (G:=[]) p2 (hB.trans (cr [] js)).size
 replace p3:=Ki (G:=[]) p3 (hB.trans (cr [] js)).size
 replace p4:=Ki (G:=[]) p4 (hB.trans (cr [] js)).size
 replace p5:=Ki (G:=[]) p5 (hB.trans (cr [] js)).size
 replace p6:=Ki (G:=[]) p6 (hB.trans (cr [] js)).size
 have k8:=(cr [] js).trans gd
 replace hr4:=kr hr4 k8
 replace p7:=ko p7 k8
 replace p8:=ko p8 k8
 replace p9:=ko p9 k8
 replace pa:=ko pa k8
 replace hB:=(hB.trans k8)
 refine wv (v:=.tuple #[.agg #[.int .i64 (y46.1.Shape.Objects),v50,v53,v56,v59,v62],.int .i64 (y46.2)]) rfl (om _) ?_
 refine wv (v:=.agg #[.int .i64 (y46.1.Shape.Objects),v50,v53,v56,v59,v62]) rfl (Kn rfl rfl) ?_
 refine wv (v:=.int .i64 (y46.2)) rfl (Kn rfl rfl) ?_
 refine Kz info30 zr30 fun pv n2 ge n3 jl=>?_
 replace n3:Row n2 pv [.int .i64 ((0:Int)),.slice none 0 0,.slice none 0 0,.slice none 0 0,.slice none 0 0,.slice none 0 0] 30:=n3
 have gf:w.heap.size≤pv:=Ku (hB.trans (cr [] ji)).size jl
 have gg:Dis [pv] [b1]:=dl (onw jl) (Kc (Kd (kr hr4 (cr [] ji))))
 have gh:Dis [pv] j3:=dl (onw jl) (sl _ (kp _ p7.1 (cr [] ji)))
 have gi:Dis [pv] j4:=dl (onw jl) (sl _ (kp _ p8.1 (cr [] ji)))
 have gj:Dis [pv] j5:=dl (onw jl) (sl _ (kp _ p9.1 (cr [] ji)))
 have gk:Dis [pv] j6:=dl (onw jl) (sl _ (kp _ pa.1 (cr [] ji)))
 have gl:Dis [pv] j7:=dl (onw jl) (sl _ (kp _ p2.1 (cr [] ji)))
 have gm:Dis [pv] j8:=dl (onw jl) (sl _ (kp _ p3.1 (cr [] ji)))
 have gn:Dis [pv] j9:=dl (onw jl) (sl _ (kp _ p4.1 (cr [] ji)))
 have go:Dis [pv] ja:=dl (onw jl) (sl _ (kp _ p5.1 (cr [] ji)))
 have gp:Dis [pv] jb:=dl (onw jl) (sl _ (kp _ p6.1 (cr [] ji)))
 have jm:=(cr [] ji).trans ge
 replace hr4:=kr hr4 jm
 replace p7:=ko p7 jm
 replace p8:=ko p8 jm
 replace p9:=ko p9 jm
 replace pa:=ko pa jm
 replace p2:=ko p2 jm
 replace p3:=ko p3 jm
 replace p4:=ko p4 jm
 replace p5:=ko p5 jm
 replace p6:=ko p6 jm
 replace hB:=(hB.trans jm)
 refine WL.storeAll (us:=[.int .i64 (y46.1.Shape.Objects),v50,v53,v56,v59,v62]) info30 (by rw [sz30]; rfl) (kr n3 (cr [] n2)) rfl rfl rfl (by intro u hu; simp only [List.mem_cons,List.mem_nil_iff,or_false] at hu; rcases hu with rfl | rfl | rfl | rfl | rfl | rfl <;> first | exact rfl | exact (Kh _ p2.1 _ (ms rfl)) | exact (Kh _ p3.1 _ (ms rfl)) | exact (Kh _ p4.1 _ (ms rfl)) | exact (Kh _ p5.1 _ (ms rfl)) | exact (Kh _ p6.1 _ (ms rfl))) fun p1 gq pg=>?_
 replace pg:Row p1 pv [.int .i64 (y46.1.Shape.Objects),v50,v53,v56,v59,v62] 30:=pg
 have jn:=((cr [] n2).nil (G:=[pv])).trans gq
 replace hr4:=Kl hr4 jn ((gg).symm _ (ms rfl))
 replace p7:=okp p7 jn (gh).symm
 replace p8:=okp p8 jn (gi).symm
 replace p9:=okp p9 jn (gj).symm
 replace pa:=okp pa jn (gk).symm
 replace p2:=okp p2 jn (gl).symm
 replace p3:=okp p3 jn (gm).symm
 replace p4:=okp p4 jn (gn).symm
 replace p5:=okp p5 jn (go).symm
 replace p6:=okp p6 jn (gp).symm
 replace hB:=hB.then jn (Ke gf)
 refine wv (v:=.int .i64 (y46.2)) rfl (oa _) ?_
 refine anz ?_
 refine wq ?_
 refine Ko rfl ?_
 refine wv (v:=.agg #[.int .i64 (x0.Objects),z6,z7,z9,z8]) rfl (Kk u25z rfl info25 (by rw [sz25]; rfl) rfl (kr hr4 (cr [] p1)).at) ?_
 obtain ⟨y122,gr,ho⟩:=bs ho
 refine Kr rfl (Ks Tryz.func17 rfl rfl) (laws_toCategory_calls (kp _ za (hB.trans (cr [] p1))) (kp _ zb (hB.trans (cr [] p1))) (kp _ zd (hB.trans (cr [] p1))) (kp _ zc (hB.trans (cr [] p1))) gr) ?_
 rintro _ qx ⟨v126,qb,v129,qc,v132,qd,v135,qe,rfl,gs,ph,pi,pj,pk,gt,gu,gv,gw,gx,gy⟩
 refine ⟨_,rfl,?_⟩
 have gz:Dis qb [b1]:=dl (ofr ph) (Kc (Kd (kr hr4 (cr [] p1))))
 have p00:Dis qb j3:=dl (ofr ph) (sl _ (kp _ p7.1 (cr [] p1)))
 have p01:Dis qb j4:=dl (ofr ph) (sl _ (kp _ p8.1 (cr [] p1)))
 have p02:Dis qb j5:=dl (ofr ph) (sl _ (kp _ p9.1 (cr [] p1)))
 have p03:Dis qb j6:=dl (ofr ph) (sl _ (kp _ pa.1 (cr [] p1)))
 have p04:Dis qb j7:=dl (ofr ph) (sl _ (kp _ p2.1 (cr [] p1)))
 have p05:Dis qb j8:=dl (ofr ph) (sl _ (kp _ p3.1 (cr [] p1)))
 have p06:Dis qb j9:=dl (ofr ph) (sl _ (kp _ p4.1 (cr [] p1)))
 have p07:Dis qb ja:=dl (ofr ph) (sl _ (kp _ p5.1 (cr [] p1)))
 have p08:Dis qb jb:=dl (ofr ph) (sl _ (kp _ p6.1 (cr [] p1)))
 have p09:Dis qb [pv]:=dl (ofr ph) (Kc (Kd (kr pg (cr [] p1))))
 replace ph:=Ki (G:=[]) ph (hB.trans (cr [] p1)).size
 have p0a:Dis qc [b1]:=dl (ofr pi) (Kc (Kd (kr hr4 (cr [] p1))))
 have p0b:Dis qc j3:=dl (ofr pi) (sl _ (kp _ p7.1 (cr [] p1)))
 have p0c:Dis qc j4:=dl (ofr pi) (sl _ (kp _ p8.1 (cr [] p1)))
 have p0d:Dis qc j5:=dl (ofr pi) (sl _ (kp _ p9.1 (cr [] p1)))
 have p0e:Dis qc j6:=dl (ofr pi) (sl _ (kp _ pa.1 (cr [] p1)))
 have p0f:Dis qc j7:=dl (ofr pi) (sl _ (kp _ p2.1 (cr [] p1)))
 have p0g:Dis qc j8:=dl (ofr pi) (sl _ (kp _ p3.1 (cr [] p1)))
 have p0h:Dis qc j9:=dl (ofr pi) (sl _ (kp _ p4.1 (cr [] p1)))
 have p0i:Dis qc ja:=dl (ofr pi) (sl _ (kp _ p5.1 (cr [] p1)))
 have p0j:Dis qc jb:=dl (ofr pi) (sl _ (kp _ p6.1 (cr [] p1)))
 have p0k:Dis qc [pv]:=dl (ofr pi) (Kc (Kd (kr pg (cr [] p1))))
 replace pi:=Ki (G:=[]) pi (hB.trans (cr [] p1)).size
 have p0l:Dis qd [b1]:=dl (ofr pj) (Kc (Kd (kr hr4 (cr [] p1))))
 have p0m:Dis qd j3:=dl (ofr pj) (sl _ (kp _ p7.1 (cr [] p1)))
 have p0n:Dis qd j4:=dl (ofr pj) (sl _ (kp _ p8.1 (cr [] p1)))
 have p0o:Dis qd j5:=dl (ofr pj) (sl _ (kp _ p9.1 (cr [] p1)))
 have p0p:Dis qd j6:=dl (ofr pj) (sl _ (kp _ pa.1 (cr [] p1)))
 have p0q:Dis qd j7:=dl (ofr pj) (sl _ (kp _ p2.1 (cr [] p1)))
 have p0r:Dis qd j8:=dl (ofr pj) (sl _ (kp _ p3.1 (cr [] p1)))
 have p0s:Dis qd j9:=dl (ofr pj) (sl _ (kp _ p4.1 (cr [] p1)))
 have p0t:Dis qd ja:=dl (ofr pj) (sl _ (kp _ p5.1 (cr [] p1)))
 have p0u:Dis qd jb:=dl (ofr pj) (sl _ (kp _ p6.1 (cr [] p1)))
 have p0v:Dis qd [pv]:=dl (ofr pj) (Kc (Kd (kr pg (cr [] p1))))
 replace pj:=Ki (G:=[]) pj (hB.trans (cr [] p1)).size
 have p0w:Dis qe [b1]:=dl (ofr pk) (Kc (Kd (kr hr4 (cr [] p1))))
 have p0x:Dis qe j3:=dl (ofr pk) (sl _ (kp _ p7.1 (cr [] p1)))
 have p0y:Dis qe j4:=dl (ofr pk) (sl _ (kp _ p8.1 (cr [] p1)))
 have p0z:Dis qe j5:=dl (ofr pk) (sl _ (kp _ p9.1 (cr [] p1)))
 have p10:Dis qe j6:=dl (ofr pk) (sl _ (kp _ pa.1 (cr [] p1)))
 have p11:Dis qe j7:=dl (ofr pk) (sl _ (kp _ p2.1 (cr [] p1)))
 have p12:Dis qe j8:=dl (ofr pk) (sl _ (kp _ p3.1 (cr [] p1)))
 have p13:Dis qe j9:=dl (ofr pk) (sl _ (kp _ p4.1 (cr [] p1)))
 have p14:Dis qe ja:=dl (ofr pk) (sl _ (kp _ p5.1 (cr [] p1)))
 have p15:Dis qe jb:=dl (ofr pk) (sl _ (kp _ p6.1 (cr [] p1)))
 have p16:Dis qe [pv]:=dl (ofr pk) (Kc (Kd (kr pg (cr [] p1))))
 replace pk:=Ki (G:=[]) pk (hB.trans (cr [] p1)).size
 have jj:=(cr [] p1).trans gs
 replace hr4:=kr hr4 jj
 replace p7:=ko p7 jj
 replace p8:=ko p8 jj
 replace p9:=ko p9 jj
 replace pa:=ko pa jj
 replace p2:=ko p2 jj
 replace p3:=ko p3 jj
 replace p4:=ko p4 jj
 replace p5:=ko p5 jj
 replace p6:=ko p6 jj
 replace pg:=kr pg jj
 replace hB:=(hB.trans jj)
 refine Kz info27 zr27 fun pw n4 p17 n5 qz=>?_
 replace n5:Row n4 pw [.int .i64 ((0:Int)),.slice none 0 0,.slice none 0 0,.slice none 0 0,.slice none 0 0] 27:=n5
 have p18:w.heap.size≤pw:=Ku (hB.trans (cr [] qx)).size qz
 have p19:Dis [pw] [b1]:=dl (onw qz) (Kc (Kd (kr hr4 (cr [] qx))))
 have p1a:Dis [pw] j3:=dl (onw qz) (sl _ (kp _ p7.1 (cr [] qx)))
 have p1b:Dis [pw] j4:=dl (onw qz) (sl _ (kp _ p8.1 (cr [] qx)))
 have p1c:Dis [pw] j5:=dl (onw qz) (sl _ (kp _ p9.1 (cr [] qx)))
 have p1d:Dis [pw] j6:=dl (onw qz) (sl _ (kp _ pa.1 (cr [] qx)))
 have p1e:Dis [pw] j7:=dl (onw qz) (sl _ (kp _ p2.1 (cr [] qx)))
 have p1f:Dis [pw] j8:=dl (onw qz) (sl _ (kp _ p3.1 (cr [] qx)))
 have p1g:Dis [pw] j9:=dl (onw qz) (sl _ (kp _ p4.1 (cr [] qx)))
 have p1h:Dis [pw] ja:=dl (onw qz) (sl _ (kp _ p5.1 (cr [] qx)))
 have p1i:Dis [pw] jb:=dl (onw qz) (sl _ (kp _ p6.1 (cr [] qx)))
 have p1j:Dis [pw] [pv]:=dl (onw qz) (Kc (Kd (kr pg (cr [] qx))))
 have nk:Dis [pw] qb:=dl (onw qz) (sl _ (kp _ ph.1 (cr [] qx)))
 have nl:Dis [pw] qc:=dl (onw qz) (sl _ (kp _ pi.1 (cr [] qx)))
 have nm:Dis [pw] qd:=dl (onw qz) (sl _ (kp _ pj.1 (cr [] qx)))
 have nn:Dis [pw] qe:=dl (onw qz) (sl _ (kp _ pk.1 (cr [] qx)))
 have j0:=(cr [] qx).trans p17
 replace hr4:=kr hr4 j0
 replace p7:=ko p7 j0
 replace p8:=ko p8 j0
 replace p9:=ko p9 j0
 replace pa:=ko pa j0
 replace p2:=ko p2 j0
 replace p3:=ko p3 j0
 replace p4:=ko p4 j0
 replace p5:=ko p5 j0
 replace p6:=ko p6 j0
 replace pg:=kr pg j0
 replace ph:=ko ph j0
 replace pi:=ko pi j0
 replace pj:=ko pj j0
 replace pk:=ko pk j0
 replace hB:=(hB.trans j0)
 refine WL.storeAll (us:=[.int .i64 (y122.Objects),v126,v129,v132,v135]) info27 (by rw [sz27]; rfl) (kr n5 (cr [] n4)) rfl rfl rfl (by intro u hu; simp only [List.mem_cons,List.mem_nil_iff,or_false] at hu; rcases hu with rfl | rfl | rfl | rfl | rfl <;> first | exact rfl | exact (Kh _ ph.1 _ (ms rfl)) | exact (Kh _ pi.1 _ (ms rfl)) | exact (Kh _ pj.1 _ (ms rfl)) | exact (Kh _ pk.1 _ (ms rfl))) fun p0 p1k pp=>?_
 replace pp:Row p0 pw [.int .i64 (y122.Objects),v126,v129,v132,v135] 27:=pp
 have j1:=((cr [] n4).nil (G:=[pw])).trans p1k
 replace hr4:=Kl hr4 j1 ((p19).symm _ (ms rfl))
 replace p7:=okp p7 j1 (p1a).symm
 replace p8:=okp p8 j1 (p1b).symm
 replace p9:=okp p9 j1 (p1c).symm
 replace pa:=okp pa j1 (p1d).symm
 replace p2:=okp p2 j1 (p1e).symm
 replace p3:=okp p3 j1 (p1f).symm
 replace p4:=okp p4 j1 (p1g).symm
 replace p5:=okp p5 j1 (p1h).symm
 replace p6:=okp p6 j1 (p1i).symm
 replace pg:=Kl pg j1 ((p1j).symm _ (ms rfl))
 replace ph:=okp ph j1 (nk).symm
 replace pi:=okp pi j1 (nl).symm
 replace pj:=okp pj j1 (nm).symm
 replace pk:=okp pk j1 (nn).symm
 replace hB:=hB.then j1 (Ke p18)
 refine anz ?_
 refine wq ?_
 refine Ko rfl ?_
 refine wv (v:=.agg #[.int .i64 (y122.Objects),v126,v129,v132,v135]) rfl (Kk u27z rfl info27 (by rw [sz27]; rfl) rfl (kr pp (cr [] p0)).at) ?_
 obtain ⟨y215,p1l,ho⟩:=bs ho
 refine Kr rfl (Ks Tryz.func27 rfl rfl) (impl_DenseTopology_calls ((Ka (Kb _) 2).le (kp _ ph.1 (cr [] p0))) ((Ka (Kb _) 2).le (kp _ pi.1 (cr [] p0))) ((Ka (Kb _) 2).le (kp _ pj.1 (cr [] p0))) ((Ka (Ka (Kb _) 2) 22).le (kp _ pk.1 (cr [] p0))) p1l) ?_
 rintro _ qf ⟨v219,q0,v222,q1,v225,q2,v228,q3,v231,q4,rfl,p1m,pb,pc,pd,pe,pf,p1n,p1o,p1p,p1q,p1r,p1s,p1t,p1u,p1v,p1w⟩
 refine ⟨_,rfl,?_⟩
 have p1x:Dis q0 [b1]:=dl (ofr pb) (Kc (Kd (kr hr4 (cr [] p0))))
 have p1y:Dis q0 j3:=dl (ofr pb) (sl _ (kp _ p7.1 (cr [] p0)))
 have p1z:Dis q0 j4:=dl (ofr pb) (sl _ (kp _ p8.1 (cr [] p0)))
 have p20:Dis q0 j5:=dl (ofr pb) (sl _ (kp _ p9.1 (cr [] p0)))
 have p21:Dis q0 j6:=dl (ofr pb) (sl _ (kp _ pa.1 (cr [] p0)))
 have p22:Dis q0 j7:=dl (ofr pb) (sl _ (kp _ p2.1 (cr [] p0)))
 have p23:Dis q0 j8:=dl (ofr pb) (sl _ (kp _ p3.1 (cr [] p0)))
 have p24:Dis q0 j9:=dl (ofr pb) (sl _ (kp _ p4.1 (cr [] p0)))
 have p25:Dis q0 ja:=dl (ofr pb) (sl _ (kp _ p5.1 (cr [] p0)))
 have p26:Dis q0 jb:=dl (ofr pb) (sl _ (kp _ p6.1 (cr [] p0)))
 have p27:Dis q0 [pv]:=dl (ofr pb) (Kc (Kd (kr pg (cr [] p0))))
 have kd:Dis q0 qb:=dl (ofr pb) (sl _ (kp _ ph.1 (cr [] p0)))
 have ke:Dis q0 qc:=dl (ofr pb) (sl _ (kp _ pi.1 (cr [] p0)))
 have kf:Dis q0 qd:=dl (ofr pb) (sl _ (kp _ pj.1 (cr [] p0)))
 have kg:Dis q0 qe:=dl (ofr pb) (sl _ (kp _ pk.1 (cr [] p0)))
 have p28:Dis q0 [pw]:=dl (ofr pb) (Kc (Kd (kr pp (cr [] p0))))
 replace pb:=Ki (G:=[]) pb (hB.trans (cr [] p0)).size
 have p29:Dis q1 [b1]:=dl (ofr pc) (Kc (Kd (kr hr4 (cr [] p0))))
 have p2a:Dis q1 j3:=dl (ofr pc) (sl _ (kp _ p7.1 (cr [] p0)))
 have p2b:Dis q1 j4:=dl (ofr pc) (sl _ (kp _ p8.1 (cr [] p0)))
 have p2c:Dis q1 j5:=dl (ofr pc) (sl _ (kp _ p9.1 (cr [] p0)))
 have p2d:Dis q1 j6:=dl (ofr pc) (sl _ (kp _ pa.1 (cr [] p0)))
 have p2e:Dis q1 j7:=dl (ofr pc) (sl _ (kp _ p2.1 (cr [] p0)))
 have p2f:Dis q1 j8:=dl (ofr pc) (sl _ (kp _ p3.1 (cr [] p0)))
 have p2g:Dis q1 j9:=dl (ofr pc) (sl _ (kp _ p4.1 (cr [] p0)))
 have p2h:Dis q1 ja:=dl (ofr pc) (sl _ (kp _ p5.1 (cr [] p0)))
 have p2i:Dis q1 jb:=dl (ofr pc) (sl _ (kp _ p6.1 (cr [] p0)))
 have p2j:Dis q1 [pv]:=dl (ofr pc) (Kc (Kd (kr pg (cr [] p0))))
 have kh:Dis q1 qb:=dl (ofr pc) (sl _ (kp _ ph.1 (cr [] p0)))
 have ki:Dis q1 qc:=dl (ofr pc) (sl _ (kp _ pi.1 (cr [] p0)))
 have kj:Dis q1 qd:=dl (ofr pc) (sl _ (kp _ pj.1 (cr [] p0)))
 have kk:Dis q1 qe:=dl (ofr pc) (sl _ (kp _ pk.1 (cr [] p0)))
 have p2k:Dis q1 [pw]:=dl (ofr pc) (Kc (Kd (kr pp (cr [] p0))))
 replace pc:=Ki (G:=[]) pc (hB.trans (cr [] p0)).size
 have p2l:Dis q2 [b1]:=dl (ofr pd) (Kc (Kd (kr hr4 (cr [] p0))))
 have p2m:Dis q2 j3:=dl (ofr pd) (sl _ (kp _ p7.1 (cr [] p0)))
 have p2n:Dis q2 j4:=dl (ofr pd) (sl _ (kp _ p8.1 (cr [] p0)))
 have p2o:Dis q2 j5:=dl (ofr pd) (sl _ (kp _ p9.1 (cr [] p0)))
 have p2p:Dis q2 j6:=dl (ofr pd) (sl _ (kp _ pa.1 (cr [] p0)))
 have p2q:Dis q2 j7:=dl (ofr pd) (sl _ (kp _ p2.1 (cr [] p0)))
 have p2r:Dis q2 j8:=dl (ofr pd) (sl _ (kp _ p3.1 (cr [] p0)))
 have p2s:Dis q2 j9:=dl (ofr pd) (sl _ (kp _ p4.1 (cr [] p0)))
 have p2t:Dis q2 ja:=dl (ofr pd) (sl _ (kp _ p5.1 (cr [] p0)))
 have p2u:Dis q2 jb:=dl (ofr pd) (sl _ (kp _ p6.1 (cr [] p0)))
 have p2v:Dis q2 [pv]:=dl (ofr pd) (Kc (Kd (kr pg (cr [] p0))))
 have kl:Dis q2 qb:=dl (ofr pd) (sl _ (kp _ ph.1 (cr [] p0)))
 have km:Dis q2 qc:=dl (ofr pd) (sl _ (kp _ pi.1 (cr [] p0)))
 have kn:Dis q2 qd:=dl (ofr pd) (sl _ (kp _ pj.1 (cr [] p0)))
 have kq:Dis q2 qe:=dl (ofr pd) (sl _ (kp _ pk.1 (cr [] p0)))
 have p2w:Dis q2 [pw]:=dl (ofr pd) (Kc (Kd (kr pp (cr [] p0))))
 replace pd:=Ki (G:=[]) pd (hB.trans (cr [] p0)).size
 have p2x:Dis q3 [b1]:=dl (ofr pe) (Kc (Kd (kr hr4 (cr [] p0))))
 have p2y:Dis q3 j3:=dl (ofr pe) (sl _ (kp _ p7.1 (cr [] p0)))
 have p2z:Dis q3 j4:=dl (ofr pe) (sl _ (kp _ p8.1 (cr [] p0)))
 have p30:Dis q3 j5:=dl (ofr pe) (sl _ (kp _ p9.1 (cr [] p0)))
 have p31:Dis q3 j6:=dl (ofr pe) (sl _ (kp _ pa.1 (cr [] p0)))
 have p32:Dis q3 j7:=dl (ofr pe) (sl _ (kp _ p2.1 (cr [] p0)))
 have p33:Dis q3 j8:=dl (ofr pe) (sl _ (kp _ p3.1 (cr [] p0)))
 have p34:Dis q3 j9:=dl (ofr pe) (sl _ (kp _ p4.1 (cr [] p0)))
 have p35:Dis q3 ja:=dl (ofr pe) (sl _ (kp _ p5.1 (cr [] p0)))
 have p36:Dis q3 jb:=dl (ofr pe) (sl _ (kp _ p6.1 (cr [] p0)))
 have p37:Dis q3 [pv]:=dl (ofr pe) (Kc (Kd (kr pg (cr [] p0))))
 have ks:Dis q3 qb:=dl (ofr pe) (sl _ (kp _ ph.1 (cr [] p0)))
 have kt:Dis q3 qc:=dl (ofr pe) (sl _ (kp _ pi.1 (cr [] p0)))
 have ku:Dis q3 qd:=dl (ofr pe) (sl _ (kp _ pj.1 (cr [] p0)))
 have kv:Dis q3 qe:=dl (ofr pe) (sl _ (kp _ pk.1 (cr [] p0)))
 have p38:Dis q3 [pw]:=dl (ofr pe) (Kc (Kd (kr pp (cr [] p0))))
 replace pe:=Ki (G:=[]) pe (hB.trans (cr [] p0)).size
 have p39:Dis q4 [b1]:=dl (ofr pf) (Kc (Kd (kr hr4 (cr [] p0))))
 have p3a:Dis q4 j3:=dl (ofr pf) (sl _ (kp _ p7.1 (cr [] p0)))
 have p3b:Dis q4 j4:=dl (ofr pf) (sl _ (kp _ p8.1 (cr [] p0)))
 have p3c:Dis q4 j5:=dl (ofr pf) (sl _ (kp _ p9.1 (cr [] p0)))
 have p3d:Dis q4 j6:=dl (ofr pf) (sl _ (kp _ pa.1 (cr [] p0)))
 have p3e:Dis q4 j7:=dl (ofr pf) (sl _ (kp _ p2.1 (cr [] p0)))
 have p3f:Dis q4 j8:=dl (ofr pf) (sl _ (kp _ p3.1 (cr [] p0)))
 have p3g:Dis q4 j9:=dl (ofr pf) (sl _ (kp _ p4.1 (cr [] p0)))
 have p3h:Dis q4 ja:=dl (ofr pf) (sl _ (kp _ p5.1 (cr [] p0)))
 have p3i:Dis q4 jb:=dl (ofr pf) (sl _ (kp _ p6.1 (cr [] p0)))
 have p3j:Dis q4 [pv]:=dl (ofr pf) (Kc (Kd (kr pg (cr [] p0))))
 have kw:Dis q4 qb:=dl (ofr pf) (sl _ (kp _ ph.1 (cr [] p0)))
 have kx:Dis q4 qc:=dl (ofr pf) (sl _ (kp _ pi.1 (cr [] p0)))
 have ky:Dis q4 qd:=dl (ofr pf) (sl _ (kp _ pj.1 (cr [] p0)))
 have kz:Dis q4 qe:=dl (ofr pf) (sl _ (kp _ pk.1 (cr [] p0)))
 have p3k:Dis q4 [pw]:=dl (ofr pf) (Kc (Kd (kr pp (cr [] p0))))
 replace pf:=Ki (G:=[]) pf (hB.trans (cr [] p0)).size
 have qy:=(cr [] p0).trans p1m
 replace hr4:=kr hr4 qy
 replace p7:=ko p7 qy
 replace p8:=ko p8 qy
 replace p9:=ko p9 qy
 replace pa:=ko pa qy
 replace p2:=ko p2 qy
 replace p3:=ko p3 qy
 replace p4:=ko p4 qy
 replace p5:=ko p5 qy
 replace p6:=ko p6 qy
 replace pg:=kr pg qy
 replace ph:=ko ph qy
 replace pi:=ko pi qy
 replace pj:=ko pj qy
 replace pk:=ko pk qy
 replace pp:=kr pp qy
 replace hB:=(hB.trans qy)
 refine wv (v:=.tuple #[.agg #[.int .i64 (y215.1.Shape.Objects),v219,v222,v225,v228,v231],.int .i64 (y215.2)]) rfl (om _) ?_
 refine wv (v:=.agg #[.int .i64 (y215.1.Shape.Objects),v219,v222,v225,v228,v231]) rfl (Kn rfl rfl) ?_
 refine wv (v:=.int .i64 (y215.2)) rfl (Kn rfl rfl) ?_
 refine Kz info30 zr30 fun pu n6 p3l n7 qj=>?_
 replace n7:Row n6 pu [.int .i64 ((0:Int)),.slice none 0 0,.slice none 0 0,.slice none 0 0,.slice none 0 0,.slice none 0 0] 30:=n7
 have p3m:w.heap.size≤pu:=Ku (hB.trans (cr [] qf)).size qj
 have p3n:Dis [pu] [b1]:=dl (onw qj) (Kc (Kd (kr hr4 (cr [] qf))))
 have p3o:Dis [pu] j3:=dl (onw qj) (sl _ (kp _ p7.1 (cr [] qf)))
 have p3p:Dis [pu] j4:=dl (onw qj) (sl _ (kp _ p8.1 (cr [] qf)))
 have p3q:Dis [pu] j5:=dl (onw qj) (sl _ (kp _ p9.1 (cr [] qf)))
 have p3r:Dis [pu] j6:=dl (onw qj) (sl _ (kp _ pa.1 (cr [] qf)))
 have p3s:Dis [pu] j7:=dl (onw qj) (sl _ (kp _ p2.1 (cr [] qf)))
 have p3t:Dis [pu] j8:=dl (onw qj) (sl _ (kp _ p3.1 (cr [] qf)))
 have p3u:Dis [pu] j9:=dl (onw qj) (sl _ (kp _ p4.1 (cr [] qf)))
 have p3v:Dis [pu] ja:=dl (onw qj) (sl _ (kp _ p5.1 (cr [] qf)))
 have p3w:Dis [pu] jb:=dl (onw qj) (sl _ (kp _ p6.1 (cr [] qf)))
 have p3x:Dis [pu] [pv]:=dl (onw qj) (Kc (Kd (kr pg (cr [] qf))))
 have no:Dis [pu] qb:=dl (onw qj) (sl _ (kp _ ph.1 (cr [] qf)))
 have np:Dis [pu] qc:=dl (onw qj) (sl _ (kp _ pi.1 (cr [] qf)))
 have nq:Dis [pu] qd:=dl (onw qj) (sl _ (kp _ pj.1 (cr [] qf)))
 have nr:Dis [pu] qe:=dl (onw qj) (sl _ (kp _ pk.1 (cr [] qf)))
 have p3y:Dis [pu] [pw]:=dl (onw qj) (Kc (Kd (kr pp (cr [] qf))))
 have ns:Dis [pu] q0:=dl (onw qj) (sl _ (kp _ pb.1 (cr [] qf)))
 have nt:Dis [pu] q1:=dl (onw qj) (sl _ (kp _ pc.1 (cr [] qf)))
 have nu:Dis [pu] q2:=dl (onw qj) (sl _ (kp _ pd.1 (cr [] qf)))
 have nv:Dis [pu] q3:=dl (onw qj) (sl _ (kp _ pe.1 (cr [] qf)))
 have nw:Dis [pu] q4:=dl (onw qj) (sl _ (kp _ pf.1 (cr [] qf)))
 have qk:=(cr [] qf).trans p3l
 replace hr4:=kr hr4 qk
 replace p7:=ko p7 qk
 replace p8:=ko p8 qk
 replace p9:=ko p9 qk
 replace pa:=ko pa qk
 replace p2:=ko p2 qk
 replace p3:=ko p3 qk
 replace p4:=ko p4 qk
 replace p5:=ko p5 qk
 replace p6:=ko p6 qk
 replace pg:=kr pg qk
 replace ph:=ko ph qk
 replace pi:=ko pi qk
 replace pj:=ko pj qk
 replace pk:=ko pk qk
 replace pp:=kr pp qk
 replace pb:=ko pb qk
 replace pc:=ko pc qk
 replace pd:=ko pd qk
 replace pe:=ko pe qk
 replace pf:=ko pf qk
 replace hB:=(hB.trans qk)
 refine WL.storeAll (us:=[.int .i64 (y215.1.Shape.Objects),v219,v222,v225,v228,v231]) info30 (by rw [sz30]; rfl) (kr n7 (cr [] n6)) rfl rfl rfl (by intro u hu; simp only [List.mem_cons,List.mem_nil_iff,or_false] at hu; rcases hu with rfl | rfl | rfl | rfl | rfl | rfl <;> first | exact rfl | exact (Kh _ pb.1 _ (ms rfl)) | exact (Kh _ pc.1 _ (ms rfl)) | exact (Kh _ pd.1 _ (ms rfl)) | exact (Kh _ pe.1 _ (ms rfl)) | exact (Kh _ pf.1 _ (ms rfl))) fun nx p3z q5=>?_
 replace q5:Row nx pu [.int .i64 (y215.1.Shape.Objects),v219,v222,v225,v228,v231] 30:=q5
 have ql:=((cr [] n6).nil (G:=[pu])).trans p3z
 replace hr4:=Kl hr4 ql ((p3n).symm _ (ms rfl))
 replace p7:=okp p7 ql (p3o).symm
 replace p8:=okp p8 ql (p3p).symm
 replace p9:=okp p9 ql (p3q).symm
 replace pa:=okp pa ql (p3r).symm
 replace p2:=okp p2 ql (p3s).symm
 replace p3:=okp p3 ql (p3t).symm
 replace p4:=okp p4 ql (p3u).symm
 replace p5:=okp p5 ql (p3v).symm
 replace p6:=okp p6 ql (p3w).symm
 replace pg:=Kl pg ql ((p3x).symm _ (ms rfl))
 replace ph:=okp ph ql (no).symm
 replace pi:=okp pi ql (np).symm
 replace pj:=okp pj ql (nq).symm
 replace pk:=okp pk ql (nr).symm
 replace pp:=Kl pp ql ((p3y).symm _ (ms rfl))
 replace pb:=okp pb ql (ns).symm
 replace pc:=okp pc ql (nt).symm
 replace pd:=okp pd ql (nu).symm
 replace pe:=okp pe ql (nv).symm
 replace pf:=okp pf ql (nw).symm
 replace hB:=hB.then ql (Ke p3m)
 refine wv (v:=.int .i64 (y215.2)) rfl (oa _) ?_
 refine anz ?_
 refine wq ?_
 refine wq ?_
 refine Wq rfl (cr [] nx) ?_
 obtain ⟨g357,hm358,ho⟩:=bs ho
 refine QL.meet (fun r=>∃ F,r=updL F [(1,.pointer (some (⟨b1,0,none⟩))),(4,.pointer (some (⟨pv,0,none⟩))),(5,.int .i64 (y46.2)),(6,.pointer (some (⟨pw,0,none⟩))),(7,.pointer (some (⟨pu,0,none⟩))),(8,.int .i64 (y215.2)),(40,.bool (g357))]) ?_ ?_
 skip
 refine qv (v:=.agg #[.int .i64 (y215.1.Shape.Objects),v219,v222,v225,v228,v231]) rfl (fun _ hC=>Kk u30 rfl info30 (by rw [sz30]; rfl) rfl (kr q5 hC).at) ?_
 refine qv (v:=.agg #[.int .i64 (y46.1.Shape.Objects),v50,v53,v56,v59,v62]) rfl (fun _ hC=>Kk u30 rfl info30 (by rw [sz30]; rfl) rfl (kr pg hC).at) ?_
 obtain ⟨y359,p40,hm358⟩:=bs hm358
 refine QL.call (v:=.bool (y359)) rfl (fun _ _=>Ks Tryz.func19 rfl rfl) (fun _ hC=>(laws_eqTopology_calls ((Ka (Kb _) 2).le (kp _ pb.1 hC)) ((Ka (Kb _) 2).le (kp _ pc.1 hC)) ((Ka (Kb _) 2).le (kp _ pd.1 hC)) ((Ka (Ka (Kb _) 2) 22).le (kp _ pe.1 hC)) ((Ka (Ka (Ka (Kb _) 2) 22) 23).le (kp _ pf.1 hC)) ((Ka (Kb _) 2).le (kp _ p2.1 hC)) ((Ka (Kb _) 2).le (kp _ p3.1 hC)) ((Ka (Kb _) 2).le (kp _ p4.1 hC)) ((Ka (Ka (Kb _) 2) 22).le (kp _ p5.1 hC)) ((Ka (Ka (Ka (Kb _) 2) 22) 23).le (kp _ p6.1 hC)) p40).mono fun _ _ h=>⟨h.1,hC.trans h.2⟩) ?_
 refine qv (v:=.bool (!(y359))) rfl (fun _ _=>op_not rfl) ?_
 refine qv (v:=.bool (!(y359))) rfl (fun _ _=>om _) ?_
 rcases Bool.eq_false_or_eq_true (!(y359)) with jo | jo
 rw [jo] at hm358
 refine qs rfl (congrArg some jo) rfl ?_
 refine qs rfl (congrArg some jo) rfl ?_
 refine qs rfl (congrArg some jo) rfl ?_
 refine qv (v:=.bool (true)) rfl (fun _ _=>op_pickT rfl jo) ?_
 cases hm358
 exact fr ⟨rfl,rfl,rfl,rfl,rfl,rfl,rfl,trivial⟩
 rw [jo] at hm358
 refine qg (v:=.int .i64 (y215.2)) rfl (congrArg some jo) (fun _ _=>om _) ?_
 refine qg (v:=.int .i64 (y46.2)) rfl (congrArg some jo) (fun _ _=>om _) ?_
 refine qg (v:=.bool ((y215.2) != (y46.2))) rfl (congrArg some jo) (fun _ _=>Kv rfl rfl bin_neq) ?_
 refine qv (v:=.bool ((y215.2) != (y46.2))) rfl (fun _ _=>op_pickF rfl jo) ?_
 cases hm358
 exact fr ⟨rfl,rfl,rfl,rfl,rfl,rfl,rfl,trivial⟩
 rintro _ ⟨F,rfl⟩
 intro n0 pm
 refine anz ?_
 refine W_cond (b:=g357) rfl ?_ ?_
 intro n8
 rw [n8] at ho
 refine wq ?_
 refine Wq rfl pm ?_
 refine qv (v:=.bool (false)) rfl (fun _ _=>oa _) ?_
 intro p8e p41
 refine anz ?_
 cases ho
 exact W_ret ⟨_,res_1 Tryz.results5,rfl,(hB.trans p41)⟩
 intro n8
 rw [n8] at ho
 refine W_skip ?_
 refine anz ?_
 refine wq ?_
 refine wq ?_
 obtain ⟨y367,p42,ho⟩:=bs ho
 refine W_any (m:=3) (U:=[[],[],[]]) (S:=[⟨true,pl fun _ _ u=>u=(.agg #[.int .i64 (y122.Objects),v126,v129,v132,v135]:Value)⟩,⟨true,pl fun _ _ u=>u=(.agg #[.int .i64 (x0.Objects),z6,z7,z9,z8]:Value)⟩,⟨true,pl (fun f w v=>∃ (v369:Value) (qm:List Nat) (v372:Value) (qn:List Nat) (v375:Value) (qo:List Nat) (v378:Value) (qp:List Nat),v = .agg #[.int .i64 (y367.Objects),v369,v372,v375,v378]∧f=(qm++(qn++(qo++qp)))∧(sOwn 2 (sInt .i64)).rep w.heap [v369] (y367.From) qm∧(sOwn 2 (sInt .i64)).rep w.heap [v372] (y367.To) qn∧(sOwn 2 (sInt .i64)).rep w.heap [v375] (y367.Identity) qo∧(sOwn 22 (sOwn 2 (sInt .i64))).rep w.heap [v378] (y367.Composites) qp∧List.Nodup ((qm++(qn++(qo++qp)))))⟩]) (Z:=[]) hmix rfl (by decide) (by decide +kernel) (fun _ _ _ h=>np_out h) (by decide) rfl (by decide +kernel) (stable_all <| Kx stable_val (Kx stable_val (Kx (stable_pl <| by rintro f F w w' v hC hn ⟨v369,qm,v372,qn,v375,qo,v378,qp,e1_,e2_,ho371,ho374,ho377,ho380,hnd⟩; exact ⟨v369,qm,v372,qn,v375,qo,v378,qp,e1_,e2_,Kg _ ho371 hC (fun b hb=>hn b (by rw [e2_]; simp [hb])),Kg _ ho374 hC (fun b hb=>hn b (by rw [e2_]; simp [hb])),Kg _ ho377 hC (fun b hb=>hn b (by rw [e2_]; simp [hb])),Kg _ ho380 hC (fun b hb=>hn b (by rw [e2_]; simp [hb])),hnd⟩) ( stable_nil)))) ?_ ?_
 refine Ky ?_ ( Ky ?_ ( Ky ?_ ( owes_nil)))
 refine Owes.val rfl rfl rfl ?_
 intro g r wr hCr H hot
 have hC:=pm.trans hCr
 obtain ⟨F,rfl⟩:=fr (r:=r) (l:=[(6,.pointer (some (⟨pw,0,none⟩)))]) ⟨(hot 6 (by decide)),trivial⟩
 exact Kk u27z rfl info27 (by rw [sz27]; rfl) rfl (kr pp hC).at
 refine Owes.val rfl rfl rfl ?_
 intro g r wr hCr H hot
 have hC:=pm.trans hCr
 obtain ⟨F,rfl⟩:=fr (r:=r) (l:=[(1,.pointer (some (⟨b1,0,none⟩)))]) ⟨(hot 1 (by decide)),trivial⟩
 exact Kk u25z rfl info25 (by rw [sz25]; rfl) rfl (kr hr4 hC).at
 refine Owes.mem rfl rfl rfl ?_
 intro g r wr hCr H hot
 have hC:=pm.trans hCr
 obtain ⟨F,rfl⟩:=fr (r:=r) (l:=[(42,.agg #[.int .i64 (x0.Objects),z6,z7,z9,z8])]) ⟨(H 1 (by decide +kernel) 42 rfl),trivial⟩
 exact OpW.callV (Ks Tryz.func17 rfl rfl) (laws_toCategory_calls (kp _ za (hB.trans hC)) (kp _ zb (hB.trans hC)) (kp _ zd (hB.trans hC)) (kp _ zc (hB.trans hC)) p42) fun e w' ⟨v369,qm,v372,qn,v375,qo,v378,qp,he,hC',q7,q8,q9,qa,d0_1,d0_2,d0_3,d1_2,d1_3,d2_3⟩=>⟨_,he,hC',(qm++(qn++(qo++qp))),(fun b hb=>(List.mem_append.1 hb).elim (fun hb=>⟨ofr q7 b hb,sl _ q7.1 b hb⟩) (fun hb=>(List.mem_append.1 hb).elim (fun hb=>⟨ofr q8 b hb,sl _ q8.1 b hb⟩) (fun hb=>(List.mem_append.1 hb).elim (fun hb=>⟨ofr q9 b hb,sl _ q9.1 b hb⟩) (fun hb=>⟨ofr qa b hb,sl _ qa.1 b hb⟩)))),v369,qm,v372,qn,v375,qo,v378,qp,rfl,rfl,q7.1,q8.1,q9.1,qa.1,(nodup_app q7.2.1 (nodup_app q8.2.1 (nodup_app q9.2.1 qa.2.1 d2_3) (dis_appR d1_2 d1_3)) (dis_appR d0_1 (dis_appR d0_2 d0_3)))⟩
 rintro g r j2 ⟨p43,hdone,hot,hfresh,hdis⟩
 obtain ⟨v369,qm,v372,qn,v375,qo,v378,qp,hvo371,hgo371,q7,q8,q9,qa,hno371⟩:=hdone 2 (by decide) (by decide) 43 rfl
 have hfo371:=hfresh 2 (by decide)
 have hdd:=hdis
 obtain ⟨F,rfl⟩:=fr (r:=r) (l:=[(1,.pointer (some (⟨b1,0,none⟩))),(4,.pointer (some (⟨pv,0,none⟩))),(5,.int .i64 (y46.2)),(6,.pointer (some (⟨pw,0,none⟩))),(7,.pointer (some (⟨pu,0,none⟩))),(8,.int .i64 (y215.2)),(41,.agg #[.int .i64 (y122.Objects),v126,v129,v132,v135]),(43,.agg #[.int .i64 (y367.Objects),v369,v372,v375,v378])]) ⟨(hot 1 (by decide)),(hot 4 (by decide)),(hot 5 (by decide)),(hot 6 (by decide)),(hot 7 (by decide)),(hot 8 (by decide)),(hdone 0 (by decide) (by decide) 41 rfl),hvo371,trivial⟩
 have jt : ∀ b∈qm,n0.heap.size≤b:=fun b hb=>(hfo371 b (show b∈g 2 from (show ∀ b∈qm,b∈g 2 from (fun b hb=>(by rw [hgo371]; simp [hb]))) b hb)).1
 replace q7:OE [] w.heap.size j2 (sOwn 2 (sInt .i64)) [v369] (y367.From) qm:=⟨q7,(List.nodup_append.1 hno371).1,fun b hb=>.inr (Ku (hB.trans pm).size (jt b hb))⟩
 have p44:Dis qm qb:=dl jt (sl _ (kp _ ph.1 pm))
 have p45:Dis qm qc:=dl jt (sl _ (kp _ pi.1 pm))
 have p46:Dis qm qd:=dl jt (sl _ (kp _ pj.1 pm))
 have p47:Dis qm qe:=dl jt (sl _ (kp _ pk.1 pm))
 have p48:Dis qm q0:=dl jt (sl _ (kp _ pb.1 pm))
 have p49:Dis qm q1:=dl jt (sl _ (kp _ pc.1 pm))
 have p4a:Dis qm q2:=dl jt (sl _ (kp _ pd.1 pm))
 have p4b:Dis qm q3:=dl jt (sl _ (kp _ pe.1 pm))
 have p4c:Dis qm q4:=dl jt (sl _ (kp _ pf.1 pm))
 have ju : ∀ b∈qn,n0.heap.size≤b:=fun b hb=>(hfo371 b (show b∈g 2 from (show ∀ b∈qn,b∈g 2 from (fun b hb=>(by rw [hgo371]; simp [hb]))) b hb)).1
 replace q8:OE [] w.heap.size j2 (sOwn 2 (sInt .i64)) [v372] (y367.To) qn:=⟨q8,(List.nodup_append.1 (List.nodup_append.1 hno371).2.1).1,fun b hb=>.inr (Ku (hB.trans pm).size (ju b hb))⟩
 have p4d:Dis qn qb:=dl ju (sl _ (kp _ ph.1 pm))
 have p4e:Dis qn qc:=dl ju (sl _ (kp _ pi.1 pm))
 have p4f:Dis qn qd:=dl ju (sl _ (kp _ pj.1 pm))
 have p4g:Dis qn qe:=dl ju (sl _ (kp _ pk.1 pm))
 have p4h:Dis qn q0:=dl ju (sl _ (kp _ pb.1 pm))
 have p4i:Dis qn q1:=dl ju (sl _ (kp _ pc.1 pm))
 have p4j:Dis qn q2:=dl ju (sl _ (kp _ pd.1 pm))
 have p4k:Dis qn q3:=dl ju (sl _ (kp _ pe.1 pm))
 have p4l:Dis qn q4:=dl ju (sl _ (kp _ pf.1 pm))
 have jv : ∀ b∈qo,n0.heap.size≤b:=fun b hb=>(hfo371 b (show b∈g 2 from (show ∀ b∈qo,b∈g 2 from (fun b hb=>(by rw [hgo371]; simp [hb]))) b hb)).1
 replace q9:OE [] w.heap.size j2 (sOwn 2 (sInt .i64)) [v375] (y367.Identity) qo:=⟨q9,(List.nodup_append.1 (List.nodup_append.1 (List.nodup_append.1 hno371).2.1).2.1).1,fun b hb=>.inr (Ku (hB.trans pm).size (jv b hb))⟩
 have p4m:Dis qo qb:=dl jv (sl _ (kp _ ph.1 pm))
 have p4n:Dis qo qc:=dl jv (sl _ (kp _ pi.1 pm))
 have p4o:Dis qo qd:=dl jv (sl _ (kp _ pj.1 pm))
 have p4p:Dis qo qe:=dl jv (sl _ (kp _ pk.1 pm))
 have p4q:Dis qo q0:=dl jv (sl _ (kp _ pb.1 pm))
 have p4r:Dis qo q1:=dl jv (sl _ (kp _ pc.1 pm))
 have p4s:Dis qo q2:=dl jv (sl _ (kp _ pd.1 pm))
 have p4t:Dis qo q3:=dl jv (sl _ (kp _ pe.1 pm))
 have p4u:Dis qo q4:=dl jv (sl _ (kp _ pf.1 pm))
 have jw : ∀ b∈qp,n0.heap.size≤b:=fun b hb=>(hfo371 b (show b∈g 2 from (show ∀ b∈qp,b∈g 2 from (fun b hb=>(by rw [hgo371]; simp [hb]))) b hb)).1
 replace qa:OE [] w.heap.size j2 (sOwn 22 (sOwn 2 (sInt .i64))) [v378] (y367.Composites) qp:=⟨qa,(List.nodup_append.1 (List.nodup_append.1 (List.nodup_append.1 hno371).2.1).2.1).2.1,fun b hb=>.inr (Ku (hB.trans pm).size (jw b hb))⟩
 have p4v:Dis qp qb:=dl jw (sl _ (kp _ ph.1 pm))
 have p4w:Dis qp qc:=dl jw (sl _ (kp _ pi.1 pm))
 have p4x:Dis qp qd:=dl jw (sl _ (kp _ pj.1 pm))
 have p4y:Dis qp qe:=dl jw (sl _ (kp _ pk.1 pm))
 have p4z:Dis qp q0:=dl jw (sl _ (kp _ pb.1 pm))
 have p50:Dis qp q1:=dl jw (sl _ (kp _ pc.1 pm))
 have p51:Dis qp q2:=dl jw (sl _ (kp _ pd.1 pm))
 have p52:Dis qp q3:=dl jw (sl _ (kp _ pe.1 pm))
 have p53:Dis qp q4:=dl jw (sl _ (kp _ pf.1 pm))
 have qh:=(pm.trans p43)
 replace hr4:=kr hr4 qh
 replace p7:=ko p7 qh
 replace p8:=ko p8 qh
 replace p9:=ko p9 qh
 replace pa:=ko pa qh
 replace p2:=ko p2 qh
 replace p3:=ko p3 qh
 replace p4:=ko p4 qh
 replace p5:=ko p5 qh
 replace p6:=ko p6 qh
 replace pg:=kr pg qh
 replace ph:=ko ph qh
 replace pi:=ko pi qh
 replace pj:=ko pj qh
 replace pk:=ko pk qh
 replace pp:=kr pp qh
 replace pb:=ko pb qh
 replace pc:=ko pc qh
 replace pd:=ko pd qh
 replace pe:=ko pe qh
 replace pf:=ko pf qh
 replace q5:=kr q5 qh
 replace hB:=(hB.trans qh)
 obtain ⟨y476,p54,ho⟩:=bs ho
 refine Kr rfl (Ks Tryz.func20 rfl rfl) (laws_eqCategory_calls ((Ka (Kb _) 2).le (kp _ ph.1 (cr [] j2))) ((Ka (Kb _) 2).le (kp _ pi.1 (cr [] j2))) ((Ka (Kb _) 2).le (kp _ pj.1 (cr [] j2))) ((Ka (Ka (Kb _) 2) 22).le (kp _ pk.1 (cr [] j2))) ((Ka (Kb _) 2).le (kp _ q7.1 (cr [] j2))) ((Ka (Kb _) 2).le (kp _ q8.1 (cr [] j2))) ((Ka (Kb _) 2).le (kp _ q9.1 (cr [] j2))) ((Ka (Ka (Kb _) 2) 22).le (kp _ qa.1 (cr [] j2))) p54) ?_
 rintro _ p8f ⟨rfl,ny⟩
 refine ⟨_,rfl,?_⟩
 refine wv (v:=.bool (!(y476))) rfl (op_not rfl) ?_
 refine anz ?_
 refine W_cond (b:=!(y476)) rfl ?_ ?_
 intro n9
 rw [n9] at ho
 refine wq ?_
 refine Wq rfl ((cr [] j2).trans ny) ?_
 refine qv (v:=.bool (false)) rfl (fun _ _=>oa _) ?_
 intro p8g p55
 refine anz ?_
 cases ho
 exact W_ret ⟨_,res_1 Tryz.results5,rfl,(hB.trans p55)⟩
 intro n9
 rw [n9] at ho
 refine W_skip ?_
 refine anz ?_
 refine wq ?_
 refine Wq rfl ((cr [] j2).trans ny) ?_
 refine qv (v:=.int .i64 ((1:Int))) rfl (fun _ _=>oa _) ?_
 intro q6 nz
 refine anz ?_
 refine wq ?_
 refine Ko rfl ?_
 refine wv (v:=.agg #[.int .i64 (y122.Objects),v126,v129,v132,v135]) rfl (Kk u27z rfl info27 (by rw [sz27]; rfl) rfl (kr pp nz).at) ?_
 refine wv (v:=.int .i64 ((1:Int))) rfl (om _) ?_
 have px:=nz.trans (cr [] q6)
 replace hr4:=kr hr4 px
 replace p7:=ko p7 px
 replace p8:=ko p8 px
 replace p9:=ko p9 px
 replace pa:=ko pa px
 replace p2:=ko p2 px
 replace p3:=ko p3 px
 replace p4:=ko p4 px
 replace p5:=ko p5 px
 replace p6:=ko p6 px
 replace pg:=kr pg px
 replace ph:=ko ph px
 replace pi:=ko pi px
 replace pj:=ko pj px
 replace pk:=ko pk px
 replace pp:=kr pp px
 replace pb:=ko pb px
 replace pc:=ko pc px
 replace pd:=ko pd px
 replace pe:=ko pe px
 replace pf:=ko pf px
 replace q5:=kr q5 px
 replace q7:=ko q7 px
 replace q8:=ko q8 px
 replace q9:=ko q9 px
 replace qa:=ko qa px
 replace hB:=(hB.trans px)
 obtain ⟨y486,p56,ho⟩:=bs ho
 refine Kr rfl (Ks Tryz.func21 rfl rfl) (laws_markCategory_calls (OE.give (B':=q6.heap.size) ph fun _ h=>h) (OE.give (B':=q6.heap.size) pi fun _ h=>h) (OE.give (B':=q6.heap.size) pj fun _ h=>h) (OE.give (B':=q6.heap.size) pk fun _ h=>h) gt gu gv gw gx gy p56) ?_
 rintro _ p57 ⟨k9,ka,kb,kc,rfl,p58,qr,qt,qu,qw,p8h,p8i,p8j,p8k,p8l,p8m⟩
 refine ⟨_,rfl,?_⟩
 have p59:Dis k9 q0:=dis_back qr (da (kd).symm (da (ke).symm (da (kf).symm (kg).symm))) (sl _ (kp _ pb.1 (cr [] q6)))
 have p5a:Dis k9 q1:=dis_back qr (da (kh).symm (da (ki).symm (da (kj).symm (kk).symm))) (sl _ (kp _ pc.1 (cr [] q6)))
 have p5b:Dis k9 q2:=dis_back qr (da (kl).symm (da (km).symm (da (kn).symm (kq).symm))) (sl _ (kp _ pd.1 (cr [] q6)))
 have p5c:Dis k9 q3:=dis_back qr (da (ks).symm (da (kt).symm (da (ku).symm (kv).symm))) (sl _ (kp _ pe.1 (cr [] q6)))
 have p5d:Dis k9 q4:=dis_back qr (da (kw).symm (da (kx).symm (da (ky).symm (kz).symm))) (sl _ (kp _ pf.1 (cr [] q6)))
 have p5e:Dis ka q0:=dis_back qt (da (kd).symm (da (ke).symm (da (kf).symm (kg).symm))) (sl _ (kp _ pb.1 (cr [] q6)))
 have p5f:Dis ka q1:=dis_back qt (da (kh).symm (da (ki).symm (da (kj).symm (kk).symm))) (sl _ (kp _ pc.1 (cr [] q6)))
 have p5g:Dis ka q2:=dis_back qt (da (kl).symm (da (km).symm (da (kn).symm (kq).symm))) (sl _ (kp _ pd.1 (cr [] q6)))
 have p5h:Dis ka q3:=dis_back qt (da (ks).symm (da (kt).symm (da (ku).symm (kv).symm))) (sl _ (kp _ pe.1 (cr [] q6)))
 have p5i:Dis ka q4:=dis_back qt (da (kw).symm (da (kx).symm (da (ky).symm (kz).symm))) (sl _ (kp _ pf.1 (cr [] q6)))
 have p5j:Dis kb q0:=dis_back qu (da (kd).symm (da (ke).symm (da (kf).symm (kg).symm))) (sl _ (kp _ pb.1 (cr [] q6)))
 have p5k:Dis kb q1:=dis_back qu (da (kh).symm (da (ki).symm (da (kj).symm (kk).symm))) (sl _ (kp _ pc.1 (cr [] q6)))
 have p5l:Dis kb q2:=dis_back qu (da (kl).symm (da (km).symm (da (kn).symm (kq).symm))) (sl _ (kp _ pd.1 (cr [] q6)))
 have p5m:Dis kb q3:=dis_back qu (da (ks).symm (da (kt).symm (da (ku).symm (kv).symm))) (sl _ (kp _ pe.1 (cr [] q6)))
 have p5n:Dis kb q4:=dis_back qu (da (kw).symm (da (kx).symm (da (ky).symm (kz).symm))) (sl _ (kp _ pf.1 (cr [] q6)))
 have p5o:Dis kc q0:=dis_back qw (da (kd).symm (da (ke).symm (da (kf).symm (kg).symm))) (sl _ (kp _ pb.1 (cr [] q6)))
 have p5p:Dis kc q1:=dis_back qw (da (kh).symm (da (ki).symm (da (kj).symm (kk).symm))) (sl _ (kp _ pc.1 (cr [] q6)))
 have p5q:Dis kc q2:=dis_back qw (da (kl).symm (da (km).symm (da (kn).symm (kq).symm))) (sl _ (kp _ pd.1 (cr [] q6)))
 have p5r:Dis kc q3:=dis_back qw (da (ks).symm (da (kt).symm (da (ku).symm (kv).symm))) (sl _ (kp _ pe.1 (cr [] q6)))
 have p5s:Dis kc q4:=dis_back qw (da (kw).symm (da (kx).symm (da (ky).symm (kz).symm))) (sl _ (kp _ pf.1 (cr [] q6)))
 replace qr:=OE.back qr (Kf ph.2.2 (Kf pi.2.2 (Kf pj.2.2 pk.2.2))) hB.size
 replace qt:=OE.back qt (Kf ph.2.2 (Kf pi.2.2 (Kf pj.2.2 pk.2.2))) hB.size
 replace qu:=OE.back qu (Kf ph.2.2 (Kf pi.2.2 (Kf pj.2.2 pk.2.2))) hB.size
 replace qw:=OE.back qw (Kf ph.2.2 (Kf pi.2.2 (Kf pj.2.2 pk.2.2))) hB.size
 have qi:=((cr [] q6).nil (G:=(qb++(qc++(qd++qe))))).trans p58
 replace hr4:=Kl hr4 qi ((Kj (da gz (da p0a (da p0l p0w)))) _ (ms rfl))
 replace p7:=okp p7 qi (Kj (da p00 (da p0b (da p0m p0x))))
 replace p8:=okp p8 qi (Kj (da p01 (da p0c (da p0n p0y))))
 replace p9:=okp p9 qi (Kj (da p02 (da p0d (da p0o p0z))))
 replace pa:=okp pa qi (Kj (da p03 (da p0e (da p0p p10))))
 replace p2:=okp p2 qi (Kj (da p04 (da p0f (da p0q p11))))
 replace p3:=okp p3 qi (Kj (da p05 (da p0g (da p0r p12))))
 replace p4:=okp p4 qi (Kj (da p06 (da p0h (da p0s p13))))
 replace p5:=okp p5 qi (Kj (da p07 (da p0i (da p0t p14))))
 replace p6:=okp p6 qi (Kj (da p08 (da p0j (da p0u p15))))
 replace pg:=Kl pg qi ((Kj (da p09 (da p0k (da p0v p16)))) _ (ms rfl))
 replace pp:=Kl pp qi ((Kj (da (nk).symm (da (nl).symm (da (nm).symm (nn).symm)))) _ (ms rfl))
 replace pb:=okp pb qi (Kj (da (kd).symm (da (ke).symm (da (kf).symm (kg).symm))))
 replace pc:=okp pc qi (Kj (da (kh).symm (da (ki).symm (da (kj).symm (kk).symm))))
 replace pd:=okp pd qi (Kj (da (kl).symm (da (km).symm (da (kn).symm (kq).symm))))
 replace pe:=okp pe qi (Kj (da (ks).symm (da (kt).symm (da (ku).symm (kv).symm))))
 replace pf:=okp pf qi (Kj (da (kw).symm (da (kx).symm (da (ky).symm (kz).symm))))
 replace q5:=Kl q5 qi ((Kj (da (no).symm (da (np).symm (da (nq).symm (nr).symm)))) _ (ms rfl))
 replace q7:=okp q7 qi (Kj (da (p44).symm (da (p45).symm (da (p46).symm (p47).symm))))
 replace q8:=okp q8 qi (Kj (da (p4d).symm (da (p4e).symm (da (p4f).symm (p4g).symm))))
 replace q9:=okp q9 qi (Kj (da (p4m).symm (da (p4n).symm (da (p4o).symm (p4p).symm))))
 replace qa:=okp qa qi (Kj (da (p4v).symm (da (p4w).symm (da (p4x).symm (p4y).symm))))
 replace hB:=hB.then qi (Kf ph.2.2 (Kf pi.2.2 (Kf pj.2.2 pk.2.2)))
 refine wv (v:=.int .i64 (y486.1)) rfl (oa _) ?_
 refine anz ?_
 refine wq ?_
 refine wq ?_
 refine Wq rfl (cr [] p57) ?_
 obtain ⟨g593,hm594,ho⟩:=bs ho
 refine QL.meet (fun r=>∃ F,r=updL F [(1,.pointer (some (⟨b1,0,none⟩))),(4,.pointer (some (⟨pv,0,none⟩))),(5,.int .i64 (y46.2)),(7,.pointer (some (⟨pu,0,none⟩))),(61,.bool (g593))]) ?_ ?_
 skip
 refine qv (v:=.int .i64 (y486.1)) rfl (fun _ _=>om _) ?_
 refine qv (v:=.bool (decide (y486.1 < (0:Int)))) rfl (fun _ _=>Kv rfl rfl bin_lss) ?_
 refine qv (v:=.bool (decide (y486.1 < (0:Int)))) rfl (fun _ _=>om _) ?_
 rcases Bool.eq_false_or_eq_true (decide (y486.1 < (0:Int))) with jc | jc
 rw [jc] at hm594
 refine qs rfl (congrArg some jc) rfl ?_
 refine qs rfl (congrArg some jc) rfl ?_
 refine qs rfl (congrArg some jc) rfl ?_
 refine qs rfl (congrArg some jc) rfl ?_
 refine qv (v:=.bool (true)) rfl (fun _ _=>op_pickT rfl jc) ?_
 refine qv (v:=.bool (true)) rfl (fun _ _=>om _) ?_
 refine qs rfl (congrArg some rfl) rfl ?_
 refine qs rfl (congrArg some rfl) rfl ?_
 refine qs rfl (congrArg some rfl) rfl ?_
 refine qv (v:=.bool (true)) rfl (fun _ _=>op_pickT rfl rfl) ?_
 cases hm594
 exact fr ⟨rfl,rfl,rfl,rfl,rfl,trivial⟩
 rw [jc] at hm594
 refine qg (v:=.agg #[.int .i64 (y215.1.Shape.Objects),v219,v222,v225,v228,v231]) rfl (congrArg some jc) (fun _ hC=>Kk u30 rfl info30 (by rw [sz30]; rfl) rfl (kr q5 hC).at) ?_
 refine qg (v:=.agg #[.int .i64 (y46.1.Shape.Objects),v50,v53,v56,v59,v62]) rfl (congrArg some jc) (fun _ hC=>Kk u30 rfl info30 (by rw [sz30]; rfl) rfl (kr pg hC).at) ?_
 obtain ⟨y596,p5t,hm594⟩:=bs hm594
 refine QL.callG (v:=.bool (y596)) rfl (congrArg some jc) (fun _ _=>Ks Tryz.func19 rfl rfl) (fun _ hC=>(laws_eqTopology_calls ((Ka (Kb _) 2).le (kp _ pb.1 hC)) ((Ka (Kb _) 2).le (kp _ pc.1 hC)) ((Ka (Kb _) 2).le (kp _ pd.1 hC)) ((Ka (Ka (Kb _) 2) 22).le (kp _ pe.1 hC)) ((Ka (Ka (Ka (Kb _) 2) 22) 23).le (kp _ pf.1 hC)) ((Ka (Kb _) 2).le (kp _ p2.1 hC)) ((Ka (Kb _) 2).le (kp _ p3.1 hC)) ((Ka (Kb _) 2).le (kp _ p4.1 hC)) ((Ka (Ka (Kb _) 2) 22).le (kp _ p5.1 hC)) ((Ka (Ka (Ka (Kb _) 2) 22) 23).le (kp _ p6.1 hC)) p5t).mono fun _ _ h=>⟨h.1,hC.trans h.2⟩) ?_
 refine qg (v:=.bool (!(y596))) rfl (congrArg some jc) (fun _ _=>op_not rfl) ?_
 refine qv (v:=.bool (!(y596))) rfl (fun _ _=>op_pickF rfl jc) ?_
 refine qv (v:=.bool (!(y596))) rfl (fun _ _=>om _) ?_
 rcases Bool.eq_false_or_eq_true (!(y596)) with jp | jp
 rw [jp] at hm594
 refine qs rfl (congrArg some jp) rfl ?_
 refine qs rfl (congrArg some jp) rfl ?_
 refine qs rfl (congrArg some jp) rfl ?_
 refine qv (v:=.bool (true)) rfl (fun _ _=>op_pickT rfl jp) ?_
 cases hm594
 exact fr ⟨rfl,rfl,rfl,rfl,rfl,trivial⟩
 rw [jp] at hm594
 refine qg (v:=.int .i64 (y215.2)) rfl (congrArg some jp) (fun _ _=>om _) ?_
 refine qg (v:=.int .i64 (y46.2)) rfl (congrArg some jp) (fun _ _=>om _) ?_
 refine qg (v:=.bool ((y215.2) != (y46.2))) rfl (congrArg some jp) (fun _ _=>Kv rfl rfl bin_neq) ?_
 refine qv (v:=.bool ((y215.2) != (y46.2))) rfl (fun _ _=>op_pickF rfl jp) ?_
 cases hm594
 exact fr ⟨rfl,rfl,rfl,rfl,rfl,trivial⟩
 rintro _ ⟨F,rfl⟩
 intro p8n g0
 refine anz ?_
 refine W_cond (b:=g593) rfl ?_ ?_
 intro na
 rw [na] at ho
 refine wq ?_
 refine Wq rfl g0 ?_
 refine qv (v:=.bool (false)) rfl (fun _ _=>oa _) ?_
 intro p8o p5u
 refine anz ?_
 cases ho
 exact W_ret ⟨_,res_1 Tryz.results5,rfl,(hB.trans p5u)⟩
 intro na
 rw [na] at ho
 refine W_skip ?_
 refine anz ?_
 refine wq ?_
 refine Wq rfl g0 ?_
 refine qv (v:=.int .i64 ((1:Int))) rfl (fun _ _=>oa _) ?_
 intro k7 g1
 refine anz ?_
 refine wq ?_
 refine Ko rfl ?_
 refine wv (v:=.agg #[.int .i64 (y215.1.Shape.Objects),v219,v222,v225,v228,v231]) rfl (Kk u30 rfl info30 (by rw [sz30]; rfl) rfl (kr q5 g1).at) ?_
 refine wv (v:=.int .i64 ((1:Int))) rfl (om _) ?_
 have py:=g1.trans (cr [] k7)
 replace hr4:=kr hr4 py
 replace p7:=ko p7 py
 replace p8:=ko p8 py
 replace p9:=ko p9 py
 replace pa:=ko pa py
 replace p2:=ko p2 py
 replace p3:=ko p3 py
 replace p4:=ko p4 py
 replace p5:=ko p5 py
 replace p6:=ko p6 py
 replace pg:=kr pg py
 replace pp:=kr pp py
 replace pb:=ko pb py
 replace pc:=ko pc py
 replace pd:=ko pd py
 replace pe:=ko pe py
 replace pf:=ko pf py
 replace q5:=kr q5 py
 replace q7:=ko q7 py
 replace q8:=ko q8 py
 replace q9:=ko q9 py
 replace qa:=ko qa py
 replace qr:=ko qr py
 replace qt:=ko qt py
 replace qu:=ko qu py
 replace qw:=ko qw py
 replace hB:=(hB.trans py)
 obtain ⟨y607,p5v,ho⟩:=bs ho
 refine Kr rfl (Ks Tryz.func22 rfl rfl) (laws_markTopology_calls (OE.give (B':=k7.heap.size) pb fun _ h=>h) (OE.give (B':=k7.heap.size) pc fun _ h=>h) (OE.give (B':=k7.heap.size) pd fun _ h=>h) (OE.give (B':=k7.heap.size) pe fun _ h=>h) (OE.give (B':=k7.heap.size) pf fun _ h=>h) p1n p1o p1p p1q p1r p1s p1t p1u p1v p1w p5v) ?_
 rintro _ p5w ⟨p5x,p5y,p5z,p60,p61,rfl,p62,jd,je,jf,jg,jh,p8p,p8q,p8r,p8s,p8t,p8u,p8v,p8w,p8x,p8y⟩
 refine ⟨_,rfl,?_⟩
 replace jd:=OE.back jd (Kf pb.2.2 (Kf pc.2.2 (Kf pd.2.2 (Kf pe.2.2 pf.2.2)))) hB.size
 replace je:=OE.back je (Kf pb.2.2 (Kf pc.2.2 (Kf pd.2.2 (Kf pe.2.2 pf.2.2)))) hB.size
 replace jf:=OE.back jf (Kf pb.2.2 (Kf pc.2.2 (Kf pd.2.2 (Kf pe.2.2 pf.2.2)))) hB.size
 replace jg:=OE.back jg (Kf pb.2.2 (Kf pc.2.2 (Kf pd.2.2 (Kf pe.2.2 pf.2.2)))) hB.size
 replace jh:=OE.back jh (Kf pb.2.2 (Kf pc.2.2 (Kf pd.2.2 (Kf pe.2.2 pf.2.2)))) hB.size
 have qq:=((cr [] k7).nil (G:=(q0++(q1++(q2++(q3++q4)))))).trans p62
 replace hr4:=Kl hr4 qq ((Kj (da p1x (da p29 (da p2l (da p2x p39))))) _ (ms rfl))
 replace p7:=okp p7 qq (Kj (da p1y (da p2a (da p2m (da p2y p3a)))))
 replace p8:=okp p8 qq (Kj (da p1z (da p2b (da p2n (da p2z p3b)))))
 replace p9:=okp p9 qq (Kj (da p20 (da p2c (da p2o (da p30 p3c)))))
 replace pa:=okp pa qq (Kj (da p21 (da p2d (da p2p (da p31 p3d)))))
 replace p2:=okp p2 qq (Kj (da p22 (da p2e (da p2q (da p32 p3e)))))
 replace p3:=okp p3 qq (Kj (da p23 (da p2f (da p2r (da p33 p3f)))))
 replace p4:=okp p4 qq (Kj (da p24 (da p2g (da p2s (da p34 p3g)))))
 replace p5:=okp p5 qq (Kj (da p25 (da p2h (da p2t (da p35 p3h)))))
 replace p6:=okp p6 qq (Kj (da p26 (da p2i (da p2u (da p36 p3i)))))
 replace pg:=Kl pg qq ((Kj (da p27 (da p2j (da p2v (da p37 p3j))))) _ (ms rfl))
 replace pp:=Kl pp qq ((Kj (da p28 (da p2k (da p2w (da p38 p3k))))) _ (ms rfl))
 replace q5:=Kl q5 qq ((Kj (da (ns).symm (da (nt).symm (da (nu).symm (da (nv).symm (nw).symm))))) _ (ms rfl))
 replace q7:=okp q7 qq (Kj (da (p48).symm (da (p49).symm (da (p4a).symm (da (p4b).symm (p4c).symm)))))
 replace q8:=okp q8 qq (Kj (da (p4h).symm (da (p4i).symm (da (p4j).symm (da (p4k).symm (p4l).symm)))))
 replace q9:=okp q9 qq (Kj (da (p4q).symm (da (p4r).symm (da (p4s).symm (da (p4t).symm (p4u).symm)))))
 replace qa:=okp qa qq (Kj (da (p4z).symm (da (p50).symm (da (p51).symm (da (p52).symm (p53).symm)))))
 replace qr:=okp qr qq (Kj (da (p59).symm (da (p5a).symm (da (p5b).symm (da (p5c).symm (p5d).symm)))))
 replace qt:=okp qt qq (Kj (da (p5e).symm (da (p5f).symm (da (p5g).symm (da (p5h).symm (p5i).symm)))))
 replace qu:=okp qu qq (Kj (da (p5j).symm (da (p5k).symm (da (p5l).symm (da (p5m).symm (p5n).symm)))))
 replace qw:=okp qw qq (Kj (da (p5o).symm (da (p5p).symm (da (p5q).symm (da (p5r).symm (p5s).symm)))))
 replace hB:=hB.then qq (Kf pb.2.2 (Kf pc.2.2 (Kf pd.2.2 (Kf pe.2.2 pf.2.2))))
 refine wv (v:=.int .i64 (y607.1)) rfl (oa _) ?_
 refine anz ?_
 refine wq ?_
 refine Wq rfl (cr [] p5w) ?_
 refine qv (v:=.int .i64 ((1:Int))) rfl (fun _ _=>oa _) ?_
 intro p8z p63
 refine anz ?_
 refine wq ?_
 refine Wq rfl p63 ?_
 refine qv (v:=.agg #[.int .i64 (y215.1.Shape.Objects),v219,v222,v225,v228,v231]) rfl (fun _ hC=>Kk u30 rfl info30 (by rw [sz30]; rfl) rfl (kr q5 hC).at) ?_
 refine qv (v:=.int .i64 ((1:Int))) rfl (fun _ _=>om _) ?_
 obtain ⟨y739,p64,ho⟩:=bs ho
 refine QL.call (v:=.int .i64 (y739)) rfl (fun _ _=>Ks Tryz.func23 rfl rfl) (fun _ hC=>(laws_heldTopology_calls (x0:=(MTopology.mk (MCategory.mk y215.1.Shape.Objects y607.2.1 y607.2.2.1 y607.2.2.2.1 y607.2.2.2.2.1) y607.2.2.2.2.2)) ((Ka (Kb _) 2).le (kp _ jd.1 hC)) ((Ka (Kb _) 2).le (kp _ je.1 hC)) ((Ka (Kb _) 2).le (kp _ jf.1 hC)) ((Ka (Ka (Kb _) 2) 22).le (kp _ jg.1 hC)) ((Ka (Ka (Ka (Kb _) 2) 22) 23).le (kp _ jh.1 hC)) p64).mono fun _ _ h=>⟨h.1,hC.trans h.2⟩) ?_
 refine qv (v:=.int .i64 (y739)) rfl (fun _ _=>oa _) ?_
 intro p90 p65
 refine anz ?_
 refine wq ?_
 refine wq ?_
 refine Wq rfl p65 ?_
 refine qv (v:=.int .i64 (y739)) rfl (fun _ _=>om _) ?_
 refine qv (v:=.bool (decide (y739 < (0:Int)))) rfl (fun _ _=>Kv rfl rfl bin_lss) ?_
 intro p91 g2
 refine anz ?_
 refine W_cond (b:=decide (y739 < (0:Int))) rfl ?_ ?_
 intro nb
 rw [nb] at ho
 refine wq ?_
 refine Wq rfl g2 ?_
 refine qv (v:=.bool (false)) rfl (fun _ _=>oa _) ?_
 intro p92 p66
 refine anz ?_
 cases ho
 exact W_ret ⟨_,res_1 Tryz.results5,rfl,(hB.trans p66)⟩
 intro nb
 rw [nb] at ho
 refine W_skip ?_
 refine anz ?_
 refine wq ?_
 refine wq ?_
 refine Wq rfl g2 ?_
 refine qv (v:=.int .i64 (y739)) rfl (fun _ _=>om _) ?_
 refine qv (v:=.int .i64 (y607.1)) rfl (fun _ _=>om _) ?_
 refine qv (v:=.bool ((y739) != (y607.1))) rfl (fun _ _=>Kv rfl rfl bin_neq) ?_
 intro p93 jq
 refine anz ?_
 refine W_cond (b:=(y739) != (y607.1)) rfl ?_ ?_
 intro nc
 rw [nc] at ho
 refine wq ?_
 refine Wq rfl jq ?_
 refine qv (v:=.bool (false)) rfl (fun _ _=>oa _) ?_
 intro p94 p67
 refine anz ?_
 cases ho
 exact W_ret ⟨_,res_1 Tryz.results5,rfl,(hB.trans p67)⟩
 intro nc
 rw [nc] at ho
 refine W_skip ?_
 refine anz ?_
 refine wq ?_
 refine Ko rfl ?_
 refine wv (v:=.agg #[.int .i64 (x0.Objects),z6,z7,z9,z8]) rfl (Kk u25z rfl info25 (by rw [sz25]; rfl) rfl (kr hr4 jq).at) ?_
 obtain ⟨y753,p68,ho⟩:=bs ho
 refine Kr rfl (Ks Tryz.func17 rfl rfl) (laws_toCategory_calls (kp _ za (hB.trans jq)) (kp _ zb (hB.trans jq)) (kp _ zd (hB.trans jq)) (kp _ zc (hB.trans jq)) p68) ?_
 rintro _ jx ⟨v757,p69,v760,p6a,v763,p6b,v766,p6c,rfl,p6d,jy,jz,k0,k1,p95,p96,p97,p98,p99,p9a⟩
 refine ⟨_,rfl,?_⟩
 replace jy:=Ki (G:=[]) jy (hB.trans jq).size
 replace jz:=Ki (G:=[]) jz (hB.trans jq).size
 replace k0:=Ki (G:=[]) k0 (hB.trans jq).size
 replace k1:=Ki (G:=[]) k1 (hB.trans jq).size
 have pz:=jq.trans p6d
 replace hr4:=kr hr4 pz
 replace p7:=ko p7 pz
 replace p8:=ko p8 pz
 replace p9:=ko p9 pz
 replace pa:=ko pa pz
 replace p2:=ko p2 pz
 replace p3:=ko p3 pz
 replace p4:=ko p4 pz
 replace p5:=ko p5 pz
 replace p6:=ko p6 pz
 replace pg:=kr pg pz
 replace pp:=kr pp pz
 replace q5:=kr q5 pz
 replace q7:=ko q7 pz
 replace q8:=ko q8 pz
 replace q9:=ko q9 pz
 replace qa:=ko qa pz
 replace qr:=ko qr pz
 replace qt:=ko qt pz
 replace qu:=ko qu pz
 replace qw:=ko qw pz
 replace jd:=ko jd pz
 replace je:=ko je pz
 replace jf:=ko jf pz
 replace jg:=ko jg pz
 replace jh:=ko jh pz
 replace hB:=(hB.trans pz)
 obtain ⟨y880,p6e,ho⟩:=bs ho
 refine Kr rfl (Ks Tryz.func27 rfl rfl) (impl_DenseTopology_calls ((Ka (Kb _) 2).le (kp _ jy.1 (cr [] jx))) ((Ka (Kb _) 2).le (kp _ jz.1 (cr [] jx))) ((Ka (Kb _) 2).le (kp _ k0.1 (cr [] jx))) ((Ka (Ka (Kb _) 2) 22).le (kp _ k1.1 (cr [] jx))) p6e) ?_
 rintro _ po ⟨v884,p6f,v887,p6g,v890,p6h,v893,p6i,v896,p6j,rfl,p6k,k2,k3,k4,k5,k6,p9b,p9c,p9d,p9e,p9f,p9g,p9h,p9i,p9j,p9k⟩
 refine ⟨_,rfl,?_⟩
 replace k2:=Ki (G:=[]) k2 (hB.trans (cr [] jx)).size
 replace k3:=Ki (G:=[]) k3 (hB.trans (cr [] jx)).size
 replace k4:=Ki (G:=[]) k4 (hB.trans (cr [] jx)).size
 replace k5:=Ki (G:=[]) k5 (hB.trans (cr [] jx)).size
 replace k6:=Ki (G:=[]) k6 (hB.trans (cr [] jx)).size
 have pt:=(cr [] jx).trans p6k
 replace hr4:=kr hr4 pt
 replace p7:=ko p7 pt
 replace p8:=ko p8 pt
 replace p9:=ko p9 pt
 replace pa:=ko pa pt
 replace p2:=ko p2 pt
 replace p3:=ko p3 pt
 replace p4:=ko p4 pt
 replace p5:=ko p5 pt
 replace p6:=ko p6 pt
 replace pg:=kr pg pt
 replace pp:=kr pp pt
 replace q5:=kr q5 pt
 replace q7:=ko q7 pt
 replace q8:=ko q8 pt
 replace q9:=ko q9 pt
 replace qa:=ko qa pt
 replace qr:=ko qr pt
 replace qt:=ko qt pt
 replace qu:=ko qu pt
 replace qw:=ko qw pt
 replace jd:=ko jd pt
 replace je:=ko je pt
 replace jf:=ko jf pt
 replace jg:=ko jg pt
 replace jh:=ko jh pt
 replace jy:=ko jy pt
 replace jz:=ko jz pt
 replace k0:=ko k0 pt
 replace k1:=ko k1 pt
 replace hB:=(hB.trans pt)
 refine wv (v:=.tuple #[.agg #[.int .i64 (y880.1.Shape.Objects),v884,v887,v890,v893,v896],.int .i64 (y880.2)]) rfl (om _) ?_
 refine wv (v:=.agg #[.int .i64 (y880.1.Shape.Objects),v884,v887,v890,v893,v896]) rfl (Kn rfl rfl) ?_
 refine wv (v:=.int .i64 (y880.2)) rfl (Kn rfl rfl) ?_
 refine Kz info30 zr30 fun pn nd p6l ne pq=>?_
 replace ne:Row nd pn [.int .i64 ((0:Int)),.slice none 0 0,.slice none 0 0,.slice none 0 0,.slice none 0 0,.slice none 0 0] 30:=ne
 have p6m:w.heap.size≤pn:=Ku (hB.trans (cr [] po)).size pq
 have p6n:Dis [pn] [b1]:=dl (onw pq) (Kc (Kd (kr hr4 (cr [] po))))
 have p6o:Dis [pn] j3:=dl (onw pq) (sl _ (kp _ p7.1 (cr [] po)))
 have p6p:Dis [pn] j4:=dl (onw pq) (sl _ (kp _ p8.1 (cr [] po)))
 have p6q:Dis [pn] j5:=dl (onw pq) (sl _ (kp _ p9.1 (cr [] po)))
 have p6r:Dis [pn] j6:=dl (onw pq) (sl _ (kp _ pa.1 (cr [] po)))
 have p6s:Dis [pn] j7:=dl (onw pq) (sl _ (kp _ p2.1 (cr [] po)))
 have p6t:Dis [pn] j8:=dl (onw pq) (sl _ (kp _ p3.1 (cr [] po)))
 have p6u:Dis [pn] j9:=dl (onw pq) (sl _ (kp _ p4.1 (cr [] po)))
 have p6v:Dis [pn] ja:=dl (onw pq) (sl _ (kp _ p5.1 (cr [] po)))
 have p6w:Dis [pn] jb:=dl (onw pq) (sl _ (kp _ p6.1 (cr [] po)))
 have p6x:Dis [pn] [pv]:=dl (onw pq) (Kc (Kd (kr pg (cr [] po))))
 have p6y:Dis [pn] [pw]:=dl (onw pq) (Kc (Kd (kr pp (cr [] po))))
 have p6z:Dis [pn] [pu]:=dl (onw pq) (Kc (Kd (kr q5 (cr [] po))))
 have p70:Dis [pn] qm:=dl (onw pq) (sl _ (kp _ q7.1 (cr [] po)))
 have p71:Dis [pn] qn:=dl (onw pq) (sl _ (kp _ q8.1 (cr [] po)))
 have p72:Dis [pn] qo:=dl (onw pq) (sl _ (kp _ q9.1 (cr [] po)))
 have p73:Dis [pn] qp:=dl (onw pq) (sl _ (kp _ qa.1 (cr [] po)))
 have p74:Dis [pn] k9:=dl (onw pq) (sl _ (kp _ qr.1 (cr [] po)))
 have p75:Dis [pn] ka:=dl (onw pq) (sl _ (kp _ qt.1 (cr [] po)))
 have p76:Dis [pn] kb:=dl (onw pq) (sl _ (kp _ qu.1 (cr [] po)))
 have p77:Dis [pn] kc:=dl (onw pq) (sl _ (kp _ qw.1 (cr [] po)))
 have p78:Dis [pn] p5x:=dl (onw pq) (sl _ (kp _ jd.1 (cr [] po)))
 have p79:Dis [pn] p5y:=dl (onw pq) (sl _ (kp _ je.1 (cr [] po)))
 have p7a:Dis [pn] p5z:=dl (onw pq) (sl _ (kp _ jf.1 (cr [] po)))
 have p7b:Dis [pn] p60:=dl (onw pq) (sl _ (kp _ jg.1 (cr [] po)))
 have p7c:Dis [pn] p61:=dl (onw pq) (sl _ (kp _ jh.1 (cr [] po)))
 have p7d:Dis [pn] p69:=dl (onw pq) (sl _ (kp _ jy.1 (cr [] po)))
 have p7e:Dis [pn] p6a:=dl (onw pq) (sl _ (kp _ jz.1 (cr [] po)))
 have p7f:Dis [pn] p6b:=dl (onw pq) (sl _ (kp _ k0.1 (cr [] po)))
 have p7g:Dis [pn] p6c:=dl (onw pq) (sl _ (kp _ k1.1 (cr [] po)))
 have p7h:Dis [pn] p6f:=dl (onw pq) (sl _ (kp _ k2.1 (cr [] po)))
 have p7i:Dis [pn] p6g:=dl (onw pq) (sl _ (kp _ k3.1 (cr [] po)))
 have p7j:Dis [pn] p6h:=dl (onw pq) (sl _ (kp _ k4.1 (cr [] po)))
 have p7k:Dis [pn] p6i:=dl (onw pq) (sl _ (kp _ k5.1 (cr [] po)))
 have p7l:Dis [pn] p6j:=dl (onw pq) (sl _ (kp _ k6.1 (cr [] po)))
 have pr:=(cr [] po).trans p6l
 replace hr4:=kr hr4 pr
 replace p7:=ko p7 pr
 replace p8:=ko p8 pr
 replace p9:=ko p9 pr
 replace pa:=ko pa pr
 replace p2:=ko p2 pr
 replace p3:=ko p3 pr
 replace p4:=ko p4 pr
 replace p5:=ko p5 pr
 replace p6:=ko p6 pr
 replace pg:=kr pg pr
 replace pp:=kr pp pr
 replace q5:=kr q5 pr
 replace q7:=ko q7 pr
 replace q8:=ko q8 pr
 replace q9:=ko q9 pr
 replace qa:=ko qa pr
 replace qr:=ko qr pr
 replace qt:=ko qt pr
 replace qu:=ko qu pr
 replace qw:=ko qw pr
 replace jd:=ko jd pr
 replace je:=ko je pr
 replace jf:=ko jf pr
 replace jg:=ko jg pr
 replace jh:=ko jh pr
 replace jy:=ko jy pr
 replace jz:=ko jz pr
 replace k0:=ko k0 pr
 replace k1:=ko k1 pr
 replace k2:=ko k2 pr
 replace k3:=ko k3 pr
 replace k4:=ko k4 pr
 replace k5:=ko k5 pr
 replace k6:=ko k6 pr
 replace hB:=(hB.trans pr)
 refine WL.storeAll (us:=[.int .i64 (y880.1.Shape.Objects),v884,v887,v890,v893,v896]) info30 (by rw [sz30]; rfl) (kr ne (cr [] nd)) rfl rfl rfl (by intro u hu; simp only [List.mem_cons,List.mem_nil_iff,or_false] at hu; rcases hu with rfl | rfl | rfl | rfl | rfl | rfl <;> first | exact rfl | exact (Kh _ k2.1 _ (ms rfl)) | exact (Kh _ k3.1 _ (ms rfl)) | exact (Kh _ k4.1 _ (ms rfl)) | exact (Kh _ k5.1 _ (ms rfl)) | exact (Kh _ k6.1 _ (ms rfl))) fun g3 p7m nf=>?_
 replace nf:Row g3 pn [.int .i64 (y880.1.Shape.Objects),v884,v887,v890,v893,v896] 30:=nf
 have ps:=((cr [] nd).nil (G:=[pn])).trans p7m
 replace hr4:=Kl hr4 ps ((p6n).symm _ (ms rfl))
 replace p7:=okp p7 ps (p6o).symm
 replace p8:=okp p8 ps (p6p).symm
 replace p9:=okp p9 ps (p6q).symm
 replace pa:=okp pa ps (p6r).symm
 replace p2:=okp p2 ps (p6s).symm
 replace p3:=okp p3 ps (p6t).symm
 replace p4:=okp p4 ps (p6u).symm
 replace p5:=okp p5 ps (p6v).symm
 replace p6:=okp p6 ps (p6w).symm
 replace pg:=Kl pg ps ((p6x).symm _ (ms rfl))
 replace pp:=Kl pp ps ((p6y).symm _ (ms rfl))
 replace q5:=Kl q5 ps ((p6z).symm _ (ms rfl))
 replace q7:=okp q7 ps (p70).symm
 replace q8:=okp q8 ps (p71).symm
 replace q9:=okp q9 ps (p72).symm
 replace qa:=okp qa ps (p73).symm
 replace qr:=okp qr ps (p74).symm
 replace qt:=okp qt ps (p75).symm
 replace qu:=okp qu ps (p76).symm
 replace qw:=okp qw ps (p77).symm
 replace jd:=okp jd ps (p78).symm
 replace je:=okp je ps (p79).symm
 replace jf:=okp jf ps (p7a).symm
 replace jg:=okp jg ps (p7b).symm
 replace jh:=okp jh ps (p7c).symm
 replace jy:=okp jy ps (p7d).symm
 replace jz:=okp jz ps (p7e).symm
 replace k0:=okp k0 ps (p7f).symm
 replace k1:=okp k1 ps (p7g).symm
 replace k2:=okp k2 ps (p7h).symm
 replace k3:=okp k3 ps (p7i).symm
 replace k4:=okp k4 ps (p7j).symm
 replace k5:=okp k5 ps (p7k).symm
 replace k6:=okp k6 ps (p7l).symm
 replace hB:=hB.then ps (Ke p6m)
 refine wv (v:=.int .i64 (y880.2)) rfl (oa _) ?_
 refine anz ?_
 refine wq ?_
 refine wq ?_
 refine Wq rfl (cr [] g3) ?_
 obtain ⟨g1106,hm1107,ho⟩:=bs ho
 refine QL.meet (fun r=>∃ F,r=updL F [(7,.pointer (some (⟨pu,0,none⟩))),(10,.int .i64 (y607.1)),(87,.bool (g1106))]) ?_ ?_
 skip
 refine qv (v:=.agg #[.int .i64 (y880.1.Shape.Objects),v884,v887,v890,v893,v896]) rfl (fun _ hC=>Kk u30 rfl info30 (by rw [sz30]; rfl) rfl (kr nf hC).at) ?_
 refine qv (v:=.agg #[.int .i64 (y46.1.Shape.Objects),v50,v53,v56,v59,v62]) rfl (fun _ hC=>Kk u30 rfl info30 (by rw [sz30]; rfl) rfl (kr pg hC).at) ?_
 obtain ⟨y1108,p7n,hm1107⟩:=bs hm1107
 refine QL.call (v:=.bool (y1108)) rfl (fun _ _=>Ks Tryz.func19 rfl rfl) (fun _ hC=>(laws_eqTopology_calls ((Ka (Kb _) 2).le (kp _ k2.1 hC)) ((Ka (Kb _) 2).le (kp _ k3.1 hC)) ((Ka (Kb _) 2).le (kp _ k4.1 hC)) ((Ka (Ka (Kb _) 2) 22).le (kp _ k5.1 hC)) ((Ka (Ka (Ka (Kb _) 2) 22) 23).le (kp _ k6.1 hC)) ((Ka (Kb _) 2).le (kp _ p2.1 hC)) ((Ka (Kb _) 2).le (kp _ p3.1 hC)) ((Ka (Kb _) 2).le (kp _ p4.1 hC)) ((Ka (Ka (Kb _) 2) 22).le (kp _ p5.1 hC)) ((Ka (Ka (Ka (Kb _) 2) 22) 23).le (kp _ p6.1 hC)) p7n).mono fun _ _ h=>⟨h.1,hC.trans h.2⟩) ?_
 refine qv (v:=.bool (!(y1108))) rfl (fun _ _=>op_not rfl) ?_
 refine qv (v:=.bool (!(y1108))) rfl (fun _ _=>om _) ?_
 rcases Bool.eq_false_or_eq_true (!(y1108)) with jr | jr
 rw [jr] at hm1107
 refine qs rfl (congrArg some jr) rfl ?_
 refine qs rfl (congrArg some jr) rfl ?_
 refine qs rfl (congrArg some jr) rfl ?_
 refine qv (v:=.bool (true)) rfl (fun _ _=>op_pickT rfl jr) ?_
 cases hm1107
 exact fr ⟨rfl,rfl,rfl,trivial⟩
 rw [jr] at hm1107
 refine qg (v:=.int .i64 (y880.2)) rfl (congrArg some jr) (fun _ _=>om _) ?_
 refine qg (v:=.int .i64 (y46.2)) rfl (congrArg some jr) (fun _ _=>om _) ?_
 refine qg (v:=.bool ((y880.2) != (y46.2))) rfl (congrArg some jr) (fun _ _=>Kv rfl rfl bin_neq) ?_
 refine qv (v:=.bool ((y880.2) != (y46.2))) rfl (fun _ _=>op_pickF rfl jr) ?_
 cases hm1107
 exact fr ⟨rfl,rfl,rfl,trivial⟩
 rintro _ ⟨F,rfl⟩
 intro p9l g4
 refine anz ?_
 refine W_cond (b:=g1106) rfl ?_ ?_
 intro ng
 rw [ng] at ho
 refine wq ?_
 refine Wq rfl g4 ?_
 refine qv (v:=.bool (false)) rfl (fun _ _=>oa _) ?_
 intro p9m p7o
 refine anz ?_
 cases ho
 exact W_ret ⟨_,res_1 Tryz.results5,rfl,(hB.trans p7o)⟩
 intro ng
 rw [ng] at ho
 refine W_skip ?_
 refine anz ?_
 refine wq ?_
 refine Wq rfl g4 ?_
 refine qv (v:=.int .i64 ((1:Int))) rfl (fun _ _=>oa _) ?_
 intro p9n p7p
 refine anz ?_
 refine wq ?_
 refine Wq rfl p7p ?_
 refine qv (v:=.agg #[.int .i64 (y215.1.Shape.Objects),v219,v222,v225,v228,v231]) rfl (fun _ hC=>Kk u30 rfl info30 (by rw [sz30]; rfl) rfl (kr q5 hC).at) ?_
 refine qv (v:=.int .i64 ((1:Int))) rfl (fun _ _=>om _) ?_
 obtain ⟨y1118,p7q,ho⟩:=bs ho
 refine QL.call (v:=.int .i64 (y1118)) rfl (fun _ _=>Ks Tryz.func23 rfl rfl) (fun _ hC=>(laws_heldTopology_calls (x0:=(MTopology.mk (MCategory.mk y215.1.Shape.Objects y607.2.1 y607.2.2.1 y607.2.2.2.1 y607.2.2.2.2.1) y607.2.2.2.2.2)) ((Ka (Kb _) 2).le (kp _ jd.1 hC)) ((Ka (Kb _) 2).le (kp _ je.1 hC)) ((Ka (Kb _) 2).le (kp _ jf.1 hC)) ((Ka (Ka (Kb _) 2) 22).le (kp _ jg.1 hC)) ((Ka (Ka (Ka (Kb _) 2) 22) 23).le (kp _ jh.1 hC)) p7q).mono fun _ _ h=>⟨h.1,hC.trans h.2⟩) ?_
 refine qv (v:=.int .i64 (y1118)) rfl (fun _ _=>oa _) ?_
 intro p9o p7r
 refine anz ?_
 refine wq ?_
 refine wq ?_
 refine Wq rfl p7r ?_
 refine qv (v:=.int .i64 (y1118)) rfl (fun _ _=>om _) ?_
 refine qv (v:=.bool (decide (y1118 < (0:Int)))) rfl (fun _ _=>Kv rfl rfl bin_lss) ?_
 intro p9p g5
 refine anz ?_
 refine W_cond (b:=decide (y1118 < (0:Int))) rfl ?_ ?_
 intro nh
 rw [nh] at ho
 refine wq ?_
 refine Wq rfl g5 ?_
 refine qv (v:=.bool (false)) rfl (fun _ _=>oa _) ?_
 intro p9q p7s
 refine anz ?_
 cases ho
 exact W_ret ⟨_,res_1 Tryz.results5,rfl,(hB.trans p7s)⟩
 intro nh
 rw [nh] at ho
 refine W_skip ?_
 refine anz ?_
 refine wq ?_
 refine wq ?_
 refine Wq rfl g5 ?_
 refine qv (v:=.int .i64 (y1118)) rfl (fun _ _=>om _) ?_
 refine qv (v:=.int .i64 (y607.1)) rfl (fun _ _=>om _) ?_
 refine qv (v:=.bool ((y1118) != (y607.1))) rfl (fun _ _=>Kv rfl rfl bin_neq) ?_
 intro p9r g6
 refine anz ?_
 refine W_cond (b:=(y1118) != (y607.1)) rfl ?_ ?_
 intro ni
 rw [ni] at ho
 refine wq ?_
 refine Wq rfl g6 ?_
 refine qv (v:=.bool (false)) rfl (fun _ _=>oa _) ?_
 intro p9s p7t
 refine anz ?_
 cases ho
 exact W_ret ⟨_,res_1 Tryz.results5,rfl,(hB.trans p7t)⟩
 intro ni
 rw [ni] at ho
 refine W_skip ?_
 refine anz ?_
 refine wq ?_
 refine Wq rfl g6 ?_
 refine qv (v:=.bool (true)) rfl (fun _ _=>oa _) ?_
 intro p9t p7u
 refine anz ?_
 cases ho
 exact W_ret ⟨_,res_1 Tryz.results5,rfl,(hB.trans p7u)⟩
end Go.Proofs.YtfbijbginbjecaaGreat
