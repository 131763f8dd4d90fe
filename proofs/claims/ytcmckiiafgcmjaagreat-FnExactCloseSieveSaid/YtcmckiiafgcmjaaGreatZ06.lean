/- Walks, printed by a program: that a call of each function computes what its model says. No condition beside those that each theorem names. -/
import Derived.Test.YtcmckiiafgcmjaaGreatTy
import Derived.Test.YtcmckiiafgcmjaaGreatMo
import Derived.Test.YtcmckiiafgcmjaaGreatZ00
import Derived.Test.YtcmckiiafgcmjaaGreatZ02
import Derived.Test.YtcmckiiafgcmjaaGreatZ03
import Derived.Test.YtcmckiiafgcmjaaGreatZ04
import Derived.Test.YtcmckiiafgcmjaaGreatZ05
namespace Go.Proofs.YtcmckiiafgcmjaaGreat
open Go Go.Li
set_option linter.unusedVariables false
set_option maxHeartbeats 4000000
set_option maxRecDepth 100000
abbrev spec_CloseSieve_post (w:World) (x:((List Int)×Int)) (e:Ending) (w':World):Prop:=∃ (v0:Value) (f0:List Nat),e = .returned (.tuple #[v0,.int .i64 x.2])∧Chg [] w w'∧OE [] w.heap.size w' (sOwn 2 (sInt .i64)) [v0] x.1 f0
abbrev spec_CloseSieve_T (w:World):=Tm Tryz.prog Tryz.f20 38 (spec_CloseSieve_post w)
theorem spec_CloseSieve_calls {w:World} {x0:MTopology} {zl:Value} {zo:List Nat} {zk:Value} {zp:List Nat} {zm:Value} {zq:List Nat} {zn:Value} {zr:List Nat} {zi:Value} {zd:List Nat} {x1:Int} {x2:(List Int)} {v_x2:Value} {f_x2:List Nat} (zu:(sImm (sInt .i64)).rep w.heap [zl] x0.Shape.From zo) (zt:(sImm (sInt .i64)).rep w.heap [zk] x0.Shape.To zp) (zv:(sImm (sInt .i64)).rep w.heap [zm] x0.Shape.Identity zq) (zw:(sImm (sImm (sInt .i64))).rep w.heap [zn] x0.Shape.Composites zr) (zj:(sImm (sImm (sImm (sInt .i64)))).rep w.heap [zi] x0.Covers zd) (h_x2:(sImm (sInt .i64)).rep w.heap [v_x2] x2 f_x2) {y:((List Int)×Int)} (hm:spec_CloseSieve x0 x1 x2=some y) :
  Calls Tryz.prog 20 #[.agg #[.int .i64 (x0.Shape.Objects),zl,zk,zm,zn,zi],.int .i64 (x1),v_x2] w (spec_CloseSieve_post w y):=by
 refine Cm (S:=Unit) Tryz.func20 rfl Tryz.ntmps20 rfl hm fun o ho hB=>?_
 clear hm
 refine wq <| W_region rfl <| WL.box fun b1 wd2 hC3 hr4 hl5=>?_
 replace hr4:Row wd2 b1 [.int .i64 (x0.Shape.Objects),zl,zk,zm,zn,zi] 34:=hr4
 replace hB:=(hB.trans hC3)
 refine Wb (As rfl) <| Wb (Ai rfl) <| anz <| wq <| wq <| Wq rfl (cr [] wd2) <| Qa (Lg ag34 hr4.at rfl rfl) <| ?_
 obtain ⟨y8,hy9,ho⟩:=bs ho
 refine Qc Tryz.func75 rfl rfl (fun _ hC=>spec_l27Shape_calls (kp _ zu (hB.trans hC)) (kp _ zt (hB.trans hC)) (kp _ zv (hB.trans hC)) (kp _ zw (hB.trans hC)) (kp _ zj (hB.trans hC)) hy9) <| Qa (Nt rfl) <| fun p0p jh=>anz <| W_cond (b:=!(y8)) rfl ?_ ?_
 intro qo
 rw [qo] at ho
 refine wq <| Wq rfl jh <| Qa (As rfl) <| Qa (Ai rfl) <| fun nz ji=>anz <| ?_
 cases ho
 exact W_ret ⟨_,res_2 Tryz.results20,_,_,rfl,(hB.trans ji),nil_OE⟩
 intro qo
 rw [qo] at ho
 refine W_skip <| anz <| wq <| wq <| Wq rfl jh <| Qa (Fr fa34_0 rfl) <| ?_
 refine qv (v:=.agg #[.int .i64 (x0.Shape.Objects),zl,zk,zm,zn]) rfl (fun _ hC=>op_loadAgg (cs:=[.int .i64 (x0.Shape.Objects),zl,zk,zm,zn]) u32 rfl info32 (by rw [sz32]; rfl) rfl (At.sub (kr hr4 hC).at 0 5)) ?_
 refine Qa (Mi rfl) <| ?_
 obtain ⟨y15,jj,ho⟩:=bs ho
 refine Qc Tryz.func76 rfl rfl (fun _ hC=>spec_l02Object_calls (kp _ zu (hB.trans hC)) (kp _ zt (hB.trans hC)) (kp _ zv (hB.trans hC)) (kp _ zw (hB.trans hC)) jj) <| Qa (Nt rfl) <| fun kl q3=>anz <| W_cond (b:=!(y15)) rfl ?_ ?_
 intro qp
 rw [qp] at ho
 refine wq <| Wq rfl q3 <| Qa (As rfl) <| Qa (Ai rfl) <| fun k2 j8=>anz <| ?_
 cases ho
 exact W_ret ⟨_,res_2 Tryz.results20,_,_,rfl,(hB.trans j8),nil_OE⟩
 intro qp
 rw [qp] at ho
 refine W_skip <| anz <| wq <| wq <| Wq rfl q3 <| Qa (Fr fa34_0 rfl) <| ?_
 refine qv (v:=.agg #[.int .i64 (x0.Shape.Objects),zl,zk,zm,zn]) rfl (fun _ hC=>op_loadAgg (cs:=[.int .i64 (x0.Shape.Objects),zl,zk,zm,zn]) u32 rfl info32 (by rw [sz32]; rfl) rfl (At.sub (kr hr4 hC).at 0 5)) ?_
 refine Qa (Mi rfl) <| Qa (Mv v_x2 rfl) <| ?_
 obtain ⟨y22,qq,ho⟩:=bs ho
 refine Qc Tryz.func77 rfl rfl (fun _ hC=>spec_l25Sieve_calls (kp _ zu (hB.trans hC)) (kp _ zt (hB.trans hC)) (kp _ zv (hB.trans hC)) (kp _ zw (hB.trans hC)) (kp _ h_x2 (hB.trans hC)) qq) <| Qa (Nt rfl) <| fun jk p1=>anz <| W_cond (b:=!(y22)) rfl ?_ ?_
 intro qr
 rw [qr] at ho
 refine wq <| Wq rfl p1 <| Qa (As rfl) <| Qa (Ai rfl) <| fun p0q km=>anz <| ?_
 cases ho
 exact W_ret ⟨_,res_2 Tryz.results20,_,_,rfl,(hB.trans km),nil_OE⟩
 intro qr
 rw [qr] at ho
 refine W_skip <| anz <| wq <| W_region rfl <| Wa p1 (Lg ag34 hr4.at rfl rfl) <| ?_
 obtain ⟨y29,kn,ho⟩:=bs ho
 refine WL.call rfl (op_callF Tryz.func78 rfl rfl) (spec_l27Code_calls (kp _ zu (hB.trans p1)) (kp _ zt (hB.trans p1)) (kp _ zv (hB.trans p1)) (kp _ zw (hB.trans p1)) (kp _ zj (hB.trans p1)) kn) <| ?_
 rintro _ kq ⟨v33,f34,v36,f37,v39,f40,v42,f43,v45,f46,v48,g0,v51,f52,v54,f55,rfl,k3,j9,p4n,ja,p4o,jb,p4p,jc,p4q,jd,p4r,pb,p4s,pp,p4t,pj,d63,d69,d74,d78,d81,d83,d84⟩
 refine ⟨_,rfl,?_⟩
 replace pj:=OE.low (G:=[]) pj (hB.trans p1).size
 have g1:=p1.trans k3
 replace hr4:=kr hr4 g1
 replace hB:=(hB.trans g1)
 refine Wb (Mt rfl) <| Wb (Ex (.agg #[.int .i64 (y29.1.C.Objects),v33,v36,v39,v42,v45,v48,v51]) rfl rfl) <| Wb (Ex v54 rfl rfl) <| Wb (Exi rfl rfl) <| WL.alloc info96 zr96 fun ks p0x q4 kt q5=>?_
 replace kt:Row p0x ks [.int .i64 ((0:Int)),.slice none 0 0,.slice none 0 0,.slice none 0 0,.slice none 0 0,.slice none 0 0,.slice none 0 0,.slice none 0 0] 96:=kt
 have p0y:w.heap.size≤ks:=Nat.le_trans hB.size q5
 have k4:=dl (onw q5) (one_lt (Row.lt hr4))
 have k5:=dl (onw q5) (sl _ j9)
 have k6:=dl (onw q5) (sl _ ja)
 have k7:=dl (onw q5) (sl _ jb)
 have k8:=dl (onw q5) (sl _ jc)
 have k9:=dl (onw q5) (sl _ jd)
 have ka:=dl (onw q5) (sl _ pb)
 have kb:=dl (onw q5) (sl _ pp)
 have kc:=dl (onw q5) (sl _ pj.1)
 replace j9:=kp _ j9 q4
 replace ja:=kp _ ja q4
 replace jb:=kp _ jb q4
 replace jc:=kp _ jc q4
 replace jd:=kp _ jd q4
 replace pb:=kp _ pb q4
 replace pp:=kp _ pp q4
 replace hr4:=kr hr4 q4
 replace pj:=ko pj q4
 replace hB:=(hB.trans q4)
 refine WL.storeAll (us:=[.int .i64 (y29.1.C.Objects),v33,v36,v39,v42,v45,v48,v51]) info96 (by rw [sz96]; rfl) kt rfl rfl rfl (by intro u hu; simp only [List.mem_cons,List.mem_nil_iff,or_false] at hu; rcases hu with rfl | rfl | rfl | rfl | rfl | rfl | rfl | rfl <;> first | exact rfl | exact (STy.one _ j9 _ (ms rfl)) | exact (STy.one _ ja _ (ms rfl)) | exact (STy.one _ jb _ (ms rfl)) | exact (STy.one _ jc _ (ms rfl)) | exact (STy.one _ jd _ (ms rfl)) | exact (STy.one _ pb _ (ms rfl)) | exact (STy.one _ pp _ (ms rfl))) fun g2 q6 g3=>?_
 replace g3:Row g2 ks [.int .i64 (y29.1.C.Objects),v33,v36,v39,v42,v45,v48,v51] 96:=g3
 replace j9:=STy.keep _ j9 q6 (k5).symm
 replace ja:=STy.keep _ ja q6 (k6).symm
 replace jb:=STy.keep _ jb q6 (k7).symm
 replace jc:=STy.keep _ jc q6 (k8).symm
 replace jd:=STy.keep _ jd q6 (k9).symm
 replace pb:=STy.keep _ pb q6 (ka).symm
 replace pp:=STy.keep _ pp q6 (kb).symm
 replace hr4:=Row.keep hr4 q6 ((k4).symm _ (ms rfl))
 replace pj:=okp pj q6 (kc).symm
 replace hB:=hB.then q6 (one_then p0y)
 refine Wb (Av v54 rfl) <| Wb (Ai rfl) <| anz <| wq <| wq <| Wq rfl (cr [] g2) <| Qa (Mi rfl) <| Qa (Bn rfl rfl) <| fun g4 pc=>anz <| W_cond (b:=(y29.2.2) != ((0:Int))) rfl ?_ ?_
 intro ku
 rw [ku] at ho
 refine wq <| Wq rfl pc <| Qa (Mi rfl) <| Qa (As rfl) <| Qa (Ai rfl) <| fun p4x p0z=>anz <| ?_
 cases ho
 exact W_ret ⟨_,res_2 Tryz.results20,_,_,rfl,(hB.trans p0z),nil_OE⟩
 intro ku
 rw [ku] at ho
 refine W_skip <| anz <| wq <| W_region rfl <| Wa pc (Lg ag34 hr4.at rfl rfl) <| Wb (Mi rfl) <| Wb (Mv v_x2 rfl) <| ?_
 obtain ⟨y134,p10,ho⟩:=bs ho
 refine WL.call rfl (op_callF Tryz.func79 rfl rfl) (spec_l27Close_calls (kp _ zu (hB.trans pc)) (kp _ zt (hB.trans pc)) (kp _ zv (hB.trans pc)) (kp _ zw (hB.trans pc)) (kp _ zj (hB.trans pc)) (kp _ h_x2 (hB.trans pc)) p10) <| ?_
 rintro _ p4y ⟨v138,p4z,rfl,p11,kv⟩
 refine ⟨_,rfl,?_⟩
 replace kv:=OE.low (G:=[]) kv (hB.trans pc).size
 have g5:=pc.trans p11
 replace hr4:=kr hr4 g5
 replace hB:=(hB.trans g5)
 refine Wb (Av v138 rfl) <| Wb (Ai rfl) <| anz <| ?_
 cases ho
 exact W_ret ⟨_,res_2 Tryz.results20,_,_,rfl,hB,kv⟩

abbrev impl_coverage_closure_post (w:World) (x:((List Int))) (e:Ending) (w':World):Prop:=∃ (v0:Value) (f0:List Nat),e = .returned (v0)∧Chg [] w w'∧OE [] w.heap.size w' (sOwn 2 (sInt .i64)) [v0] x f0
abbrev impl_coverage_closure_T (w:World):=Tm Tryz.prog Tryz.f84 47 (impl_coverage_closure_post w)
theorem impl_coverage_closure_calls {w:World} {x0:MCoverage} {p_x0:Addr} {p_x0_Classifier:Addr} {z1h:Value} {z1t:List Nat} {z1i:Value} {z1u:List Nat} {z1j:Value} {z1v:List Nat} {z1k:Value} {z1w:List Nat} {z1l:Value} {z1x:List Nat} {z1d:Value} {z1y:List Nat} {z1e:Value} {z20:List Nat} {p_x0_C:Addr} {zy:Value} {z19:List Nat} {zx:Value} {z1a:List Nat} {z10:Value} {z1b:List Nat} {z11:Value} {z1c:List Nat} {zi:Value} {zd:List Nat} {p_x0_Count:Addr} {x1:Int} {x2:(List Int)} {v_x2:Value} {f_x2:List Nat} (z1m:(sImm (sInt .i64)).rep w.heap [z1h] x0.Classifier.Sets.Shape.From z1t) (z1n:(sImm (sInt .i64)).rep w.heap [z1i] x0.Classifier.Sets.Shape.To z1u) (z1o:(sImm (sInt .i64)).rep w.heap [z1j] x0.Classifier.Sets.Shape.Identity z1v) (z1p:(sImm (sImm (sInt .i64))).rep w.heap [z1k] x0.Classifier.Sets.Shape.Composites z1w) (z1q:(sImm (sInt .i64)).rep w.heap [z1l] x0.Classifier.Sets.Sizes z1x) (z1g:(sImm (sImm (sInt .i64))).rep w.heap [z1d] x0.Classifier.Sets.Actions z1y) (z1f:(sImm (sImm (sImm (sInt .i64)))).rep w.heap [z1e] x0.Classifier.Sieves z20) (a_x0_Classifier:At w p_x0_Classifier [.int .i64 (x0.Classifier.Sets.Shape.Objects),z1h,z1i,z1j,z1k,z1l,z1d,z1e]) (z13:(sImm (sInt .i64)).rep w.heap [zy] x0.C.From z19) (z12:(sImm (sInt .i64)).rep w.heap [zx] x0.C.To z1a) (z17:(sImm (sInt .i64)).rep w.heap [z10] x0.C.Identity z1b) (z18:(sImm (sImm (sInt .i64))).rep w.heap [z11] x0.C.Composites z1c) (a_x0_C:At w p_x0_C [.int .i64 (x0.C.Objects),zy,zx,z10,z11]) (zj:(sImm (sImm sBool)).rep w.heap [zi] x0.Covers zd) (a_x0_Count:At w p_x0_Count [.int .i64 (x0.Count)]) (a_x0:At w p_x0 [.pointer (some (p_x0_Classifier)),.pointer (some (p_x0_C)),zi,.pointer (some (p_x0_Count))]) (h_x2:(sImm (sInt .i64)).rep w.heap [v_x2] x2 f_x2) {y:((List Int))} (hm:impl_coverage_closure x0 x1 x2=some y) :
  Calls Tryz.prog 84 #[.pointer (some (p_x0)),.int .i64 (x1),v_x2] w (impl_coverage_closure_post w y):=by
 refine Cm (S:=Unit) Tryz.func84 rfl Tryz.ntmps84 rfl hm fun o ho hB=>?_
 clear hm
 refine wq <| Wq rfl (cr [] w) <| Qa (As rfl) <| fun wd1 hC2=>anz <| wq <| W_region rfl <| WL.lit0 (sInt .i64) u114z info2 fun v3 wd4 f5 hC6 o7=>?_
 replace o7:=OE.low (G:=[]) o7 (hB.trans hC2).size
 have hT8:=hC2.trans hC6
 replace hB:=(hB.trans hT8)
 refine Wb (Av v3 rfl) <| anz <| wq <| wq <| W_region rfl <| Wb (Mp rfl) <| Wb (Nk rfl) <| Wb (Fp fa144_1 rfl) <| Wb (La na131 (At.keep0 a_x0 hB) rfl rfl) <| Wb (Mi rfl) <| ?_
 obtain ⟨y9,p12,ho⟩:=bs ho
 refine WL.call rfl (op_callF Tryz.func148 rfl rfl) (impl_Category_outOf_calls (kp _ z13 hB) (kp _ z12 hB) (kp _ z17 hB) (kp _ z18 hB) (At.keep0 a_x0_C hB) p12) <| ?_
 rintro _ kd ⟨v13,g6,rfl,qb,pd⟩
 refine ⟨_,rfl,?_⟩
 have d16:=dl (ofr pd) (sl _ o7.1)
 replace pd:=OE.low (G:=[]) pd hB.size
 replace o7:=ko o7 qb
 replace hB:=(hB.trans qb)
 refine Wb (Ln sl22 ((Le.own (Le.refl _) 2).le pd.1) rfl) <| Wb (Mi rfl) <| anz <| Wf (S1:=(List Int)×Int) (fun s r w'=>match s with | (s0_7,s0_18)=>∃ (v18:Value) (jl:List Nat),Chg [] w w'∧OE [] w.heap.size w' (sOwn 2 (sInt .i64)) [v13] (y9) g6∧OE [] w.heap.size w' (sOwn 2 (sInt .i64)) [v18] (s0_7) jl∧Dis g6 jl∧∃ F,r=updL F [(0,.pointer (some (p_x0))),(2,v_x2),(7,v18),(16,v13),(17,.int .i64 ((y9.length:Int))),(18,.int .i64 (s0_18))]) (impl_coverage_closure_T w) ho ⟨_,_,hB,pd,o7,(d16),fe rfl⟩ ?_ ?_
 rintro ⟨s0_7,s0_18⟩ _ g7 ⟨v18,jl,hB,pd,pe,jm,F,rfl⟩ o ho
 replace ho:impl_coverage_closure_L0 x0 x2 y9 s0_7 s0_18=some o:=ho
 unfold impl_coverage_closure_L0 at ho
 refine wq <| Wq rfl (cr [] g7) <| Qa (Bl rfl rfl) <| fun p50 ke=>anz <| wq <| W_cond (b:=decide (s0_18 < (y9.length:Int))) rfl ?_ ?_
 intro kw
 rw [kw] at ho
 refine W_skip <| anz <| wq <| W_block <| wq <| Wq rfl ke <| ?_
 obtain ⟨e26,hx27e,ho⟩:=bs ho
 have hx27:=idx_some hx27e
 refine Qa (Ix sl22 ((Le.own (Le.refl _) 2).le pd.1) hx27 rfl rfl rfl) <| Qa (Ei na2 ((Le.own (Le.refl _) 2).le pd.1) hx27 rfl) <| Qa (Ai rfl) <| fun p51 p9=>anz <| wq <| ?_
 obtain ⟨e30,hx31e,ho⟩:=bs ho
 have hx31:=idx_some hx31e
 obtain ⟨y32,p14,ho⟩:=bs ho
 refine W_any (m:=18) (U:=.replicate 18 []) (S:=[sV (.pointer (some (p_x0))),sV (.pointer (some (p_x0))),sV (.pointer (some (p_x0))),sV (.pointer (some (p_x0.add 1))),sV (.pointer (some (p_x0_C))),sV (.pointer (some (p_x0_C))),sV (.pointer (some (p_x0_C.add 2))),sV (zx),sV (.int .i64 (e26)),sV (.pointer (some (elA (zx) 1 (e26)))),sV (.int .i64 (e30)),sV (.pointer (some (p_x0))),sV (.pointer (some (p_x0))),sV (.pointer (some (p_x0.add 1))),sV (.pointer (some (p_x0_C))),sV (.int .i64 (e26)),sV (v_x2),sO (sOwn 2 (sInt .i64)) (y32)]) (Z:=[]) hmix rfl (by decide) (by decide +kernel) (fun _ _ _ h=>np_out h) (by decide) rfl (by decide +kernel) (stable_all (by repeat first | exact stable_nil | refine stable_cons stable_val ?_ | refine stable_cons stable_own ?_)) ?_ ?_
 refine owes_cons ?_ <| owes_cons ?_ <| owes_cons ?_ <| owes_cons ?_ <| owes_cons ?_ <| owes_cons ?_ <| owes_cons ?_ <| owes_cons ?_ <| owes_cons ?_ <| owes_cons ?_ <| owes_cons ?_ <| owes_cons ?_ <| owes_cons ?_ <| owes_cons ?_ <| owes_cons ?_ <| owes_cons ?_ <| owes_cons ?_ <| owes_cons ?_ <| owes_nil
 exact Oh rfl rfl rfl [(0,.pointer (some (p_x0)))] p9 rfl rfl fun _=>Mp rfl
 exact Oh rfl rfl rfl [(0,.pointer (some (p_x0)))] p9 rfl rfl fun _=>Mp rfl
 exact Ov rfl rfl rfl [] [(23,.pointer (some (p_x0)))] [1] p9 rfl rfl (by decide +kernel) rfl fun _=>Nk rfl
 exact Ov rfl rfl rfl [] [(24,.pointer (some (p_x0)))] [2] p9 rfl rfl (by decide +kernel) rfl fun _=>Fp fa144_1 rfl
 exact Ov rfl rfl rfl [] [(25,.pointer (some (p_x0.add 1)))] [3] p9 rfl rfl (by decide +kernel) rfl fun _=>La na131 (At.keep0 a_x0 hB) rfl rfl
 exact Ov rfl rfl rfl [] [(26,.pointer (some (p_x0_C)))] [4] p9 rfl rfl (by decide +kernel) rfl fun _=>Nk rfl
 exact Ov rfl rfl rfl [] [(27,.pointer (some (p_x0_C)))] [5] p9 rfl rfl (by decide +kernel) rfl fun _=>Fp fa32_2 rfl
 exact Ov rfl rfl rfl [] [(28,.pointer (some (p_x0_C.add 2)))] [6] p9 rfl rfl (by decide +kernel) rfl fun _=>La na22 (At.keep0 a_x0_C hB) rfl rfl
 exact Oh rfl rfl rfl [(9,.int .i64 (e26))] p9 rfl rfl fun _=>Mi rfl
 exact Ov rfl rfl rfl [] [(29,zx),(30,.int .i64 (e26))] [7,8] p9 rfl rfl (by decide +kernel) rfl fun _=>Ix sl22 (kB z12 hB) hx31 rfl rfl rfl
 exact Ov rfl rfl rfl [] [(31,.pointer (some (elA (zx) 1 (e26))))] [9] p9 rfl rfl (by decide +kernel) rfl fun _=>Ei na2 (kB z12 hB) hx31 rfl
 exact Oh rfl rfl rfl [(0,.pointer (some (p_x0)))] p9 rfl rfl fun _=>Mp rfl
 exact Ov rfl rfl rfl [] [(33,.pointer (some (p_x0)))] [11] p9 rfl rfl (by decide +kernel) rfl fun _=>Nk rfl
 exact Ov rfl rfl rfl [] [(34,.pointer (some (p_x0)))] [12] p9 rfl rfl (by decide +kernel) rfl fun _=>Fp fa144_1 rfl
 exact Ov rfl rfl rfl [] [(35,.pointer (some (p_x0.add 1)))] [13] p9 rfl rfl (by decide +kernel) rfl fun _=>La na131 (At.keep0 a_x0 hB) rfl rfl
 exact Oh rfl rfl rfl [(9,.int .i64 (e26))] p9 rfl rfl fun _=>Mi rfl
 exact Oh rfl rfl rfl [(2,v_x2)] p9 rfl rfl fun _=>Mv v_x2 rfl
 refine Owes.mem rfl rfl rfl <| fun g r wr hCr H hot=>?_
 have hC:=p9.trans hCr
 obtain ⟨F,rfl⟩:=fr (r:=r) (l:=[(36,.pointer (some (p_x0_C))),(37,.int .i64 (e26)),(38,v_x2)]) ⟨(H 14 (by decide +kernel) 36 rfl),(H 15 (by decide +kernel) 37 rfl),(H 16 (by decide +kernel) 38 rfl),trivial⟩
 exact OpW.own (op_callF Tryz.func153 rfl rfl) (impl_Category_pull_calls (kp _ z13 (hB.trans hC)) (kp _ z12 (hB.trans hC)) (kp _ z17 (hB.trans hC)) (kp _ z18 (hB.trans hC)) (At.keep0 a_x0_C (hB.trans hC)) (kp _ h_x2 (hB.trans hC)) p14)
 rintro g r p15 ⟨p16,hdone,hot,hfresh,hdis⟩
 have pi:OwnV (sOwn 2 (sInt .i64)) (y32) _ _ _:=hdone 17 (by decide) (by decide) 39 rfl
 generalize hvv34:r 39=v34 at pi
 have hfo36:=hfresh 17 (by decide)
 have hdd:=hdis
 obtain ⟨F,rfl⟩:=fw hdone hot [(0,.pointer (some (p_x0))),(2,v_x2),(7,v18),(9,.int .i64 (e26)),(16,v13),(17,.int .i64 ((y9.length:Int))),(18,.int .i64 (s0_18))] [(22,.pointer (some (p_x0))),(32,.int .i64 (e30))] [0,10] rfl rfl rfl rfl (z:=[(39,v34)]) ⟨hvv34,trivial⟩
 obtain ⟨g8,hgf35⟩ : ∃ k,k=g 17:=⟨_,rfl⟩
 rw [← hgf35] at pi hfo36
 replace pi:OE [] w.heap.size p15 (sOwn 2 (sInt .i64)) [v34] (y32) g8:=⟨pi.1,pi.2,fun b hb=>.inr (Nat.le_trans (hB.trans p9).size (hfo36 b hb).1)⟩
 have kx:=(p9.trans p16)
 replace pd:=ko pd kx
 replace pe:=ko pe kx
 replace hB:=(hB.trans kx)
 obtain ⟨y42,p17,ho⟩:=bs ho
 refine WL.call rfl (op_callF Tryz.func152 rfl rfl) (impl_coverage_is_calls (kp _ z1m hB) (kp _ z1n hB) (kp _ z1o hB) (kp _ z1p hB) (kp _ z1q hB) (kp _ z1g hB) (kp _ z1f hB) (At.keep0 a_x0_Classifier hB) (kp _ z13 hB) (kp _ z12 hB) (kp _ z17 hB) (kp _ z18 hB) (At.keep0 a_x0_C hB) (kp _ zj hB) (At.keep0 a_x0_Count hB) (At.keep0 a_x0 hB) ((Le.own (Le.refl _) 2).le pi.1) p17) <| ?_
 rintro _ p52 ⟨rfl,ky⟩
 refine ⟨_,rfl,?_⟩
 refine anz <| W_cond (b:=y42) rfl ?_ ?_
 intro kz
 rw [kz] at ho
 refine W_region rfl <| Wb (Mv v18 rfl) <| Wb (Mi rfl) <| WL.lit1 u114z info2 zr2 sz2 rfl fun b47 p19 p1a jn p1b=>?_
 replace jn:Row p19 b47 [.int .i64 (e26)] 2:=jn
 have n0:=dl (onw p1b) (sl _ (kp _ pe.1 (ky)))
 have n1:=(ky).trans p1a
 replace pd:=ko pd n1
 replace pe:=ko pe n1
 replace hB:=(hB.trans n1)
 obtain ⟨n62,hn63,ho⟩:=bs ho
 have hn63a:=fits_some hn63
 refine WL.append1 (E:=(sInt .i64)) _ _ u114z info2 zr2 sz2 rfl rfl rfl pe rfl jn ⟨rfl,rfl⟩ List.nodup_nil (fun _ h=>nomatch h) (fun _ h=>nomatch h) (by rw [by2]; exact hn63a.1) hn63a.2 hB.size fun v56 p1c f58 n2 o60 hs61=>?_
 have d64:=dis_upd hs61 (jm).symm (fun _ h=>nomatch h) (sl _ pd.1)
 replace pd:=okp pd n2 jm
 replace jn:=Row.keep jn n2 (n0 _ (ms rfl))
 replace hB:=hB.then n2 pe.2.2
 refine Wb (Av v56 rfl) <| inBlk_n <| anz <| Wq rfl (cr [] p1c) <| Qa (Ba rfl rfl) <| Qa (Mi rfl) <| fun p53 n3=>?_
 cases ho
 exact ⟨_,_,(hB.trans n3),(ko pd n3),(ko o60 n3),((d64).symm),fe rfl⟩
 intro kz
 rw [kz] at ho
 refine W_skip <| inBlk_n <| anz <| Wq rfl ky <| Qa (Ba rfl rfl) <| Qa (Mi rfl) <| fun p54 n4=>?_
 cases ho
 exact ⟨_,_,(hB.trans n4),(ko pd n4),(ko pe n4),jm,fe rfl⟩
 intro kw
 rw [kw] at ho
 refine W_exit <| andThen_x <| ?_
 cases ho
 exact ⟨rfl,⟨_,_,(hB.trans ke),(ko pd ke),(ko pe ke),jm,fe rfl⟩⟩
 rintro ⟨s0_7,s0_18⟩ _ p1g ⟨v18,jl,hB,pd,pe,jm,F,rfl⟩ ho
 dsimp only at ho
 refine anz <| wq <| Wq rfl (cr [] p1g) <| Qa (Mv v18 rfl) <| Qa (Av v18 rfl) <| fun p55 g9=>anz <| ?_
 cases ho
 exact W_ret ⟨_,res_1 Tryz.results84,_,_,rfl,(hB.trans g9),(ko pe g9)⟩

abbrev impl_CloseSieve_post (w:World) (x:((List Int)×Int)) (e:Ending) (w':World):Prop:=∃ (v0:Value) (f0:List Nat),e = .returned (.tuple #[v0,.int .i64 x.2])∧Chg [] w w'∧OE [] w.heap.size w' (sOwn 2 (sInt .i64)) [v0] x.1 f0
abbrev impl_CloseSieve_T (w:World):=Tm Tryz.prog Tryz.f22 35 (impl_CloseSieve_post w)
theorem impl_CloseSieve_calls {w:World} {x0:MTopology} {zl:Value} {zo:List Nat} {zk:Value} {zp:List Nat} {zm:Value} {zq:List Nat} {zn:Value} {zr:List Nat} {zi:Value} {zd:List Nat} {x1:Int} {x2:(List Int)} {v_x2:Value} {f_x2:List Nat} (zu:(sImm (sInt .i64)).rep w.heap [zl] x0.Shape.From zo) (zt:(sImm (sInt .i64)).rep w.heap [zk] x0.Shape.To zp) (zv:(sImm (sInt .i64)).rep w.heap [zm] x0.Shape.Identity zq) (zw:(sImm (sImm (sInt .i64))).rep w.heap [zn] x0.Shape.Composites zr) (zj:(sImm (sImm (sImm (sInt .i64)))).rep w.heap [zi] x0.Covers zd) (h_x2:(sImm (sInt .i64)).rep w.heap [v_x2] x2 f_x2) {y:((List Int)×Int)} (hm:impl_CloseSieve x0 x1 x2=some y) :
  Calls Tryz.prog 22 #[.agg #[.int .i64 (x0.Shape.Objects),zl,zk,zm,zn,zi],.int .i64 (x1),v_x2] w (impl_CloseSieve_post w y):=by
 refine Cm (S:=Unit) Tryz.func22 rfl Tryz.ntmps22 rfl hm fun o ho hB=>?_
 clear hm
 refine wq <| W_region rfl <| WL.box fun b1 wd2 hC3 hr4 hl5=>?_
 replace hr4:Row wd2 b1 [.int .i64 (x0.Shape.Objects),zl,zk,zm,zn,zi] 34:=hr4
 replace hB:=(hB.trans hC3)
 refine Wb (As rfl) <| Wb (Ai rfl) <| anz <| wq <| wq <| Wq rfl (cr [] wd2) <| ?_
 obtain ⟨y8,hy9,ho⟩:=bs ho
 refine Qc Tryz.func80 rfl rfl (fun _ hC=>impl_Topology_hasForm_calls (kp _ zu (hB.trans hC)) (kp _ zt (hB.trans hC)) (kp _ zv (hB.trans hC)) (kp _ zw (hB.trans hC)) (kp _ zj (hB.trans hC)) (kr hr4 hC).at hy9) <| Qa (Nt rfl) <| fun p0p jh=>anz <| W_cond (b:=!(y8)) rfl ?_ ?_
 intro qo
 rw [qo] at ho
 refine wq <| Wq rfl jh <| Qa (As rfl) <| Qa (Ai rfl) <| fun nz ji=>anz <| ?_
 cases ho
 exact W_ret ⟨_,res_2 Tryz.results22,_,_,rfl,(hB.trans ji),nil_OE⟩
 intro qo
 rw [qo] at ho
 refine W_skip <| anz <| wq <| wq <| Wq rfl jh <| Qa (Mi rfl) <| Qa (Fr fa34_0 rfl) <| Qa (Fr fa32_0 rfl) <| Qa (Lr na2 hr4 rfl rfl) <| Qa (Bs rfl rfl) <| ?_
 obtain ⟨y15,jj,ho⟩:=bs ho
 refine Qc Tryz.func81 rfl rfl (fun _ hC=>impl_inRange_calls  jj) <| Qa (Nt rfl) <| fun kl q3=>anz <| W_cond (b:=!(y15)) rfl ?_ ?_
 intro qp
 rw [qp] at ho
 refine wq <| Wq rfl q3 <| Qa (As rfl) <| Qa (Ai rfl) <| fun k2 j8=>anz <| ?_
 cases ho
 exact W_ret ⟨_,res_2 Tryz.results22,_,_,rfl,(hB.trans j8),nil_OE⟩
 intro qp
 rw [qp] at ho
 refine W_skip <| anz <| wq <| wq <| Wq rfl q3 <| Qa (Fr fa34_0 rfl) <| Qa (Mi rfl) <| Qa (Mv v_x2 rfl) <| ?_
 obtain ⟨y22,qq,ho⟩:=bs ho
 refine Qc Tryz.func82 rfl rfl (fun _ hC=>impl_Category_isSieve_calls (kp _ zu (hB.trans hC)) (kp _ zt (hB.trans hC)) (kp _ zv (hB.trans hC)) (kp _ zw (hB.trans hC)) (At.sub (kr hr4 hC).at 0 5) (kp _ h_x2 (hB.trans hC)) qq) <| Qa (Nt rfl) <| fun jk p1=>anz <| W_cond (b:=!(y22)) rfl ?_ ?_
 intro qr
 rw [qr] at ho
 refine wq <| Wq rfl p1 <| Qa (As rfl) <| Qa (Ai rfl) <| fun p0q km=>anz <| ?_
 cases ho
 exact W_ret ⟨_,res_2 Tryz.results22,_,_,rfl,(hB.trans km),nil_OE⟩
 intro qr
 rw [qr] at ho
 refine W_skip <| anz <| wq <| W_region rfl <| ?_
 obtain ⟨y29,kn,ho⟩:=bs ho
 refine WL.call rfl (op_callF Tryz.func83 rfl rfl) (impl_limitCode_calls (kp _ zu (hB.trans p1)) (kp _ zt (hB.trans p1)) (kp _ zv (hB.trans p1)) (kp _ zw (hB.trans p1)) (kp _ zj (hB.trans p1)) (kr hr4 p1).at kn) <| ?_
 rintro _ kq ⟨v34,rfl,k3,hp33⟩
 refine ⟨_,rfl,?_⟩
 rcases hq36:y29.1 with _ | m37
 rw [hq36] at hp33 ho
 try dsimp only at hp33
 try dsimp only at ho
 obtain rfl:=hp33
 have ga:=p1.trans k3
 replace hr4:=kr hr4 ga
 replace hB:=(hB.trans ga)
 refine Wb (Mt rfl) <| Wb (Ex (.pointer none) rfl rfl) <| Wb (Exi rfl rfl) <| Wb (Av (.pointer none) rfl) <| Wb (Ai rfl) <| anz <| wq <| wq <| Wq rfl (cr [] kq) <| Qa (Mi rfl) <| Qa (Bn rfl rfl) <| fun p56 p1h=>anz <| W_cond (b:=(y29.2) != ((0:Int))) rfl ?_ ?_
 intro n5
 rw [n5] at ho
 refine wq <| Wq rfl p1h <| Qa (Mi rfl) <| Qa (As rfl) <| Qa (Ai rfl) <| fun gb qf=>anz <| ?_
 cases ho
 exact W_ret ⟨_,res_2 Tryz.results22,_,_,rfl,(hB.trans qf),nil_OE⟩
 intro n5
 rw [n5] at ho
 refine W_skip <| anz <| wq <| W_region rfl <| Wb (Mv (.pointer none) rfl) <| Wb (Mi rfl) <| Wb (Mv v_x2 rfl) <| ?_
 cases ho
 rw [hq36] at hp33 ho
 try dsimp only at hp33
 try dsimp only at ho
 obtain ⟨b44,b46,v48,g0,v51,f52,v54,f55,v57,f58,v60,f61,v63,f64,v66,f67,v70,f71,b73,rfl,pb,pp,pj,jo,jp,pw,jq,n6,p5c,jr,n7,p5d,n8,p5e,d77,d78,d79,d80,d81,d82,d83,d84,d85,d86,d87,d88,d89,d90,d91,d92,d93,d94,d95,d96,d97,d98,d99,p5y,p5z,p60,p61,p62,p63,p64,gc,gd,ge,gf,gg,gh,gi,gj,k4,k5,k6,k7,k8,k9,ka,kb,kc,gk,gl,gm,p65,p66,p67,p68,p69⟩:=hp33
 replace pb:=OE.low (G:=[]) pb (hB.trans p1).size
 replace pp:=OE.low (G:=[]) pp (hB.trans p1).size
 replace pj:=OE.low (G:=[]) pj (hB.trans p1).size
 replace jo:=OE.low (G:=[]) jo (hB.trans p1).size
 replace jp:=OE.low (G:=[]) jp (hB.trans p1).size
 replace pw:=OE.low (G:=[]) pw (hB.trans p1).size
 replace jq:=OE.low (G:=[]) jq (hB.trans p1).size
 replace jr:=OE.low (G:=[]) jr (hB.trans p1).size
 have gn:=p1.trans k3
 replace hr4:=kr hr4 gn
 replace hB:=(hB.trans gn)
 refine Wb (Mt rfl) <| Wb (Ex (.pointer (some (⟨b44,0,none⟩))) rfl rfl) <| Wb (Exi rfl rfl) <| Wb (Ap rfl) <| Wb (Ai rfl) <| anz <| wq <| wq <| Wq rfl (cr [] kq) <| Qa (Mi rfl) <| Qa (Bn rfl rfl) <| fun p6a pa=>anz <| W_cond (b:=(y29.2) != ((0:Int))) rfl ?_ ?_
 intro n9
 rw [n9] at ho
 refine wq <| Wq rfl pa <| Qa (Mi rfl) <| Qa (As rfl) <| Qa (Ai rfl) <| fun p6b p1k=>anz <| ?_
 cases ho
 exact W_ret ⟨_,res_2 Tryz.results22,_,_,rfl,(hB.trans p1k),nil_OE⟩
 intro n9
 rw [n9] at ho
 refine W_skip <| anz <| wq <| W_region rfl <| Wb (Mp rfl) <| Wb (Mi rfl) <| Wb (Mv v_x2 rfl) <| ?_
 obtain ⟨y152,p1l,ho⟩:=bs ho
 refine WL.call rfl (op_callF Tryz.func84 rfl rfl) (impl_coverage_closure_calls (x0:=(MCoverage.mk m37.Classifier x0.Shape m37.Covers m37.Count)) ((Le.own (Le.refl _) 2).le (kp _ pb.1 pa)) ((Le.own (Le.refl _) 2).le (kp _ pp.1 pa)) ((Le.own (Le.refl _) 2).le (kp _ pj.1 pa)) ((Le.own (Le.own (Le.refl _) 2) 22).le (kp _ jo.1 pa)) ((Le.own (Le.refl _) 2).le (kp _ jp.1 pa)) ((Le.own (Le.own (Le.refl _) 2) 22).le (kp _ pw.1 pa)) ((Le.own (Le.own (Le.own (Le.refl _) 2) 114) 118).le (kp _ jq.1 pa)) (kr n6 pa).at (kp _ zu (hB.trans pa)) (kp _ zt (hB.trans pa)) (kp _ zv (hB.trans pa)) (kp _ zw (hB.trans pa)) (At.sub (kr hr4 pa).at 0 5) ((Le.own (Le.own (Le.refl _) 4) 138).le (kp _ jr.1 pa)) (kr n7 pa).at (kr n8 pa).at (kp _ h_x2 (hB.trans pa)) p1l) <| ?_
 rintro _ p6c ⟨v156,p6d,rfl,p1m,na⟩
 refine ⟨_,rfl,?_⟩
 replace na:=OE.low (G:=[]) na (hB.trans pa).size
 have pk:=pa.trans p1m
 replace hr4:=kr hr4 pk
 replace pb:=ko pb pk
 replace pp:=ko pp pk
 replace pj:=ko pj pk
 replace jo:=ko jo pk
 replace jp:=ko jp pk
 replace pw:=ko pw pk
 replace jq:=ko jq pk
 replace n6:=kr n6 pk
 replace jr:=ko jr pk
 replace n7:=kr n7 pk
 replace n8:=kr n8 pk
 replace hB:=(hB.trans pk)
 refine Wb (Av v156 rfl) <| Wb (Ai rfl) <| anz <| ?_
 cases ho
 exact W_ret ⟨_,res_2 Tryz.results22,_,_,rfl,hB,na⟩

abbrev laws_markInt64S_post (v_x0:Value) (f_x0:List Nat) (w:World) (x:(Int×(List Int))) (e:Ending) (w':World):Prop:=∃ (f0:List Nat),e = .returned (.int .i64 x.1)∧Chg f_x0 w w'∧OE f_x0 w.heap.size w' (sOwn 2 (sInt .i64)) [v_x0] x.2 f0
abbrev laws_markInt64S_T (v_x0:Value) (f_x0:List Nat) (w:World):=Tm Tryz.prog Tryz.f25 19 (laws_markInt64S_post v_x0 f_x0 w)
theorem laws_markInt64S_calls {w:World} {x0:(List Int)} {v_x0:Value} {f_x0:List Nat} {x1:Int} (o_x0:OE f_x0 w.heap.size w (sOwn 2 (sInt .i64)) [v_x0] x0 f_x0) {y:(Int×(List Int))} (hm:laws_markInt64S x0 x1=some y) :
  Calls Tryz.prog 25 #[v_x0,.int .i64 (x1)] w (laws_markInt64S_post v_x0 f_x0 w y):=by
 refine Cm (S:=Unit) Tryz.func25 rfl Tryz.ntmps25 rfl hm fun o ho hB=>?_
 clear hm
 have hB:Chg f_x0 w w:=cr _ _
 replace o_x0:OE f_x0 w.heap.size w (sOwn 2 (sInt .i64)) [v_x0] x0 f_x0:=OE.give o_x0 fun b hb=>by simp [hb]
 refine wq <| Wq rfl (cr [] w) <| Qa (Ai rfl) <| fun wd1 hC2=>anz <| wq <| wq <| Wq rfl hC2 <| Qa (Ai rfl) <| fun wd3 hC4=>anz <| Wf (S1:=Int×Int×(List Int)) (fun s r w'=>match s with | (s0_1,s0_5,s0_o_x0)=>Chg f_x0 w w'∧OE f_x0 w.heap.size w' (sOwn 2 (sInt .i64)) [v_x0] (s0_o_x0) f_x0∧∃ F,r=updL F [(0,v_x0),(1,.int .i64 (s0_1)),(5,.int .i64 (s0_5))]) (laws_markInt64S_T v_x0 f_x0 w) ho ⟨(hB.trans (Chg.nil hC4)),(ko o_x0 hC4),fe rfl⟩ ?_ ?_
 rintro ⟨s0_1,s0_5,s0_o_x0⟩ _ wd5 ⟨hB,o_x0,F,rfl⟩ o ho
 replace ho:laws_markInt64S_L0 s0_1 s0_5 s0_o_x0=some o:=ho
 unfold laws_markInt64S_L0 at ho
 refine wq <| wq <| Wq rfl (cr [] wd5) <| Qa (Mi rfl) <| Qa (Mv v_x0 rfl) <| Qa (Ln sl22 ((Le.own (Le.refl _) 2).le o_x0.1) rfl) <| Qa (Bl rfl rfl) <| fun wd6 hC7=>anz <| W_cond (b:=decide (s0_5 < (s0_o_x0.length:Int))) rfl ?_ ?_
 intro hb8
 rw [hb8] at ho
 refine W_skip <| anz <| wq <| W_block <| wq <| W_region rfl <| Wb (Mv v_x0 rfl) <| Wb (Mi rfl) <| Wb (Mi rfl) <| ?_
 obtain ⟨e9,hx10e,ho⟩:=bs ho
 have hx10:=idx_some hx10e
 refine Wa hC7 (Ix sl22 ((Le.own (Le.refl _) 2).le o_x0.1) hx10 rfl rfl rfl) <| WL.storeEl (z':=s0_1) _ _ sInt_nofp rfl info2 sz2 (ko o_x0 hC7) hx10.2 rfl rfl ⟨rfl,rfl⟩ fun kd qb o13=>?_
 have p1o:=(hC7.nil (G:=f_x0)).trans qb
 replace hB:=hB.then p1o o_x0.2.2
 refine anz <| Wq rfl (cr [] kd) <| Qa (Mi rfl) <| Qa (Ba rfl rfl) <| Qa (Ai rfl) <| fun go nb=>inBlk_n <| anz <| Wq rfl nb <| Qa (Mi rfl) <| Qa (Ba rfl rfl) <| Qa (Ai rfl) <| fun kl q3=>?_
 cases ho
 exact ⟨(hB.trans (Chg.nil q3)),(ko o13 q3),fe rfl⟩
 intro hb8
 rw [hb8] at ho
 refine W_exit <| andThen_x <| ?_
 cases ho
 exact ⟨rfl,⟨(hB.trans (Chg.nil hC7)),(ko o_x0 hC7),fe rfl⟩⟩
 rintro ⟨s0_1,s0_5,s0_o_x0⟩ _ gp ⟨hB,o_x0,F,rfl⟩ ho
 dsimp only at ho
 refine anz <| wq <| Wq rfl (cr [] gp) <| Qa (Mi rfl) <| Qa (Ai rfl) <| fun k2 j8=>anz <| ?_
 cases ho
 exact W_ret ⟨_,res_1 Tryz.results25,_,rfl,(hB.trans (Chg.nil j8)),(ko o_x0 j8)⟩

abbrev laws_markInt64SS_post (v_x0:Value) (f_x0:List Nat) (w:World) (x:(Int×(List (List Int)))) (e:Ending) (w':World):Prop:=∃ (f0:List Nat),e = .returned (.int .i64 x.1)∧Chg f_x0 w w'∧OE f_x0 w.heap.size w' (sOwn 22 (sOwn 2 (sInt .i64))) [v_x0] x.2 f0
abbrev laws_markInt64SS_T (v_x0:Value) (f_x0:List Nat) (w:World):=Tm Tryz.prog Tryz.f30 19 (laws_markInt64SS_post v_x0 f_x0 w)
theorem laws_markInt64SS_calls {w:World} {x0:(List (List Int))} {v_x0:Value} {f_x0:List Nat} {x1:Int} (o_x0:OE f_x0 w.heap.size w (sOwn 22 (sOwn 2 (sInt .i64))) [v_x0] x0 f_x0) {y:(Int×(List (List Int)))} (hm:laws_markInt64SS x0 x1=some y) :
  Calls Tryz.prog 30 #[v_x0,.int .i64 (x1)] w (laws_markInt64SS_post v_x0 f_x0 w y):=by
 refine Cm (S:=Unit) Tryz.func30 rfl Tryz.ntmps30 rfl hm fun o ho hB=>?_
 clear hm
 have hB:Chg f_x0 w w:=cr _ _
 replace o_x0:OE f_x0 w.heap.size w (sOwn 22 (sOwn 2 (sInt .i64))) [v_x0] x0 f_x0:=OE.give o_x0 fun b hb=>by simp [hb]
 refine wq <| Wq rfl (cr [] w) <| Qa (Ai rfl) <| fun wd1 hC2=>anz <| wq <| wq <| Wq rfl hC2 <| Qa (Ai rfl) <| fun wd3 hC4=>anz <| Wf (S1:=Int×Int×(List (List Int))) (fun s r w'=>match s with | (s0_1,s0_5,s0_o_x0)=>∃ (f5:List Nat),Chg f_x0 w w'∧OE f_x0 w.heap.size w' (sOwn 22 (sOwn 2 (sInt .i64))) [v_x0] (s0_o_x0) f5∧∃ F,r=updL F [(0,v_x0),(1,.int .i64 (s0_1)),(5,.int .i64 (s0_5))]) (laws_markInt64SS_T v_x0 f_x0 w) ho ⟨_,(hB.trans (Chg.nil hC4)),(ko o_x0 hC4),fe rfl⟩ ?_ ?_
 rintro ⟨s0_1,s0_5,s0_o_x0⟩ _ wd6 ⟨f5,hB,o_x0,F,rfl⟩ o ho
 replace ho:laws_markInt64SS_L0 s0_1 s0_5 s0_o_x0=some o:=ho
 unfold laws_markInt64SS_L0 at ho
 refine wq <| wq <| Wq rfl (cr [] wd6) <| Qa (Mi rfl) <| Qa (Mv v_x0 rfl) <| Qa (Ln sl23 ((Le.own (Le.own (Le.refl _) 2) 22).le o_x0.1) rfl) <| Qa (Bl rfl rfl) <| fun wd7 hC8=>anz <| W_cond (b:=decide (s0_5 < (s0_o_x0.length:Int))) rfl ?_ ?_
 intro hb9
 rw [hb9] at ho
 refine W_skip <| anz <| wq <| W_block <| W_region rfl <| Wb (Mv v_x0 rfl) <| Wb (Mi rfl) <| ?_
 obtain ⟨e10,hx11e,ho⟩:=bs ho
 have hx11:=idx_some hx11e
 refine Wa hC8 (Ix sl23 ((Le.own (Le.own (Le.refl _) 2) 22).le o_x0.1) hx11 rfl rfl rfl) <| ?_
 obtain ⟨u12,fu13,hu14,js,hs16⟩:=one_get rfl ((Le.own (Le.own (Le.refl _) 2) 22).le o_x0.1) hx11.1 hx11.2
 refine Wa hC8 (Ld na22 hu14 rfl) <| Wb (Mi rfl) <| ?_
 have qc:=hC8.trans (cr [] wd7)
 replace hu14:=qc.cell0 hu14
 replace js:=kp _ js qc
 replace o_x0:=ko o_x0 qc
 replace hB:=(hB.trans (Chg.nil qc))
 obtain ⟨k18,nc,hk20,hf21⟩:=own_focus rfl hB.size o_x0 hx11.2 hu14
 obtain ⟨y22,qq,ho⟩:=bs ho
 refine WL.call rfl (op_callF Tryz.func25 rfl rfl) (laws_markInt64S_calls (OE.give (B':=wd7.heap.size) nc fun _ h=>h) qq) <| ?_
 rintro _ jk ⟨f26,rfl,p1,nd⟩
 refine ⟨_,rfl,?_⟩
 obtain ⟨f28,ne,hs30⟩:=hf21 _ _ _ p1 nd
 replace hB:=hB.then p1 (fun b hb=>o_x0.2.2 b (hk20 b hb))
 refine Wb (Ai rfl) <| inBlk_n <| anz <| Wq rfl (cr [] jk) <| Qa (Mi rfl) <| Qa (Ba rfl rfl) <| Qa (Ai rfl) <| fun p1r jt=>?_
 cases ho
 exact ⟨_,(hB.trans (Chg.nil jt)),(ko ne jt),fe rfl⟩
 intro hb9
 rw [hb9] at ho
 refine W_exit <| andThen_x <| ?_
 cases ho
 exact ⟨rfl,⟨_,(hB.trans (Chg.nil hC8)),(ko o_x0 hC8),fe rfl⟩⟩
 rintro ⟨s0_1,s0_5,s0_o_x0⟩ _ nf ⟨f5,hB,o_x0,F,rfl⟩ ho
 dsimp only at ho
 refine anz <| wq <| Wq rfl (cr [] nf) <| Qa (Mi rfl) <| Qa (Ai rfl) <| fun p1s ju=>anz <| ?_
 cases ho
 exact W_ret ⟨_,res_1 Tryz.results30,_,rfl,(hB.trans (Chg.nil ju)),(ko o_x0 ju)⟩

abbrev laws_markCategory_post (z2:Value) (ze:List Nat) (z1:Value) (zf:List Nat) (z7:Value) (zg:List Nat) (z6:Value) (zh:List Nat) (w:World) (x:(Int×(List Int)×(List Int)×(List Int)×(List (List Int)))) (e:Ending) (w':World):Prop:=∃ (f0:List Nat) (f1:List Nat) (f2:List Nat) (f3:List Nat),e = .returned (.int .i64 x.1)∧Chg (ze++(zf++(zg++zh))) w w'∧OE (ze++(zf++(zg++zh))) w.heap.size w' (sOwn 2 (sInt .i64)) [z2] x.2.1 f0∧OE (ze++(zf++(zg++zh))) w.heap.size w' (sOwn 2 (sInt .i64)) [z1] x.2.2.1 f1∧OE (ze++(zf++(zg++zh))) w.heap.size w' (sOwn 2 (sInt .i64)) [z7] x.2.2.2.1 f2∧OE (ze++(zf++(zg++zh))) w.heap.size w' (sOwn 22 (sOwn 2 (sInt .i64))) [z6] x.2.2.2.2 f3∧Dis f0 f1∧Dis f0 f2∧Dis f0 f3∧Dis f1 f2∧Dis f1 f3∧Dis f2 f3
abbrev laws_markCategory_T (z2:Value) (ze:List Nat) (z1:Value) (zf:List Nat) (z7:Value) (zg:List Nat) (z6:Value) (zh:List Nat) (w:World):=Tm Tryz.prog Tryz.f43 22 (laws_markCategory_post z2 ze z1 zf z7 zg z6 zh w)
theorem laws_markCategory_calls {w:World} {x0:MCategory} {z2:Value} {ze:List Nat} {z1:Value} {zf:List Nat} {z7:Value} {zg:List Nat} {z6:Value} {zh:List Nat} {x1:Int} (o_x0_From:OE ze w.heap.size w (sOwn 2 (sInt .i64)) [z2] x0.From ze) (o_x0_To:OE zf w.heap.size w (sOwn 2 (sInt .i64)) [z1] x0.To zf) (o_x0_Identity:OE zg w.heap.size w (sOwn 2 (sInt .i64)) [z7] x0.Identity zg) (o_x0_Composites:OE zh w.heap.size w (sOwn 22 (sOwn 2 (sInt .i64))) [z6] x0.Composites zh) (d_0_1:Dis ze zf) (d_0_2:Dis ze zg) (d_0_3:Dis ze zh) (d_1_2:Dis zf zg) (d_1_3:Dis zf zh) (d_2_3:Dis zg zh) {y:(Int×(List Int)×(List Int)×(List Int)×(List (List Int)))} (hm:laws_markCategory x0 x1=some y) :
  Calls Tryz.prog 43 #[.agg #[.int .i64 (x0.Objects),z2,z1,z7,z6],.int .i64 (x1)] w (laws_markCategory_post z2 ze z1 zf z7 zg z6 zh w y):=by
 refine Cm (S:=Unit) Tryz.func43 rfl Tryz.ntmps43 rfl hm fun o ho hB=>?_
 clear hm
 have hB:Chg (ze++(zf++(zg++zh))) w w:=cr _ _
 replace o_x0_From:OE (ze++(zf++(zg++zh))) w.heap.size w (sOwn 2 (sInt .i64)) [z2] x0.From ze:=OE.give o_x0_From fun b hb=>by simp [hb]
 replace o_x0_To:OE (ze++(zf++(zg++zh))) w.heap.size w (sOwn 2 (sInt .i64)) [z1] x0.To zf:=OE.give o_x0_To fun b hb=>by simp [hb]
 replace o_x0_Identity:OE (ze++(zf++(zg++zh))) w.heap.size w (sOwn 2 (sInt .i64)) [z7] x0.Identity zg:=OE.give o_x0_Identity fun b hb=>by simp [hb]
 replace o_x0_Composites:OE (ze++(zf++(zg++zh))) w.heap.size w (sOwn 22 (sOwn 2 (sInt .i64))) [z6] x0.Composites zh:=OE.give o_x0_Composites fun b hb=>by simp [hb]
 refine wq <| W_region rfl <| WL.box fun b1 wd2 hC3 hr4 hl5=>?_
 replace hr4:Row wd2 b1 [.int .i64 (x0.Objects),z2,z1,z7,z6] 32:=hr4
 have d7:=dl (onw hl5) (sl _ o_x0_From.1)
 have d8:=dl (onw hl5) (sl _ o_x0_To.1)
 have d9:=dl (onw hl5) (sl _ o_x0_Identity.1)
 have ng:=dl (onw hl5) (sl _ o_x0_Composites.1)
 replace o_x0_From:=ko o_x0_From hC3
 replace o_x0_To:=ko o_x0_To hC3
 replace o_x0_Identity:=ko o_x0_Identity hC3
 replace o_x0_Composites:=ko o_x0_Composites hC3
 replace hB:=(hB.trans (Chg.nil hC3))
 refine Wb (Ai rfl) <| anz <| wq <| W_region rfl <| Wb (Fr fa32_1 rfl) <| Wb (Lr na22 hr4 rfl rfl) <| Wb (Mi rfl) <| ?_
 obtain ⟨y12,p1t,ho⟩:=bs ho
 refine WL.call rfl (op_callF Tryz.func25 rfl rfl) (laws_markInt64S_calls (OE.give (B':=wd2.heap.size) o_x0_From fun _ h=>h) p1t) <| ?_
 rintro _ gq ⟨f16,rfl,qs,ph⟩
 refine ⟨_,rfl,?_⟩
 have gr:=dis_back ph d_0_1 (sl _ o_x0_To.1)
 have gs:=dis_back ph d_0_2 (sl _ o_x0_Identity.1)
 have gt:=dis_back ph d_0_3 (sl _ o_x0_Composites.1)
 replace ph:=OE.back ph o_x0_From.2.2 hB.size
 replace o_x0_To:=okp o_x0_To qs (Dis.symm d_0_1)
 replace o_x0_Identity:=okp o_x0_Identity qs (Dis.symm d_0_2)
 replace o_x0_Composites:=okp o_x0_Composites qs (Dis.symm d_0_3)
 replace hr4:=Row.keep hr4 qs ((Dis.symm (d7).symm) _ (ms rfl))
 replace hB:=hB.then qs o_x0_From.2.2
 refine Wb (Ai rfl) <| anz <| wq <| W_region rfl <| Wb (Fr fa32_2 rfl) <| Wb (Lr na22 hr4 rfl rfl) <| Wb (Mi rfl) <| ?_
 obtain ⟨y23,p1u,ho⟩:=bs ho
 refine WL.call rfl (op_callF Tryz.func25 rfl rfl) (laws_markInt64S_calls (OE.give (B':=gq.heap.size) o_x0_To fun _ h=>h) p1u) <| ?_
 rintro _ p1v ⟨f27,rfl,jv,pq⟩
 refine ⟨_,rfl,?_⟩
 have kf:=dis_back pq d_1_2 (sl _ o_x0_Identity.1)
 have kg:=dis_back pq d_1_3 (sl _ o_x0_Composites.1)
 have d32:=dis_back pq (gr).symm (sl _ ph.1)
 replace pq:=OE.back pq o_x0_To.2.2 hB.size
 replace o_x0_Identity:=okp o_x0_Identity jv (Dis.symm d_1_2)
 replace o_x0_Composites:=okp o_x0_Composites jv (Dis.symm d_1_3)
 replace hr4:=Row.keep hr4 jv ((Dis.symm (d8).symm) _ (ms rfl))
 replace ph:=okp ph jv (Dis.symm (gr).symm)
 replace hB:=hB.then jv o_x0_To.2.2
 refine Wb (Ai rfl) <| anz <| wq <| W_region rfl <| Wb (Fr fa32_3 rfl) <| Wb (Lr na22 hr4 rfl rfl) <| Wb (Mi rfl) <| ?_
 obtain ⟨y34,p1x,ho⟩:=bs ho
 refine WL.call rfl (op_callF Tryz.func25 rfl rfl) (laws_markInt64S_calls (OE.give (B':=p1v.heap.size) o_x0_Identity fun _ h=>h) p1x) <| ?_
 rintro _ p1y ⟨f38,rfl,jw,pf⟩
 refine ⟨_,rfl,?_⟩
 have gu:=dis_back pf d_2_3 (sl _ o_x0_Composites.1)
 have d42:=dis_back pf (gs).symm (sl _ ph.1)
 have gv:=dis_back pf (kf).symm (sl _ pq.1)
 replace pf:=OE.back pf o_x0_Identity.2.2 hB.size
 replace o_x0_Composites:=okp o_x0_Composites jw (Dis.symm d_2_3)
 replace hr4:=Row.keep hr4 jw ((Dis.symm (d9).symm) _ (ms rfl))
 replace ph:=okp ph jw (Dis.symm (gs).symm)
 replace pq:=okp pq jw (Dis.symm (kf).symm)
 replace hB:=hB.then jw o_x0_Identity.2.2
 refine Wb (Ai rfl) <| anz <| wq <| W_region rfl <| Wb (Fr fa32_4 rfl) <| Wb (Lr na23 hr4 rfl rfl) <| Wb (Mi rfl) <| ?_
 obtain ⟨y45,p21,ho⟩:=bs ho
 refine WL.call rfl (op_callF Tryz.func30 rfl rfl) (laws_markInt64SS_calls (OE.give (B':=p1y.heap.size) o_x0_Composites fun _ h=>h) p21) <| ?_
 rintro _ p22 ⟨g0,rfl,jx,pb⟩
 refine ⟨_,rfl,?_⟩
 have gw:=dis_back pb (gt).symm (sl _ ph.1)
 have d53:=dis_back pb (kg).symm (sl _ pq.1)
 have n0:=dis_back pb (gu).symm (sl _ pf.1)
 replace pb:=OE.back pb o_x0_Composites.2.2 hB.size
 replace hr4:=Row.keep hr4 jx ((Dis.symm (ng).symm) _ (ms rfl))
 replace ph:=okp ph jx (Dis.symm (gt).symm)
 replace pq:=okp pq jx (Dis.symm (kg).symm)
 replace pf:=okp pf jx (Dis.symm (gu).symm)
 replace hB:=hB.then jx o_x0_Composites.2.2
 refine Wb (Ai rfl) <| anz <| wq <| Wq rfl (cr [] p22) <| Qa (Mi rfl) <| Qa (Ai rfl) <| fun p6g jy=>anz <| ?_
 cases ho
 exact W_ret ⟨_,res_1 Tryz.results43,_,_,_,_,rfl,(hB.trans (Chg.nil jy)),(ko ph jy),(ko pq jy),(ko pf jy),(ko pb jy),((d32).symm),((d42).symm),((gw).symm),((gv).symm),((d53).symm),((n0).symm)⟩

abbrev laws_markInt64SSS_post (v_x0:Value) (f_x0:List Nat) (w:World) (x:(Int×(List (List (List Int))))) (e:Ending) (w':World):Prop:=∃ (f0:List Nat),e = .returned (.int .i64 x.1)∧Chg f_x0 w w'∧OE f_x0 w.heap.size w' (sOwn 23 (sOwn 22 (sOwn 2 (sInt .i64)))) [v_x0] x.2 f0
abbrev laws_markInt64SSS_T (v_x0:Value) (f_x0:List Nat) (w:World):=Tm Tryz.prog Tryz.f85 19 (laws_markInt64SSS_post v_x0 f_x0 w)
theorem laws_markInt64SSS_calls {w:World} {x0:(List (List (List Int)))} {v_x0:Value} {f_x0:List Nat} {x1:Int} (o_x0:OE f_x0 w.heap.size w (sOwn 23 (sOwn 22 (sOwn 2 (sInt .i64)))) [v_x0] x0 f_x0) {y:(Int×(List (List (List Int))))} (hm:laws_markInt64SSS x0 x1=some y) :
  Calls Tryz.prog 85 #[v_x0,.int .i64 (x1)] w (laws_markInt64SSS_post v_x0 f_x0 w y):=by
 refine Cm (S:=Unit) Tryz.func85 rfl Tryz.ntmps85 rfl hm fun o ho hB=>?_
 clear hm
 have hB:Chg f_x0 w w:=cr _ _
 replace o_x0:OE f_x0 w.heap.size w (sOwn 23 (sOwn 22 (sOwn 2 (sInt .i64)))) [v_x0] x0 f_x0:=OE.give o_x0 fun b hb=>by simp [hb]
 refine wq <| Wq rfl (cr [] w) <| Qa (Ai rfl) <| fun wd1 hC2=>anz <| wq <| wq <| Wq rfl hC2 <| Qa (Ai rfl) <| fun wd3 hC4=>anz <| Wf (S1:=Int×Int×(List (List (List Int)))) (fun s r w'=>match s with | (s0_1,s0_5,s0_o_x0)=>∃ (f5:List Nat),Chg f_x0 w w'∧OE f_x0 w.heap.size w' (sOwn 23 (sOwn 22 (sOwn 2 (sInt .i64)))) [v_x0] (s0_o_x0) f5∧∃ F,r=updL F [(0,v_x0),(1,.int .i64 (s0_1)),(5,.int .i64 (s0_5))]) (laws_markInt64SSS_T v_x0 f_x0 w) ho ⟨_,(hB.trans (Chg.nil hC4)),(ko o_x0 hC4),fe rfl⟩ ?_ ?_
 rintro ⟨s0_1,s0_5,s0_o_x0⟩ _ wd6 ⟨f5,hB,o_x0,F,rfl⟩ o ho
 replace ho:laws_markInt64SSS_L0 s0_1 s0_5 s0_o_x0=some o:=ho
 unfold laws_markInt64SSS_L0 at ho
 refine wq <| wq <| Wq rfl (cr [] wd6) <| Qa (Mi rfl) <| Qa (Mv v_x0 rfl) <| Qa (Ln sl26 ((Le.own (Le.own (Le.own (Le.refl _) 2) 22) 23).le o_x0.1) rfl) <| Qa (Bl rfl rfl) <| fun wd7 hC8=>anz <| W_cond (b:=decide (s0_5 < (s0_o_x0.length:Int))) rfl ?_ ?_
 intro hb9
 rw [hb9] at ho
 refine W_skip <| anz <| wq <| W_block <| W_region rfl <| Wb (Mv v_x0 rfl) <| Wb (Mi rfl) <| ?_
 obtain ⟨e10,hx11e,ho⟩:=bs ho
 have hx11:=idx_some hx11e
 refine Wa hC8 (Ix sl26 ((Le.own (Le.own (Le.own (Le.refl _) 2) 22) 23).le o_x0.1) hx11 rfl rfl rfl) <| ?_
 obtain ⟨u12,fu13,hu14,js,hs16⟩:=one_get rfl ((Le.own (Le.own (Le.own (Le.refl _) 2) 22) 23).le o_x0.1) hx11.1 hx11.2
 refine Wa hC8 (Ld na23 hu14 rfl) <| Wb (Mi rfl) <| ?_
 have qc:=hC8.trans (cr [] wd7)
 replace hu14:=qc.cell0 hu14
 replace js:=kp _ js qc
 replace o_x0:=ko o_x0 qc
 replace hB:=(hB.trans (Chg.nil qc))
 obtain ⟨k18,nc,hk20,hf21⟩:=own_focus rfl hB.size o_x0 hx11.2 hu14
 obtain ⟨y22,qq,ho⟩:=bs ho
 refine WL.call rfl (op_callF Tryz.func30 rfl rfl) (laws_markInt64SS_calls (OE.give (B':=wd7.heap.size) nc fun _ h=>h) qq) <| ?_
 rintro _ jk ⟨f26,rfl,p1,nd⟩
 refine ⟨_,rfl,?_⟩
 obtain ⟨f28,ne,hs30⟩:=hf21 _ _ _ p1 nd
 replace hB:=hB.then p1 (fun b hb=>o_x0.2.2 b (hk20 b hb))
 refine Wb (Ai rfl) <| inBlk_n <| anz <| Wq rfl (cr [] jk) <| Qa (Mi rfl) <| Qa (Ba rfl rfl) <| Qa (Ai rfl) <| fun p1r jt=>?_
 cases ho
 exact ⟨_,(hB.trans (Chg.nil jt)),(ko ne jt),fe rfl⟩
 intro hb9
 rw [hb9] at ho
 refine W_exit <| andThen_x <| ?_
 cases ho
 exact ⟨rfl,⟨_,(hB.trans (Chg.nil hC8)),(ko o_x0 hC8),fe rfl⟩⟩
 rintro ⟨s0_1,s0_5,s0_o_x0⟩ _ nf ⟨f5,hB,o_x0,F,rfl⟩ ho
 dsimp only at ho
 refine anz <| wq <| Wq rfl (cr [] nf) <| Qa (Mi rfl) <| Qa (Ai rfl) <| fun p1s ju=>anz <| ?_
 cases ho
 exact W_ret ⟨_,res_1 Tryz.results85,_,rfl,(hB.trans (Chg.nil ju)),(ko o_x0 ju)⟩

abbrev laws_markTopology_post (zl:Value) (zo:List Nat) (zk:Value) (zp:List Nat) (zm:Value) (zq:List Nat) (zn:Value) (zr:List Nat) (zi:Value) (zd:List Nat) (w:World) (x:(Int×(List Int)×(List Int)×(List Int)×(List (List Int))×(List (List (List Int))))) (e:Ending) (w':World):Prop:=∃ (f0:List Nat) (f1:List Nat) (f2:List Nat) (f3:List Nat) (f4:List Nat),e = .returned (.int .i64 x.1)∧Chg (zo++(zp++(zq++(zr++zd)))) w w'∧OE (zo++(zp++(zq++(zr++zd)))) w.heap.size w' (sOwn 2 (sInt .i64)) [zl] x.2.1 f0∧OE (zo++(zp++(zq++(zr++zd)))) w.heap.size w' (sOwn 2 (sInt .i64)) [zk] x.2.2.1 f1∧OE (zo++(zp++(zq++(zr++zd)))) w.heap.size w' (sOwn 2 (sInt .i64)) [zm] x.2.2.2.1 f2∧OE (zo++(zp++(zq++(zr++zd)))) w.heap.size w' (sOwn 22 (sOwn 2 (sInt .i64))) [zn] x.2.2.2.2.1 f3∧OE (zo++(zp++(zq++(zr++zd)))) w.heap.size w' (sOwn 23 (sOwn 22 (sOwn 2 (sInt .i64)))) [zi] x.2.2.2.2.2 f4∧Dis f0 f1∧Dis f0 f2∧Dis f0 f3∧Dis f0 f4∧Dis f1 f2∧Dis f1 f3∧Dis f1 f4∧Dis f2 f3∧Dis f2 f4∧Dis f3 f4
abbrev laws_markTopology_T (zl:Value) (zo:List Nat) (zk:Value) (zp:List Nat) (zm:Value) (zq:List Nat) (zn:Value) (zr:List Nat) (zi:Value) (zd:List Nat) (w:World):=Tm Tryz.prog Tryz.f24 14 (laws_markTopology_post zl zo zk zp zm zq zn zr zi zd w)
theorem laws_markTopology_calls {w:World} {x0:MTopology} {zl:Value} {zo:List Nat} {zk:Value} {zp:List Nat} {zm:Value} {zq:List Nat} {zn:Value} {zr:List Nat} {zi:Value} {zd:List Nat} {x1:Int} (o_x0_Shape_From:OE zo w.heap.size w (sOwn 2 (sInt .i64)) [zl] x0.Shape.From zo) (o_x0_Shape_To:OE zp w.heap.size w (sOwn 2 (sInt .i64)) [zk] x0.Shape.To zp) (o_x0_Shape_Identity:OE zq w.heap.size w (sOwn 2 (sInt .i64)) [zm] x0.Shape.Identity zq) (o_x0_Shape_Composites:OE zr w.heap.size w (sOwn 22 (sOwn 2 (sInt .i64))) [zn] x0.Shape.Composites zr) (o_x0_Covers:OE zd w.heap.size w (sOwn 23 (sOwn 22 (sOwn 2 (sInt .i64)))) [zi] x0.Covers zd) (d_0_1:Dis zo zp) (d_0_2:Dis zo zq) (d_0_3:Dis zo zr) (d_0_4:Dis zo zd) (d_1_2:Dis zp zq) (d_1_3:Dis zp zr) (d_1_4:Dis zp zd) (d_2_3:Dis zq zr) (d_2_4:Dis zq zd) (d_3_4:Dis zr zd) {y:(Int×(List Int)×(List Int)×(List Int)×(List (List Int))×(List (List (List Int))))} (hm:laws_markTopology x0 x1=some y) :
  Calls Tryz.prog 24 #[.agg #[.int .i64 (x0.Shape.Objects),zl,zk,zm,zn,zi],.int .i64 (x1)] w (laws_markTopology_post zl zo zk zp zm zq zn zr zi zd w y):=by
 refine Cm (S:=Unit) Tryz.func24 rfl Tryz.ntmps24 rfl hm fun o ho hB=>?_
 clear hm
 have hB:Chg (zo++(zp++(zq++(zr++zd)))) w w:=cr _ _
 replace o_x0_Shape_From:OE (zo++(zp++(zq++(zr++zd)))) w.heap.size w (sOwn 2 (sInt .i64)) [zl] x0.Shape.From zo:=OE.give o_x0_Shape_From fun b hb=>by simp [hb]
 replace o_x0_Shape_To:OE (zo++(zp++(zq++(zr++zd)))) w.heap.size w (sOwn 2 (sInt .i64)) [zk] x0.Shape.To zp:=OE.give o_x0_Shape_To fun b hb=>by simp [hb]
 replace o_x0_Shape_Identity:OE (zo++(zp++(zq++(zr++zd)))) w.heap.size w (sOwn 2 (sInt .i64)) [zm] x0.Shape.Identity zq:=OE.give o_x0_Shape_Identity fun b hb=>by simp [hb]
 replace o_x0_Shape_Composites:OE (zo++(zp++(zq++(zr++zd)))) w.heap.size w (sOwn 22 (sOwn 2 (sInt .i64))) [zn] x0.Shape.Composites zr:=OE.give o_x0_Shape_Composites fun b hb=>by simp [hb]
 replace o_x0_Covers:OE (zo++(zp++(zq++(zr++zd)))) w.heap.size w (sOwn 23 (sOwn 22 (sOwn 2 (sInt .i64)))) [zi] x0.Covers zd:=OE.give o_x0_Covers fun b hb=>by simp [hb]
 refine wq <| W_region rfl <| WL.box fun b1 wd2 hC3 hr4 hl5=>?_
 replace hr4:Row wd2 b1 [.int .i64 (x0.Shape.Objects),zl,zk,zm,zn,zi] 34:=hr4
 have d7:=dl (onw hl5) (sl _ o_x0_Shape_From.1)
 have d8:=dl (onw hl5) (sl _ o_x0_Shape_To.1)
 have d9:=dl (onw hl5) (sl _ o_x0_Shape_Identity.1)
 have ng:=dl (onw hl5) (sl _ o_x0_Shape_Composites.1)
 have d11:=dl (onw hl5) (sl _ o_x0_Covers.1)
 replace o_x0_Shape_From:=ko o_x0_Shape_From hC3
 replace o_x0_Shape_To:=ko o_x0_Shape_To hC3
 replace o_x0_Shape_Identity:=ko o_x0_Shape_Identity hC3
 replace o_x0_Shape_Composites:=ko o_x0_Shape_Composites hC3
 replace o_x0_Covers:=ko o_x0_Covers hC3
 replace hB:=(hB.trans (Chg.nil hC3))
 refine Wb (Ai rfl) <| anz <| wq <| W_region rfl <| Wb (Fr fa34_0 rfl) <| ?_
 refine WL.val (v:=.agg #[.int .i64 (x0.Shape.Objects),zl,zk,zm,zn]) rfl (op_loadAgg (cs:=[.int .i64 (x0.Shape.Objects),zl,zk,zm,zn]) u32 rfl info32 (by rw [sz32]; rfl) rfl (At.sub hr4.at 0 5)) ?_
 refine Wb (Mi rfl) <| ?_
 obtain ⟨y13,p25,ho⟩:=bs ho
 refine WL.call rfl (op_callF Tryz.func43 rfl rfl) (laws_markCategory_calls (OE.give (B':=wd2.heap.size) o_x0_Shape_From fun _ h=>h) (OE.give (B':=wd2.heap.size) o_x0_Shape_To fun _ h=>h) (OE.give (B':=wd2.heap.size) o_x0_Shape_Identity fun _ h=>h) (OE.give (B':=wd2.heap.size) o_x0_Shape_Composites fun _ h=>h) d_0_1 d_0_2 d_0_3 d_1_2 d_1_3 d_2_3 p25) <| ?_
 rintro _ go ⟨f17,jl,f21,f23,rfl,nb,qt,pe,qu,qw,d25,d26,d27,d28,kf,kg⟩
 refine ⟨_,rfl,?_⟩
 have gx:=dis_back qt (da d_0_4 (da d_1_4 (da d_2_4 d_3_4))) (sl _ o_x0_Covers.1)
 have gy:=dis_back pe (da d_0_4 (da d_1_4 (da d_2_4 d_3_4))) (sl _ o_x0_Covers.1)
 have gz:=dis_back qu (da d_0_4 (da d_1_4 (da d_2_4 d_3_4))) (sl _ o_x0_Covers.1)
 have d37:=dis_back qw (da d_0_4 (da d_1_4 (da d_2_4 d_3_4))) (sl _ o_x0_Covers.1)
 replace qt:=OE.back qt (low_app o_x0_Shape_From.2.2 (low_app o_x0_Shape_To.2.2 (low_app o_x0_Shape_Identity.2.2 o_x0_Shape_Composites.2.2))) hB.size
 replace pe:=OE.back pe (low_app o_x0_Shape_From.2.2 (low_app o_x0_Shape_To.2.2 (low_app o_x0_Shape_Identity.2.2 o_x0_Shape_Composites.2.2))) hB.size
 replace qu:=OE.back qu (low_app o_x0_Shape_From.2.2 (low_app o_x0_Shape_To.2.2 (low_app o_x0_Shape_Identity.2.2 o_x0_Shape_Composites.2.2))) hB.size
 replace qw:=OE.back qw (low_app o_x0_Shape_From.2.2 (low_app o_x0_Shape_To.2.2 (low_app o_x0_Shape_Identity.2.2 o_x0_Shape_Composites.2.2))) hB.size
 have nh:=((cr [] wd2).nil (G:=(zo++(zp++(zq++zr))))).trans nb
 replace o_x0_Covers:=okp o_x0_Covers nh (Dis.symm (da d_0_4 (da d_1_4 (da d_2_4 d_3_4))))
 replace hr4:=Row.keep hr4 nh ((Dis.symm (da (d7).symm (da (d8).symm (da (d9).symm (ng).symm)))) _ (ms rfl))
 replace hB:=hB.then nh (low_app o_x0_Shape_From.2.2 (low_app o_x0_Shape_To.2.2 (low_app o_x0_Shape_Identity.2.2 o_x0_Shape_Composites.2.2)))
 refine Wb (Ai rfl) <| anz <| wq <| W_region rfl <| Wb (Fr fa34_1 rfl) <| Wb (Lr na26 hr4 rfl rfl) <| Wb (Mi rfl) <| ?_
 obtain ⟨y40,p2a,ho⟩:=bs ho
 refine WL.call rfl (op_callF Tryz.func85 rfl rfl) (laws_markInt64SSS_calls (OE.give (B':=go.heap.size) o_x0_Covers fun _ h=>h) p2a) <| ?_
 rintro _ gb ⟨f44,rfl,qf,qx⟩
 refine ⟨_,rfl,?_⟩
 have d47:=dis_back qx (gx).symm (sl _ qt.1)
 have d48:=dis_back qx (gy).symm (sl _ pe.1)
 have d49:=dis_back qx (gz).symm (sl _ qu.1)
 have d50:=dis_back qx (d37).symm (sl _ qw.1)
 replace qx:=OE.back qx o_x0_Covers.2.2 hB.size
 replace hr4:=Row.keep hr4 qf ((Dis.symm (d11).symm) _ (ms rfl))
 replace qt:=okp qt qf (Dis.symm (gx).symm)
 replace pe:=okp pe qf (Dis.symm (gy).symm)
 replace qu:=okp qu qf (Dis.symm (gz).symm)
 replace qw:=okp qw qf (Dis.symm (d37).symm)
 replace hB:=hB.then qf o_x0_Covers.2.2
 refine Wb (Ai rfl) <| anz <| wq <| Wq rfl (cr [] gb) <| Qa (Mi rfl) <| Qa (Ai rfl) <| fun p6l je=>anz <| ?_
 cases ho
 exact W_ret ⟨_,res_1 Tryz.results24,_,_,_,_,_,rfl,(hB.trans (Chg.nil je)),(ko qt je),(ko pe je),(ko qu je),(ko qw je),(ko qx je),d25,d26,d27,((d47).symm),d28,kf,((d48).symm),kg,((d49).symm),((d50).symm)⟩

abbrev laws_heldInt64S_post (w:World) (x:(Int)) (e:Ending) (w':World):Prop:=e = .returned (.int .i64 x)∧Chg [] w w'
abbrev laws_heldInt64S_T (w:World):=Tm Tryz.prog Tryz.f26 21 (laws_heldInt64S_post w)
theorem laws_heldInt64S_calls {w:World} {x0:(List Int)} {v_x0:Value} {f_x0:List Nat} {x1:Int} (h_x0:(sImm (sInt .i64)).rep w.heap [v_x0] x0 f_x0) {y:(Int)} (hm:laws_heldInt64S x0 x1=some y) :
  Calls Tryz.prog 26 #[v_x0,.int .i64 (x1)] w (laws_heldInt64S_post w y):=by
 refine Cm (S:=Unit) Tryz.func26 rfl Tryz.ntmps26 rfl hm fun o ho hB=>?_
 clear hm
 refine wq <| Wq rfl (cr [] w) <| Qa (Ai rfl) <| fun wd1 hC2=>anz <| wq <| wq <| Wq rfl hC2 <| Qa (Ai rfl) <| fun wd3 hC4=>anz <| Wf (S1:=Int×Int) (fun s r w'=>match s with | (s0_1,s0_5)=>Chg [] w w'∧∃ F,r=updL F [(0,v_x0),(1,.int .i64 (s0_1)),(5,.int .i64 (s0_5))]) (laws_heldInt64S_T w) ho ⟨(hB.trans hC4),fe rfl⟩ ?_ ?_
 rintro ⟨s0_1,s0_5⟩ _ wd5 ⟨hB,F,rfl⟩ o ho
 replace ho:laws_heldInt64S_L0 x0 s0_1 s0_5=some o:=ho
 unfold laws_heldInt64S_L0 at ho
 refine wq <| wq <| Wq rfl (cr [] wd5) <| Qa (Mi rfl) <| Qa (Mv v_x0 rfl) <| Qa (Ln sl22 (kB h_x0 hB) rfl) <| Qa (Bl rfl rfl) <| fun wd6 hC7=>anz <| W_cond (b:=decide (s0_5 < (x0.length:Int))) rfl ?_ ?_
 intro hb8
 rw [hb8] at ho
 refine W_skip <| anz <| wq <| W_block <| wq <| wq <| Wq rfl hC7 <| Qa (Mv v_x0 rfl) <| Qa (Mi rfl) <| ?_
 obtain ⟨e9,hx10e,ho⟩:=bs ho
 have hx10:=idx_some hx10e
 refine Qa (Ix sl22 (kB h_x0 hB) hx10 rfl rfl rfl) <| Qa (Ei na2 (kB h_x0 hB) hx10 rfl) <| Qa (Mi rfl) <| Qa (Bn rfl rfl) <| fun kd qb=>anz <| W_cond (b:=(e9) != (s0_1)) rfl ?_ ?_
 intro ni
 rw [ni] at ho
 refine wq <| Wq rfl qb <| Qa (Ai rfl) <| fun gq qs=>anz <| ?_
 cases ho
 exact W_ret ⟨_,res_1 Tryz.results26,rfl,(hB.trans qs)⟩
 intro ni
 rw [ni] at ho
 refine W_skip <| anz <| Wq rfl qb <| Qa (Mi rfl) <| Qa (Ba rfl rfl) <| Qa (Ai rfl) <| fun p6m p2b=>inBlk_n <| anz <| Wq rfl p2b <| Qa (Mi rfl) <| Qa (Ba rfl rfl) <| Qa (Ai rfl) <| fun p6n p2c=>?_
 cases ho
 exact ⟨(hB.trans p2c),fe rfl⟩
 intro hb8
 rw [hb8] at ho
 refine W_exit <| andThen_x <| ?_
 cases ho
 exact ⟨rfl,⟨(hB.trans hC7),fe rfl⟩⟩
 rintro ⟨s0_1,s0_5⟩ _ k2 ⟨hB,F,rfl⟩ ho
 dsimp only at ho
 refine anz <| wq <| Wq rfl (cr [] k2) <| Qa (Mi rfl) <| Qa (Ai rfl) <| fun p6o p2d=>anz <| ?_
 cases ho
 exact W_ret ⟨_,res_1 Tryz.results26,rfl,(hB.trans p2d)⟩

abbrev laws_FnExactCloseSieve_post (w:World) (x:(Bool)) (e:Ending) (w':World):Prop:=e = .returned (.bool x)∧Chg [] w w'
abbrev laws_FnExactCloseSieve_T (w:World):=Tm Tryz.prog Tryz.f4 122 (laws_FnExactCloseSieve_post w)
theorem laws_FnExactCloseSieve_calls {w:World} {x0:MTopology} {zl:Value} {zo:List Nat} {zk:Value} {zp:List Nat} {zm:Value} {zq:List Nat} {zn:Value} {zr:List Nat} {zi:Value} {zd:List Nat} {x1:Int} {x2:(List Int)} {v_x2:Value} {f_x2:List Nat} (zu:(sImm (sInt .i64)).rep w.heap [zl] x0.Shape.From zo) (zt:(sImm (sInt .i64)).rep w.heap [zk] x0.Shape.To zp) (zv:(sImm (sInt .i64)).rep w.heap [zm] x0.Shape.Identity zq) (zw:(sImm (sImm (sInt .i64))).rep w.heap [zn] x0.Shape.Composites zr) (zj:(sImm (sImm (sImm (sInt .i64)))).rep w.heap [zi] x0.Covers zd) (h_x2:(sImm (sInt .i64)).rep w.heap [v_x2] x2 f_x2) {y:(Bool)} (hm:laws_FnExactCloseSieve x0 x1 x2=some y) :
  Calls Tryz.prog 4 #[.agg #[.int .i64 (x0.Shape.Objects),zl,zk,zm,zn,zi],.int .i64 (x1),v_x2] w (laws_FnExactCloseSieve_post w y):=by
 refine Cm (S:=Unit) Tryz.func4 rfl Tryz.ntmps4 rfl hm fun o ho hB=>?_
 clear hm
 refine wq <| W_region rfl <| WL.box fun b1 wd2 hC3 hr4 hl5=>?_
 replace hr4:Row wd2 b1 [.int .i64 (x0.Shape.Objects),zl,zk,zm,zn,zi] 28:=hr4
 replace hB:=(hB.trans hC3)
 refine Wb (Ab rfl) <| anz <| wq <| wq <| Wq rfl (cr [] wd2) <| Qa (Mv v_x2 rfl) <| Qa (Ln sl22 (kB h_x2 hB) rfl) <| Qa (Bg rfl rfl) <| fun wd8 hC9=>anz <| W_cond (b:=decide ((x2.length:Int) > (1048576:Int))) rfl ?_ ?_
 intro nj
 rw [nj] at ho
 refine wq <| Wq rfl hC9 <| Qa (Ab rfl) <| fun kd qb=>anz <| ?_
 cases ho
 exact W_ret ⟨_,res_1 Tryz.results4,rfl,(hB.trans qb)⟩
 intro nj
 rw [nj] at ho
 refine W_skip <| anz <| wq <| Wq rfl hC9 <| Qa (Ai rfl) <| fun nz ji=>anz <| wq <| Wq rfl ji <| Qa (Lg ag28 hr4.at rfl rfl) <| Qa (Mi rfl) <| ?_
 obtain ⟨y15,jj,ho⟩:=bs ho
 refine Qc Tryz.func15 rfl rfl (fun _ hC=>laws_szTopology_calls (kp _ zu (hB.trans hC)) (kp _ zt (hB.trans hC)) (kp _ zv (hB.trans hC)) (kp _ zw (hB.trans hC)) (kp _ zj (hB.trans hC)) jj) <| Qa (Ai rfl) <| fun kl q3=>anz <| wq <| wq <| Wq rfl q3 <| Qa (Mi rfl) <| Qa (Bl rfl rfl) <| fun gp pm=>anz <| W_cond (b:=decide (y15 < (0:Int))) rfl ?_ ?_
 intro nk
 rw [nk] at ho
 refine wq <| Wq rfl pm <| Qa (Ab rfl) <| fun g7 p2e=>anz <| ?_
 cases ho
 exact W_ret ⟨_,res_1 Tryz.results4,rfl,(hB.trans p2e)⟩
 intro nk
 rw [nk] at ho
 refine W_skip <| anz <| wq <| W_region rfl <| Wa pm (Lg ag28 hr4.at rfl rfl) <| ?_
 obtain ⟨y24,p2f,ho⟩:=bs ho
 refine WL.call rfl (op_callF Tryz.func17 rfl rfl) (laws_toTopology_calls (kp _ zu (hB.trans pm)) (kp _ zt (hB.trans pm)) (kp _ zv (hB.trans pm)) (kp _ zw (hB.trans pm)) (kp _ zj (hB.trans pm)) p2f) <| ?_
 rintro _ p6p ⟨v28,f29,v31,f32,v34,g8,v37,f38,v40,f41,rfl,p2g,qy,qz,pi,pf,j0,gv,d44,d45,d46,d47,d48,d49,d50,d51,gw⟩
 refine ⟨_,rfl,?_⟩
 replace qy:=OE.low (G:=[]) qy (hB.trans pm).size
 replace qz:=OE.low (G:=[]) qz (hB.trans pm).size
 replace pi:=OE.low (G:=[]) pi (hB.trans pm).size
 replace pf:=OE.low (G:=[]) pf (hB.trans pm).size
 replace j0:=OE.low (G:=[]) j0 (hB.trans pm).size
 have p05:=pm.trans p2g
 replace hr4:=kr hr4 p05
 replace hB:=(hB.trans p05)
 refine Wb (Mi rfl) <| Wb (Mv v_x2 rfl) <| ?_
 obtain ⟨y59,p2h,ho⟩:=bs ho
 refine WL.call rfl (op_callF Tryz.func21 rfl rfl) (laws_toInt64S_calls (kp _ h_x2 hB) p2h) <| ?_
 rintro _ p6x ⟨v63,f64,rfl,j1,pw⟩
 refine ⟨_,rfl,?_⟩
 replace pw:=OE.low (G:=[]) pw hB.size
 replace hr4:=kr hr4 j1
 replace qy:=ko qy j1
 replace qz:=ko qz j1
 replace pi:=ko pi j1
 replace pf:=ko pf j1
 replace j0:=ko j0 j1
 replace hB:=(hB.trans j1)
 obtain ⟨y73,p2i,ho⟩:=bs ho
 refine WL.call rfl (op_callF Tryz.func20 rfl rfl) (spec_CloseSieve_calls ((Le.own (Le.refl _) 2).le qy.1) ((Le.own (Le.refl _) 2).le qz.1) ((Le.own (Le.refl _) 2).le pi.1) ((Le.own (Le.own (Le.refl _) 2) 22).le pf.1) ((Le.own (Le.own (Le.own (Le.refl _) 2) 22) 23).le j0.1) ((Le.own (Le.refl _) 2).le pw.1) p2i) <| ?_
 rintro _ p6y ⟨v77,f78,rfl,qg,p0⟩
 refine ⟨_,rfl,?_⟩
 replace p0:=OE.low (G:=[]) p0 hB.size
 replace hr4:=kr hr4 qg
 replace qy:=ko qy qg
 replace qz:=ko qz qg
 replace pi:=ko pi qg
 replace pf:=ko pf qg
 replace j0:=ko j0 qg
 replace pw:=ko pw qg
 replace hB:=(hB.trans qg)
 refine Wb (Mt rfl) <| Wb (Ex v77 rfl rfl) <| Wb (Exi rfl rfl) <| Wb (Av v77 rfl) <| Wb (Ai rfl) <| anz <| wq <| W_region rfl <| Wb (Lg ag28 hr4.at rfl rfl) <| ?_
 obtain ⟨y88,p2j,ho⟩:=bs ho
 refine WL.call rfl (op_callF Tryz.func17 rfl rfl) (laws_toTopology_calls (kp _ zu hB) (kp _ zt hB) (kp _ zv hB) (kp _ zw hB) (kp _ zj hB) p2j) <| ?_
 rintro _ p70 ⟨v92,f93,v95,f96,v98,f99,v101,p2n,v104,p2o,rfl,nl,p2,p3,p4,p5,p6,gc,gd,ge,gf,gg,gh,gi,gj,k4,k5⟩
 refine ⟨_,rfl,?_⟩
 have k6:=dl (ofr p2) (one_lt (Row.lt hr4))
 have k7:=dl (ofr p2) (sl _ p0.1)
 replace p2:=OE.low (G:=[]) p2 hB.size
 have k8:=dl (ofr p3) (one_lt (Row.lt hr4))
 have k9:=dl (ofr p3) (sl _ p0.1)
 replace p3:=OE.low (G:=[]) p3 hB.size
 have ka:=dl (ofr p4) (one_lt (Row.lt hr4))
 have kb:=dl (ofr p4) (sl _ p0.1)
 replace p4:=OE.low (G:=[]) p4 hB.size
 have kc:=dl (ofr p5) (one_lt (Row.lt hr4))
 have gk:=dl (ofr p5) (sl _ p0.1)
 replace p5:=OE.low (G:=[]) p5 hB.size
 have gl:=dl (ofr p6) (one_lt (Row.lt hr4))
 have gm:=dl (ofr p6) (sl _ p0.1)
 replace p6:=OE.low (G:=[]) p6 hB.size
 replace hr4:=kr hr4 nl
 replace p0:=ko p0 nl
 replace hB:=(hB.trans nl)
 refine WL.alloc info34 zr34 fun jf g4 pc nm qh=>?_
 replace nm:Row g4 jf [.int .i64 ((0:Int)),.slice none 0 0,.slice none 0 0,.slice none 0 0,.slice none 0 0,.slice none 0 0] 34:=nm
 have p2p:w.heap.size≤jf:=Nat.le_trans hB.size qh
 have p2q:=dl (onw qh) (one_lt (Row.lt hr4))
 have p2r:=dl (onw qh) (sl _ p0.1)
 have p06:=dl (onw qh) (sl _ p2.1)
 have p07:=dl (onw qh) (sl _ p3.1)
 have p08:=dl (onw qh) (sl _ p4.1)
 have p09:=dl (onw qh) (sl _ p5.1)
 have p0a:=dl (onw qh) (sl _ p6.1)
 replace hr4:=kr hr4 pc
 replace p0:=ko p0 pc
 replace p2:=ko p2 pc
 replace p3:=ko p3 pc
 replace p4:=ko p4 pc
 replace p5:=ko p5 pc
 replace p6:=ko p6 pc
 replace hB:=(hB.trans pc)
 refine WL.storeAll (us:=[.int .i64 (y88.Shape.Objects),v92,v95,v98,v101,v104]) info34 (by rw [sz34]; rfl) nm rfl rfl rfl (by intro u hu; simp only [List.mem_cons,List.mem_nil_iff,or_false] at hu; rcases hu with rfl | rfl | rfl | rfl | rfl | rfl <;> first | exact rfl | exact (STy.one _ p2.1 _ (ms rfl)) | exact (STy.one _ p3.1 _ (ms rfl)) | exact (STy.one _ p4.1 _ (ms rfl)) | exact (STy.one _ p5.1 _ (ms rfl)) | exact (STy.one _ p6.1 _ (ms rfl))) fun p2s qi pg=>?_
 replace pg:Row p2s jf [.int .i64 (y88.Shape.Objects),v92,v95,v98,v101,v104] 34:=pg
 replace hr4:=Row.keep hr4 qi ((p2q).symm _ (ms rfl))
 replace p0:=okp p0 qi (p2r).symm
 replace p2:=okp p2 qi (p06).symm
 replace p3:=okp p3 qi (p07).symm
 replace p4:=okp p4 qi (p08).symm
 replace p5:=okp p5 qi (p09).symm
 replace p6:=okp p6 qi (p0a).symm
 replace hB:=hB.then qi (one_then p2p)
 refine anz <| wq <| W_region rfl <| Wb (Mv v_x2 rfl) <| ?_
 obtain ⟨y146,p2t,ho⟩:=bs ho
 refine WL.call rfl (op_callF Tryz.func21 rfl rfl) (laws_toInt64S_calls (kp _ h_x2 hB) p2t) <| ?_
 rintro _ p71 ⟨v150,p72,rfl,qd,p8⟩
 refine ⟨_,rfl,?_⟩
 have p2u:=dl (ofr p8) (one_lt (Row.lt hr4))
 have p2v:=dl (ofr p8) (sl _ p0.1)
 have p2w:=dl (ofr p8) (sl _ p2.1)
 have p2x:=dl (ofr p8) (sl _ p3.1)
 have p2y:=dl (ofr p8) (sl _ p4.1)
 have p2z:=dl (ofr p8) (sl _ p5.1)
 have p30:=dl (ofr p8) (sl _ p6.1)
 replace p8:=OE.low (G:=[]) p8 hB.size
 replace hr4:=kr hr4 qd
 replace p0:=ko p0 qd
 replace p2:=ko p2 qd
 replace p3:=ko p3 qd
 replace p4:=ko p4 qd
 replace p5:=ko p5 qd
 replace p6:=ko p6 qd
 replace pg:=kr pg qd
 replace hB:=(hB.trans qd)
 refine Wb (Av v150 rfl) <| anz <| wq <| W_region rfl <| Wb (Lg ag34 pg.at rfl rfl) <| Wb (Mi rfl) <| Wb (Mv v150 rfl) <| ?_
 obtain ⟨y162,p31,ho⟩:=bs ho
 refine WL.call rfl (op_callF Tryz.func22 rfl rfl) (impl_CloseSieve_calls ((Le.own (Le.refl _) 2).le p2.1) ((Le.own (Le.refl _) 2).le p3.1) ((Le.own (Le.refl _) 2).le p4.1) ((Le.own (Le.own (Le.refl _) 2) 22).le p5.1) ((Le.own (Le.own (Le.own (Le.refl _) 2) 22) 23).le p6.1) ((Le.own (Le.refl _) 2).le p8.1) p31) <| ?_
 rintro _ p32 ⟨v166,p73,rfl,q7,p7⟩
 refine ⟨_,rfl,?_⟩
 have p33:=dl (ofr p7) (one_lt (Row.lt hr4))
 have p34:=dl (ofr p7) (sl _ p0.1)
 have p35:=dl (ofr p7) (sl _ p2.1)
 have p36:=dl (ofr p7) (sl _ p3.1)
 have p37:=dl (ofr p7) (sl _ p4.1)
 have p38:=dl (ofr p7) (sl _ p5.1)
 have p39:=dl (ofr p7) (sl _ p6.1)
 have p3a:=dl (ofr p7) (sl _ p8.1)
 replace p7:=OE.low (G:=[]) p7 hB.size
 replace hr4:=kr hr4 q7
 replace p0:=ko p0 q7
 replace p2:=ko p2 q7
 replace p3:=ko p3 q7
 replace p4:=ko p4 q7
 replace p5:=ko p5 q7
 replace p6:=ko p6 q7
 replace pg:=kr pg q7
 replace p8:=ko p8 q7
 replace hB:=(hB.trans q7)
 refine Wb (Mt rfl) <| Wb (Ex v166 rfl rfl) <| Wb (Exi rfl rfl) <| Wb (Av v166 rfl) <| Wb (Ai rfl) <| anz <| wq <| wq <| Wq rfl (cr [] p32) <| ?_
 obtain ⟨g179,hm180,ho⟩:=bs ho
 refine QL.meet (fun r=>∃ F,r=updL F [(1,.int .i64 (x1)),(2,v_x2),(3,.pointer (some (⟨b1,0,none⟩))),(8,v77),(9,.int .i64 (y73.2)),(10,.pointer (some (⟨jf,0,none⟩))),(11,v150),(12,v166),(13,.int .i64 (y162.2)),(55,.bool (g179))]) ?_ ?_
 skip
 refine Qa (Mv v166 rfl) <| Qa (Mv v77 rfl) <| ?_
 obtain ⟨y181,p3b,hm180⟩:=bs hm180
 refine Qc Tryz.func23 rfl rfl (fun _ hC=>laws_eqInt64S_calls ((Le.own (Le.refl _) 2).le (kp _ p7.1 hC)) ((Le.own (Le.refl _) 2).le (kp _ p0.1 hC)) p3b) <| Qa (Nt rfl) <| Qa (Mb rfl) <| ?_
 rcases Bool.eq_false_or_eq_true (!(y181)) with px | px
 rw [px] at hm180
 refine Sk rfl px rfl <| Sk rfl px rfl <| Sk rfl px rfl <| Qa (PTb rfl px rfl) <| ?_
 cases hm180
 exact fe rfl
 rw [px] at hm180
 refine Qg rfl px (Mi rfl) <| Qg rfl px (Mi rfl) <| Qg rfl px (Bn rfl rfl) <| Qa (PFb rfl px rfl) <| ?_
 cases hm180
 exact fe rfl
 rintro _ ⟨F,rfl⟩
 refine fun jz q8=>anz <| W_cond (b:=g179) rfl ?_ ?_
 intro nn
 rw [nn] at ho
 refine wq <| Wq rfl q8 <| Qa (Ab rfl) <| fun p74 p3c=>anz <| ?_
 cases ho
 exact W_ret ⟨_,res_1 Tryz.results4,rfl,(hB.trans p3c)⟩
 intro nn
 rw [nn] at ho
 refine W_skip <| anz <| wq <| wq <| ?_
 obtain ⟨y189,p3d,ho⟩:=bs ho
 refine W_any (m:=3) (U:=.replicate 3 []) (S:=[sV (.agg #[.int .i64 (y88.Shape.Objects),v92,v95,v98,v101,v104]),sV (.agg #[.int .i64 (x0.Shape.Objects),zl,zk,zm,zn,zi]),⟨true,pl (fun f w v=>∃ (v191:Value) (pr:List Nat) (v194:Value) (ps:List Nat) (v197:Value) (pt:List Nat) (v200:Value) (pu:List Nat) (v203:Value) (pv:List Nat),v = .agg #[.int .i64 (y189.Shape.Objects),v191,v194,v197,v200,v203]∧f=(pr++(ps++(pt++(pu++pv))))∧(sOwn 2 (sInt .i64)).rep w.heap [v191] (y189.Shape.From) pr∧(sOwn 2 (sInt .i64)).rep w.heap [v194] (y189.Shape.To) ps∧(sOwn 2 (sInt .i64)).rep w.heap [v197] (y189.Shape.Identity) pt∧(sOwn 22 (sOwn 2 (sInt .i64))).rep w.heap [v200] (y189.Shape.Composites) pu∧(sOwn 23 (sOwn 22 (sOwn 2 (sInt .i64)))).rep w.heap [v203] (y189.Covers) pv∧List.Nodup ((pr++(ps++(pt++(pu++pv))))))⟩]) (Z:=[]) hmix rfl (by decide) (by decide +kernel) (fun _ _ _ h=>np_out h) (by decide) rfl (by decide +kernel) (stable_all <| stable_cons stable_val (stable_cons stable_val (stable_cons (stable_pl <| by rintro f F w w' v hC hn ⟨v191,pr,v194,ps,v197,pt,v200,pu,v203,pv,e1_,e2_,ho193,ho196,ho199,ho202,ho205,hnd⟩; exact ⟨v191,pr,v194,ps,v197,pt,v200,pu,v203,pv,e1_,e2_,STy.keep _ ho193 hC (fun b hb=>hn b (by rw [e2_]; simp [hb])),STy.keep _ ho196 hC (fun b hb=>hn b (by rw [e2_]; simp [hb])),STy.keep _ ho199 hC (fun b hb=>hn b (by rw [e2_]; simp [hb])),STy.keep _ ho202 hC (fun b hb=>hn b (by rw [e2_]; simp [hb])),STy.keep _ ho205 hC (fun b hb=>hn b (by rw [e2_]; simp [hb])),hnd⟩) ( stable_nil)))) ?_ ?_
 refine owes_cons ?_ <| owes_cons ?_ <| owes_cons ?_ <| owes_nil
 exact Oh rfl rfl rfl [(10,.pointer (some (⟨jf,0,none⟩)))] q8 rfl rfl fun _=>Lg ag34 pg.at rfl rfl
 exact Oh rfl rfl rfl [(3,.pointer (some (⟨b1,0,none⟩)))] q8 rfl rfl fun _=>Lg ag28 hr4.at rfl rfl
 refine Owes.mem rfl rfl rfl <| fun g r wr hCr H hot=>?_
 have hC:=q8.trans hCr
 obtain ⟨F,rfl⟩:=fr (r:=r) (l:=[(57,.agg #[.int .i64 (x0.Shape.Objects),zl,zk,zm,zn,zi])]) ⟨(H 1 (by decide +kernel) 57 rfl),trivial⟩
 exact OpW.callV (op_callF Tryz.func17 rfl rfl) (laws_toTopology_calls (kp _ zu (hB.trans hC)) (kp _ zt (hB.trans hC)) (kp _ zv (hB.trans hC)) (kp _ zw (hB.trans hC)) (kp _ zj (hB.trans hC)) p3d) fun e w' ⟨v191,pr,v194,ps,v197,pt,v200,pu,v203,pv,he,hC',qj,qk,ql,qm,qn,d0_1,d0_2,d0_3,d0_4,d1_2,d1_3,d1_4,d2_3,d2_4,d3_4⟩=>⟨_,he,hC',(pr++(ps++(pt++(pu++pv)))),(fun b hb=>(List.mem_append.1 hb).elim (fun hb=>⟨ofr qj b hb,sl _ qj.1 b hb⟩) (fun hb=>(List.mem_append.1 hb).elim (fun hb=>⟨ofr qk b hb,sl _ qk.1 b hb⟩) (fun hb=>(List.mem_append.1 hb).elim (fun hb=>⟨ofr ql b hb,sl _ ql.1 b hb⟩) (fun hb=>(List.mem_append.1 hb).elim (fun hb=>⟨ofr qm b hb,sl _ qm.1 b hb⟩) (fun hb=>⟨ofr qn b hb,sl _ qn.1 b hb⟩))))),v191,pr,v194,ps,v197,pt,v200,pu,v203,pv,rfl,rfl,qj.1,qk.1,ql.1,qm.1,qn.1,(nodup_app qj.2.1 (nodup_app qk.2.1 (nodup_app ql.2.1 (nodup_app qm.2.1 qn.2.1 d3_4) (dis_appR d2_3 d2_4)) (dis_appR d1_2 (dis_appR d1_3 d1_4))) (dis_appR d0_1 (dis_appR d0_2 (dis_appR d0_3 d0_4))))⟩
 rintro g r k0 ⟨p3e,hdone,hot,hfresh,hdis⟩
 obtain ⟨v191,pr,v194,ps,v197,pt,v200,pu,v203,pv,hvo193,hgo193,qj,qk,ql,qm,qn,hno193⟩:=hdone 2 (by decide) (by decide) 58 rfl
 have hfo193:=hfresh 2 (by decide)
 have hdd:=hdis
 obtain ⟨F,rfl⟩:=fw hdone hot [(1,.int .i64 (x1)),(2,v_x2),(3,.pointer (some (⟨b1,0,none⟩))),(8,v77),(9,.int .i64 (y73.2)),(10,.pointer (some (⟨jf,0,none⟩))),(11,v150),(12,v166),(13,.int .i64 (y162.2))] [(56,.agg #[.int .i64 (y88.Shape.Objects),v92,v95,v98,v101,v104])] [0] rfl rfl rfl rfl (z:=[(58,.agg #[.int .i64 (y189.Shape.Objects),v191,v194,v197,v200,v203])]) ⟨hvo193,trivial⟩
 have p3f : ∀ b∈pr,jz.heap.size≤b:=fun b hb=>(hfo193 b (show b∈g 2 from (show ∀ b∈pr,b∈g 2 from (fun b hb=>(by rw [hgo193]; simp [hb]))) b hb)).1
 replace qj:OE [] w.heap.size k0 (sOwn 2 (sInt .i64)) [v191] (y189.Shape.From) pr:=⟨qj,(List.nodup_append.1 hno193).1,fun b hb=>.inr (Nat.le_trans (hB.trans q8).size (p3f b hb))⟩
 have p3g : ∀ b∈ps,jz.heap.size≤b:=fun b hb=>(hfo193 b (show b∈g 2 from (show ∀ b∈ps,b∈g 2 from (fun b hb=>(by rw [hgo193]; simp [hb]))) b hb)).1
 replace qk:OE [] w.heap.size k0 (sOwn 2 (sInt .i64)) [v194] (y189.Shape.To) ps:=⟨qk,(List.nodup_append.1 (List.nodup_append.1 hno193).2.1).1,fun b hb=>.inr (Nat.le_trans (hB.trans q8).size (p3g b hb))⟩
 have p3h : ∀ b∈pt,jz.heap.size≤b:=fun b hb=>(hfo193 b (show b∈g 2 from (show ∀ b∈pt,b∈g 2 from (fun b hb=>(by rw [hgo193]; simp [hb]))) b hb)).1
 replace ql:OE [] w.heap.size k0 (sOwn 2 (sInt .i64)) [v197] (y189.Shape.Identity) pt:=⟨ql,(List.nodup_append.1 (List.nodup_append.1 (List.nodup_append.1 hno193).2.1).2.1).1,fun b hb=>.inr (Nat.le_trans (hB.trans q8).size (p3h b hb))⟩
 have p3i : ∀ b∈pu,jz.heap.size≤b:=fun b hb=>(hfo193 b (show b∈g 2 from (show ∀ b∈pu,b∈g 2 from (fun b hb=>(by rw [hgo193]; simp [hb]))) b hb)).1
 replace qm:OE [] w.heap.size k0 (sOwn 22 (sOwn 2 (sInt .i64))) [v200] (y189.Shape.Composites) pu:=⟨qm,(List.nodup_append.1 (List.nodup_append.1 (List.nodup_append.1 (List.nodup_append.1 hno193).2.1).2.1).2.1).1,fun b hb=>.inr (Nat.le_trans (hB.trans q8).size (p3i b hb))⟩
 have p3j : ∀ b∈pv,jz.heap.size≤b:=fun b hb=>(hfo193 b (show b∈g 2 from (show ∀ b∈pv,b∈g 2 from (fun b hb=>(by rw [hgo193]; simp [hb]))) b hb)).1
 replace qn:OE [] w.heap.size k0 (sOwn 23 (sOwn 22 (sOwn 2 (sInt .i64)))) [v203] (y189.Covers) pv:=⟨qn,(List.nodup_append.1 (List.nodup_append.1 (List.nodup_append.1 (List.nodup_append.1 hno193).2.1).2.1).2.1).2.1,fun b hb=>.inr (Nat.le_trans (hB.trans q8).size (p3j b hb))⟩
 have py:=(q8.trans p3e)
 replace hr4:=kr hr4 py
 replace p0:=ko p0 py
 replace p2:=ko p2 py
 replace p3:=ko p3 py
 replace p4:=ko p4 py
 replace p5:=ko p5 py
 replace p6:=ko p6 py
 replace pg:=kr pg py
 replace p8:=ko p8 py
 replace p7:=ko p7 py
 replace hB:=(hB.trans py)
 obtain ⟨y264,p3k,ho⟩:=bs ho
 refine WL.call rfl (op_callF Tryz.func19 rfl rfl) (laws_eqTopology_calls ((Le.own (Le.refl _) 2).le p2.1) ((Le.own (Le.refl _) 2).le p3.1) ((Le.own (Le.refl _) 2).le p4.1) ((Le.own (Le.own (Le.refl _) 2) 22).le p5.1) ((Le.own (Le.own (Le.own (Le.refl _) 2) 22) 23).le p6.1) ((Le.own (Le.refl _) 2).le qj.1) ((Le.own (Le.refl _) 2).le qk.1) ((Le.own (Le.refl _) 2).le ql.1) ((Le.own (Le.own (Le.refl _) 2) 22).le qm.1) ((Le.own (Le.own (Le.own (Le.refl _) 2) 22) 23).le qn.1) p3k) <| ?_
 rintro _ p75 ⟨rfl,kh⟩
 refine ⟨_,rfl,?_⟩
 refine Wb (Nt rfl) <| anz <| W_cond (b:=!(y264)) rfl ?_ ?_
 intro no
 rw [no] at ho
 refine wq <| Wq rfl kh <| Qa (Ab rfl) <| fun p76 p3l=>anz <| ?_
 cases ho
 exact W_ret ⟨_,res_1 Tryz.results4,rfl,(hB.trans p3l)⟩
 intro no
 rw [no] at ho
 refine W_skip <| anz <| wq <| wq <| W_region rfl <| Wb (Mv v150 rfl) <| Wb (Mv v_x2 rfl) <| ?_
 obtain ⟨y271,p3m,ho⟩:=bs ho
 refine WL.call rfl (op_callF Tryz.func21 rfl rfl) (laws_toInt64S_calls (kp _ h_x2 (hB.trans kh)) p3m) <| ?_
 rintro _ p77 ⟨v275,p78,rfl,p3n,np⟩
 refine ⟨_,rfl,?_⟩
 replace np:=OE.low (G:=[]) np (hB.trans (kh)).size
 have pz:=(kh).trans p3n
 replace hr4:=kr hr4 pz
 replace p0:=ko p0 pz
 replace p2:=ko p2 pz
 replace p3:=ko p3 pz
 replace p4:=ko p4 pz
 replace p5:=ko p5 pz
 replace p6:=ko p6 pz
 replace pg:=kr pg pz
 replace p8:=ko p8 pz
 replace p7:=ko p7 pz
 replace hB:=(hB.trans pz)
 obtain ⟨y289,p3o,ho⟩:=bs ho
 refine WL.call rfl (op_callF Tryz.func23 rfl rfl) (laws_eqInt64S_calls ((Le.own (Le.refl _) 2).le p8.1) ((Le.own (Le.refl _) 2).le np.1) p3o) <| ?_
 rintro _ p79 ⟨rfl,p0b⟩
 refine ⟨_,rfl,?_⟩
 refine Wb (Nt rfl) <| anz <| W_cond (b:=!(y289)) rfl ?_ ?_
 intro nq
 rw [nq] at ho
 refine wq <| Wq rfl p0b <| Qa (Ab rfl) <| fun p7a p3p=>anz <| ?_
 cases ho
 exact W_ret ⟨_,res_1 Tryz.results4,rfl,(hB.trans p3p)⟩
 intro nq
 rw [nq] at ho
 refine W_skip <| anz <| wq <| Wq rfl p0b <| Qa (Ai rfl) <| fun j2 p0c=>anz <| wq <| W_region rfl <| Wa p0c (Lg ag34 pg.at rfl rfl) <| Wb (Mi rfl) <| ?_
 have q0:=p0c.trans (cr [] j2)
 replace hr4:=kr hr4 q0
 replace p0:=ko p0 q0
 replace p2:=ko p2 q0
 replace p3:=ko p3 q0
 replace p4:=ko p4 q0
 replace p5:=ko p5 q0
 replace p6:=ko p6 q0
 replace pg:=kr pg q0
 replace p8:=ko p8 q0
 replace p7:=ko p7 q0
 replace hB:=(hB.trans q0)
 obtain ⟨y299,p3q,ho⟩:=bs ho
 refine WL.call rfl (op_callF Tryz.func24 rfl rfl) (laws_markTopology_calls (OE.give (B':=j2.heap.size) p2 fun _ h=>h) (OE.give (B':=j2.heap.size) p3 fun _ h=>h) (OE.give (B':=j2.heap.size) p4 fun _ h=>h) (OE.give (B':=j2.heap.size) p5 fun _ h=>h) (OE.give (B':=j2.heap.size) p6 fun _ h=>h) gc gd ge gf gg gh gi gj k4 k5 p3q) <| ?_
 rintro _ p3r ⟨p7b,p7c,p7d,p7e,p7f,rfl,p3s,p0d,p0e,p0f,p0g,p0h,p7g,p7h,p7i,p7j,p7k,p7l,p7m,p7n,p7o,p7p⟩
 refine ⟨_,rfl,?_⟩
 replace p0d:=OE.back p0d (low_app p2.2.2 (low_app p3.2.2 (low_app p4.2.2 (low_app p5.2.2 p6.2.2)))) hB.size
 replace p0e:=OE.back p0e (low_app p2.2.2 (low_app p3.2.2 (low_app p4.2.2 (low_app p5.2.2 p6.2.2)))) hB.size
 replace p0f:=OE.back p0f (low_app p2.2.2 (low_app p3.2.2 (low_app p4.2.2 (low_app p5.2.2 p6.2.2)))) hB.size
 replace p0g:=OE.back p0g (low_app p2.2.2 (low_app p3.2.2 (low_app p4.2.2 (low_app p5.2.2 p6.2.2)))) hB.size
 replace p0h:=OE.back p0h (low_app p2.2.2 (low_app p3.2.2 (low_app p4.2.2 (low_app p5.2.2 p6.2.2)))) hB.size
 have jg:=((cr [] j2).nil (G:=(f93++(f96++(f99++(p2n++p2o)))))).trans p3s
 replace hr4:=Row.keep hr4 jg ((Dis.symm (da k6 (da k8 (da ka (da kc gl))))) _ (ms rfl))
 replace p0:=okp p0 jg (Dis.symm (da k7 (da k9 (da kb (da gk gm)))))
 replace pg:=Row.keep pg jg ((Dis.symm (da (p06).symm (da (p07).symm (da (p08).symm (da (p09).symm (p0a).symm))))) _ (ms rfl))
 replace p8:=okp p8 jg (Dis.symm (da (p2w).symm (da (p2x).symm (da (p2y).symm (da (p2z).symm (p30).symm)))))
 replace p7:=okp p7 jg (Dis.symm (da (p35).symm (da (p36).symm (da (p37).symm (da (p38).symm (p39).symm)))))
 replace hB:=hB.then jg (low_app p2.2.2 (low_app p3.2.2 (low_app p4.2.2 (low_app p5.2.2 p6.2.2))))
 refine Wb (Ai rfl) <| anz <| wq <| W_region rfl <| Wb (Mv v150 rfl) <| Wb (Mi rfl) <| ?_
 obtain ⟨y349,p3t,ho⟩:=bs ho
 refine WL.call rfl (op_callF Tryz.func25 rfl rfl) (laws_markInt64S_calls (OE.give (B':=p3r.heap.size) p8 fun _ h=>h) p3t) <| ?_
 rintro _ p3u ⟨p7q,rfl,ki,p0i⟩
 refine ⟨_,rfl,?_⟩
 replace p0i:=OE.back p0i p8.2.2 hB.size
 replace hr4:=Row.keep hr4 ki ((Dis.symm p2u) _ (ms rfl))
 replace p0:=okp p0 ki (Dis.symm p2v)
 replace p7:=okp p7 ki (Dis.symm (p3a).symm)
 replace hB:=hB.then ki p8.2.2
 refine Wb (Ai rfl) <| anz <| wq <| wq <| Wq rfl (cr [] p3u) <| ?_
 obtain ⟨g359,hm360,ho⟩:=bs ho
 refine QL.meet (fun r=>∃ F,r=updL F [(1,.int .i64 (x1)),(2,v_x2),(3,.pointer (some (⟨b1,0,none⟩))),(8,v77),(9,.int .i64 (y73.2)),(12,v166),(84,.bool (g359))]) ?_ ?_
 skip
 refine Qa (Mi rfl) <| Qa (Bl rfl rfl) <| Qa (Mb rfl) <| ?_
 rcases Bool.eq_false_or_eq_true (decide (y349.1 < (0:Int))) with pn | pn
 rw [pn] at hm360
 refine Sk rfl pn rfl <| Sk rfl pn rfl <| Sk rfl pn rfl <| Sk rfl pn rfl <| Qa (PTb rfl pn rfl) <| Qa (Mb rfl) <| Sk rfl rfl rfl <| Sk rfl rfl rfl <| Sk rfl rfl rfl <| Qa (PTb rfl rfl rfl) <| ?_
 cases hm360
 exact fe rfl
 rw [pn] at hm360
 refine Qg rfl pn (Mv v166 rfl) <| Qg rfl pn (Mv v77 rfl) <| ?_
 obtain ⟨y362,p3v,hm360⟩:=bs hm360
 refine Qcg rfl pn Tryz.func23 rfl rfl (fun _ hC=>laws_eqInt64S_calls ((Le.own (Le.refl _) 2).le (kp _ p7.1 hC)) ((Le.own (Le.refl _) 2).le (kp _ p0.1 hC)) p3v) <| Qg rfl pn (Nt rfl) <| Qa (PFb rfl pn rfl) <| Qa (Mb rfl) <| ?_
 rcases Bool.eq_false_or_eq_true (!(y362)) with q1 | q1
 rw [q1] at hm360
 refine Sk rfl q1 rfl <| Sk rfl q1 rfl <| Sk rfl q1 rfl <| Qa (PTb rfl q1 rfl) <| ?_
 cases hm360
 exact fe rfl
 rw [q1] at hm360
 refine Qg rfl q1 (Mi rfl) <| Qg rfl q1 (Mi rfl) <| Qg rfl q1 (Bn rfl rfl) <| Qa (PFb rfl q1 rfl) <| ?_
 cases hm360
 exact fe rfl
 rintro _ ⟨F,rfl⟩
 refine fun p7r p0j=>anz <| W_cond (b:=g359) rfl ?_ ?_
 intro nr
 rw [nr] at ho
 refine wq <| Wq rfl p0j <| Qa (Ab rfl) <| fun p7s p3w=>anz <| ?_
 cases ho
 exact W_ret ⟨_,res_1 Tryz.results4,rfl,(hB.trans p3w)⟩
 intro nr
 rw [nr] at ho
 refine W_skip <| anz <| wq <| Wq rfl p0j <| Qa (Ai rfl) <| fun p0k p3x=>anz <| wq <| W_region rfl <| Wb (Mv v166 rfl) <| Wb (Mi rfl) <| ?_
 have kj:=p3x.trans (cr [] p0k)
 replace hr4:=kr hr4 kj
 replace p0:=ko p0 kj
 replace p7:=ko p7 kj
 replace hB:=(hB.trans kj)
 obtain ⟨y373,p3y,ho⟩:=bs ho
 refine WL.call rfl (op_callF Tryz.func25 rfl rfl) (laws_markInt64S_calls (OE.give (B':=p0k.heap.size) p7 fun _ h=>h) p3y) <| ?_
 rintro _ p3z ⟨p7t,rfl,ns,q9⟩
 refine ⟨_,rfl,?_⟩
 replace q9:=OE.back q9 p7.2.2 hB.size
 replace hr4:=Row.keep hr4 ns ((Dis.symm p33) _ (ms rfl))
 replace p0:=okp p0 ns (Dis.symm p34)
 replace hB:=hB.then ns p7.2.2
 refine Wb (Ai rfl) <| anz <| wq <| Wq rfl (cr [] p3z) <| Qa (Ai rfl) <| fun p7u p40=>anz <| wq <| Wq rfl p40 <| Qa (Mv v166 rfl) <| Qa (Mi rfl) <| ?_
 obtain ⟨y384,p41,ho⟩:=bs ho
 refine Qc Tryz.func26 rfl rfl (fun _ hC=>laws_heldInt64S_calls ((Le.own (Le.refl _) 2).le (kp _ q9.1 hC)) p41) <| Qa (Ai rfl) <| fun p7v p42=>anz <| wq <| wq <| Wq rfl p42 <| Qa (Mi rfl) <| Qa (Bl rfl rfl) <| fun p7w p0l=>anz <| W_cond (b:=decide (y384 < (0:Int))) rfl ?_ ?_
 intro nt
 rw [nt] at ho
 refine wq <| Wq rfl p0l <| Qa (Ab rfl) <| fun p7x p43=>anz <| ?_
 cases ho
 exact W_ret ⟨_,res_1 Tryz.results4,rfl,(hB.trans p43)⟩
 intro nt
 rw [nt] at ho
 refine W_skip <| anz <| wq <| wq <| Wq rfl p0l <| Qa (Mi rfl) <| Qa (Mi rfl) <| Qa (Bn rfl rfl) <| fun p7y po=>anz <| W_cond (b:=(y384) != (y373.1)) rfl ?_ ?_
 intro nu
 rw [nu] at ho
 refine wq <| Wq rfl po <| Qa (Ab rfl) <| fun p7z p44=>anz <| ?_
 cases ho
 exact W_ret ⟨_,res_1 Tryz.results4,rfl,(hB.trans p44)⟩
 intro nu
 rw [nu] at ho
 refine W_skip <| anz <| wq <| W_region rfl <| Wa po (Lg ag28 hr4.at rfl rfl) <| ?_
 obtain ⟨y398,p45,ho⟩:=bs ho
 refine WL.call rfl (op_callF Tryz.func17 rfl rfl) (laws_toTopology_calls (kp _ zu (hB.trans po)) (kp _ zt (hB.trans po)) (kp _ zv (hB.trans po)) (kp _ zw (hB.trans po)) (kp _ zj (hB.trans po)) p45) <| ?_
 rintro _ p80 ⟨v402,p81,v405,p82,v408,p83,v411,p84,v414,p85,rfl,p46,j3,j4,j5,j6,j7,p86,p87,p88,p89,p8a,p8b,p8c,p8d,p8e,p8f⟩
 refine ⟨_,rfl,?_⟩
 replace j3:=OE.low (G:=[]) j3 (hB.trans po).size
 replace j4:=OE.low (G:=[]) j4 (hB.trans po).size
 replace j5:=OE.low (G:=[]) j5 (hB.trans po).size
 replace j6:=OE.low (G:=[]) j6 (hB.trans po).size
 replace j7:=OE.low (G:=[]) j7 (hB.trans po).size
 have kk:=po.trans p46
 replace hr4:=kr hr4 kk
 replace p0:=ko p0 kk
 replace q9:=ko q9 kk
 replace hB:=(hB.trans kk)
 refine Wb (Mi rfl) <| Wb (Mv v_x2 rfl) <| ?_
 obtain ⟨y443,p47,ho⟩:=bs ho
 refine WL.call rfl (op_callF Tryz.func21 rfl rfl) (laws_toInt64S_calls (kp _ h_x2 hB) p47) <| ?_
 rintro _ p8g ⟨v447,p8h,rfl,qe,k1⟩
 refine ⟨_,rfl,?_⟩
 replace k1:=OE.low (G:=[]) k1 hB.size
 replace hr4:=kr hr4 qe
 replace p0:=ko p0 qe
 replace q9:=ko q9 qe
 replace j3:=ko j3 qe
 replace j4:=ko j4 qe
 replace j5:=ko j5 qe
 replace j6:=ko j6 qe
 replace j7:=ko j7 qe
 replace hB:=(hB.trans qe)
 obtain ⟨y459,p48,ho⟩:=bs ho
 refine WL.call rfl (op_callF Tryz.func22 rfl rfl) (impl_CloseSieve_calls ((Le.own (Le.refl _) 2).le j3.1) ((Le.own (Le.refl _) 2).le j4.1) ((Le.own (Le.refl _) 2).le j5.1) ((Le.own (Le.own (Le.refl _) 2) 22).le j6.1) ((Le.own (Le.own (Le.own (Le.refl _) 2) 22) 23).le j7.1) ((Le.own (Le.refl _) 2).le k1.1) p48) <| ?_
 rintro _ p49 ⟨v463,p8i,rfl,qa,nv⟩
 refine ⟨_,rfl,?_⟩
 replace nv:=OE.low (G:=[]) nv hB.size
 replace hr4:=kr hr4 qa
 replace p0:=ko p0 qa
 replace q9:=ko q9 qa
 replace j3:=ko j3 qa
 replace j4:=ko j4 qa
 replace j5:=ko j5 qa
 replace j6:=ko j6 qa
 replace j7:=ko j7 qa
 replace k1:=ko k1 qa
 replace hB:=(hB.trans qa)
 refine Wb (Mt rfl) <| Wb (Ex v463 rfl rfl) <| Wb (Exi rfl rfl) <| Wb (Av v463 rfl) <| Wb (Ai rfl) <| anz <| wq <| wq <| Wq rfl (cr [] p49) <| ?_
 obtain ⟨g476,hm477,ho⟩:=bs ho
 refine QL.meet (fun r=>∃ F,r=updL F [(12,v166),(15,.int .i64 (y373.1)),(113,.bool (g476))]) ?_ ?_
 skip
 refine Qa (Mv v463 rfl) <| Qa (Mv v77 rfl) <| ?_
 obtain ⟨y478,p4a,hm477⟩:=bs hm477
 refine Qc Tryz.func23 rfl rfl (fun _ hC=>laws_eqInt64S_calls ((Le.own (Le.refl _) 2).le (kp _ nv.1 hC)) ((Le.own (Le.refl _) 2).le (kp _ p0.1 hC)) p4a) <| Qa (Nt rfl) <| Qa (Mb rfl) <| ?_
 rcases Bool.eq_false_or_eq_true (!(y478)) with q2 | q2
 rw [q2] at hm477
 refine Sk rfl q2 rfl <| Sk rfl q2 rfl <| Sk rfl q2 rfl <| Qa (PTb rfl q2 rfl) <| ?_
 cases hm477
 exact fe rfl
 rw [q2] at hm477
 refine Qg rfl q2 (Mi rfl) <| Qg rfl q2 (Mi rfl) <| Qg rfl q2 (Bn rfl rfl) <| Qa (PFb rfl q2 rfl) <| ?_
 cases hm477
 exact fe rfl
 rintro _ ⟨F,rfl⟩
 refine fun p8j p0m=>anz <| W_cond (b:=g476) rfl ?_ ?_
 intro nw
 rw [nw] at ho
 refine wq <| Wq rfl p0m <| Qa (Ab rfl) <| fun p8k p4b=>anz <| ?_
 cases ho
 exact W_ret ⟨_,res_1 Tryz.results4,rfl,(hB.trans p4b)⟩
 intro nw
 rw [nw] at ho
 refine W_skip <| anz <| wq <| Wq rfl p0m <| Qa (Ai rfl) <| fun p8l p4c=>anz <| wq <| Wq rfl p4c <| Qa (Mv v166 rfl) <| Qa (Mi rfl) <| ?_
 obtain ⟨y488,p4d,ho⟩:=bs ho
 refine Qc Tryz.func26 rfl rfl (fun _ hC=>laws_heldInt64S_calls ((Le.own (Le.refl _) 2).le (kp _ q9.1 hC)) p4d) <| Qa (Ai rfl) <| fun p8m p4e=>anz <| wq <| wq <| Wq rfl p4e <| Qa (Mi rfl) <| Qa (Bl rfl rfl) <| fun p8n p0n=>anz <| W_cond (b:=decide (y488 < (0:Int))) rfl ?_ ?_
 intro nx
 rw [nx] at ho
 refine wq <| Wq rfl p0n <| Qa (Ab rfl) <| fun p8o p4f=>anz <| ?_
 cases ho
 exact W_ret ⟨_,res_1 Tryz.results4,rfl,(hB.trans p4f)⟩
 intro nx
 rw [nx] at ho
 refine W_skip <| anz <| wq <| wq <| Wq rfl p0n <| Qa (Mi rfl) <| Qa (Mi rfl) <| Qa (Bn rfl rfl) <| fun p8p p0o=>anz <| W_cond (b:=(y488) != (y373.1)) rfl ?_ ?_
 intro ny
 rw [ny] at ho
 refine wq <| Wq rfl p0o <| Qa (Ab rfl) <| fun p8q p4g=>anz <| ?_
 cases ho
 exact W_ret ⟨_,res_1 Tryz.results4,rfl,(hB.trans p4g)⟩
 intro ny
 rw [ny] at ho
 refine W_skip <| anz <| wq <| Wq rfl p0o <| Qa (Ab rfl) <| fun p8r p4h=>anz <| ?_
 cases ho
 exact W_ret ⟨_,res_1 Tryz.results4,rfl,(hB.trans p4h)⟩
end Go.Proofs.YtcmckiiafgcmjaaGreat
