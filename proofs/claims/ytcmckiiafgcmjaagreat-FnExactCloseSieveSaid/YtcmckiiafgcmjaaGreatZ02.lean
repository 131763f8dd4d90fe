/- Walks, printed by a program: that a call of each function computes what its model says. No condition beside those that each theorem names. -/
import Derived.Test.YtcmckiiafgcmjaaGreatTy
import Derived.Test.YtcmckiiafgcmjaaGreatMo
import Derived.Test.YtcmckiiafgcmjaaGreatZ00
import Derived.Test.YtcmckiiafgcmjaaGreatZ01
namespace Go.Proofs.YtcmckiiafgcmjaaGreat
open Go Go.Li
set_option linter.unusedVariables false
set_option maxHeartbeats 4000000
set_option maxRecDepth 100000
abbrev spec_l27Make_post (ze:List Nat) (zf:List Nat) (zg:List Nat) (zh:List Nat) (w:World) (x:(ML27Table×Bool)) (e:Ending) (w':World):Prop:=∃ (v0:Value) (f0:List Nat) (v1:Value) (f1:List Nat) (v2:Value) (f2:List Nat) (v3:Value) (f3:List Nat) (v4:Value) (f4:List Nat) (v5:Value) (f5:List Nat) (v6:Value) (f6:List Nat),e = .returned (.tuple #[.agg #[.int .i64 x.1.C.Objects,v0,v1,v2,v3,v4,v5,v6],.bool x.2])∧Chg [] w w'∧(sImm (sInt .i64)).rep w'.heap [v0] x.1.C.From f0∧(∀ b∈f0,b∈(ze++(zf++(zg++zh))) ∨ w.heap.size≤b)∧(sImm (sInt .i64)).rep w'.heap [v1] x.1.C.To f1∧(∀ b∈f1,b∈(ze++(zf++(zg++zh))) ∨ w.heap.size≤b)∧(sImm (sInt .i64)).rep w'.heap [v2] x.1.C.Identity f2∧(∀ b∈f2,b∈(ze++(zf++(zg++zh))) ∨ w.heap.size≤b)∧(sImm (sImm (sInt .i64))).rep w'.heap [v3] x.1.C.Composites f3∧(∀ b∈f3,b∈(ze++(zf++(zg++zh))) ∨ w.heap.size≤b)∧(sImm (sImm (sImm (sInt .i64)))).rep w'.heap [v4] x.1.Lists f4∧(∀ b∈f4,b∈(ze++(zf++(zg++zh))) ∨ w.heap.size≤b)∧(sImm (sImm (sInt .i64))).rep w'.heap [v5] x.1.Pulls f5∧(∀ b∈f5,b∈(ze++(zf++(zg++zh))) ∨ w.heap.size≤b)∧(sImm (sInt .i64)).rep w'.heap [v6] x.1.Tops f6∧(∀ b∈f6,b∈(ze++(zf++(zg++zh))) ∨ w.heap.size≤b)
abbrev spec_l27Make_T (ze:List Nat) (zf:List Nat) (zg:List Nat) (zh:List Nat) (w:World):=Tm Tryz.prog Tryz.f135 24 (spec_l27Make_post ze zf zg zh w)
theorem spec_l27Make_calls {w:World} {x0:MCategory} {z2:Value} {ze:List Nat} {z1:Value} {zf:List Nat} {z7:Value} {zg:List Nat} {z6:Value} {zh:List Nat} (z8:(sImm (sInt .i64)).rep w.heap [z2] x0.From ze) (za:(sImm (sInt .i64)).rep w.heap [z1] x0.To zf) (zc:(sImm (sInt .i64)).rep w.heap [z7] x0.Identity zg) (zb:(sImm (sImm (sInt .i64))).rep w.heap [z6] x0.Composites zh) {y:(ML27Table×Bool)} (hm:spec_l27Make x0=some y) :
  Calls Tryz.prog 135 #[.agg #[.int .i64 (x0.Objects),z2,z1,z7,z6]] w (spec_l27Make_post ze zf zg zh w y):=by
 refine Cm (S:=Unit) Tryz.func135 rfl Tryz.ntmps135 rfl hm fun o ho hB=>?_
 clear hm
 refine wq <| W_region rfl <| WL.box fun b1 wd2 hC3 hr4 hl5=>?_
 replace hr4:Row wd2 b1 [.int .i64 (x0.Objects),z2,z1,z7,z6] 32:=hr4
 replace z8:=kp _ z8 hC3
 replace za:=kp _ za hC3
 replace zc:=kp _ zc hC3
 replace zb:=kp _ zb hC3
 replace hB:=(hB.trans hC3)
 refine WL.alloc info96 zr96 fun qt p0i qu pr qw=>?_
 replace pr:Row p0i qt [.int .i64 ((0:Int)),.slice none 0 0,.slice none 0 0,.slice none 0 0,.slice none 0 0,.slice none 0 0,.slice none 0 0,.slice none 0 0] 96:=pr
 have np:w.heap.size≤qt:=Nat.le_trans hB.size qw
 have qx:=dl (onw qw) (sl _ z8)
 have qa:=dl (onw qw) (sl _ za)
 have pi:=dl (onw qw) (sl _ zc)
 have qb:=dl (onw qw) (sl _ zb)
 have qc:=dl (onw qw) (one_lt (Row.lt hr4))
 replace z8:=kp _ z8 qu
 replace za:=kp _ za qu
 replace zc:=kp _ zc qu
 replace zb:=kp _ zb qu
 replace hr4:=kr hr4 qu
 replace hB:=(hB.trans qu)
 refine Wb (Ab rfl) <| anz <| wq <| W_region rfl <| Wb (Lg ag32 hr4.at rfl rfl) <| ?_
 obtain ⟨y24,p0j,ho⟩:=bs ho
 refine WL.call rfl (op_callF Tryz.func205 rfl rfl) (spec_l25Lists_calls z8 za zc zb p0j) <| ?_
 rintro _ j2 ⟨v28,f29,rfl,qd,qe,nq⟩
 refine ⟨_,rfl,?_⟩
 have d33:=dl nq (one_lt (Row.lt pr))
 have p0m : ∀ b∈f29,b∈(ze++(zf++(zg++zh))) ∨ w.heap.size≤b:=fun b hb=>.inr (Nat.le_trans hB.size (nq b hb))
 replace z8:=kp _ z8 qd
 replace za:=kp _ za qd
 replace zc:=kp _ zc qd
 replace zb:=kp _ zb qd
 replace hr4:=kr hr4 qd
 replace pr:=kr pr qd
 replace hB:=(hB.trans qd)
 refine Wb (Mt rfl) <| Wb (Ex v28 rfl rfl) <| Wb (Exb rfl rfl) <| Wb (Av v28 rfl) <| Wb (Ab rfl) <| anz <| wq <| wq <| Wq rfl (cr [] j2) <| Qa (Mb rfl) <| Qa (Nt rfl) <| fun qn p5=>anz <| W_cond (b:=!(y24.2)) rfl ?_ ?_
 intro jz
 rw [jz] at ho
 refine wq <| W_region rfl <| Wb (Bu bld96_) <| WL.storeAll (us:=[.int .i64 ((0:Int)),.slice none 0 0,.slice none 0 0,.slice none 0 0,.slice none 0 0,.slice none 0 0,.slice none 0 0,.slice none 0 0]) info96 (by rw [sz96]; rfl) (kr pr p5) rfl rfl rfl (by intro u hu; simp only [List.mem_cons,List.mem_nil_iff,or_false] at hu; rcases hu with rfl | rfl | rfl | rfl | rfl | rfl | rfl | rfl <;> first | exact rfl) fun p0n p0o k0=>?_
 replace k0:Row p0n qt [.int .i64 ((0:Int)),.slice none 0 0,.slice none 0 0,.slice none 0 0,.slice none 0 0,.slice none 0 0,.slice none 0 0,.slice none 0 0] 96:=k0
 have p0p:=(p5.nil (G:=[qt])).trans p0o
 replace hB:=hB.then p0p (one_then np)
 refine Wb (Ab rfl) <| anz <| ?_
 cases ho
 exact W_ret ⟨_,res_c1 Tryz.results135 Tryz.underlying96 rfl info96 (by rw [sz96]; rfl) rfl k0.at,_,_,_,_,_,_,_,_,_,_,_,_,_,_,rfl,hB,nil_imm,(fun _ h=>nomatch h),nil_imm,(fun _ h=>nomatch h),nil_imm,(fun _ h=>nomatch h),nil_imm,(fun _ h=>nomatch h),nil_imm,(fun _ h=>nomatch h),nil_imm,(fun _ h=>nomatch h),nil_imm,(fun _ h=>nomatch h)⟩
 intro jz
 rw [jz] at ho
 refine W_skip <| anz <| wq <| ?_
 obtain ⟨y43,p0q,ho⟩:=bs ho
 obtain ⟨y63,p0r,ho⟩:=bs ho
 refine W_any (m:=9) (U:=.replicate 9 []) (S:=[sV (.agg #[.int .i64 (x0.Objects),z2,z1,z7,z6]),sV (v28),sV (.agg #[.int .i64 (x0.Objects),z2,z1,z7,z6]),sV (v28),⟨true,pl (fun f w v=>∃ (v45:Value) (ps:List Nat) (v48:Value) (pt:List Nat) (v51:Value) (pu:List Nat) (v54:Value) (pv:List Nat) (v57:Value) (pw:List Nat) (v60:Value) (q4:List Nat),v = .agg #[.int .i64 (y43.Shape.Objects),v45,v48,v51,v54,v57,v60]∧f=(ps++(pt++(pu++(pv++(pw++q4)))))∧(sOwn 2 (sInt .i64)).rep w.heap [v45] (y43.Shape.From) ps∧(sOwn 2 (sInt .i64)).rep w.heap [v48] (y43.Shape.To) pt∧(sOwn 2 (sInt .i64)).rep w.heap [v51] (y43.Shape.Identity) pu∧(sOwn 22 (sOwn 2 (sInt .i64))).rep w.heap [v54] (y43.Shape.Composites) pv∧(sOwn 2 (sInt .i64)).rep w.heap [v57] (y43.Sizes) pw∧(sOwn 22 (sOwn 2 (sInt .i64))).rep w.heap [v60] (y43.Actions) q4∧List.Nodup ((ps++(pt++(pu++(pv++(pw++q4)))))))⟩,⟨true,fun _ _ r u=>u=fldOf (r 18) 6⟩,sV (.agg #[.int .i64 (x0.Objects),z2,z1,z7,z6]),sV (v28),⟨true,pl (fun f w v=>∃ (v65:Value) (q7:List Nat),v=v65∧f=q7∧(sImm (sInt .i64)).rep w.heap [v65] (y63) q7∧True)⟩]) (Z:=[]) hmix rfl (by decide) (by decide +kernel) (fun _ _ _ h=>np_out h) (by decide) rfl (by decide +kernel) (stable_all <| stable_cons stable_val (stable_cons stable_val (stable_cons stable_val (stable_cons stable_val (stable_cons (stable_pl <| by rintro f F w w' v hC hn ⟨v45,ps,v48,pt,v51,pu,v54,pv,v57,pw,v60,q4,e1_,e2_,ho47,ho50,ho53,ho56,ho59,ho62,hnd⟩; exact ⟨v45,ps,v48,pt,v51,pu,v54,pv,v57,pw,v60,q4,e1_,e2_,STy.keep _ ho47 hC (fun b hb=>hn b (by rw [e2_]; simp [hb])),STy.keep _ ho50 hC (fun b hb=>hn b (by rw [e2_]; simp [hb])),STy.keep _ ho53 hC (fun b hb=>hn b (by rw [e2_]; simp [hb])),STy.keep _ ho56 hC (fun b hb=>hn b (by rw [e2_]; simp [hb])),STy.keep _ ho59 hC (fun b hb=>hn b (by rw [e2_]; simp [hb])),STy.keep _ ho62 hC (fun b hb=>hn b (by rw [e2_]; simp [hb])),hnd⟩) (stable_cons (stable_frame (X:=fun r=>fldOf (r 18) 6) fun r r' h=>congrArg (fun u=>fldOf (u) 6) (h 4 (by decide +kernel) 18 rfl)) (stable_cons stable_val (stable_cons stable_val (stable_cons (stable_pl <| by rintro f F w w' v hC hn ⟨v65,q7,e1_,e2_,ho67,hnd⟩; exact ⟨v65,q7,e1_,e2_,STy.keep _ ho67 hC (fun b hb=>hn b (by rw [e2_]; simp [hb])),hnd⟩) ( stable_nil)))))))))) ?_ ?_
 refine owes_cons ?_ <| owes_cons ?_ <| owes_cons ?_ <| owes_cons ?_ <| owes_cons ?_ <| owes_cons ?_ <| owes_cons ?_ <| owes_cons ?_ <| owes_cons ?_ <| owes_nil
 exact Oh rfl rfl rfl [(1,.pointer (some (⟨b1,0,none⟩)))] p5 rfl rfl fun _=>Lg ag32 hr4.at rfl rfl
 exact Oh rfl rfl rfl [(4,v28)] p5 rfl rfl fun _=>Mv v28 rfl
 exact Oh rfl rfl rfl [(1,.pointer (some (⟨b1,0,none⟩)))] p5 rfl rfl fun _=>Lg ag32 hr4.at rfl rfl
 exact Oh rfl rfl rfl [(4,v28)] p5 rfl rfl fun _=>Mv v28 rfl
 refine Owes.mem rfl rfl rfl <| fun g r wr hCr H hot=>?_
 have hC:=p5.trans hCr
 obtain ⟨F,rfl⟩:=fr (r:=r) (l:=[(16,.agg #[.int .i64 (x0.Objects),z2,z1,z7,z6]),(17,v28)]) ⟨(H 2 (by decide +kernel) 16 rfl),(H 3 (by decide +kernel) 17 rfl),trivial⟩
 exact OpW.callV (op_callF Tryz.func110 rfl rfl) (spec_l25Make_calls (kp _ z8 hC) (kp _ za hC) (kp _ zc hC) (kp _ zb hC) (kp _ qe hC) p0q) fun e w' ⟨v45,ps,v48,pt,v51,pu,v54,pv,v57,pw,v60,q4,he,hC',p6,p7,p8,p9,pa,q2,d0_1,d0_2,d0_3,d0_4,d0_5,d1_2,d1_3,d1_4,d1_5,d2_3,d2_4,d2_5,d3_4,d3_5,d4_5⟩=>⟨_,he,hC',(ps++(pt++(pu++(pv++(pw++q4))))),(fun b hb=>(List.mem_append.1 hb).elim (fun hb=>⟨ofr p6 b hb,sl _ p6.1 b hb⟩) (fun hb=>(List.mem_append.1 hb).elim (fun hb=>⟨ofr p7 b hb,sl _ p7.1 b hb⟩) (fun hb=>(List.mem_append.1 hb).elim (fun hb=>⟨ofr p8 b hb,sl _ p8.1 b hb⟩) (fun hb=>(List.mem_append.1 hb).elim (fun hb=>⟨ofr p9 b hb,sl _ p9.1 b hb⟩) (fun hb=>(List.mem_append.1 hb).elim (fun hb=>⟨ofr pa b hb,sl _ pa.1 b hb⟩) (fun hb=>⟨ofr q2 b hb,sl _ q2.1 b hb⟩)))))),v45,ps,v48,pt,v51,pu,v54,pv,v57,pw,v60,q4,rfl,rfl,p6.1,p7.1,p8.1,p9.1,pa.1,q2.1,(nodup_app p6.2.1 (nodup_app p7.2.1 (nodup_app p8.2.1 (nodup_app p9.2.1 (nodup_app pa.2.1 q2.2.1 d4_5) (dis_appR d3_4 d3_5)) (dis_appR d2_3 (dis_appR d2_4 d2_5))) (dis_appR d1_2 (dis_appR d1_3 (dis_appR d1_4 d1_5)))) (dis_appR d0_1 (dis_appR d0_2 (dis_appR d0_3 (dis_appR d0_4 d0_5)))))⟩
 refine Owes.valX rfl rfl rfl <| fun g r wr hCr H hot=>?_
 have hC:=p5.trans hCr
 obtain ⟨v45,ps,v48,pt,v51,pu,v54,pv,v57,pw,v60,q4,hvo47,hgo47,p6,p7,p8,p9,pa,q2,hno47⟩:=H 4 (by decide +kernel) 18 rfl
 obtain ⟨F,rfl⟩:=fr (r:=r) (l:=[(18,.agg #[.int .i64 (y43.Shape.Objects),v45,v48,v51,v54,v57,v60])]) ⟨hvo47,trivial⟩
 exact op_field (off:=6) Tryz.underlying66 rfl u23z rfl rfl rfl rfl
 exact Oh rfl rfl rfl [(1,.pointer (some (⟨b1,0,none⟩)))] p5 rfl rfl fun _=>Lg ag32 hr4.at rfl rfl
 exact Oh rfl rfl rfl [(4,v28)] p5 rfl rfl fun _=>Mv v28 rfl
 refine Owes.mem rfl rfl rfl <| fun g r wr hCr H hot=>?_
 have hC:=p5.trans hCr
 obtain ⟨F,rfl⟩:=fr (r:=r) (l:=[(20,.agg #[.int .i64 (x0.Objects),z2,z1,z7,z6]),(21,v28)]) ⟨(H 6 (by decide +kernel) 20 rfl),(H 7 (by decide +kernel) 21 rfl),trivial⟩
 exact OpW.callV (op_callF Tryz.func206 rfl rfl) (spec_l25Tops_calls (kp _ z8 hC) (kp _ za hC) (kp _ zc hC) (kp _ zb hC) (kp _ qe hC) p0r) fun e w' ⟨v65,q7,he,hC',qh,p0s⟩=>⟨_,he,hC',q7,(fun b hb=>⟨p0s b hb,sl _ qh b hb⟩),v65,q7,rfl,rfl,qh,trivial⟩
 rintro g r qo ⟨k1,hdone,hot,hfresh,hdis⟩
 obtain ⟨v45,ps,v48,pt,v51,pu,v54,pv,v57,pw,v60,q4,hvo47,hgo47,p6,p7,p8,p9,pa,q2,hno47⟩:=hdone 4 (by decide) (by decide) 18 rfl
 have hfo47:=hfresh 4 (by decide)
 obtain ⟨v65,q7,hvo67,hgo67,qh,hno67⟩:=hdone 8 (by decide) (by decide) 22 rfl
 have hfo67:=hfresh 8 (by decide)
 have hv70:r 19=v60:=((hdone 5 (by decide) (by decide) 19 rfl).trans (by rw [hvo47]; rfl))
 have hdd:=hdis
 obtain ⟨F,rfl⟩:=fw hdone hot [(2,.pointer (some (⟨qt,0,none⟩)))] [(14,.agg #[.int .i64 (x0.Objects),z2,z1,z7,z6]),(15,v28)] [0,1] rfl rfl rfl rfl (z:=[(18,.agg #[.int .i64 (y43.Shape.Objects),v45,v48,v51,v54,v57,v60]),(19,v60),(22,v65)]) ⟨hvo47,hv70,hvo67,trivial⟩
 have nr : ∀ b∈ps,qn.heap.size≤b:=fun b hb=>(hfo47 b (show b∈g 4 from (show ∀ b∈ps,b∈g 4 from (fun b hb=>(by rw [hgo47]; simp [hb]))) b hb)).1
 replace p6:OE [] w.heap.size qo (sOwn 2 (sInt .i64)) [v45] (y43.Shape.From) ps:=⟨p6,(List.nodup_append.1 hno47).1,fun b hb=>.inr (Nat.le_trans (hB.trans p5).size (nr b hb))⟩
 have d77:=dl nr (one_lt (Row.lt (kr pr p5)))
 have ns : ∀ b∈pt,qn.heap.size≤b:=fun b hb=>(hfo47 b (show b∈g 4 from (show ∀ b∈pt,b∈g 4 from (fun b hb=>(by rw [hgo47]; simp [hb]))) b hb)).1
 replace p7:OE [] w.heap.size qo (sOwn 2 (sInt .i64)) [v48] (y43.Shape.To) pt:=⟨p7,(List.nodup_append.1 (List.nodup_append.1 hno47).2.1).1,fun b hb=>.inr (Nat.le_trans (hB.trans p5).size (ns b hb))⟩
 have d85:=dl ns (one_lt (Row.lt (kr pr p5)))
 have j3 : ∀ b∈pu,qn.heap.size≤b:=fun b hb=>(hfo47 b (show b∈g 4 from (show ∀ b∈pu,b∈g 4 from (fun b hb=>(by rw [hgo47]; simp [hb]))) b hb)).1
 replace p8:OE [] w.heap.size qo (sOwn 2 (sInt .i64)) [v51] (y43.Shape.Identity) pu:=⟨p8,(List.nodup_append.1 (List.nodup_append.1 (List.nodup_append.1 hno47).2.1).2.1).1,fun b hb=>.inr (Nat.le_trans (hB.trans p5).size (j3 b hb))⟩
 have d93:=dl j3 (one_lt (Row.lt (kr pr p5)))
 have nt : ∀ b∈pv,qn.heap.size≤b:=fun b hb=>(hfo47 b (show b∈g 4 from (show ∀ b∈pv,b∈g 4 from (fun b hb=>(by rw [hgo47]; simp [hb]))) b hb)).1
 replace p9:OE [] w.heap.size qo (sOwn 22 (sOwn 2 (sInt .i64))) [v54] (y43.Shape.Composites) pv:=⟨p9,(List.nodup_append.1 (List.nodup_append.1 (List.nodup_append.1 (List.nodup_append.1 hno47).2.1).2.1).2.1).1,fun b hb=>.inr (Nat.le_trans (hB.trans p5).size (nt b hb))⟩
 have k2:=dl nt (one_lt (Row.lt (kr pr p5)))
 have nu : ∀ b∈pw,qn.heap.size≤b:=fun b hb=>(hfo47 b (show b∈g 4 from (show ∀ b∈pw,b∈g 4 from (fun b hb=>(by rw [hgo47]; simp [hb]))) b hb)).1
 replace pa:OE [] w.heap.size qo (sOwn 2 (sInt .i64)) [v57] (y43.Sizes) pw:=⟨pa,(List.nodup_append.1 (List.nodup_append.1 (List.nodup_append.1 (List.nodup_append.1 (List.nodup_append.1 hno47).2.1).2.1).2.1).2.1).1,fun b hb=>.inr (Nat.le_trans (hB.trans p5).size (nu b hb))⟩
 have p0w:=dl nu (one_lt (Row.lt (kr pr p5)))
 have nv : ∀ b∈q4,qn.heap.size≤b:=fun b hb=>(hfo47 b (show b∈g 4 from (show ∀ b∈q4,b∈g 4 from (fun b hb=>(by rw [hgo47]; simp [hb]))) b hb)).1
 replace q2:OE [] w.heap.size qo (sOwn 22 (sOwn 2 (sInt .i64))) [v60] (y43.Actions) q4:=⟨q2,(List.nodup_append.1 (List.nodup_append.1 (List.nodup_append.1 (List.nodup_append.1 (List.nodup_append.1 hno47).2.1).2.1).2.1).2.1).2.1,fun b hb=>.inr (Nat.le_trans (hB.trans p5).size (nv b hb))⟩
 have k3:=dl nv (one_lt (Row.lt (kr pr p5)))
 have nw : ∀ b∈q7,qn.heap.size≤b:=fun b hb=>(hfo67 b (show b∈g 8 from (show ∀ b∈q7,b∈g 8 from (fun b hb=>(by rw [hgo67]; simp [hb]))) b hb)).1
 have p0x : ∀ b∈q7,b∈(ze++(zf++(zg++zh))) ∨ w.heap.size≤b:=fun b hb=>.inr (Nat.le_trans (hB.trans p5).size (nw b hb))
 have k4:=dl nw (one_lt (Row.lt (kr pr p5)))
 have qi:=(p5.trans k1)
 replace z8:=kp _ z8 qi
 replace za:=kp _ za qi
 replace zc:=kp _ zc qi
 replace zb:=kp _ zb qi
 replace hr4:=kr hr4 qi
 replace pr:=kr pr qi
 replace qe:=kp _ qe qi
 replace hB:=(hB.trans qi)
 refine Wb (Bu (bld96_0_1_2_3 rfl (STy.one _ z8 _ (ms rfl)) (STy.one _ za _ (ms rfl)) (STy.one _ zc _ (ms rfl)) (STy.one _ zb _ (ms rfl)) (STy.one _ qe _ (ms rfl)) (STy.one _ q2.1 _ (ms rfl)) (STy.one _ qh _ (ms rfl)))) <| WL.storeAll (us:=[.int .i64 (x0.Objects),z2,z1,z7,z6,v28,v60,v65]) info96 (by rw [sz96]; rfl) pr rfl rfl rfl (by intro u hu; simp only [List.mem_cons,List.mem_nil_iff,or_false] at hu; rcases hu with rfl | rfl | rfl | rfl | rfl | rfl | rfl | rfl <;> first | exact rfl | exact (STy.one _ z8 _ (ms rfl)) | exact (STy.one _ za _ (ms rfl)) | exact (STy.one _ zc _ (ms rfl)) | exact (STy.one _ zb _ (ms rfl)) | exact (STy.one _ qe _ (ms rfl)) | exact (STy.one _ q2.1 _ (ms rfl)) | exact (STy.one _ qh _ (ms rfl))) fun nx p4 k5=>?_
 replace k5:Row nx qt [.int .i64 (x0.Objects),z2,z1,z7,z6,v28,v60,v65] 96:=k5
 replace z8:=STy.keep _ z8 p4 (qx).symm
 replace za:=STy.keep _ za p4 (qa).symm
 replace zc:=STy.keep _ zc p4 (pi).symm
 replace zb:=STy.keep _ zb p4 (qb).symm
 replace qe:=STy.keep _ qe p4 d33
 replace qh:=STy.keep _ qh p4 k4
 replace hr4:=Row.keep hr4 p4 ((qc).symm _ (ms rfl))
 replace p6:=okp p6 p4 d77
 replace p7:=okp p7 p4 d85
 replace p8:=okp p8 p4 d93
 replace p9:=okp p9 p4 k2
 replace pa:=okp pa p4 p0w
 replace q2:=okp q2 p4 k3
 replace hB:=hB.then p4 (one_then np)
 refine Wb (Ab rfl) <| anz <| ?_
 cases ho
 exact W_ret ⟨_,res_c1 Tryz.results135 Tryz.underlying96 rfl info96 (by rw [sz96]; rfl) rfl k5.at,_,_,_,_,_,_,_,_,_,_,_,_,_,_,rfl,hB,z8,(fun b hb=>.inl (by simp [hb])),za,(fun b hb=>.inl (by simp [hb])),zc,(fun b hb=>.inl (by simp [hb])),zb,(fun b hb=>.inl (by simp [hb])),qe,p0m,((Le.own (Le.own (Le.refl _) 2) 22).le q2.1),(low_wk q2.2.2),qh,p0x⟩

abbrev spec_l09Find_post (w:World) (x:(Int)) (e:Ending) (w':World):Prop:=e = .returned (.int .i64 x)∧Chg [] w w'
abbrev spec_l09Find_T (w:World):=Tm Tryz.prog Tryz.f111 19 (spec_l09Find_post w)
theorem spec_l09Find_calls {w:World} {x0:(List (List Int))} {v_x0:Value} {f_x0:List Nat} {x1:(List Int)} {v_x1:Value} {f_x1:List Nat} (h_x0:(sImm (sImm (sInt .i64))).rep w.heap [v_x0] x0 f_x0) (h_x1:(sImm (sInt .i64)).rep w.heap [v_x1] x1 f_x1) {y:(Int)} (hm:spec_l09Find x0 x1=some y) :
  Calls Tryz.prog 111 #[v_x0,v_x1] w (spec_l09Find_post w y):=by
 refine Cm (S:=Unit) Tryz.func111 rfl Tryz.ntmps111 rfl hm fun o ho hB=>?_
 clear hm
 refine wq <| Wq rfl (cr [] w) <| Qa (Ai rfl) <| fun wd1 hC2=>anz <| wq <| wq <| Wq rfl hC2 <| Qa (Ai rfl) <| fun wd3 hC4=>anz <| Wf (S1:=Int) (fun (s0_5:Int) r w'=>Chg [] w w'∧∃ F,r=updL F [(0,v_x0),(1,v_x1),(5,.int .i64 (s0_5))]) (spec_l09Find_T w) ho ⟨(hB.trans hC4),fe rfl⟩ ?_ ?_
 rintro s0_5 _ wd5 ⟨hB,F,rfl⟩ o ho
 replace ho:spec_l09Find_L0 x0 x1 s0_5=some o:=ho
 unfold spec_l09Find_L0 at ho
 refine wq <| wq <| Wq rfl (cr [] wd5) <| Qa (Mi rfl) <| Qa (Mv v_x0 rfl) <| Qa (Ln sl23 (kB h_x0 hB) rfl) <| Qa (Bl rfl rfl) <| fun wd6 hC7=>anz <| W_cond (b:=decide (s0_5 < (x0.length:Int))) rfl ?_ ?_
 intro hb8
 rw [hb8] at ho
 refine W_skip <| anz <| wq <| W_block <| wq <| Wq rfl hC7 <| Qa (Mv v_x0 rfl) <| Qa (Mi rfl) <| ?_
 obtain ⟨e9,hx10e,ho⟩:=bs ho
 have hx10:=idx_some hx10e
 refine Qa (Ix sl23 (kB h_x0 hB) hx10 rfl rfl rfl) <| ?_
 obtain ⟨u11,fu12,hu13,p0y,hs15⟩:=one_get rfl h_x0 hx10.1 hx10.2
 refine Qa (Ld na22 (hB.cell0 hu13) rfl) <| Qa (Mv v_x1 rfl) <| ?_
 obtain ⟨y16,p0z,ho⟩:=bs ho
 refine Qc Tryz.func88 rfl rfl (fun _ hC=>spec_l01Same_calls (kp _ p0y (hB.trans hC)) (kp _ h_x1 (hB.trans hC)) p0z) <| fun p10 jo=>anz <| W_cond (b:=y16) rfl ?_ ?_
 intro k6
 rw [k6] at ho
 refine wq <| Wq rfl jo <| Qa (Mi rfl) <| Qa (Ai rfl) <| fun jp p11=>anz <| ?_
 cases ho
 exact W_ret ⟨_,res_1 Tryz.results111,rfl,(hB.trans p11)⟩
 intro k6
 rw [k6] at ho
 refine W_skip <| inBlk_n <| anz <| Wq rfl jo <| Qa (Mi rfl) <| Qa (Ba rfl rfl) <| Qa (Ai rfl) <| fun p12 k7=>?_
 cases ho
 exact ⟨(hB.trans k7),fe rfl⟩
 intro hb8
 rw [hb8] at ho
 refine W_exit <| andThen_x <| ?_
 cases ho
 exact ⟨rfl,⟨(hB.trans hC7),fe rfl⟩⟩
 rintro s0_5 _ p13 ⟨hB,F,rfl⟩ ho
 refine anz <| wq <| Wq rfl (cr [] p13) <| Qa (Ai rfl) <| fun j2 qd=>anz <| ?_
 cases ho
 exact W_ret ⟨_,res_1 Tryz.results111,rfl,(hB.trans qd)⟩

abbrev spec_l27Marks_post (w:World) (x:((List (List Bool)))) (e:Ending) (w':World):Prop:=∃ (v0:Value) (f0:List Nat),e = .returned (v0)∧Chg [] w w'∧OE [] w.heap.size w' (sOwn 138 (sOwn 4 sBool)) [v0] x f0
abbrev spec_l27Marks_T (w:World):=Tm Tryz.prog Tryz.f136 53 (spec_l27Marks_post w)
theorem spec_l27Marks_calls {w:World} {x0:ML27Table} {zy:Value} {z19:List Nat} {zx:Value} {z1a:List Nat} {z10:Value} {z1b:List Nat} {z11:Value} {z1c:List Nat} {z14:Value} {z23:List Nat} {z15:Value} {z26:List Nat} {z16:Value} {z27:List Nat} {x1:(List (List (List Int)))} {v_x1:Value} {f_x1:List Nat} (z13:(sImm (sInt .i64)).rep w.heap [zy] x0.C.From z19) (z12:(sImm (sInt .i64)).rep w.heap [zx] x0.C.To z1a) (z17:(sImm (sInt .i64)).rep w.heap [z10] x0.C.Identity z1b) (z18:(sImm (sImm (sInt .i64))).rep w.heap [z11] x0.C.Composites z1c) (z1r:(sImm (sImm (sImm (sInt .i64)))).rep w.heap [z14] x0.Lists z23) (z1s:(sImm (sImm (sInt .i64))).rep w.heap [z15] x0.Pulls z26) (z21:(sImm (sInt .i64)).rep w.heap [z16] x0.Tops z27) (h_x1:(sImm (sImm (sImm (sInt .i64)))).rep w.heap [v_x1] x1 f_x1) {y:((List (List Bool)))} (hm:spec_l27Marks x0 x1=some y) :
  Calls Tryz.prog 136 #[.agg #[.int .i64 (x0.C.Objects),zy,zx,z10,z11,z14,z15,z16],v_x1] w (spec_l27Marks_post w y):=by
 refine Cm (S:=Unit) Tryz.func136 rfl Tryz.ntmps136 rfl hm fun o ho hB=>?_
 clear hm
 refine wq <| W_region rfl <| WL.box fun b1 wd2 hC3 hr4 hl5=>?_
 replace hr4:Row wd2 b1 [.int .i64 (x0.C.Objects),zy,zx,z10,z11,z14,z15,z16] 96:=hr4
 replace hB:=(hB.trans hC3)
 refine Wb (As rfl) <| anz <| wq <| W_region rfl <| WL.lit0 (sOwn 4 sBool) u97 info138 fun v8 wd9 f10 j4 qf=>?_
 have k8:=dl (ofr qf) (one_lt (Row.lt hr4))
 replace qf:=OE.low (G:=[]) qf hB.size
 replace hr4:=kr hr4 j4
 replace hB:=(hB.trans j4)
 refine Wb (Av v8 rfl) <| anz <| wq <| wq <| Wq rfl (cr [] wd9) <| Qa (Ai rfl) <| fun jq q5=>anz <| Wf (S1:=(List (List Bool))×Int) (fun s r w'=>match s with | (s0_5,s0_6)=>∃ (v17:Value) (q6:List Nat),Chg [] w w'∧Row w' b1 [.int .i64 (x0.C.Objects),zy,zx,z10,z11,z14,z15,z16] 96∧OE [] w.heap.size w' (sOwn 138 (sOwn 4 sBool)) [v17] (s0_5) q6∧Dis [b1] q6∧∃ F,r=updL F [(1,v_x1),(2,.pointer (some (⟨b1,0,none⟩))),(5,v17),(6,.int .i64 (s0_6))]) (spec_l27Marks_T w) ho ⟨_,_,(hB.trans q5),(kr hr4 q5),(ko qf q5),((k8).symm),fe rfl⟩ ?_ ?_
 rintro ⟨s0_5,s0_6⟩ _ jp ⟨v17,q6,hB,hr4,p1,pi,F,rfl⟩ o ho
 replace ho:spec_l27Marks_L0 x0 x1 s0_5 s0_6=some o:=ho
 unfold spec_l27Marks_L0 at ho
 refine wq <| wq <| Wq rfl (cr [] jp) <| Qa (Mi rfl) <| Qa (Fr fa96_1 rfl) <| Qa (Lr na26 hr4 rfl rfl) <| Qa (Ln sl26 (kB z1r hB) rfl) <| Qa (Bl rfl rfl) <| fun j5 pd=>anz <| W_cond (b:=decide (s0_6 < (x0.Lists.length:Int))) rfl ?_ ?_
 intro qp
 rw [qp] at ho
 refine W_skip <| anz <| wq <| W_block <| wq <| W_region rfl <| Wb (Fr fa96_1 rfl) <| Wa pd (Lr na26 hr4 rfl rfl) <| Wb (Mi rfl) <| ?_
 obtain ⟨e25,hx26e,ho⟩:=bs ho
 have hx26:=idx_some hx26e
 refine Wa pd (Ix sl26 (kB z1r hB) hx26 rfl rfl rfl) <| ?_
 obtain ⟨u27,fu28,hu29,p15,hs31⟩:=one_get rfl z1r hx26.1 hx26.2
 refine Wa pd (Ld na23 (hB.cell0 hu29) rfl) <| Wa pd (Ln sl23 (kB p15 hB) rfl) <| ?_
 obtain ⟨n32,hn33,ho⟩:=bs ho
 obtain ⟨hn33a,hn33b,hn33c⟩:=mk_some hn33
 refine WL.make (z0:=false) sBool u138 info4 zr4 sz4 rfl rfl (fun _=>⟨rfl,rfl⟩) (congrArg (Value.int .i64) hn33a) (congrArg (Value.int .i64) hn33a) (by rw [by4]; exact hn33b) hn33c fun v34 ny jr p5 pk=>?_
 have d39:=dl (ofr pk) (one_lt (Row.lt (kr hr4 pd)))
 have d40:=dl (ofr pk) (sl _ (kp _ p1.1 pd))
 replace pk:=OE.low (G:=[]) pk (hB.trans pd).size
 have k9:=pd.trans p5
 replace hr4:=kr hr4 k9
 replace p1:=ko p1 k9
 replace hB:=(hB.trans k9)
 refine Wb (Av v34 rfl) <| anz <| wq <| wq <| Wq rfl (cr [] ny) <| Qa (Ai rfl) <| fun p4t qj=>anz <| Wf (S1:=Int×(List Bool)) (fun s r w'=>match s with | (s1_8,s1_o38)=>Chg [] w w'∧Row w' b1 [.int .i64 (x0.C.Objects),zy,zx,z10,z11,z14,z15,z16] 96∧OE [] w.heap.size w' (sOwn 138 (sOwn 4 sBool)) [v17] (s0_5) q6∧OE [] w.heap.size w' (sOwn 4 sBool) [v34] (s1_o38) jr∧Dis [b1] q6∧Dis [b1] jr∧Dis q6 jr∧∃ F,r=updL F [(1,v_x1),(2,.pointer (some (⟨b1,0,none⟩))),(5,v17),(6,.int .i64 (s0_6)),(7,v34),(8,.int .i64 (s1_8))]) (spec_l27Marks_T w) ho ⟨(hB.trans qj),(kr hr4 qj),(ko p1 qj),(ko pk qj),(pi),((d39).symm),((d40).symm),fe rfl⟩ ?_ ?_
 rintro ⟨s1_8,s1_o38⟩ _ nz ⟨hB,hr4,p1,pk,j6,j7,j8,F,rfl⟩ o ho
 replace ho:spec_l27Marks_L1 x0 x1 s0_6 s1_8 s1_o38=some o:=ho
 unfold spec_l27Marks_L1 at ho
 refine wq <| wq <| Wq rfl (cr [] nz) <| Qa (Mi rfl) <| Qa (Mv v_x1 rfl) <| Qa (Mi rfl) <| ?_
 obtain ⟨e48,hx49e,ho⟩:=bs ho
 have hx49:=idx_some hx49e
 refine Qa (Ix sl26 (kB h_x1 hB) hx49 rfl rfl rfl) <| ?_
 obtain ⟨u50,fu51,hu52,p18,hs54⟩:=one_get rfl h_x1 hx49.1 hx49.2
 refine Qa (Ld na23 (hB.cell0 hu52) rfl) <| Qa (Ln sl23 (kB p18 hB) rfl) <| Qa (Bl rfl rfl) <| fun p19 pj=>anz <| W_cond (b:=decide (s1_8 < (e48.length:Int))) rfl ?_ ?_
 intro ka
 rw [ka] at ho
 refine W_skip <| anz <| wq <| W_block <| ?_
 obtain ⟨e58,hx59e,ho⟩:=bs ho
 have hx59:=idx_some hx59e
 obtain ⟨u60,fu61,hu62,p1a,hs64⟩:=one_get rfl z1r hx59.1 hx59.2
 obtain ⟨e65,hx66e,ho⟩:=bs ho
 have hx66:=idx_some hx66e
 obtain ⟨u67,fu68,hu69,g0,hs71⟩:=one_get rfl h_x1 hx66.1 hx66.2
 obtain ⟨e72,hx73e,ho⟩:=bs ho
 have hx73:=idx_some hx73e
 obtain ⟨u74,fu75,hu76,p1b,hs78⟩:=one_get rfl g0 hx73.1 hx73.2
 refine W_any (m:=13) (U:=.replicate 13 []) (S:=[sV (v34),sV (.pointer (some (⟨b1,5,none⟩))),sV (z14),sV (.int .i64 (s0_6)),sV (.pointer (some (elA (z14) 1 (s0_6)))),sV (u60),sV (v_x1),sV (.int .i64 (s0_6)),sV (.pointer (some (elA (v_x1) 1 (s0_6)))),sV (u67),sV (.int .i64 (s1_8)),sV (.pointer (some (elA (u67) 1 (s1_8)))),sV (u74)]) (Z:=[0]) hmix rfl (by decide) (by decide +kernel) (fun _ _ _ h=>np_out h) (by decide) rfl (by decide +kernel) (stable_all (by repeat first | exact stable_nil | refine stable_cons stable_val ?_ | refine stable_cons stable_own ?_)) ?_ ?_
 refine owes_cons ?_ <| owes_cons ?_ <| owes_cons ?_ <| owes_cons ?_ <| owes_cons ?_ <| owes_cons ?_ <| owes_cons ?_ <| owes_cons ?_ <| owes_cons ?_ <| owes_cons ?_ <| owes_cons ?_ <| owes_cons ?_ <| owes_cons ?_ <| owes_nil
 exact Oh rfl rfl rfl [(7,v34)] pj rfl rfl fun _=>Mv v34 rfl
 exact Oh rfl rfl rfl [(2,.pointer (some (⟨b1,0,none⟩)))] pj rfl rfl fun _=>Fr fa96_1 rfl
 exact Ov rfl rfl rfl [] [(34,.pointer (some (⟨b1,5,none⟩)))] [1] pj rfl rfl (by decide +kernel) rfl fun _=>Lr na26 hr4 rfl rfl
 exact Oh rfl rfl rfl [(6,.int .i64 (s0_6))] pj rfl rfl fun _=>Mi rfl
 exact Ov rfl rfl rfl [] [(35,z14),(36,.int .i64 (s0_6))] [2,3] pj rfl rfl (by decide +kernel) rfl fun _=>Ix sl26 (kB z1r hB) hx59 rfl rfl rfl
 exact Ov rfl rfl rfl [] [(37,.pointer (some (elA (z14) 1 (s0_6))))] [4] pj rfl rfl (by decide +kernel) rfl fun _=>Ld na23 (hB.cell0 hu62) rfl
 exact Oh rfl rfl rfl [(1,v_x1)] pj rfl rfl fun _=>Mv v_x1 rfl
 exact Oh rfl rfl rfl [(6,.int .i64 (s0_6))] pj rfl rfl fun _=>Mi rfl
 exact Ov rfl rfl rfl [] [(39,v_x1),(40,.int .i64 (s0_6))] [6,7] pj rfl rfl (by decide +kernel) rfl fun _=>Ix sl26 (kB h_x1 hB) hx66 rfl rfl rfl
 exact Ov rfl rfl rfl [] [(41,.pointer (some (elA (v_x1) 1 (s0_6))))] [8] pj rfl rfl (by decide +kernel) rfl fun _=>Ld na23 (hB.cell0 hu69) rfl
 exact Oh rfl rfl rfl [(8,.int .i64 (s1_8))] pj rfl rfl fun _=>Mi rfl
 exact Ov rfl rfl rfl [] [(42,u67),(43,.int .i64 (s1_8))] [9,10] pj rfl rfl (by decide +kernel) rfl fun _=>Ix sl23 (kB g0 hB) hx73 rfl rfl rfl
 exact Ov rfl rfl rfl [] [(44,.pointer (some (elA (u67) 1 (s1_8))))] [11] pj rfl rfl (by decide +kernel) rfl fun _=>Ld na22 (hB.cell0 hu76) rfl
 rintro g r p4u ⟨p1c,hdone,hot,hfresh,hdis⟩
 have hdd:=hdis
 obtain ⟨F,rfl⟩:=fw hdone hot [(1,v_x1),(2,.pointer (some (⟨b1,0,none⟩))),(5,v17),(6,.int .i64 (s0_6)),(7,v34),(8,.int .i64 (s1_8))] [(33,v34),(38,u60),(45,u74)] [0,5,12] rfl rfl rfl rfl (z:=[]) trivial
 have js:=(pj.trans p1c)
 replace hr4:=kr hr4 js
 replace p1:=ko p1 js
 replace pk:=ko pk js
 replace hB:=(hB.trans js)
 obtain ⟨y82,p1d,ho⟩:=bs ho
 refine WL.call rfl (op_callF Tryz.func111 rfl rfl) (spec_l09Find_calls (kp _ p1a hB) (kp _ p1b hB) p1d) <| ?_
 rintro _ p4v ⟨rfl,kb⟩
 refine ⟨_,rfl,?_⟩
 obtain ⟨e86,hx87e,ho⟩:=bs ho
 have hx87:=idx_some hx87e
 refine Wa kb (Ix sl138 ((Le.own (Le.refl _) 4).le pk.1) hx87 rfl rfl rfl) <| WL.storeEl (z':=true) _ _ sBool_nofp rfl info4 sz4 (ko pk (kb)) hx87.2 rfl rfl ⟨rfl,rfl⟩ fun p1e p1f o90=>?_
 have kc:=((kb).nil (G:=jr)).trans p1f
 replace hr4:=Row.keep hr4 kc (j7 _ (ms rfl))
 replace p1:=okp p1 kc j8
 replace hB:=hB.then kc pk.2.2
 refine inBlk_n <| anz <| Wq rfl (cr [] p1e) <| Qa (Mi rfl) <| Qa (Ba rfl rfl) <| Qa (Ai rfl) <| fun g1 q8=>?_
 cases ho
 exact ⟨(hB.trans q8),(kr hr4 q8),(ko p1 q8),(ko o90 q8),j6,j7,j8,fe rfl⟩
 intro ka
 rw [ka] at ho
 refine W_exit <| andThen_x <| ?_
 cases ho
 exact ⟨rfl,⟨(hB.trans pj),(kr hr4 pj),(ko p1 pj),(ko pk pj),j6,j7,j8,fe rfl⟩⟩
 rintro ⟨s1_8,s1_o38⟩ _ p1h ⟨hB,hr4,p1,pk,j6,j7,j8,F,rfl⟩ ho
 dsimp only at ho
 refine anz <| W_region rfl <| Wb (Mv v17 rfl) <| Wb (Mv v34 rfl) <| WL.lit1 u97 info138 zr138 sz138 (STy.one _ pk.1 _ (ms rfl)) fun b95 p1j jt j9 p1k=>?_
 replace j9:Row p1j b95 [v34] 138:=j9
 have p1l:=dl (onw p1k) (sl _ p1.1)
 replace hr4:=kr hr4 jt
 replace p1:=ko p1 jt
 replace pk:=ko pk jt
 replace hB:=(hB.trans jt)
 obtain ⟨n111,hn112,ho⟩:=bs ho
 have hn112a:=fits_some hn112
 refine WL.append1 (E:=(sOwn 4 sBool)) _ _ u97 info138 zr138 sz138 rfl rfl rfl p1 rfl j9 pk.1 pk.2.1 pk.2.2 (j8).symm (by rw [by138]; exact hn112a.1) hn112a.2 hB.size fun v105 p1m p4w kd p1n hs110=>?_
 have p1o:=dis_upd hs110 (j6).symm (j7).symm (one_lt (Row.lt hr4))
 replace hr4:=Row.keep hr4 kd (j6 _ (ms rfl))
 replace j9:=Row.keep j9 kd (p1l _ (ms rfl))
 replace hB:=hB.then kd p1.2.2
 refine Wb (Av v105 rfl) <| inBlk_n <| anz <| Wq rfl (cr [] p1m) <| Qa (Mi rfl) <| Qa (Ba rfl rfl) <| Qa (Ai rfl) <| fun g2 ke=>?_
 cases ho
 exact ⟨_,_,(hB.trans ke),(kr hr4 ke),(ko p1n ke),((p1o).symm),fe rfl⟩
 intro qp
 rw [qp] at ho
 refine W_exit <| andThen_x <| ?_
 cases ho
 exact ⟨rfl,⟨_,_,(hB.trans pd),(kr hr4 pd),(ko p1 pd),pi,fe rfl⟩⟩
 rintro ⟨s0_5,s0_6⟩ _ p1p ⟨v17,q6,hB,hr4,p1,pi,F,rfl⟩ ho
 dsimp only at ho
 refine anz <| wq <| Wq rfl (cr [] p1p) <| Qa (Mv v17 rfl) <| Qa (Av v17 rfl) <| fun g4 g5=>anz <| ?_
 cases ho
 exact W_ret ⟨_,res_1 Tryz.results136,_,_,rfl,(hB.trans g5),(ko p1 g5)⟩

abbrev spec_l27Read_post (zo:List Nat) (zp:List Nat) (zq:List Nat) (zr:List Nat) (zd:List Nat) (w:World) (x:(ML27Table×(List (List Bool))×Int)) (e:Ending) (w':World):Prop:=∃ (v0:Value) (f0:List Nat) (v1:Value) (f1:List Nat) (v2:Value) (f2:List Nat) (v3:Value) (f3:List Nat) (v4:Value) (f4:List Nat) (v5:Value) (f5:List Nat) (v6:Value) (f6:List Nat) (v7:Value) (f7:List Nat),e = .returned (.tuple #[.agg #[.int .i64 x.1.C.Objects,v0,v1,v2,v3,v4,v5,v6],v7,.int .i64 x.2.2])∧Chg [] w w'∧(sImm (sInt .i64)).rep w'.heap [v0] x.1.C.From f0∧(∀ b∈f0,b∈(zo++(zp++(zq++(zr++zd)))) ∨ w.heap.size≤b)∧(sImm (sInt .i64)).rep w'.heap [v1] x.1.C.To f1∧(∀ b∈f1,b∈(zo++(zp++(zq++(zr++zd)))) ∨ w.heap.size≤b)∧(sImm (sInt .i64)).rep w'.heap [v2] x.1.C.Identity f2∧(∀ b∈f2,b∈(zo++(zp++(zq++(zr++zd)))) ∨ w.heap.size≤b)∧(sImm (sImm (sInt .i64))).rep w'.heap [v3] x.1.C.Composites f3∧(∀ b∈f3,b∈(zo++(zp++(zq++(zr++zd)))) ∨ w.heap.size≤b)∧(sImm (sImm (sImm (sInt .i64)))).rep w'.heap [v4] x.1.Lists f4∧(∀ b∈f4,b∈(zo++(zp++(zq++(zr++zd)))) ∨ w.heap.size≤b)∧(sImm (sImm (sInt .i64))).rep w'.heap [v5] x.1.Pulls f5∧(∀ b∈f5,b∈(zo++(zp++(zq++(zr++zd)))) ∨ w.heap.size≤b)∧(sImm (sInt .i64)).rep w'.heap [v6] x.1.Tops f6∧(∀ b∈f6,b∈(zo++(zp++(zq++(zr++zd)))) ∨ w.heap.size≤b)∧OE [] w.heap.size w' (sOwn 138 (sOwn 4 sBool)) [v7] x.2.1 f7∧Dis f0 f7∧Dis f1 f7∧Dis f2 f7∧Dis f3 f7∧Dis f4 f7∧Dis f5 f7∧Dis f6 f7
abbrev spec_l27Read_T (zo:List Nat) (zp:List Nat) (zq:List Nat) (zr:List Nat) (zd:List Nat) (w:World):=Tm Tryz.prog Tryz.f70 25 (spec_l27Read_post zo zp zq zr zd w)
theorem spec_l27Read_calls {w:World} {x0:MTopology} {zl:Value} {zo:List Nat} {zk:Value} {zp:List Nat} {zm:Value} {zq:List Nat} {zn:Value} {zr:List Nat} {zi:Value} {zd:List Nat} (zu:(sImm (sInt .i64)).rep w.heap [zl] x0.Shape.From zo) (zt:(sImm (sInt .i64)).rep w.heap [zk] x0.Shape.To zp) (zv:(sImm (sInt .i64)).rep w.heap [zm] x0.Shape.Identity zq) (zw:(sImm (sImm (sInt .i64))).rep w.heap [zn] x0.Shape.Composites zr) (zj:(sImm (sImm (sImm (sInt .i64)))).rep w.heap [zi] x0.Covers zd) {y:(ML27Table×(List (List Bool))×Int)} (hm:spec_l27Read x0=some y) :
  Calls Tryz.prog 70 #[.agg #[.int .i64 (x0.Shape.Objects),zl,zk,zm,zn,zi]] w (spec_l27Read_post zo zp zq zr zd w y):=by
 refine Cm (S:=Unit) Tryz.func70 rfl Tryz.ntmps70 rfl hm fun o ho hB=>?_
 clear hm
 refine wq <| W_region rfl <| WL.box fun b1 wd2 hC3 hr4 hl5=>?_
 replace hr4:Row wd2 b1 [.int .i64 (x0.Shape.Objects),zl,zk,zm,zn,zi] 34:=hr4
 replace zu:=kp _ zu hC3
 replace zt:=kp _ zt hC3
 replace zv:=kp _ zv hC3
 replace zw:=kp _ zw hC3
 replace zj:=kp _ zj hC3
 replace hB:=(hB.trans hC3)
 refine WL.alloc info96 zr96 fun py g6 qq pf qr=>?_
 replace pf:Row g6 py [.int .i64 ((0:Int)),.slice none 0 0,.slice none 0 0,.slice none 0 0,.slice none 0 0,.slice none 0 0,.slice none 0 0,.slice none 0 0] 96:=pf
 have kf:w.heap.size≤py:=Nat.le_trans hB.size qr
 have qa:=dl (onw qr) (sl _ zu)
 have pi:=dl (onw qr) (sl _ zt)
 have qb:=dl (onw qr) (sl _ zv)
 have qc:=dl (onw qr) (sl _ zw)
 have d23:=dl (onw qr) (sl _ zj)
 have d24:=dl (onw qr) (one_lt (Row.lt hr4))
 replace zu:=kp _ zu qq
 replace zt:=kp _ zt qq
 replace zv:=kp _ zv qq
 replace zw:=kp _ zw qq
 replace zj:=kp _ zj qq
 replace hr4:=kr hr4 qq
 replace hB:=(hB.trans qq)
 refine Wb (As rfl) <| Wb (Ai rfl) <| anz <| wq <| wq <| Wq rfl (cr [] g6) <| Qa (Lg ag34 hr4.at rfl rfl) <| ?_
 obtain ⟨y26,p1s,ho⟩:=bs ho
 refine Qc Tryz.func75 rfl rfl (fun _ hC=>spec_l27Shape_calls (kp _ zu hC) (kp _ zt hC) (kp _ zv hC) (kp _ zw hC) (kp _ zj hC) p1s) <| Qa (Nt rfl) <| fun p4x pg=>anz <| W_cond (b:=!(y26)) rfl ?_ ?_
 intro kg
 rw [kg] at ho
 refine wq <| W_region rfl <| Wb (Bu bld96_) <| WL.storeAll (us:=[.int .i64 ((0:Int)),.slice none 0 0,.slice none 0 0,.slice none 0 0,.slice none 0 0,.slice none 0 0,.slice none 0 0,.slice none 0 0]) info96 (by rw [sz96]; rfl) (kr pf pg) rfl rfl rfl (by intro u hu; simp only [List.mem_cons,List.mem_nil_iff,or_false] at hu; rcases hu with rfl | rfl | rfl | rfl | rfl | rfl | rfl | rfl <;> first | exact rfl) fun p1t p1u kh=>?_
 replace kh:Row p1t py [.int .i64 ((0:Int)),.slice none 0 0,.slice none 0 0,.slice none 0 0,.slice none 0 0,.slice none 0 0,.slice none 0 0,.slice none 0 0] 96:=kh
 have p1v:=(pg.nil (G:=[py])).trans p1u
 replace hB:=hB.then p1v (one_then kf)
 refine Wb (As rfl) <| Wb (Ai rfl) <| anz <| ?_
 cases ho
 exact W_ret ⟨_,res_c2 Tryz.results70 Tryz.underlying96 rfl info96 (by rw [sz96]; rfl) rfl kh.at,_,_,_,_,_,_,_,_,_,_,_,_,_,_,_,_,rfl,hB,nil_imm,(fun _ h=>nomatch h),nil_imm,(fun _ h=>nomatch h),nil_imm,(fun _ h=>nomatch h),nil_imm,(fun _ h=>nomatch h),nil_imm,(fun _ h=>nomatch h),nil_imm,(fun _ h=>nomatch h),nil_imm,(fun _ h=>nomatch h),nil_OE,(fun _ h=>nomatch h),(fun _ h=>nomatch h),(fun _ h=>nomatch h),(fun _ h=>nomatch h),(fun _ h=>nomatch h),(fun _ h=>nomatch h),(fun _ h=>nomatch h)⟩
 intro kg
 rw [kg] at ho
 refine W_skip <| anz <| wq <| W_region rfl <| Wb (Fr fa34_0 rfl) <| ?_
 refine WL.val (v:=.agg #[.int .i64 (x0.Shape.Objects),zl,zk,zm,zn]) rfl (op_loadAgg (cs:=[.int .i64 (x0.Shape.Objects),zl,zk,zm,zn]) u32 rfl info32 (by rw [sz32]; rfl) rfl (At.sub (kr hr4 pg).at 0 5)) ?_
 obtain ⟨y35,p1w,ho⟩:=bs ho
 refine WL.call rfl (op_callF Tryz.func135 rfl rfl) (spec_l27Make_calls (kp _ zu pg) (kp _ zt pg) (kp _ zv pg) (kp _ zw pg) p1w) <| ?_
 rintro _ g8 ⟨v39,g9,v42,ga,v45,ps,v48,pt,v51,pu,v54,pv,v57,pw,rfl,p1x,q3,gb,ph,gc,p6,gd,p7,ge,p8,gf,p9,gg,pa,j3⟩
 refine ⟨_,rfl,?_⟩
 have d89:Dis g9 [py]:=dis_out gb (da (qa).symm (da (pi).symm (da (qb).symm (qc).symm))) (one_lt (Row.lt (kr pf pg)))
 have p1z : ∀ b∈g9,b∈(zo++(zp++(zq++(zr++zd)))) ∨ w.heap.size≤b:=low_out gb (low_app (fun b hb=>.inl (by simp [hb])) (low_app (fun b hb=>.inl (by simp [hb])) (low_app (fun b hb=>.inl (by simp [hb])) (fun b hb=>.inl (by simp [hb]))))) (hB.trans pg).size
 have d92:Dis ga [py]:=dis_out gc (da (qa).symm (da (pi).symm (da (qb).symm (qc).symm))) (one_lt (Row.lt (kr pf pg)))
 have p21 : ∀ b∈ga,b∈(zo++(zp++(zq++(zr++zd)))) ∨ w.heap.size≤b:=low_out gc (low_app (fun b hb=>.inl (by simp [hb])) (low_app (fun b hb=>.inl (by simp [hb])) (low_app (fun b hb=>.inl (by simp [hb])) (fun b hb=>.inl (by simp [hb]))))) (hB.trans pg).size
 have d95:Dis ps [py]:=dis_out gd (da (qa).symm (da (pi).symm (da (qb).symm (qc).symm))) (one_lt (Row.lt (kr pf pg)))
 have p23 : ∀ b∈ps,b∈(zo++(zp++(zq++(zr++zd)))) ∨ w.heap.size≤b:=low_out gd (low_app (fun b hb=>.inl (by simp [hb])) (low_app (fun b hb=>.inl (by simp [hb])) (low_app (fun b hb=>.inl (by simp [hb])) (fun b hb=>.inl (by simp [hb]))))) (hB.trans pg).size
 have d98:Dis pt [py]:=dis_out ge (da (qa).symm (da (pi).symm (da (qb).symm (qc).symm))) (one_lt (Row.lt (kr pf pg)))
 have p25 : ∀ b∈pt,b∈(zo++(zp++(zq++(zr++zd)))) ∨ w.heap.size≤b:=low_out ge (low_app (fun b hb=>.inl (by simp [hb])) (low_app (fun b hb=>.inl (by simp [hb])) (low_app (fun b hb=>.inl (by simp [hb])) (fun b hb=>.inl (by simp [hb]))))) (hB.trans pg).size
 have k2:Dis pu [py]:=dis_out gf (da (qa).symm (da (pi).symm (da (qb).symm (qc).symm))) (one_lt (Row.lt (kr pf pg)))
 have p26 : ∀ b∈pu,b∈(zo++(zp++(zq++(zr++zd)))) ∨ w.heap.size≤b:=low_out gf (low_app (fun b hb=>.inl (by simp [hb])) (low_app (fun b hb=>.inl (by simp [hb])) (low_app (fun b hb=>.inl (by simp [hb])) (fun b hb=>.inl (by simp [hb]))))) (hB.trans pg).size
 have p27:Dis pv [py]:=dis_out gg (da (qa).symm (da (pi).symm (da (qb).symm (qc).symm))) (one_lt (Row.lt (kr pf pg)))
 have p28 : ∀ b∈pv,b∈(zo++(zp++(zq++(zr++zd)))) ∨ w.heap.size≤b:=low_out gg (low_app (fun b hb=>.inl (by simp [hb])) (low_app (fun b hb=>.inl (by simp [hb])) (low_app (fun b hb=>.inl (by simp [hb])) (fun b hb=>.inl (by simp [hb]))))) (hB.trans pg).size
 have p29:Dis pw [py]:=dis_out j3 (da (qa).symm (da (pi).symm (da (qb).symm (qc).symm))) (one_lt (Row.lt (kr pf pg)))
 have p2a : ∀ b∈pw,b∈(zo++(zp++(zq++(zr++zd)))) ∨ w.heap.size≤b:=low_out j3 (low_app (fun b hb=>.inl (by simp [hb])) (low_app (fun b hb=>.inl (by simp [hb])) (low_app (fun b hb=>.inl (by simp [hb])) (fun b hb=>.inl (by simp [hb]))))) (hB.trans pg).size
 have qk:=pg.trans p1x
 replace zu:=kp _ zu qk
 replace zt:=kp _ zt qk
 replace zv:=kp _ zv qk
 replace zw:=kp _ zw qk
 replace zj:=kp _ zj qk
 replace hr4:=kr hr4 qk
 replace pf:=kr pf qk
 replace hB:=(hB.trans qk)
 refine Wb (Mt rfl) <| Wb (Ex (.agg #[.int .i64 (y35.1.C.Objects),v39,v42,v45,v48,v51,v54,v57]) rfl rfl) <| Wb (Exb rfl rfl) <| WL.alloc info96 zr96 fun ja p2b pz qy q0=>?_
 replace qy:Row p2b ja [.int .i64 ((0:Int)),.slice none 0 0,.slice none 0 0,.slice none 0 0,.slice none 0 0,.slice none 0 0,.slice none 0 0,.slice none 0 0] 96:=qy
 have p2c:w.heap.size≤ja:=Nat.le_trans hB.size q0
 have p2d:=dl (onw q0) (sl _ zu)
 have k3:=dl (onw q0) (sl _ zt)
 have p2e:=dl (onw q0) (sl _ zv)
 have p2f:=dl (onw q0) (sl _ zw)
 have p2g:=dl (onw q0) (sl _ zj)
 have p2h:=dl (onw q0) (one_lt (Row.lt hr4))
 have gh:=dl (onw q0) (one_lt (Row.lt pf))
 have p2i:=dl (onw q0) (sl _ q3)
 have p2j:=dl (onw q0) (sl _ ph)
 have p2k:=dl (onw q0) (sl _ p6)
 have k4:=dl (onw q0) (sl _ p7)
 have p2l:=dl (onw q0) (sl _ p8)
 have p2m:=dl (onw q0) (sl _ p9)
 have p2n:=dl (onw q0) (sl _ pa)
 replace zu:=kp _ zu pz
 replace zt:=kp _ zt pz
 replace zv:=kp _ zv pz
 replace zw:=kp _ zw pz
 replace zj:=kp _ zj pz
 replace q3:=kp _ q3 pz
 replace ph:=kp _ ph pz
 replace p6:=kp _ p6 pz
 replace p7:=kp _ p7 pz
 replace p8:=kp _ p8 pz
 replace p9:=kp _ p9 pz
 replace pa:=kp _ pa pz
 replace hr4:=kr hr4 pz
 replace pf:=kr pf pz
 replace hB:=(hB.trans pz)
 refine WL.storeAll (us:=[.int .i64 (y35.1.C.Objects),v39,v42,v45,v48,v51,v54,v57]) info96 (by rw [sz96]; rfl) qy rfl rfl rfl (by intro u hu; simp only [List.mem_cons,List.mem_nil_iff,or_false] at hu; rcases hu with rfl | rfl | rfl | rfl | rfl | rfl | rfl | rfl <;> first | exact rfl | exact (STy.one _ q3 _ (ms rfl)) | exact (STy.one _ ph _ (ms rfl)) | exact (STy.one _ p6 _ (ms rfl)) | exact (STy.one _ p7 _ (ms rfl)) | exact (STy.one _ p8 _ (ms rfl)) | exact (STy.one _ p9 _ (ms rfl)) | exact (STy.one _ pa _ (ms rfl))) fun gi q1 ql=>?_
 replace ql:Row gi ja [.int .i64 (y35.1.C.Objects),v39,v42,v45,v48,v51,v54,v57] 96:=ql
 replace zu:=STy.keep _ zu q1 (p2d).symm
 replace zt:=STy.keep _ zt q1 (k3).symm
 replace zv:=STy.keep _ zv q1 (p2e).symm
 replace zw:=STy.keep _ zw q1 (p2f).symm
 replace zj:=STy.keep _ zj q1 (p2g).symm
 replace q3:=STy.keep _ q3 q1 (p2i).symm
 replace ph:=STy.keep _ ph q1 (p2j).symm
 replace p6:=STy.keep _ p6 q1 (p2k).symm
 replace p7:=STy.keep _ p7 q1 (k4).symm
 replace p8:=STy.keep _ p8 q1 (p2l).symm
 replace p9:=STy.keep _ p9 q1 (p2m).symm
 replace pa:=STy.keep _ pa q1 (p2n).symm
 replace hr4:=Row.keep hr4 q1 ((p2h).symm _ (ms rfl))
 replace pf:=Row.keep pf q1 ((gh).symm _ (ms rfl))
 replace hB:=hB.then q1 (one_then p2c)
 refine Wb (Ab rfl) <| anz <| wq <| wq <| Wq rfl (cr [] gi) <| Qa (Mb rfl) <| Qa (Nt rfl) <| fun nx p4=>anz <| W_cond (b:=!(y35.2)) rfl ?_ ?_
 intro ki
 rw [ki] at ho
 refine wq <| W_region rfl <| Wb (Bu bld96_) <| WL.storeAll (us:=[.int .i64 ((0:Int)),.slice none 0 0,.slice none 0 0,.slice none 0 0,.slice none 0 0,.slice none 0 0,.slice none 0 0,.slice none 0 0]) info96 (by rw [sz96]; rfl) (kr pf p4) rfl rfl rfl (by intro u hu; simp only [List.mem_cons,List.mem_nil_iff,or_false] at hu; rcases hu with rfl | rfl | rfl | rfl | rfl | rfl | rfl | rfl <;> first | exact rfl) fun p2o p2p kj=>?_
 replace kj:Row p2o py [.int .i64 ((0:Int)),.slice none 0 0,.slice none 0 0,.slice none 0 0,.slice none 0 0,.slice none 0 0,.slice none 0 0,.slice none 0 0] 96:=kj
 have p2q:=(p4.nil (G:=[py])).trans p2p
 replace hB:=hB.then p2q (one_then kf)
 refine Wb (As rfl) <| Wb (Ai rfl) <| anz <| ?_
 cases ho
 exact W_ret ⟨_,res_c2 Tryz.results70 Tryz.underlying96 rfl info96 (by rw [sz96]; rfl) rfl kj.at,_,_,_,_,_,_,_,_,_,_,_,_,_,_,_,_,rfl,hB,nil_imm,(fun _ h=>nomatch h),nil_imm,(fun _ h=>nomatch h),nil_imm,(fun _ h=>nomatch h),nil_imm,(fun _ h=>nomatch h),nil_imm,(fun _ h=>nomatch h),nil_imm,(fun _ h=>nomatch h),nil_imm,(fun _ h=>nomatch h),nil_OE,(fun _ h=>nomatch h),(fun _ h=>nomatch h),(fun _ h=>nomatch h),(fun _ h=>nomatch h),(fun _ h=>nomatch h),(fun _ h=>nomatch h),(fun _ h=>nomatch h)⟩
 intro ki
 rw [ki] at ho
 refine W_skip <| anz <| wq <| ?_
 obtain ⟨y142,p2r,ho⟩:=bs ho
 refine W_any (m:=5) (U:=.replicate 5 []) (S:=[sV (.agg #[.int .i64 (y35.1.C.Objects),v39,v42,v45,v48,v51,v54,v57]),sV (.agg #[.int .i64 (y35.1.C.Objects),v39,v42,v45,v48,v51,v54,v57]),sV (.pointer (some (⟨b1,5,none⟩))),sV (zi),sO (sOwn 138 (sOwn 4 sBool)) (y142)]) (Z:=[]) hmix rfl (by decide) (by decide +kernel) (fun _ _ _ h=>np_out h) (by decide) rfl (by decide +kernel) (stable_all (by repeat first | exact stable_nil | refine stable_cons stable_val ?_ | refine stable_cons stable_own ?_)) ?_ ?_
 refine owes_cons ?_ <| owes_cons ?_ <| owes_cons ?_ <| owes_cons ?_ <| owes_cons ?_ <| owes_nil
 exact Oh rfl rfl rfl [(5,.pointer (some (⟨ja,0,none⟩)))] p4 rfl rfl fun _=>Lg ag96 ql.at rfl rfl
 exact Oh rfl rfl rfl [(5,.pointer (some (⟨ja,0,none⟩)))] p4 rfl rfl fun _=>Lg ag96 ql.at rfl rfl
 exact Oh rfl rfl rfl [(1,.pointer (some (⟨b1,0,none⟩)))] p4 rfl rfl fun _=>Fr fa34_1 rfl
 exact Ov rfl rfl rfl [] [(22,.pointer (some (⟨b1,5,none⟩)))] [2] p4 rfl rfl (by decide +kernel) rfl fun _=>Lr na26 hr4 rfl rfl
 refine Owes.mem rfl rfl rfl <| fun g r wr hCr H hot=>?_
 have hC:=p4.trans hCr
 obtain ⟨F,rfl⟩:=fr (r:=r) (l:=[(21,.agg #[.int .i64 (y35.1.C.Objects),v39,v42,v45,v48,v51,v54,v57]),(23,zi)]) ⟨(H 1 (by decide +kernel) 21 rfl),(H 3 (by decide +kernel) 23 rfl),trivial⟩
 exact OpW.own (op_callF Tryz.func136 rfl rfl) (spec_l27Marks_calls (kp _ q3 hC) (kp _ ph hC) (kp _ p6 hC) (kp _ p7 hC) (kp _ p8 hC) (kp _ p9 hC) (kp _ pa hC) (kp _ zj hC) p2r)
 rintro g r gj ⟨kk,hdone,hot,hfresh,hdis⟩
 have qm:OwnV (sOwn 138 (sOwn 4 sBool)) (y142) _ _ _:=hdone 4 (by decide) (by decide) 24 rfl
 generalize hvv144:r 24=v144 at qm
 have hfo146:=hfresh 4 (by decide)
 have hdd:=hdis
 obtain ⟨F,rfl⟩:=fw hdone hot [(2,.pointer (some (⟨py,0,none⟩)))] [(20,.agg #[.int .i64 (y35.1.C.Objects),v39,v42,v45,v48,v51,v54,v57])] [0] rfl rfl rfl rfl (z:=[(24,v144)]) ⟨hvv144,trivial⟩
 obtain ⟨p2s,hgf145⟩ : ∃ k,k=g 4:=⟨_,rfl⟩
 rw [← hgf145] at qm hfo146
 replace qm:OE [] w.heap.size gj (sOwn 138 (sOwn 4 sBool)) [v144] (y142) p2s:=⟨qm.1,qm.2,fun b hb=>.inr (Nat.le_trans (hB.trans p4).size (hfo146 b hb).1)⟩
 have p2t:=dl (fun b hb=>(hfo146 b hb).1) (one_lt (Row.lt (kr pf p4)))
 have kl:=dl (fun b hb=>(hfo146 b hb).1) (sl _ (kp _ q3 p4))
 have p2u:=dl (fun b hb=>(hfo146 b hb).1) (sl _ (kp _ ph p4))
 have p2v:=dl (fun b hb=>(hfo146 b hb).1) (sl _ (kp _ p6 p4))
 have p2w:=dl (fun b hb=>(hfo146 b hb).1) (sl _ (kp _ p7 p4))
 have p2x:=dl (fun b hb=>(hfo146 b hb).1) (sl _ (kp _ p8 p4))
 have p2y:=dl (fun b hb=>(hfo146 b hb).1) (sl _ (kp _ p9 p4))
 have p2z:=dl (fun b hb=>(hfo146 b hb).1) (sl _ (kp _ pa p4))
 have px:=(p4.trans kk)
 replace zu:=kp _ zu px
 replace zt:=kp _ zt px
 replace zv:=kp _ zv px
 replace zw:=kp _ zw px
 replace zj:=kp _ zj px
 replace hr4:=kr hr4 px
 replace pf:=kr pf px
 replace q3:=kp _ q3 px
 replace ph:=kp _ ph px
 replace p6:=kp _ p6 px
 replace p7:=kp _ p7 px
 replace p8:=kp _ p8 px
 replace p9:=kp _ p9 px
 replace pa:=kp _ pa px
 replace ql:=kr ql px
 replace hB:=(hB.trans px)
 refine WL.storeAll (us:=[.int .i64 (y35.1.C.Objects),v39,v42,v45,v48,v51,v54,v57]) info96 (by rw [sz96]; rfl) pf rfl rfl rfl (by intro u hu; simp only [List.mem_cons,List.mem_nil_iff,or_false] at hu; rcases hu with rfl | rfl | rfl | rfl | rfl | rfl | rfl | rfl <;> first | exact rfl | exact (STy.one _ q3 _ (ms rfl)) | exact (STy.one _ ph _ (ms rfl)) | exact (STy.one _ p6 _ (ms rfl)) | exact (STy.one _ p7 _ (ms rfl)) | exact (STy.one _ p8 _ (ms rfl)) | exact (STy.one _ p9 _ (ms rfl)) | exact (STy.one _ pa _ (ms rfl))) fun gk pm km=>?_
 replace km:Row gk py [.int .i64 (y35.1.C.Objects),v39,v42,v45,v48,v51,v54,v57] 96:=km
 replace zu:=STy.keep _ zu pm (qa).symm
 replace zt:=STy.keep _ zt pm (pi).symm
 replace zv:=STy.keep _ zv pm (qb).symm
 replace zw:=STy.keep _ zw pm (qc).symm
 replace zj:=STy.keep _ zj pm (d23).symm
 replace q3:=STy.keep _ q3 pm d89
 replace ph:=STy.keep _ ph pm d92
 replace p6:=STy.keep _ p6 pm d95
 replace p7:=STy.keep _ p7 pm d98
 replace p8:=STy.keep _ p8 pm k2
 replace p9:=STy.keep _ p9 pm p27
 replace pa:=STy.keep _ pa pm p29
 replace hr4:=Row.keep hr4 pm ((d24).symm _ (ms rfl))
 replace ql:=Row.keep ql pm (gh _ (ms rfl))
 replace qm:=okp qm pm p2t
 replace hB:=hB.then pm (one_then kf)
 refine Wb (Av v144 rfl) <| Wb (Ai rfl) <| anz <| ?_
 cases ho
 exact W_ret ⟨_,res_c2 Tryz.results70 Tryz.underlying96 rfl info96 (by rw [sz96]; rfl) rfl km.at,_,_,_,_,_,_,_,_,_,_,_,_,_,_,_,_,rfl,hB,q3,p1z,ph,p21,p6,p23,p7,p25,p8,p26,p9,p28,pa,p2a,qm,(kl).symm,(p2u).symm,(p2v).symm,(p2w).symm,(p2x).symm,(p2y).symm,(p2z).symm⟩

abbrev spec_l27Local_post (w:World) (x:(Bool)) (e:Ending) (w':World):Prop:=e = .returned (.bool x)∧Chg [] w w'
abbrev spec_l27Local_T (w:World):=Tm Tryz.prog Tryz.f207 53 (spec_l27Local_post w)
theorem spec_l27Local_calls {w:World} {x0:ML27Table} {zy:Value} {z19:List Nat} {zx:Value} {z1a:List Nat} {z10:Value} {z1b:List Nat} {z11:Value} {z1c:List Nat} {z14:Value} {z23:List Nat} {z15:Value} {z26:List Nat} {z16:Value} {z27:List Nat} {x1:(List (List Bool))} {v_x1:Value} {f_x1:List Nat} {x2:Int} {x3:Int} {x4:Int} (z13:(sImm (sInt .i64)).rep w.heap [zy] x0.C.From z19) (z12:(sImm (sInt .i64)).rep w.heap [zx] x0.C.To z1a) (z17:(sImm (sInt .i64)).rep w.heap [z10] x0.C.Identity z1b) (z18:(sImm (sImm (sInt .i64))).rep w.heap [z11] x0.C.Composites z1c) (z1r:(sImm (sImm (sImm (sInt .i64)))).rep w.heap [z14] x0.Lists z23) (z1s:(sImm (sImm (sInt .i64))).rep w.heap [z15] x0.Pulls z26) (z21:(sImm (sInt .i64)).rep w.heap [z16] x0.Tops z27) (h_x1:(sImm (sImm sBool)).rep w.heap [v_x1] x1 f_x1) {y:(Bool)} (hm:spec_l27Local x0 x1 x2 x3 x4=some y) :
  Calls Tryz.prog 207 #[.agg #[.int .i64 (x0.C.Objects),zy,zx,z10,z11,z14,z15,z16],v_x1,.int .i64 (x2),.int .i64 (x3),.int .i64 (x4)] w (spec_l27Local_post w y):=by
 refine Cm (S:=Unit) Tryz.func207 rfl Tryz.ntmps207 rfl hm fun o ho hB=>?_
 clear hm
 refine wq <| W_region rfl <| WL.box fun b1 wd2 hC3 hr4 hl5=>?_
 replace hr4:Row wd2 b1 [.int .i64 (x0.C.Objects),zy,zx,z10,z11,z14,z15,z16] 96:=hr4
 replace hB:=(hB.trans hC3)
 refine Wb (Ab rfl) <| anz <| wq <| Wq rfl (cr [] wd2) <| Qa (Fr fa96_1 rfl) <| Qa (Lr na26 hr4 rfl rfl) <| Qa (Mi rfl) <| ?_
 obtain ⟨e8,hx9e,ho⟩:=bs ho
 have hx9:=idx_some hx9e
 refine Qa (Ix sl26 (kB z1r hB) hx9 rfl rfl rfl) <| ?_
 obtain ⟨u10,fu11,hu12,gl,hs14⟩:=one_get rfl z1r hx9.1 hx9.2
 refine Qa (Ld na23 (hB.cell0 hu12) rfl) <| Qa (Mi rfl) <| ?_
 obtain ⟨e15,hx16e,ho⟩:=bs ho
 have hx16:=idx_some hx16e
 refine Qa (Ix sl23 (kB gl hB) hx16 rfl rfl rfl) <| ?_
 obtain ⟨u17,fu18,hu19,jb,hs21⟩:=one_get rfl gl hx16.1 hx16.2
 refine Qa (Ld na22 (hB.cell0 hu19) rfl) <| Qa (Av u17 rfl) <| fun j5 pd=>anz <| wq <| wq <| Wq rfl pd <| Qa (Ai rfl) <| fun p4y gm=>anz <| Wf (S1:=Int) (fun (s0_12:Int) r w'=>Chg [] w w'∧Row w' b1 [.int .i64 (x0.C.Objects),zy,zx,z10,z11,z14,z15,z16] 96∧∃ F,r=updL F [(1,v_x1),(4,.int .i64 (x4)),(5,.pointer (some (⟨b1,0,none⟩))),(11,u17),(12,.int .i64 (s0_12))]) (spec_l27Local_T w) ho ⟨(hB.trans gm),(kr hr4 gm),fe rfl⟩ ?_ ?_
 rintro s0_12 _ j2 ⟨hB,hr4,F,rfl⟩ o ho
 replace ho:spec_l27Local_L0 x0 x1 x4 e15 s0_12=some o:=ho
 unfold spec_l27Local_L0 at ho
 refine wq <| wq <| Wq rfl (cr [] j2) <| Qa (Mi rfl) <| Qa (Mv u17 rfl) <| Qa (Ln sl22 (kB jb hB) rfl) <| Qa (Bl rfl rfl) <| fun p4z jc=>anz <| W_cond (b:=decide (s0_12 < (e15.length:Int))) rfl ?_ ?_
 intro pe
 rw [pe] at ho
 refine W_skip <| anz <| wq <| W_block <| wq <| Wqd rfl (by kernel_rfl) jc <| Qa (Mv v_x1 rfl) <| Qa (Fr fa96_0 rfl) <| Qa (Fr fa32_2 rfl) <| Qa (Lr na22 hr4 rfl rfl) <| Qa (Mv u17 rfl) <| Qa (Mi rfl) <| ?_
 obtain ⟨e30,hx31e,ho⟩:=bs ho
 have hx31:=idx_some hx31e
 refine Qa (Ix sl22 (kB jb hB) hx31 rfl rfl rfl) <| Qa (Ei na2 (kB jb hB) hx31 rfl) <| ?_
 obtain ⟨e32,hx33e,ho⟩:=bs ho
 have hx33:=idx_some hx33e
 refine Qa (Ix sl22 (kB z12 hB) hx33 rfl rfl rfl) <| Qa (Ei na2 (kB z12 hB) hx33 rfl) <| ?_
 obtain ⟨e34,hx35e,ho⟩:=bs ho
 have hx35:=idx_some hx35e
 refine Qa (Ix sl97 (kB h_x1 hB) hx35 rfl rfl rfl) <| ?_
 obtain ⟨u36,fu37,hu38,gn,hs40⟩:=one_get rfl h_x1 hx35.1 hx35.2
 refine Qa (Ld na138 (hB.cell0 hu38) rfl) <| Qa (Fr fa96_2 rfl) <| Qa (Lr na23 hr4 rfl rfl) <| Qa (Mv u17 rfl) <| Qa (Mi rfl) <| ?_
 obtain ⟨e41,hx42e,ho⟩:=bs ho
 have hx42:=idx_some hx42e
 refine Qa (Ix sl22 (kB jb hB) hx42 rfl rfl rfl) <| Qa (Ei na2 (kB jb hB) hx42 rfl) <| ?_
 obtain ⟨e43,hx44e,ho⟩:=bs ho
 have hx44:=idx_some hx44e
 refine Qa (Ix sl23 (kB z1s hB) hx44 rfl rfl rfl) <| ?_
 obtain ⟨u45,fu46,hu47,go,hs49⟩:=one_get rfl z1s hx44.1 hx44.2
 refine Qa (Ld na22 (hB.cell0 hu47) rfl) <| Qa (Mi rfl) <| ?_
 obtain ⟨e50,hx51e,ho⟩:=bs ho
 have hx51:=idx_some hx51e
 refine Qa (Ix sl22 (kB go hB) hx51 rfl rfl rfl) <| Qa (Ei na2 (kB go hB) hx51 rfl) <| ?_
 obtain ⟨e52,hx53e,ho⟩:=bs ho
 have hx53:=idx_some hx53e
 refine Qa (Ix sl138 (kB gn hB) hx53 rfl rfl rfl) <| Qa (Eb na4 (kB gn hB) hx53 rfl) <| Qa (Nt rfl) <| fun gp gq=>anz <| W_cond (b:=!(e52)) rfl ?_ ?_
 intro kn
 rw [kn] at ho
 refine wq <| Wq rfl gq <| Qa (Ab rfl) <| fun gr p30=>anz <| ?_
 cases ho
 exact W_ret ⟨_,res_1 Tryz.results207,rfl,(hB.trans p30)⟩
 intro kn
 rw [kn] at ho
 refine W_skip <| inBlk_n <| anz <| Wq rfl gq <| Qa (Mi rfl) <| Qa (Ba rfl rfl) <| Qa (Ai rfl) <| fun p50 gs=>?_
 cases ho
 exact ⟨(hB.trans gs),(kr hr4 gs),fe rfl⟩
 intro pe
 rw [pe] at ho
 refine W_exit <| andThen_x <| ?_
 cases ho
 exact ⟨rfl,⟨(hB.trans jc),(kr hr4 jc),fe rfl⟩⟩
 rintro s0_12 _ p31 ⟨hB,hr4,F,rfl⟩ ho
 refine anz <| wq <| Wq rfl (cr [] p31) <| Qa (Ab rfl) <| fun gt p32=>anz <| ?_
 cases ho
 exact W_ret ⟨_,res_1 Tryz.results207,rfl,(hB.trans p32)⟩

abbrev spec_l27Step_post (v_x1:Value) (f_x1:List Nat) (w:World) (x:(Bool×(List (List Bool)))) (e:Ending) (w':World):Prop:=∃ (f0:List Nat),e = .returned (.bool x.1)∧Chg f_x1 w w'∧OE f_x1 w.heap.size w' (sOwn 138 (sOwn 4 sBool)) [v_x1] x.2 f0
abbrev spec_l27Step_T (v_x1:Value) (f_x1:List Nat) (w:World):=Tm Tryz.prog Tryz.f137 140 (spec_l27Step_post v_x1 f_x1 w)
theorem spec_l27Step_calls {w:World} {x0:ML27Table} {zy:Value} {z19:List Nat} {zx:Value} {z1a:List Nat} {z10:Value} {z1b:List Nat} {z11:Value} {z1c:List Nat} {z14:Value} {z23:List Nat} {z15:Value} {z26:List Nat} {z16:Value} {z27:List Nat} {x1:(List (List Bool))} {v_x1:Value} {f_x1:List Nat} (z13:(sImm (sInt .i64)).rep w.heap [zy] x0.C.From z19) (z12:(sImm (sInt .i64)).rep w.heap [zx] x0.C.To z1a) (z17:(sImm (sInt .i64)).rep w.heap [z10] x0.C.Identity z1b) (z18:(sImm (sImm (sInt .i64))).rep w.heap [z11] x0.C.Composites z1c) (z1r:(sImm (sImm (sImm (sInt .i64)))).rep w.heap [z14] x0.Lists z23) (z1s:(sImm (sImm (sInt .i64))).rep w.heap [z15] x0.Pulls z26) (z21:(sImm (sInt .i64)).rep w.heap [z16] x0.Tops z27) (o_x1:OE f_x1 w.heap.size w (sOwn 138 (sOwn 4 sBool)) [v_x1] x1 f_x1) (n_h_x0_C_From:Dis z19 f_x1) (n_h_x0_C_To:Dis z1a f_x1) (n_h_x0_C_Identity:Dis z1b f_x1) (n_h_x0_C_Composites:Dis z1c f_x1) (n_h_x0_Lists:Dis z23 f_x1) (n_h_x0_Pulls:Dis z26 f_x1) (n_h_x0_Tops:Dis z27 f_x1) {y:(Bool×(List (List Bool)))} (hm:spec_l27Step x0 x1=some y) :
  Calls Tryz.prog 137 #[.agg #[.int .i64 (x0.C.Objects),zy,zx,z10,z11,z14,z15,z16],v_x1] w (spec_l27Step_post v_x1 f_x1 w y):=by
 refine Cm (S:=Unit) Tryz.func137 rfl Tryz.ntmps137 rfl hm fun o ho hB=>?_
 clear hm
 have hB:Chg f_x1 w w:=cr _ _
 replace o_x1:OE f_x1 w.heap.size w (sOwn 138 (sOwn 4 sBool)) [v_x1] x1 f_x1:=OE.give o_x1 fun b hb=>by simp [hb]
 refine wq <| W_region rfl <| WL.box fun b8 wd9 gu p2 p33=>?_
 replace p2:Row wd9 b8 [.int .i64 (x0.C.Objects),zy,zx,z10,z11,z14,z15,z16] 96:=p2
 have d14:=dl (onw p33) (sl _ o_x1.1)
 replace o_x1:=ko o_x1 gu
 replace hB:=(hB.trans (Chg.nil gu))
 refine Wb (Ab rfl) <| anz <| wq <| wq <| Wq rfl (cr [] wd9) <| Qa (Ai rfl) <| fun p51 kq=>anz <| Wf (S1:=Int) (fun (s0_5:Int) r w'=>Chg f_x1 w w'∧OE f_x1 w.heap.size w' (sOwn 138 (sOwn 4 sBool)) [v_x1] (x1) f_x1∧Row w' b8 [.int .i64 (x0.C.Objects),zy,zx,z10,z11,z14,z15,z16] 96∧Dis f_x1 [b8]∧∃ F,r=updL F [(1,v_x1),(2,.pointer (some (⟨b8,0,none⟩))),(5,.int .i64 (s0_5))]) (spec_l27Step_T v_x1 f_x1 w) ho ⟨(hB.trans (Chg.nil kq)),(ko o_x1 kq),(kr p2 kq),((d14).symm),fe rfl⟩ ?_ ?_
 rintro s0_5 _ gv ⟨hB,o_x1,p2,qx,F,rfl⟩ o ho
 replace ho:spec_l27Step_L0 x0 x1 s0_5=some o:=ho
 unfold spec_l27Step_L0 at ho
 refine wq <| wq <| Wq rfl (cr [] gv) <| Qa (Mi rfl) <| Qa (Mv v_x1 rfl) <| Qa (Ln sl97 ((Le.own (Le.own (Le.refl _) 4) 138).le o_x1.1) rfl) <| Qa (Bl rfl rfl) <| fun p35 qz=>anz <| W_cond (b:=decide (s0_5 < (x1.length:Int))) rfl ?_ ?_
 intro ks
 rw [ks] at ho
 refine W_skip <| anz <| wq <| W_block <| wq <| wq <| Wqd rfl (by kernel_rfl) qz <| Qa (Mv v_x1 rfl) <| Qa (Mi rfl) <| ?_
 obtain ⟨e23,hx24e,ho⟩:=bs ho
 have hx24:=idx_some hx24e
 refine Qa (Ix sl97 ((Le.own (Le.own (Le.refl _) 4) 138).le o_x1.1) hx24 rfl rfl rfl) <| ?_
 obtain ⟨u25,fu26,hu27,gw,hs29⟩:=one_get rfl ((Le.own (Le.own (Le.refl _) 4) 138).le o_x1.1) hx24.1 hx24.2
 refine Qa (Ld na138 hu27 rfl) <| Qa (Fr fa96_3 rfl) <| Qa (Lr na22 p2 rfl rfl) <| Qa (Mi rfl) <| ?_
 obtain ⟨e30,hx31e,ho⟩:=bs ho
 have hx31:=idx_some hx31e
 refine Qa (Ix sl22 (STy.keep _ z21 hB n_h_x0_Tops) hx31 rfl rfl rfl) <| Qa (Ei na2 (STy.keep _ z21 hB n_h_x0_Tops) hx31 rfl) <| ?_
 obtain ⟨e32,hx33e,ho⟩:=bs ho
 have hx33:=idx_some hx33e
 refine Qa (Ix sl138 gw hx33 rfl rfl rfl) <| Qa (Eb na4 gw hx33 rfl) <| Qa (Nt rfl) <| fun p52 q9=>anz <| W_cond (b:=!(e32)) rfl ?_ ?_
 intro kt
 rw [kt] at ho
 refine wq <| ?_
 obtain ⟨e37,hx38e,ho⟩:=bs ho
 have hx38:=idx_some hx38e
 obtain ⟨u39,fu40,hu41,ku,hs43⟩:=one_get rfl ((Le.own (Le.own (Le.refl _) 4) 138).le o_x1.1) hx38.1 hx38.2
 obtain ⟨e44,hx45e,ho⟩:=bs ho
 have hx45:=idx_some hx45e
 refine W_any (m:=9) (U:=.replicate 9 []) (S:=[sV (v_x1),sV (.int .i64 (s0_5)),sV (.pointer (some (elA (v_x1) 1 (s0_5)))),sV (u39),sV (.pointer (some (⟨b8,7,none⟩))),sV (z16),sV (.int .i64 (s0_5)),sV (.pointer (some (elA (z16) 1 (s0_5)))),sV (.int .i64 (e44))]) (Z:=[]) hmix rfl (by decide) (by decide +kernel) (fun _ _ _ h=>np_out h) (by decide) rfl (by decide +kernel) (stable_all (by repeat first | exact stable_nil | refine stable_cons stable_val ?_ | refine stable_cons stable_own ?_)) ?_ ?_
 refine owes_cons ?_ <| owes_cons ?_ <| owes_cons ?_ <| owes_cons ?_ <| owes_cons ?_ <| owes_cons ?_ <| owes_cons ?_ <| owes_cons ?_ <| owes_cons ?_ <| owes_nil
 exact Oh rfl rfl rfl [(1,v_x1)] q9 rfl rfl fun _=>Mv v_x1 rfl
 exact Oh rfl rfl rfl [(5,.int .i64 (s0_5))] q9 rfl rfl fun _=>Mi rfl
 exact Ov rfl rfl rfl [] [(27,v_x1),(28,.int .i64 (s0_5))] [0,1] q9 rfl rfl (by decide +kernel) rfl fun _=>Ix sl97 ((Le.own (Le.own (Le.refl _) 4) 138).le o_x1.1) hx38 rfl rfl rfl
 exact Ov rfl rfl rfl [] [(29,.pointer (some (elA (v_x1) 1 (s0_5))))] [2] q9 rfl rfl (by decide +kernel) rfl fun _=>Ld na138 hu41 rfl
 exact Oh rfl rfl rfl [(2,.pointer (some (⟨b8,0,none⟩)))] q9 rfl rfl fun _=>Fr fa96_3 rfl
 exact Ov rfl rfl rfl [] [(31,.pointer (some (⟨b8,7,none⟩)))] [4] q9 rfl rfl (by decide +kernel) rfl fun _=>Lr na22 p2 rfl rfl
 exact Oh rfl rfl rfl [(5,.int .i64 (s0_5))] q9 rfl rfl fun _=>Mi rfl
 exact Ov rfl rfl rfl [] [(32,z16),(33,.int .i64 (s0_5))] [5,6] q9 rfl rfl (by decide +kernel) rfl fun _=>Ix sl22 (STy.keep _ z21 hB n_h_x0_Tops) hx45 rfl rfl rfl
 exact Ov rfl rfl rfl [] [(34,.pointer (some (elA (z16) 1 (s0_5))))] [7] q9 rfl rfl (by decide +kernel) rfl fun _=>Ei na2 (STy.keep _ z21 hB n_h_x0_Tops) hx45 rfl
 rintro g r p53 ⟨p36,hdone,hot,hfresh,hdis⟩
 have hdd:=hdis
 obtain ⟨F,rfl⟩:=fw hdone hot [] [(30,u39),(35,.int .i64 (e44))] [3,8] rfl rfl rfl rfl (z:=[]) trivial
 have jd:=(q9.trans p36)
 replace o_x1:=ko o_x1 jd
 replace p2:=kr p2 jd
 replace hu41:=jd.cell0 hu41
 replace ku:=kp _ ku jd
 replace hB:=(hB.trans (Chg.nil jd))
 obtain ⟨e49,hx50e,ho⟩:=bs ho
 have hx50:=idx_some hx50e
 refine Wb (Ix sl138 ku hx50 rfl rfl rfl) <| ?_
 obtain ⟨k51,o52,hk53,hf54⟩:=own_focus rfl hB.size o_x1 hx38.2 hu41
 have d55:Dis k51 [b8]:=fun b hb=>qx b (hk53 b hb)
 refine WL.storeEl (z':=true) _ _ sBool_nofp rfl info4 sz4 o52 hx50.2 rfl rfl ⟨rfl,rfl⟩ fun p39 kv o58=>?_
 obtain ⟨f59,o60,hs61⟩:=hf54 _ _ _ kv o58
 replace p2:=Row.keep p2 kv ((d55).symm _ (ms rfl))
 replace hB:=hB.then kv (fun b hb=>o_x1.2.2 b (hk53 b hb))
 refine anz <| wq <| Wq rfl (cr [] p39) <| Qa (Ab rfl) <| fun p55 gx=>anz <| ?_
 cases ho
 exact W_ret ⟨_,res_1 Tryz.results137,_,rfl,(hB.trans (Chg.nil gx)),(ko o60 gx)⟩
 intro kt
 rw [kt] at ho
 refine W_skip <| anz <| wq <| Wq rfl q9 <| Qa (Ai rfl) <| fun p56 kw=>anz <| Wf (S1:=Int) (fun (s1_6:Int) r w'=>Chg f_x1 w w'∧OE f_x1 w.heap.size w' (sOwn 138 (sOwn 4 sBool)) [v_x1] (x1) f_x1∧Row w' b8 [.int .i64 (x0.C.Objects),zy,zx,z10,z11,z14,z15,z16] 96∧Dis f_x1 [b8]∧∃ F,r=updL F [(1,v_x1),(2,.pointer (some (⟨b8,0,none⟩))),(5,.int .i64 (s0_5)),(6,.int .i64 (s1_6))]) (spec_l27Step_T v_x1 f_x1 w) ho ⟨(hB.trans (Chg.nil kw)),(ko o_x1 kw),(kr p2 kw),(qx),fe rfl⟩ ?_ ?_
 rintro s1_6 _ p3c ⟨hB,o_x1,p2,je,F,rfl⟩ o ho
 replace ho:spec_l27Step_L1 x0 x1 s0_5 s1_6=some o:=ho
 unfold spec_l27Step_L1 at ho
 refine wq <| wq <| Wq rfl (cr [] p3c) <| Qa (Mi rfl) <| Qa (Mv v_x1 rfl) <| Qa (Mi rfl) <| ?_
 obtain ⟨e70,hx71e,ho⟩:=bs ho
 have hx71:=idx_some hx71e
 refine Qa (Ix sl97 ((Le.own (Le.own (Le.refl _) 4) 138).le o_x1.1) hx71 rfl rfl rfl) <| ?_
 obtain ⟨u72,fu73,hu74,p3d,hs76⟩:=one_get rfl ((Le.own (Le.own (Le.refl _) 4) 138).le o_x1.1) hx71.1 hx71.2
 refine Qa (Ld na138 hu74 rfl) <| Qa (Ln sl138 p3d rfl) <| Qa (Bl rfl rfl) <| fun gy ju=>anz <| W_cond (b:=decide (s1_6 < (e70.length:Int))) rfl ?_ ?_
 intro kx
 rw [kx] at ho
 refine W_skip <| anz <| wq <| W_block <| wq <| wq <| Wq rfl ju <| Qa (Mv v_x1 rfl) <| Qa (Mi rfl) <| ?_
 obtain ⟨e80,hx81e,ho⟩:=bs ho
 have hx81:=idx_some hx81e
 refine Qa (Ix sl97 ((Le.own (Le.own (Le.refl _) 4) 138).le o_x1.1) hx81 rfl rfl rfl) <| ?_
 obtain ⟨u82,fu83,hu84,gz,hs86⟩:=one_get rfl ((Le.own (Le.own (Le.refl _) 4) 138).le o_x1.1) hx81.1 hx81.2
 refine Qa (Ld na138 hu84 rfl) <| Qa (Mi rfl) <| ?_
 obtain ⟨e87,hx88e,ho⟩:=bs ho
 have hx88:=idx_some hx88e
 refine Qa (Ix sl138 gz hx88 rfl rfl rfl) <| Qa (Eb na4 gz hx88 rfl) <| Qa (Nt rfl) <| fun p3e jf=>anz <| W_cond (b:=!(e87)) rfl ?_ ?_
 intro qs
 rw [qs] at ho
 refine W_exit <| andThen_x <| inBlk_x <| anz <| Wq rfl jf <| Qa (Mi rfl) <| Qa (Ba rfl rfl) <| Qa (Ai rfl) <| fun g1 q8=>?_
 cases ho
 exact ⟨(hB.trans (Chg.nil q8)),(ko o_x1 q8),(kr p2 q8),je,fe rfl⟩
 intro qs
 rw [qs] at ho
 refine W_skip <| anz <| wq <| wq <| Wq rfl jf <| Qa (Ai rfl) <| fun p1h ky=>anz <| Wf (S1:=Int) (fun (s2_7:Int) r w'=>Chg f_x1 w w'∧OE f_x1 w.heap.size w' (sOwn 138 (sOwn 4 sBool)) [v_x1] (x1) f_x1∧Row w' b8 [.int .i64 (x0.C.Objects),zy,zx,z10,z11,z14,z15,z16] 96∧Dis f_x1 [b8]∧∃ F,r=updL F [(1,v_x1),(2,.pointer (some (⟨b8,0,none⟩))),(5,.int .i64 (s0_5)),(6,.int .i64 (s1_6)),(7,.int .i64 (s2_7))]) (spec_l27Step_T v_x1 f_x1 w) ho ⟨(hB.trans (Chg.nil ky)),(ko o_x1 ky),(kr p2 ky),(je),fe rfl⟩ ?_ ?_
 rintro s2_7 _ p00 ⟨hB,o_x1,p2,jg,F,rfl⟩ o ho
 replace ho:spec_l27Step_L2 x0 x1 s0_5 s1_6 s2_7=some o:=ho
 unfold spec_l27Step_L2 at ho
 refine wq <| wq <| Wq rfl (cr [] p00) <| Qa (Mi rfl) <| Qa (Fr fa96_2 rfl) <| Qa (Lr na23 p2 rfl rfl) <| Qa (Ln sl23 (STy.keep _ z1s hB n_h_x0_Pulls) rfl) <| Qa (Bl rfl rfl) <| fun p57 jv=>anz <| W_cond (b:=decide (s2_7 < (x0.Pulls.length:Int))) rfl ?_ ?_
 intro kz
 rw [kz] at ho
 refine W_skip <| anz <| wq <| W_block <| wq <| Wqd rfl (by kernel_rfl) jv <| ?_
 obtain ⟨g101,hm102,ho⟩:=bs ho
 refine QL.meet (fun r=>∃ F,r=updL F [(1,v_x1),(2,.pointer (some (⟨b8,0,none⟩))),(5,.int .i64 (s0_5)),(6,.int .i64 (s1_6)),(7,.int .i64 (s2_7)),(90,.bool (g101))]) ?_ ?_
 skip
 refine Qa (Fr fa96_0 rfl) <| Qa (Fr fa32_1 rfl) <| Qa (Lr na22 p2 rfl rfl) <| Qa (Mi rfl) <| ?_
 obtain ⟨e103,hx104e,hm102⟩:=bs hm102
 have hx104:=idx_some hx104e
 refine Qa (Ix sl22 (STy.keep _ z13 hB n_h_x0_C_From) hx104 rfl rfl rfl) <| Qa (Ei na2 (STy.keep _ z13 hB n_h_x0_C_From) hx104 rfl) <| Qa (Mi rfl) <| Qa (Be rfl rfl) <| Qa (Mb rfl) <| ?_
 rcases Bool.eq_false_or_eq_true (e103 == s0_5) with p0 | p0
 rw [p0] at hm102
 refine Qg rfl p0 (Mv v_x1 rfl) <| Qg rfl p0 (Fr fa96_0 rfl) <| Qg rfl p0 (Fr fa32_2 rfl) <| Qg rfl p0 (Lr na22 p2 rfl rfl) <| Qg rfl p0 (Mi rfl) <| ?_
 obtain ⟨e106,hx107e,hm102⟩:=bs hm102
 have hx107:=idx_some hx107e
 refine Qg rfl p0 (Ix sl22 (STy.keep _ z12 hB n_h_x0_C_To) hx107 rfl rfl rfl) <| Qg rfl p0 (Ei na2 (STy.keep _ z12 hB n_h_x0_C_To) hx107 rfl) <| ?_
 obtain ⟨e108,hx109e,hm102⟩:=bs hm102
 have hx109:=idx_some hx109e
 refine Qg rfl p0 (Ix sl97 ((Le.own (Le.own (Le.refl _) 4) 138).le o_x1.1) hx109 rfl rfl rfl) <| ?_
 obtain ⟨u110,fu111,hu112,qy,hs114⟩:=one_get rfl ((Le.own (Le.own (Le.refl _) 4) 138).le o_x1.1) hx109.1 hx109.2
 refine Qg rfl p0 (Ld na138 hu112 rfl) <| Qg rfl p0 (Fr fa96_2 rfl) <| Qg rfl p0 (Lr na23 p2 rfl rfl) <| Qg rfl p0 (Mi rfl) <| ?_
 obtain ⟨e115,hx116e,hm102⟩:=bs hm102
 have hx116:=idx_some hx116e
 refine Qg rfl p0 (Ix sl23 (STy.keep _ z1s hB n_h_x0_Pulls) hx116 rfl rfl rfl) <| ?_
 obtain ⟨u117,fu118,hu119,p01,hs121⟩:=one_getP rfl z1s hB n_h_x0_Pulls hx116.1 hx116.2
 have n_hr120:Dis fu118 f_x1:=fun b hb=>n_h_x0_Pulls b (hs121 b hb)
 refine Qg rfl p0 (Ld na22 hu119 rfl) <| Qg rfl p0 (Mi rfl) <| ?_
 obtain ⟨e122,hx123e,hm102⟩:=bs hm102
 have hx123:=idx_some hx123e
 refine Qg rfl p0 (Ix sl22 (STy.keep _ p01 hB n_hr120) hx123 rfl rfl rfl) <| Qg rfl p0 (Ei na2 (STy.keep _ p01 hB n_hr120) hx123 rfl) <| ?_
 obtain ⟨e124,hx125e,hm102⟩:=bs hm102
 have hx125:=idx_some hx125e
 refine Qg rfl p0 (Ix sl138 qy hx125 rfl rfl rfl) <| Qg rfl p0 (Eb na4 qy hx125 rfl) <| Qg rfl p0 (Nt rfl) <| Qa (PTb rfl p0 rfl) <| ?_
 cases hm102
 exact fe rfl
 rw [p0] at hm102
 refine Sk rfl p0 rfl <| Sk rfl p0 rfl <| Sk rfl p0 rfl <| Sk rfl p0 rfl <| Sk rfl p0 rfl <| Sk rfl p0 rfl <| Sk rfl p0 rfl <| Sk rfl p0 rfl <| Sk rfl p0 rfl <| Sk rfl p0 rfl <| Sk rfl p0 rfl <| Sk rfl p0 rfl <| Sk rfl p0 rfl <| Sk rfl p0 rfl <| Sk rfl p0 rfl <| Sk rfl p0 rfl <| ?_
 refine Sk rfl p0 rfl <| Sk rfl p0 rfl <| Sk rfl p0 rfl <| Sk rfl p0 rfl <| Qa (PFb rfl p0 rfl) <| ?_
 cases hm102
 exact fe rfl
 rintro _ ⟨F,rfl⟩
 refine fun p58 pn=>anz <| W_cond (b:=g101) rfl ?_ ?_
 intro n0
 rw [n0] at ho
 refine wq <| ?_
 obtain ⟨e129,hx130e,ho⟩:=bs ho
 have hx130:=idx_some hx130e
 obtain ⟨e131,hx132e,ho⟩:=bs ho
 have hx132:=idx_some hx132e
 obtain ⟨u133,fu134,hu135,n1,hs137⟩:=one_get rfl ((Le.own (Le.own (Le.refl _) 4) 138).le o_x1.1) hx132.1 hx132.2
 obtain ⟨e138,hx139e,ho⟩:=bs ho
 have hx139:=idx_some hx139e
 obtain ⟨u140,fu141,hu142,p02,hs144⟩:=one_getP rfl z1s hB n_h_x0_Pulls hx139.1 hx139.2
 have n_hr143:Dis fu141 f_x1:=fun b hb=>n_h_x0_Pulls b (hs144 b hb)
 obtain ⟨e145,hx146e,ho⟩:=bs ho
 have hx146:=idx_some hx146e
 refine W_any (m:=17) (U:=.replicate 17 []) (S:=[sV (v_x1),sV (.pointer (some (⟨b8,0,none⟩))),sV (.pointer (some (⟨b8,2,none⟩))),sV (zx),sV (.int .i64 (s2_7)),sV (.pointer (some (elA (zx) 1 (s2_7)))),sV (.int .i64 (e129)),sV (.pointer (some (elA (v_x1) 1 (e129)))),sV (u133),sV (.pointer (some (⟨b8,6,none⟩))),sV (z15),sV (.int .i64 (s2_7)),sV (.pointer (some (elA (z15) 1 (s2_7)))),sV (u140),sV (.int .i64 (s1_6)),sV (.pointer (some (elA (u140) 1 (s1_6)))),sV (.int .i64 (e145))]) (Z:=[]) hmix rfl (by decide) (by decide +kernel) (fun _ _ _ h=>np_out h) (by decide) rfl (by decide +kernel) (stable_all (by repeat first | exact stable_nil | refine stable_cons stable_val ?_ | refine stable_cons stable_own ?_)) ?_ ?_
 refine owes_cons ?_ <| owes_cons ?_ <| owes_cons ?_ <| owes_cons ?_ <| owes_cons ?_ <| owes_cons ?_ <| owes_cons ?_ <| owes_cons ?_ <| owes_cons ?_ <| owes_cons ?_ <| owes_cons ?_ <| owes_cons ?_ <| owes_cons ?_ <| owes_cons ?_ <| owes_cons ?_ <| owes_cons ?_ <| owes_cons ?_ <| owes_nil
 exact Oh rfl rfl rfl [(1,v_x1)] pn rfl rfl fun _=>Mv v_x1 rfl
 exact Oh rfl rfl rfl [(2,.pointer (some (⟨b8,0,none⟩)))] pn rfl rfl fun _=>Fr fa96_0 rfl
 exact Ov rfl rfl rfl [] [(92,.pointer (some (⟨b8,0,none⟩)))] [1] pn rfl rfl (by decide +kernel) rfl fun _=>Fr fa32_2 rfl
 exact Ov rfl rfl rfl [] [(93,.pointer (some (⟨b8,2,none⟩)))] [2] pn rfl rfl (by decide +kernel) rfl fun _=>Lr na22 p2 rfl rfl
 exact Oh rfl rfl rfl [(7,.int .i64 (s2_7))] pn rfl rfl fun _=>Mi rfl
 exact Ov rfl rfl rfl [] [(94,zx),(95,.int .i64 (s2_7))] [3,4] pn rfl rfl (by decide +kernel) rfl fun _=>Ix sl22 (STy.keep _ z12 hB n_h_x0_C_To) hx130 rfl rfl rfl
 exact Ov rfl rfl rfl [] [(96,.pointer (some (elA (zx) 1 (s2_7))))] [5] pn rfl rfl (by decide +kernel) rfl fun _=>Ei na2 (STy.keep _ z12 hB n_h_x0_C_To) hx130 rfl
 exact Ov rfl rfl rfl [] [(91,v_x1),(97,.int .i64 (e129))] [0,6] pn rfl rfl (by decide +kernel) rfl fun _=>Ix sl97 ((Le.own (Le.own (Le.refl _) 4) 138).le o_x1.1) hx132 rfl rfl rfl
 exact Ov rfl rfl rfl [] [(98,.pointer (some (elA (v_x1) 1 (e129))))] [7] pn rfl rfl (by decide +kernel) rfl fun _=>Ld na138 hu135 rfl
 exact Oh rfl rfl rfl [(2,.pointer (some (⟨b8,0,none⟩)))] pn rfl rfl fun _=>Fr fa96_2 rfl
 exact Ov rfl rfl rfl [] [(100,.pointer (some (⟨b8,6,none⟩)))] [9] pn rfl rfl (by decide +kernel) rfl fun _=>Lr na23 p2 rfl rfl
 exact Oh rfl rfl rfl [(7,.int .i64 (s2_7))] pn rfl rfl fun _=>Mi rfl
 exact Ov rfl rfl rfl [] [(101,z15),(102,.int .i64 (s2_7))] [10,11] pn rfl rfl (by decide +kernel) rfl fun _=>Ix sl23 (STy.keep _ z1s hB n_h_x0_Pulls) hx139 rfl rfl rfl
 exact Ov rfl rfl rfl [] [(103,.pointer (some (elA (z15) 1 (s2_7))))] [12] pn rfl rfl (by decide +kernel) rfl fun _=>Ld na22 hu142 rfl
 exact Oh rfl rfl rfl [(6,.int .i64 (s1_6))] pn rfl rfl fun _=>Mi rfl
 exact Ov rfl rfl rfl [] [(104,u140),(105,.int .i64 (s1_6))] [13,14] pn rfl rfl (by decide +kernel) rfl fun _=>Ix sl22 (STy.keep _ p02 hB n_hr143) hx146 rfl rfl rfl
 exact Ov rfl rfl rfl [] [(106,.pointer (some (elA (u140) 1 (s1_6))))] [15] pn rfl rfl (by decide +kernel) rfl fun _=>Ei na2 (STy.keep _ p02 hB n_hr143) hx146 rfl
 rintro g r gj ⟨kk,hdone,hot,hfresh,hdis⟩
 have hdd:=hdis
 obtain ⟨F,rfl⟩:=fw hdone hot [] [(99,u133),(107,.int .i64 (e145))] [8,16] rfl rfl rfl rfl (z:=[]) trivial
 have jh:=(pn.trans kk)
 replace o_x1:=ko o_x1 jh
 replace p2:=kr p2 jh
 replace hu135:=jh.cell0 hu135
 replace n1:=kp _ n1 jh
 replace hB:=(hB.trans (Chg.nil jh))
 obtain ⟨e150,hx151e,ho⟩:=bs ho
 have hx151:=idx_some hx151e
 refine Wb (Ix sl138 n1 hx151 rfl rfl rfl) <| ?_
 obtain ⟨k152,p3f,hk154,hf155⟩:=own_focus rfl hB.size o_x1 hx132.2 hu135
 have kl:Dis k152 [b8]:=fun b hb=>jg b (hk154 b hb)
 refine WL.storeEl (z':=true) _ _ sBool_nofp rfl info4 sz4 p3f hx151.2 rfl rfl ⟨rfl,rfl⟩ fun p3g n2 p3h=>?_
 obtain ⟨p59,p3i,hs162⟩:=hf155 _ _ _ n2 p3h
 replace p2:=Row.keep p2 n2 ((kl).symm _ (ms rfl))
 replace hB:=hB.then n2 (fun b hb=>o_x1.2.2 b (hk154 b hb))
 refine anz <| wq <| Wq rfl (cr [] p3g) <| Qa (Ab rfl) <| fun gk pm=>anz <| ?_
 cases ho
 exact W_ret ⟨_,res_1 Tryz.results137,_,rfl,(hB.trans (Chg.nil pm)),(ko p3i pm)⟩
 intro n0
 rw [n0] at ho
 refine W_skip <| inBlk_n <| anz <| Wq rfl pn <| Qa (Mi rfl) <| Qa (Ba rfl rfl) <| Qa (Ai rfl) <| fun p5a n3=>?_
 cases ho
 exact ⟨(hB.trans (Chg.nil n3)),(ko o_x1 n3),(kr p2 n3),jg,fe rfl⟩
 intro kz
 rw [kz] at ho
 refine W_exit <| andThen_x <| ?_
 cases ho
 exact ⟨rfl,⟨(hB.trans (Chg.nil jv)),(ko o_x1 jv),(kr p2 jv),jg,fe rfl⟩⟩
 rintro s2_7 _ p3j ⟨hB,o_x1,p2,jg,F,rfl⟩ ho
 refine anz <| wq <| Wq rfl (cr [] p3j) <| Qa (Ai rfl) <| fun p5b n4=>anz <| Wf (S1:=Int) (fun (s3_8:Int) r w'=>Chg f_x1 w w'∧OE f_x1 w.heap.size w' (sOwn 138 (sOwn 4 sBool)) [v_x1] (x1) f_x1∧Row w' b8 [.int .i64 (x0.C.Objects),zy,zx,z10,z11,z14,z15,z16] 96∧Dis f_x1 [b8]∧∃ F,r=updL F [(1,v_x1),(2,.pointer (some (⟨b8,0,none⟩))),(5,.int .i64 (s0_5)),(6,.int .i64 (s1_6)),(8,.int .i64 (s3_8))]) (spec_l27Step_T v_x1 f_x1 w) ho ⟨(hB.trans (Chg.nil n4)),(ko o_x1 n4),(kr p2 n4),(jg),fe rfl⟩ ?_ ?_
 rintro s3_8 _ p3k ⟨hB,o_x1,p2,ji,F,rfl⟩ o ho
 replace ho:spec_l27Step_L3 x0 x1 s0_5 s1_6 s3_8=some o:=ho
 unfold spec_l27Step_L3 at ho
 refine wq <| wq <| Wq rfl (cr [] p3k) <| Qa (Mi rfl) <| Qa (Mv v_x1 rfl) <| Qa (Mi rfl) <| ?_
 obtain ⟨e174,hx175e,ho⟩:=bs ho
 have hx175:=idx_some hx175e
 refine Qa (Ix sl97 ((Le.own (Le.own (Le.refl _) 4) 138).le o_x1.1) hx175 rfl rfl rfl) <| ?_
 obtain ⟨u176,fu177,hu178,p3l,hs180⟩:=one_get rfl ((Le.own (Le.own (Le.refl _) 4) 138).le o_x1.1) hx175.1 hx175.2
 refine Qa (Ld na138 hu178 rfl) <| Qa (Ln sl138 p3l rfl) <| Qa (Bl rfl rfl) <| fun p5c jw=>anz <| W_cond (b:=decide (s3_8 < (e174.length:Int))) rfl ?_ ?_
 intro n5
 rw [n5] at ho
 refine W_skip <| anz <| wq <| W_block <| wq <| Wq rfl jw <| ?_
 obtain ⟨g184,hm185,ho⟩:=bs ho
 refine QL.meet (fun r=>∃ F,r=updL F [(1,v_x1),(2,.pointer (some (⟨b8,0,none⟩))),(5,.int .i64 (s0_5)),(6,.int .i64 (s1_6)),(8,.int .i64 (s3_8)),(133,.bool (g184))]) ?_ ?_
 skip
 refine Qa (Mv v_x1 rfl) <| Qa (Mi rfl) <| ?_
 obtain ⟨e186,hx187e,hm185⟩:=bs hm185
 have hx187:=idx_some hx187e
 refine Qa (Ix sl97 ((Le.own (Le.own (Le.refl _) 4) 138).le o_x1.1) hx187 rfl rfl rfl) <| ?_
 obtain ⟨u188,fu189,hu190,p03,hs192⟩:=one_get rfl ((Le.own (Le.own (Le.refl _) 4) 138).le o_x1.1) hx187.1 hx187.2
 refine Qa (Ld na138 hu190 rfl) <| Qa (Mi rfl) <| ?_
 obtain ⟨e193,hx194e,hm185⟩:=bs hm185
 have hx194:=idx_some hx194e
 refine Qa (Ix sl138 p03 hx194 rfl rfl rfl) <| Qa (Eb na4 p03 hx194 rfl) <| Qa (Nt rfl) <| Qa (Mb rfl) <| ?_
 rcases Bool.eq_false_or_eq_true (!(e193)) with pq | pq
 rw [pq] at hm185
 refine Qg rfl pq (Lg ag96 p2.at rfl rfl) <| Qg rfl pq (Mv v_x1 rfl) <| Qg rfl pq (Mi rfl) <| Qg rfl pq (Mi rfl) <| Qg rfl pq (Mi rfl) <| ?_
 obtain ⟨y196,p3m,hm185⟩:=bs hm185
 refine Qcg rfl pq Tryz.func207 rfl rfl (fun _ hC=>spec_l27Local_calls (STy.keep _ z13 (hB.trans (Chg.nil hC)) n_h_x0_C_From) (STy.keep _ z12 (hB.trans (Chg.nil hC)) n_h_x0_C_To) (STy.keep _ z17 (hB.trans (Chg.nil hC)) n_h_x0_C_Identity) (STy.keep _ z18 (hB.trans (Chg.nil hC)) n_h_x0_C_Composites) (STy.keep _ z1r (hB.trans (Chg.nil hC)) n_h_x0_Lists) (STy.keep _ z1s (hB.trans (Chg.nil hC)) n_h_x0_Pulls) (STy.keep _ z21 (hB.trans (Chg.nil hC)) n_h_x0_Tops) ((Le.own (Le.own (Le.refl _) 4) 138).le (kp _ o_x1.1 hC)) p3m) <| Qa (PTb rfl pq rfl) <| ?_
 cases hm185
 exact fe rfl
 rw [pq] at hm185
 refine Sk rfl pq rfl <| Sk rfl pq rfl <| Sk rfl pq rfl <| Sk rfl pq rfl <| Sk rfl pq rfl <| Sk rfl pq rfl <| Qa (PFb rfl pq rfl) <| ?_
 cases hm185
 exact fe rfl
 rintro _ ⟨F,rfl⟩
 refine fun p3n jj=>anz <| W_cond (b:=g184) rfl ?_ ?_
 intro n6
 rw [n6] at ho
 refine wq <| W_region rfl <| Wb (Mv v_x1 rfl) <| Wb (Mi rfl) <| ?_
 obtain ⟨e201,hx202e,ho⟩:=bs ho
 have hx202:=idx_some hx202e
 refine Wa jj (Ix sl97 ((Le.own (Le.own (Le.refl _) 4) 138).le o_x1.1) hx202 rfl rfl rfl) <| ?_
 obtain ⟨u203,fu204,hu205,n7,hs207⟩:=one_get rfl ((Le.own (Le.own (Le.refl _) 4) 138).le o_x1.1) hx202.1 hx202.2
 refine Wa jj (Ld na138 hu205 rfl) <| Wb (Mi rfl) <| ?_
 obtain ⟨e208,hx209e,ho⟩:=bs ho
 have hx209:=idx_some hx209e
 refine Wa jj (Ix sl138 n7 hx209 rfl rfl rfl) <| ?_
 have jk:=jj.trans (cr [] p3n)
 replace hu205:=jk.cell0 hu205
 replace n7:=kp _ n7 jk
 replace o_x1:=ko o_x1 jk
 replace p2:=kr p2 jk
 replace hB:=(hB.trans (Chg.nil jk))
 obtain ⟨k211,p3o,hk213,hf214⟩:=own_focus rfl hB.size o_x1 hx202.2 hu205
 have p3p:Dis k211 [b8]:=fun b hb=>ji b (hk213 b hb)
 refine WL.storeEl (z':=true) _ _ sBool_nofp rfl info4 sz4 p3o hx209.2 rfl rfl ⟨rfl,rfl⟩ fun p3q n8 p3r=>?_
 obtain ⟨p5d,p3s,hs221⟩:=hf214 _ _ _ n8 p3r
 replace p2:=Row.keep p2 n8 ((p3p).symm _ (ms rfl))
 replace hB:=hB.then n8 (fun b hb=>o_x1.2.2 b (hk213 b hb))
 refine anz <| wq <| Wq rfl (cr [] p3q) <| Qa (Ab rfl) <| fun p5e p04=>anz <| ?_
 cases ho
 exact W_ret ⟨_,res_1 Tryz.results137,_,rfl,(hB.trans (Chg.nil p04)),(ko p3s p04)⟩
 intro n6
 rw [n6] at ho
 refine W_skip <| inBlk_n <| anz <| Wq rfl jj <| Qa (Mi rfl) <| Qa (Ba rfl rfl) <| Qa (Ai rfl) <| fun p5f n9=>?_
 cases ho
 exact ⟨(hB.trans (Chg.nil n9)),(ko o_x1 n9),(kr p2 n9),ji,fe rfl⟩
 intro n5
 rw [n5] at ho
 refine W_exit <| andThen_x <| ?_
 cases ho
 exact ⟨rfl,⟨(hB.trans (Chg.nil jw)),(ko o_x1 jw),(kr p2 jw),ji,fe rfl⟩⟩
 rintro s3_8 _ p3t ⟨hB,o_x1,p2,ji,F,rfl⟩ ho
 refine inBlk_n <| anz <| Wq rfl (cr [] p3t) <| Qa (Mi rfl) <| Qa (Ba rfl rfl) <| Qa (Ai rfl) <| fun p5g na=>?_
 cases ho
 exact ⟨(hB.trans (Chg.nil na)),(ko o_x1 na),(kr p2 na),ji,fe rfl⟩
 intro kx
 rw [kx] at ho
 refine W_exit <| andThen_x <| ?_
 cases ho
 exact ⟨rfl,⟨(hB.trans (Chg.nil ju)),(ko o_x1 ju),(kr p2 ju),je,fe rfl⟩⟩
 rintro s1_6 _ p3u ⟨hB,o_x1,p2,je,F,rfl⟩ ho
 refine inBlk_n <| anz <| Wq rfl (cr [] p3u) <| Qa (Mi rfl) <| Qa (Ba rfl rfl) <| Qa (Ai rfl) <| fun p5h nb=>?_
 cases ho
 exact ⟨(hB.trans (Chg.nil nb)),(ko o_x1 nb),(kr p2 nb),je,fe rfl⟩
 intro ks
 rw [ks] at ho
 refine W_exit <| andThen_x <| ?_
 cases ho
 exact ⟨rfl,⟨(hB.trans (Chg.nil qz)),(ko o_x1 qz),(kr p2 qz),qx,fe rfl⟩⟩
 rintro s0_5 _ p3v ⟨hB,o_x1,p2,qx,F,rfl⟩ ho
 refine anz <| wq <| Wq rfl (cr [] p3v) <| Qa (Ab rfl) <| fun p5i p05=>anz <| ?_
 cases ho
 exact W_ret ⟨_,res_1 Tryz.results137,_,rfl,(hB.trans (Chg.nil p05)),(ko o_x1 p05)⟩

abbrev spec_l27Is_post (w:World) (x:(Bool)) (e:Ending) (w':World):Prop:=e = .returned (.bool x)∧Chg [] w w'
abbrev spec_l27Is_T (w:World):=Tm Tryz.prog Tryz.f71 27 (spec_l27Is_post w)
theorem spec_l27Is_calls {w:World} {x0:ML27Table} {zy:Value} {z19:List Nat} {zx:Value} {z1a:List Nat} {z10:Value} {z1b:List Nat} {z11:Value} {z1c:List Nat} {z14:Value} {z23:List Nat} {z15:Value} {z26:List Nat} {z16:Value} {z27:List Nat} {x1:(List (List Bool))} {v_x1:Value} {f_x1:List Nat} (z13:(sImm (sInt .i64)).rep w.heap [zy] x0.C.From z19) (z12:(sImm (sInt .i64)).rep w.heap [zx] x0.C.To z1a) (z17:(sImm (sInt .i64)).rep w.heap [z10] x0.C.Identity z1b) (z18:(sImm (sImm (sInt .i64))).rep w.heap [z11] x0.C.Composites z1c) (z1r:(sImm (sImm (sImm (sInt .i64)))).rep w.heap [z14] x0.Lists z23) (z1s:(sImm (sImm (sInt .i64))).rep w.heap [z15] x0.Pulls z26) (z21:(sImm (sInt .i64)).rep w.heap [z16] x0.Tops z27) (h_x1:(sImm (sImm sBool)).rep w.heap [v_x1] x1 f_x1) {y:(Bool)} (hm:spec_l27Is x0 x1=some y) :
  Calls Tryz.prog 71 #[.agg #[.int .i64 (x0.C.Objects),zy,zx,z10,z11,z14,z15,z16],v_x1] w (spec_l27Is_post w y):=by
 refine Cm (S:=Unit) Tryz.func71 rfl Tryz.ntmps71 rfl hm fun o ho hB=>?_
 clear hm
 refine wq <| W_region rfl <| WL.box fun b1 wd2 hC3 hr4 hl5=>?_
 replace hr4:Row wd2 b1 [.int .i64 (x0.C.Objects),zy,zx,z10,z11,z14,z15,z16] 96:=hr4
 replace hB:=(hB.trans hC3)
 refine Wb (Ab rfl) <| anz <| wq <| W_region rfl <| WL.lit0 (sOwn 4 sBool) u97 info138 fun v8 wd9 f10 j4 qf=>?_
 have k8:=dl (ofr qf) (one_lt (Row.lt hr4))
 replace qf:=OE.low (G:=[]) qf hB.size
 replace hr4:=kr hr4 j4
 replace hB:=(hB.trans j4)
 refine Wb (Av v8 rfl) <| anz <| wq <| wq <| Wq rfl (cr [] wd9) <| Qa (Ai rfl) <| fun jq q5=>anz <| Wf (S1:=(List (List Bool))×Int) (fun s r w'=>match s with | (s0_5,s0_6)=>∃ (v17:Value) (q6:List Nat),Chg [] w w'∧Row w' b1 [.int .i64 (x0.C.Objects),zy,zx,z10,z11,z14,z15,z16] 96∧OE [] w.heap.size w' (sOwn 138 (sOwn 4 sBool)) [v17] (s0_5) q6∧Dis [b1] q6∧∃ F,r=updL F [(1,v_x1),(2,.pointer (some (⟨b1,0,none⟩))),(5,v17),(6,.int .i64 (s0_6))]) (spec_l27Is_T w) ho ⟨_,_,(hB.trans q5),(kr hr4 q5),(ko qf q5),((k8).symm),fe rfl⟩ ?_ ?_
 rintro ⟨s0_5,s0_6⟩ _ jp ⟨v17,q6,hB,hr4,p1,pi,F,rfl⟩ o ho
 replace ho:spec_l27Is_L0 x1 s0_5 s0_6=some o:=ho
 unfold spec_l27Is_L0 at ho
 refine wq <| wq <| Wq rfl (cr [] jp) <| Qa (Mi rfl) <| Qa (Mv v_x1 rfl) <| Qa (Ln sl97 (kB h_x1 hB) rfl) <| Qa (Bl rfl rfl) <| fun j5 pd=>anz <| W_cond (b:=decide (s0_6 < (x1.length:Int))) rfl ?_ ?_
 intro qp
 rw [qp] at ho
 refine W_skip <| anz <| wq <| W_block <| W_region rfl <| Wb (Mv v17 rfl) <| WL.lit0 sBool u138 info4 fun v25 j2 f27 jc j0=>?_
 have d30:=dl (ofr j0) (one_lt (Row.lt (kr hr4 pd)))
 have d31:=dl (ofr j0) (sl _ (kp _ p1.1 pd))
 replace j0:=OE.low (G:=[]) j0 (hB.trans pd).size
 have nc:=pd.trans jc
 replace hr4:=kr hr4 nc
 replace p1:=ko p1 nc
 replace hB:=(hB.trans nc)
 refine Wb (Mv v_x1 rfl) <| Wb (Mi rfl) <| ?_
 obtain ⟨e33,hx34e,ho⟩:=bs ho
 have hx34:=idx_some hx34e
 refine Wb (Ix sl97 (kB h_x1 hB) hx34 rfl rfl rfl) <| ?_
 obtain ⟨u35,fu36,hu37,p3w,hs39⟩:=one_get rfl h_x1 hx34.1 hx34.2
 refine Wb (Ld na138 (hB.cell0 hu37) rfl) <| ?_
 obtain ⟨n46,hn47,ho⟩:=bs ho
 have hn47a:=fits_some hn47
 refine WL.appendS (E:=sBool) _ _ sBool_nofp u138 info4 zr4 sz4 rfl rfl rfl j0 rfl (kp _ p3w hB) (by rw [by4]; exact hn47a.1) hn47a.2 hB.size fun v40 p5k f42 qj ph hs45=>?_
 have d48:=dis_upd hs45 d30 (fun _ h=>nomatch h) (one_lt (Row.lt hr4))
 have d49:=dis_upd hs45 d31 (fun _ h=>nomatch h) (sl _ p1.1)
 replace hr4:=Row.keep hr4 qj ((d30).symm _ (ms rfl))
 replace p1:=okp p1 qj (d31).symm
 replace hB:=hB.then qj j0.2.2
 refine WL.lit1 u97 info138 zr138 sz138 (STy.one _ ph.1 _ (ms rfl)) fun b51 p08 j1 jl p40=>?_
 replace jl:Row p08 b51 [v40] 138:=jl
 have d58:=dl (onw p40) (sl _ p1.1)
 replace hr4:=kr hr4 j1
 replace p1:=ko p1 j1
 replace ph:=ko ph j1
 replace hB:=(hB.trans j1)
 obtain ⟨n67,hn68,ho⟩:=bs ho
 have hn68a:=fits_some hn68
 refine WL.append1 (E:=(sOwn 4 sBool)) _ _ u97 info138 zr138 sz138 rfl rfl rfl p1 rfl jl ph.1 ph.2.1 ph.2.2 d49 (by rw [by138]; exact hn68a.1) hn68a.2 hB.size fun v61 gt f63 nd o65 hs66=>?_
 have d69:=dis_upd hs66 (pi).symm d48 (one_lt (Row.lt hr4))
 replace hr4:=Row.keep hr4 nd (pi _ (ms rfl))
 replace jl:=Row.keep jl nd (d58 _ (ms rfl))
 replace hB:=hB.then nd p1.2.2
 refine Wb (Av v61 rfl) <| inBlk_n <| anz <| Wq rfl (cr [] gt) <| Qa (Mi rfl) <| Qa (Ba rfl rfl) <| Qa (Ai rfl) <| fun p44 jm=>?_
 cases ho
 exact ⟨_,_,(hB.trans jm),(kr hr4 jm),(ko o65 jm),((d69).symm),fe rfl⟩
 intro qp
 rw [qp] at ho
 refine W_exit <| andThen_x <| ?_
 cases ho
 exact ⟨rfl,⟨_,_,(hB.trans pd),(kr hr4 pd),(ko p1 pd),pi,fe rfl⟩⟩
 rintro ⟨s0_5,s0_6⟩ _ p09 ⟨v17,q6,hB,hr4,p1,pi,F,rfl⟩ ho
 dsimp only at ho
 refine anz <| wq <| W_region rfl <| Wb (Lg ag96 hr4.at rfl rfl) <| Wb (Mv v17 rfl) <| ?_
 obtain ⟨y76,p45,ho⟩:=bs ho
 refine WL.call rfl (op_callF Tryz.func137 rfl rfl) (spec_l27Step_calls (kp _ z13 hB) (kp _ z12 hB) (kp _ z17 hB) (kp _ z18 hB) (kp _ z1r hB) (kp _ z1s hB) (kp _ z21 hB) (OE.give (B':=p09.heap.size) p1 fun _ h=>h) (dis_par (sl _ z13) p1.2.2) (dis_par (sl _ z12) p1.2.2) (dis_par (sl _ z17) p1.2.2) (dis_par (sl _ z18) p1.2.2) (dis_par (sl _ z1r) p1.2.2) (dis_par (sl _ z1s) p1.2.2) (dis_par (sl _ z21) p1.2.2) p45) <| ?_
 rintro _ p46 ⟨f80,rfl,jn,o81⟩
 refine ⟨_,rfl,?_⟩
 replace o81:=OE.back o81 p1.2.2 hB.size
 replace hr4:=Row.keep hr4 jn ((Dis.symm (pi).symm) _ (ms rfl))
 replace hB:=hB.then jn p1.2.2
 refine Wb (Nt rfl) <| Wb (Ab rfl) <| anz <| ?_
 cases ho
 exact W_ret ⟨_,res_1 Tryz.results71,rfl,hB⟩

abbrev impl_Category_arrows_post (w:World) (x:(Int)) (e:Ending) (w':World):Prop:=e = .returned (.int .i64 x)∧Chg [] w w'
abbrev impl_Category_arrows_T (w:World):=Tm Tryz.prog Tryz.f105 8 (impl_Category_arrows_post w)
theorem impl_Category_arrows_calls {w:World} {x0:MCategory} {p_x0:Addr} {z2:Value} {ze:List Nat} {z1:Value} {zf:List Nat} {z7:Value} {zg:List Nat} {z6:Value} {zh:List Nat} (z8:(sImm (sInt .i64)).rep w.heap [z2] x0.From ze) (za:(sImm (sInt .i64)).rep w.heap [z1] x0.To zf) (zc:(sImm (sInt .i64)).rep w.heap [z7] x0.Identity zg) (zb:(sImm (sImm (sInt .i64))).rep w.heap [z6] x0.Composites zh) (a_x0:At w p_x0 [.int .i64 (x0.Objects),z2,z1,z7,z6]) {y:(Int)} (hm:impl_Category_arrows x0=some y) :
  Calls Tryz.prog 105 #[.pointer (some (p_x0))] w (impl_Category_arrows_post w y):=by
 refine Cm (S:=Unit) Tryz.func105 rfl Tryz.ntmps105 rfl hm fun o ho hB=>?_
 clear hm
 refine wq <| Wq rfl (cr [] w) <| Qa (Ai rfl) <| fun wd1 hC2=>anz <| wq <| Wq rfl hC2 <| Qa (Mp rfl) <| Qa (Nk rfl) <| Qa (Fp fa32_1 rfl) <| Qa (La na22 (At.keep0 a_x0 hB) rfl rfl) <| Qa (Ln sl22 (kB z8 hB) rfl) <| Qa (Ai rfl) <| fun wd3 hC4=>anz <| ?_
 cases ho
 exact W_ret ⟨_,res_1 Tryz.results105,rfl,(hB.trans hC4)⟩

abbrev impl_inRange_post (w:World) (x:(Bool)) (e:Ending) (w':World):Prop:=e = .returned (.bool x)∧Chg [] w w'
abbrev impl_inRange_T (w:World):=Tm Tryz.prog Tryz.f81 15 (impl_inRange_post w)
theorem impl_inRange_calls {w:World} {x0:Int} {x1:Int} {x2:Int}  {y:(Bool)} (hm:impl_inRange x0 x1 x2=some y) :
  Calls Tryz.prog 81 #[.int .i64 (x0),.int .i64 (x1),.int .i64 (x2)] w (impl_inRange_post w y):=by
 refine Cm (S:=Unit) Tryz.func81 rfl Tryz.ntmps81 rfl hm fun o ho hB=>?_
 clear hm
 refine wq <| Wq rfl (cr [] w) <| Qa (Ab rfl) <| fun wd1 hC2=>anz <| wq <| Wq rfl hC2 <| ?_
 obtain ⟨g3,hm4,ho⟩:=bs ho
 refine QL.meet (fun r=>∃ F,r=updL F [(6,.bool (g3))]) ?_ ?_
 skip
 refine Qa (Mi rfl) <| Qa (Mi rfl) <| Qa (Bh rfl rfl) <| Qa (Mb rfl) <| ?_
 rcases Bool.eq_false_or_eq_true (decide (x0 ≥ x1)) with hb5 | hb5
 rw [hb5] at hm4
 refine Qg rfl hb5 (Mi rfl) <| Qg rfl hb5 (Mi rfl) <| Qg rfl hb5 (Bk rfl rfl) <| Qa (PTb rfl hb5 rfl) <| Qa (Ab rfl) <| ?_
 cases hm4
 exact fe rfl
 rw [hb5] at hm4
 refine Sk rfl hb5 rfl <| Sk rfl hb5 rfl <| Sk rfl hb5 rfl <| Qa (PFb rfl hb5 rfl) <| Qa (Ab rfl) <| ?_
 cases hm4
 exact fe rfl
 rintro _ ⟨F,rfl⟩
 refine fun wd6 hC7=>anz <| ?_
 cases ho
 exact W_ret ⟨_,res_1 Tryz.results81,rfl,(hB.trans hC7)⟩

abbrev impl_within_post (w:World) (x:(Bool)) (e:Ending) (w':World):Prop:=e = .returned (.bool x)∧Chg [] w w'
abbrev impl_within_T (w:World):=Tm Tryz.prog Tryz.f147 19 (impl_within_post w)
theorem impl_within_calls {w:World} {x0:(List Int)} {v_x0:Value} {f_x0:List Nat} {x1:Int} (h_x0:(sImm (sInt .i64)).rep w.heap [v_x0] x0 f_x0) {y:(Bool)} (hm:impl_within x0 x1=some y) :
  Calls Tryz.prog 147 #[v_x0,.int .i64 (x1)] w (impl_within_post w y):=by
 refine Cm (S:=Unit) Tryz.func147 rfl Tryz.ntmps147 rfl hm fun o ho hB=>?_
 clear hm
 refine wq <| Wq rfl (cr [] w) <| Qa (Ab rfl) <| fun wd1 hC2=>anz <| wq <| wq <| Wq rfl hC2 <| Qa (Mv v_x0 rfl) <| Qa (Ln sl22 (kB h_x0 hB) rfl) <| Qa (Mi rfl) <| fun wd3 hC4=>anz <| Wf (S1:=Int) (fun (s0_9:Int) r w'=>Chg [] w w'∧∃ F,r=updL F [(1,.int .i64 (x1)),(7,v_x0),(8,.int .i64 ((x0.length:Int))),(9,.int .i64 (s0_9))]) (impl_within_T w) ho ⟨(hB.trans hC4),fe rfl⟩ ?_ ?_
 rintro s0_9 _ wd5 ⟨hB,F,rfl⟩ o ho
 replace ho:impl_within_L0 x0 x1 s0_9=some o:=ho
 unfold impl_within_L0 at ho
 refine wq <| Wq rfl (cr [] wd5) <| Qa (Bl rfl rfl) <| fun wd6 hC7=>anz <| wq <| W_cond (b:=decide (s0_9 < (x0.length:Int))) rfl ?_ ?_
 intro hb8
 rw [hb8] at ho
 refine W_skip <| anz <| wq <| W_block <| wq <| Wq rfl hC7 <| ?_
 obtain ⟨e9,hx10e,ho⟩:=bs ho
 have hx10:=idx_some hx10e
 refine Qa (Ix sl22 (kB h_x0 hB) hx10 rfl rfl rfl) <| Qa (Ei na2 (kB h_x0 hB) hx10 rfl) <| Qa (Ai rfl) <| fun p5o p47=>anz <| wq <| Wq rfl p47 <| Qa (Mi rfl) <| Qa (Mi rfl) <| Qa (Bs rfl rfl) <| ?_
 obtain ⟨y13,p48,ho⟩:=bs ho
 refine Qc Tryz.func81 rfl rfl (fun _ hC=>impl_inRange_calls  p48) <| Qa (Nt rfl) <| fun jq q5=>anz <| W_cond (b:=!(y13)) rfl ?_ ?_
 intro ne
 rw [ne] at ho
 refine wq <| Wq rfl q5 <| Qa (Ab rfl) <| fun p10 jo=>anz <| ?_
 cases ho
 exact W_ret ⟨_,res_1 Tryz.results147,rfl,(hB.trans jo)⟩
 intro ne
 rw [ne] at ho
 refine W_skip <| inBlk_n <| anz <| Wq rfl q5 <| Qa (Ba rfl rfl) <| Qa (Mi rfl) <| fun p35 qz=>?_
 cases ho
 exact ⟨(hB.trans qz),fe rfl⟩
 intro hb8
 rw [hb8] at ho
 refine W_exit <| andThen_x <| ?_
 cases ho
 exact ⟨rfl,⟨(hB.trans hC7),fe rfl⟩⟩
 rintro s0_9 _ j5 ⟨hB,F,rfl⟩ ho
 refine anz <| wq <| Wq rfl (cr [] j5) <| Qa (Ab rfl) <| fun p12 k7=>anz <| ?_
 cases ho
 exact W_ret ⟨_,res_1 Tryz.results147,rfl,(hB.trans k7)⟩

abbrev impl_Category_ends_post (w:World) (x:(MEnds)) (e:Ending) (w':World):Prop:=e = .returned (.agg #[.int .i64 x.From,.int .i64 x.To])∧Chg [] w w'
abbrev impl_Category_ends_T (w:World):=Tm Tryz.prog Tryz.f212 20 (impl_Category_ends_post w)
theorem impl_Category_ends_calls {w:World} {x0:MCategory} {p_x0:Addr} {z2:Value} {ze:List Nat} {z1:Value} {zf:List Nat} {z7:Value} {zg:List Nat} {z6:Value} {zh:List Nat} {x1:Int} (z8:(sImm (sInt .i64)).rep w.heap [z2] x0.From ze) (za:(sImm (sInt .i64)).rep w.heap [z1] x0.To zf) (zc:(sImm (sInt .i64)).rep w.heap [z7] x0.Identity zg) (zb:(sImm (sImm (sInt .i64))).rep w.heap [z6] x0.Composites zh) (a_x0:At w p_x0 [.int .i64 (x0.Objects),z2,z1,z7,z6]) {y:(MEnds)} (hm:impl_Category_ends x0 x1=some y) :
  Calls Tryz.prog 212 #[.pointer (some (p_x0)),.int .i64 (x1)] w (impl_Category_ends_post w y):=by
 refine Cm (S:=Unit) Tryz.func212 rfl Tryz.ntmps212 rfl hm fun o ho hB=>?_
 clear hm
 refine wq <| W_region rfl <| WL.alloc info238 zr238 fun b1 wd2 hC3 hr4 hl5=>?_
 replace hr4:Row wd2 b1 [.int .i64 ((0:Int)),.int .i64 ((0:Int))] 238:=hr4
 have lo6:w.heap.size≤b1:=Nat.le_trans hB.size hl5
 replace hB:=(hB.trans hC3)
 refine anz <| wq <| ?_
 obtain ⟨e8,hx9e,ho⟩:=bs ho
 have hx9:=idx_some hx9e
 obtain ⟨e10,hx11e,ho⟩:=bs ho
 have hx11:=idx_some hx11e
 refine W_any (m:=14) (U:=.replicate 14 []) (S:=[sV (.pointer (some (p_x0))),sV (.pointer (some (p_x0))),sV (.pointer (some (p_x0.add 1))),sV (z2),sV (.int .i64 (x1)),sV (.pointer (some (elA (z2) 1 (x1)))),sV (.int .i64 (e8)),sV (.pointer (some (p_x0))),sV (.pointer (some (p_x0))),sV (.pointer (some (p_x0.add 2))),sV (z1),sV (.int .i64 (x1)),sV (.pointer (some (elA (z1) 1 (x1)))),sV (.int .i64 (e10))]) (Z:=[]) hmix rfl (by decide) (by decide +kernel) (fun _ _ _ h=>np_out h) (by decide) rfl (by decide +kernel) (stable_all (by repeat first | exact stable_nil | refine stable_cons stable_val ?_ | refine stable_cons stable_own ?_)) ?_ ?_
 refine owes_cons ?_ <| owes_cons ?_ <| owes_cons ?_ <| owes_cons ?_ <| owes_cons ?_ <| owes_cons ?_ <| owes_cons ?_ <| owes_cons ?_ <| owes_cons ?_ <| owes_cons ?_ <| owes_cons ?_ <| owes_cons ?_ <| owes_cons ?_ <| owes_cons ?_ <| owes_nil
 exact Oh rfl rfl rfl [(0,.pointer (some (p_x0)))] (cr [] wd2) rfl rfl fun _=>Mp rfl
 exact Ov rfl rfl rfl [] [(5,.pointer (some (p_x0)))] [0] (cr [] wd2) rfl rfl (by decide +kernel) rfl fun _=>Nk rfl
 exact Ov rfl rfl rfl [] [(6,.pointer (some (p_x0)))] [1] (cr [] wd2) rfl rfl (by decide +kernel) rfl fun _=>Fp fa32_1 rfl
 exact Ov rfl rfl rfl [] [(7,.pointer (some (p_x0.add 1)))] [2] (cr [] wd2) rfl rfl (by decide +kernel) rfl fun _=>La na22 (At.keep0 a_x0 hB) rfl rfl
 exact Oh rfl rfl rfl [(1,.int .i64 (x1))] (cr [] wd2) rfl rfl fun _=>Mi rfl
 exact Ov rfl rfl rfl [] [(8,z2),(9,.int .i64 (x1))] [3,4] (cr [] wd2) rfl rfl (by decide +kernel) rfl fun _=>Ix sl22 (kB z8 hB) hx9 rfl rfl rfl
 exact Ov rfl rfl rfl [] [(10,.pointer (some (elA (z2) 1 (x1))))] [5] (cr [] wd2) rfl rfl (by decide +kernel) rfl fun _=>Ei na2 (kB z8 hB) hx9 rfl
 exact Oh rfl rfl rfl [(0,.pointer (some (p_x0)))] (cr [] wd2) rfl rfl fun _=>Mp rfl
 exact Ov rfl rfl rfl [] [(12,.pointer (some (p_x0)))] [7] (cr [] wd2) rfl rfl (by decide +kernel) rfl fun _=>Nk rfl
 exact Ov rfl rfl rfl [] [(13,.pointer (some (p_x0)))] [8] (cr [] wd2) rfl rfl (by decide +kernel) rfl fun _=>Fp fa32_2 rfl
 exact Ov rfl rfl rfl [] [(14,.pointer (some (p_x0.add 2)))] [9] (cr [] wd2) rfl rfl (by decide +kernel) rfl fun _=>La na22 (At.keep0 a_x0 hB) rfl rfl
 exact Oh rfl rfl rfl [(1,.int .i64 (x1))] (cr [] wd2) rfl rfl fun _=>Mi rfl
 exact Ov rfl rfl rfl [] [(15,z1),(16,.int .i64 (x1))] [10,11] (cr [] wd2) rfl rfl (by decide +kernel) rfl fun _=>Ix sl22 (kB za hB) hx11 rfl rfl rfl
 exact Ov rfl rfl rfl [] [(17,.pointer (some (elA (z1) 1 (x1))))] [12] (cr [] wd2) rfl rfl (by decide +kernel) rfl fun _=>Ei na2 (kB za hB) hx11 rfl
 rintro g r p49 ⟨jx,hdone,hot,hfresh,hdis⟩
 have hdd:=hdis
 obtain ⟨F,rfl⟩:=fw hdone hot [(4,.pointer (some (⟨b1,0,none⟩)))] [(11,.int .i64 (e8)),(18,.int .i64 (e10))] [6,13] rfl rfl rfl rfl (z:=[]) trivial
 replace hr4:=kr hr4 jx
 replace hB:=(hB.trans jx)
 refine Wb (Bu (bld238_0_1 rfl rfl)) <| WL.storeAll (us:=[.int .i64 (e8),.int .i64 (e10)]) info238 (by rw [sz238]; rfl) hr4 rfl rfl rfl (by intro u hu; simp only [List.mem_cons,List.mem_nil_iff,or_false] at hu; rcases hu with rfl | rfl <;> first | exact rfl) fun jq q5 nf=>?_
 replace nf:Row jq b1 [.int .i64 (e8),.int .i64 (e10)] 238:=nf
 replace hB:=hB.then q5 (one_then lo6)
 refine anz <| ?_
 cases ho
 exact W_ret ⟨_,res_c Tryz.results212 Tryz.underlying238 rfl info238 (by rw [sz238]; rfl) rfl nf.at,rfl,hB⟩

abbrev impl_Category_isShape_post (w:World) (x:(Bool)) (e:Ending) (w':World):Prop:=e = .returned (.bool x)∧Chg [] w w'
abbrev impl_Category_isShape_T (w:World):=Tm Tryz.prog Tryz.f162 167 (impl_Category_isShape_post w)
theorem impl_Category_isShape_calls {w:World} {x0:MCategory} {p_x0:Addr} {z2:Value} {ze:List Nat} {z1:Value} {zf:List Nat} {z7:Value} {zg:List Nat} {z6:Value} {zh:List Nat} (z8:(sImm (sInt .i64)).rep w.heap [z2] x0.From ze) (za:(sImm (sInt .i64)).rep w.heap [z1] x0.To zf) (zc:(sImm (sInt .i64)).rep w.heap [z7] x0.Identity zg) (zb:(sImm (sImm (sInt .i64))).rep w.heap [z6] x0.Composites zh) (a_x0:At w p_x0 [.int .i64 (x0.Objects),z2,z1,z7,z6]) {y:(Bool)} (hm:impl_Category_isShape x0=some y) :
  Calls Tryz.prog 162 #[.pointer (some (p_x0))] w (impl_Category_isShape_post w y):=by
 refine Cm (S:=Unit) Tryz.func162 rfl Tryz.ntmps162 rfl hm fun o ho hB=>?_
 clear hm
 refine wq <| Wq rfl (cr [] w) <| Qa (Ab rfl) <| fun wd1 hC2=>anz <| wq <| Wq rfl hC2 <| Qa (Mp rfl) <| ?_
 obtain ⟨y3,hy4,ho⟩:=bs ho
 refine Qc Tryz.func105 rfl rfl (fun _ hC=>impl_Category_arrows_calls (kp _ z8 (hB.trans hC)) (kp _ za (hB.trans hC)) (kp _ zc (hB.trans hC)) (kp _ zb (hB.trans hC)) (At.keep0 a_x0 (hB.trans hC)) hy4) <| Qa (Ai rfl) <| fun wd5 hC6=>anz <| wq <| wq <| Wqd rfl (by kernel_rfl) hC6 <| ?_
 obtain ⟨g7,hm8,ho⟩:=bs ho
 refine QL.meet (fun r=>∃ F,r=updL F [(0,.pointer (some (p_x0))),(3,.int .i64 (y3)),(54,.bool (g7))]) ?_ ?_
 skip
 refine Qa (Mp rfl) <| Qa (Nk rfl) <| Qa (F0 fa32_0 rfl) <| Qa (Lb na2 (At.keep0 a_x0 hB) rfl rfl) <| ?_
 obtain ⟨y9,p4a,hm8⟩:=bs hm8
 refine Qc Tryz.func81 rfl rfl (fun _ hC=>impl_inRange_calls  p4a) <| Qa (Nt rfl) <| Qa (Mb rfl) <| ?_
 rcases Bool.eq_false_or_eq_true (!(y9)) with qg | qg
 rw [qg] at hm8
 refine Sk rfl qg rfl <| Sk rfl qg rfl <| Qa (PTb rfl qg rfl) <| Qa (Mb rfl) <| Sk rfl rfl rfl <| Sk rfl rfl rfl <| Sk rfl rfl rfl <| Sk rfl rfl rfl <| Sk rfl rfl rfl <| Sk rfl rfl rfl <| Sk rfl rfl rfl <| Qa (PTb rfl rfl rfl) <| Qa (Mb rfl) <| Sk rfl rfl rfl <| Sk rfl rfl rfl <| Sk rfl rfl rfl <| ?_
 refine Sk rfl rfl rfl <| Sk rfl rfl rfl <| Sk rfl rfl rfl <| Sk rfl rfl rfl <| Sk rfl rfl rfl <| Sk rfl rfl rfl <| Sk rfl rfl rfl <| Qa (PTb rfl rfl rfl) <| Qa (Mb rfl) <| Sk rfl rfl rfl <| Sk rfl rfl rfl <| Sk rfl rfl rfl <| Sk rfl rfl rfl <| Sk rfl rfl rfl <| Sk rfl rfl rfl <| Sk rfl rfl rfl <| ?_
 refine Sk rfl rfl rfl <| Sk rfl rfl rfl <| Sk rfl rfl rfl <| Qa (PTb rfl rfl rfl) <| ?_
 cases hm8
 exact fe rfl
 rw [qg] at hm8
 refine Qg rfl qg (Mi rfl) <| Qg rfl qg (Bg rfl rfl) <| Qa (PFb rfl qg rfl) <| Qa (Mb rfl) <| ?_
 rcases Bool.eq_false_or_eq_true (decide (y3 > (40:Int))) with po | po
 rw [po] at hm8
 refine Sk rfl po rfl <| Sk rfl po rfl <| Sk rfl po rfl <| Sk rfl po rfl <| Sk rfl po rfl <| Sk rfl po rfl <| Sk rfl po rfl <| Qa (PTb rfl po rfl) <| Qa (Mb rfl) <| Sk rfl rfl rfl <| Sk rfl rfl rfl <| Sk rfl rfl rfl <| Sk rfl rfl rfl <| Sk rfl rfl rfl <| Sk rfl rfl rfl <| Sk rfl rfl rfl <| ?_
 refine Sk rfl rfl rfl <| Sk rfl rfl rfl <| Sk rfl rfl rfl <| Qa (PTb rfl rfl rfl) <| Qa (Mb rfl) <| Sk rfl rfl rfl <| Sk rfl rfl rfl <| Sk rfl rfl rfl <| Sk rfl rfl rfl <| Sk rfl rfl rfl <| Sk rfl rfl rfl <| Sk rfl rfl rfl <| Sk rfl rfl rfl <| Sk rfl rfl rfl <| Sk rfl rfl rfl <| Qa (PTb rfl rfl rfl) <| ?_
 cases hm8
 exact fe rfl
 rw [po] at hm8
 refine Qg rfl po (Mp rfl) <| Qg rfl po (Nk rfl) <| Qg rfl po (Fp fa32_2 rfl) <| Qg rfl po (La na22 (At.keep0 a_x0 hB) rfl rfl) <| Qg rfl po (Ln sl22 (kB za hB) rfl) <| Qg rfl po (Mi rfl) <| Qg rfl po (Bn rfl rfl) <| Qa (PFb rfl po rfl) <| Qa (Mb rfl) <| ?_
 rcases Bool.eq_false_or_eq_true (((x0.To.length:Int)) != y3) with pb | pb
 rw [pb] at hm8
 refine Sk rfl pb rfl <| Sk rfl pb rfl <| Sk rfl pb rfl <| Sk rfl pb rfl <| Sk rfl pb rfl <| Sk rfl pb rfl <| Sk rfl pb rfl <| Sk rfl pb rfl <| Sk rfl pb rfl <| Sk rfl pb rfl <| Qa (PTb rfl pb rfl) <| Qa (Mb rfl) <| Sk rfl rfl rfl <| Sk rfl rfl rfl <| Sk rfl rfl rfl <| Sk rfl rfl rfl <| ?_
 refine Sk rfl rfl rfl <| Sk rfl rfl rfl <| Sk rfl rfl rfl <| Sk rfl rfl rfl <| Sk rfl rfl rfl <| Sk rfl rfl rfl <| Qa (PTb rfl rfl rfl) <| ?_
 cases hm8
 exact fe rfl
 rw [pb] at hm8
 refine Qg rfl pb (Mp rfl) <| Qg rfl pb (Nk rfl) <| Qg rfl pb (Fp fa32_1 rfl) <| Qg rfl pb (La na22 (At.keep0 a_x0 hB) rfl rfl) <| Qg rfl pb (Mp rfl) <| Qg rfl pb (Nk rfl) <| Qg rfl pb (F0 fa32_0 rfl) <| Qg rfl pb (Lb na2 (At.keep0 a_x0 hB) rfl rfl) <| ?_
 obtain ⟨y14,p4b,hm8⟩:=bs hm8
 refine Qcg rfl pb Tryz.func147 rfl rfl (fun _ hC=>impl_within_calls (kp _ z8 (hB.trans hC)) p4b) <| Qg rfl pb (Nt rfl) <| Qa (PFb rfl pb rfl) <| Qa (Mb rfl) <| ?_
 rcases Bool.eq_false_or_eq_true (!(y14)) with pc | pc
 rw [pc] at hm8
 refine Sk rfl pc rfl <| Sk rfl pc rfl <| Sk rfl pc rfl <| Sk rfl pc rfl <| Sk rfl pc rfl <| Sk rfl pc rfl <| Sk rfl pc rfl <| Sk rfl pc rfl <| Sk rfl pc rfl <| Sk rfl pc rfl <| Qa (PTb rfl pc rfl) <| ?_
 cases hm8
 exact fe rfl
 rw [pc] at hm8
 refine Qg rfl pc (Mp rfl) <| Qg rfl pc (Nk rfl) <| Qg rfl pc (Fp fa32_2 rfl) <| Qg rfl pc (La na22 (At.keep0 a_x0 hB) rfl rfl) <| Qg rfl pc (Mp rfl) <| Qg rfl pc (Nk rfl) <| Qg rfl pc (F0 fa32_0 rfl) <| Qg rfl pc (Lb na2 (At.keep0 a_x0 hB) rfl rfl) <| ?_
 obtain ⟨y17,p4c,hm8⟩:=bs hm8
 refine Qcg rfl pc Tryz.func147 rfl rfl (fun _ hC=>impl_within_calls (kp _ za (hB.trans hC)) p4c) <| Qg rfl pc (Nt rfl) <| Qa (PFb rfl pc rfl) <| ?_
 cases hm8
 exact fe rfl
 rintro _ ⟨F,rfl⟩
 refine fun gv p0b=>anz <| W_cond (b:=g7) rfl ?_ ?_
 intro ng
 rw [ng] at ho
 refine wq <| Wq rfl p0b <| Qa (Ab rfl) <| fun j5 pd=>anz <| ?_
 cases ho
 exact W_ret ⟨_,res_1 Tryz.results162,rfl,(hB.trans pd)⟩
 intro ng
 rw [ng] at ho
 refine W_skip <| anz <| wq <| wq <| Wqd rfl (by kernel_rfl) p0b <| ?_
 obtain ⟨g24,hm25,ho⟩:=bs ho
 refine QL.meet (fun r=>∃ F,r=updL F [(0,.pointer (some (p_x0))),(3,.int .i64 (y3)),(82,.bool (g24))]) ?_ ?_
 skip
 refine Qa (Mp rfl) <| Qa (Nk rfl) <| Qa (Fp fa32_3 rfl) <| Qa (La na22 (At.keep0 a_x0 hB) rfl rfl) <| Qa (Ln sl22 (kB zc hB) rfl) <| Qa (Mp rfl) <| Qa (Nk rfl) <| Qa (F0 fa32_0 rfl) <| Qa (Lb na2 (At.keep0 a_x0 hB) rfl rfl) <| Qa (Bn rfl rfl) <| Qa (Mb rfl) <| ?_
 rcases Bool.eq_false_or_eq_true (((x0.Identity.length:Int)) != (x0.Objects)) with pp | pp
 rw [pp] at hm25
 refine Sk rfl pp rfl <| Sk rfl pp rfl <| Sk rfl pp rfl <| Sk rfl pp rfl <| Sk rfl pp rfl <| Sk rfl pp rfl <| Sk rfl pp rfl <| Qa (PTb rfl pp rfl) <| Qa (Mb rfl) <| Sk rfl rfl rfl <| Sk rfl rfl rfl <| Sk rfl rfl rfl <| Sk rfl rfl rfl <| Sk rfl rfl rfl <| Sk rfl rfl rfl <| Sk rfl rfl rfl <| ?_
 refine Qa (PTb rfl rfl rfl) <| ?_
 cases hm25
 exact fe rfl
 rw [pp] at hm25
 refine Qg rfl pp (Mp rfl) <| Qg rfl pp (Nk rfl) <| Qg rfl pp (Fp fa32_3 rfl) <| Qg rfl pp (La na22 (At.keep0 a_x0 hB) rfl rfl) <| Qg rfl pp (Mi rfl) <| ?_
 obtain ⟨y27,p4d,hm25⟩:=bs hm25
 refine Qcg rfl pp Tryz.func147 rfl rfl (fun _ hC=>impl_within_calls (kp _ zc (hB.trans hC)) p4d) <| Qg rfl pp (Nt rfl) <| Qa (PFb rfl pp rfl) <| Qa (Mb rfl) <| ?_
 rcases Bool.eq_false_or_eq_true (!(y27)) with pe | pe
 rw [pe] at hm25
 refine Sk rfl pe rfl <| Sk rfl pe rfl <| Sk rfl pe rfl <| Sk rfl pe rfl <| Sk rfl pe rfl <| Sk rfl pe rfl <| Sk rfl pe rfl <| Qa (PTb rfl pe rfl) <| ?_
 cases hm25
 exact fe rfl
 rw [pe] at hm25
 refine Qg rfl pe (Mp rfl) <| Qg rfl pe (Nk rfl) <| Qg rfl pe (Fp fa32_4 rfl) <| Qg rfl pe (La na23 (At.keep0 a_x0 hB) rfl rfl) <| Qg rfl pe (Ln sl23 (kB zb hB) rfl) <| Qg rfl pe (Mi rfl) <| Qg rfl pe (Bn rfl rfl) <| Qa (PFb rfl pe rfl) <| ?_
 cases hm25
 exact fe rfl
 rintro _ ⟨F,rfl⟩
 refine fun p5p p0c=>anz <| W_cond (b:=g24) rfl ?_ ?_
 intro nh
 rw [nh] at ho
 refine wq <| Wq rfl p0c <| Qa (Ab rfl) <| fun p5q p4e=>anz <| ?_
 cases ho
 exact W_ret ⟨_,res_1 Tryz.results162,rfl,(hB.trans p4e)⟩
 intro nh
 rw [nh] at ho
 refine W_skip <| anz <| wq <| wq <| Wq rfl p0c <| Qa (Mp rfl) <| Qa (Nk rfl) <| Qa (Fp fa32_3 rfl) <| Qa (La na22 (At.keep0 a_x0 hB) rfl rfl) <| Qa (Ln sl22 (kB zc hB) rfl) <| Qa (Mi rfl) <| fun ny p4f=>anz <| Wf (S1:=Int) (fun (s0_88:Int) r w'=>Chg [] w w'∧∃ F,r=updL F [(0,.pointer (some (p_x0))),(3,.int .i64 (y3)),(86,z7),(87,.int .i64 ((x0.Identity.length:Int))),(88,.int .i64 (s0_88))]) (impl_Category_isShape_T w) ho ⟨(hB.trans p4f),fe rfl⟩ ?_ ?_
 rintro s0_88 _ g8 ⟨hB,F,rfl⟩ o ho
 replace ho:impl_Category_isShape_L0 x0 s0_88=some o:=ho
 unfold impl_Category_isShape_L0 at ho
 refine wq <| Wq rfl (cr [] g8) <| Qa (Bl rfl rfl) <| fun p5r p0d=>anz <| wq <| W_cond (b:=decide (s0_88 < (x0.Identity.length:Int))) rfl ?_ ?_
 intro ni
 rw [ni] at ho
 refine W_skip <| anz <| wq <| W_block <| wq <| Wq rfl p0d <| Qa (Mi rfl) <| ?_
 obtain ⟨e41,hx42e,ho⟩:=bs ho
 have hx42:=idx_some hx42e
 refine Qa (Ix sl22 (kB zc hB) hx42 rfl rfl rfl) <| Qa (Ei na2 (kB zc hB) hx42 rfl) <| Qa (Ai rfl) <| Qa (Ai rfl) <| fun p5s p4g=>anz <| wq <| Wq rfl p4g <| Qa (Mp rfl) <| Qa (Mi rfl) <| ?_
 obtain ⟨y45,p4h,ho⟩:=bs ho
 refine Qc Tryz.func212 rfl rfl (fun _ hC=>impl_Category_ends_calls (kp _ z8 (hB.trans hC)) (kp _ za (hB.trans hC)) (kp _ zc (hB.trans hC)) (kp _ zb (hB.trans hC)) (At.keep0 a_x0 (hB.trans hC)) p4h) <| Qa (Mi rfl) <| Qa (Mi rfl) <| Qa (Bu (bld238_0_1 rfl rfl)) <| qv (v:=.bool (!((y45.From) == (s0_88) && (y45.To) == (s0_88)))) rfl (fun _ _=>op_neqS2 eqs238.1 eqs238.2.1 eqs238.2.2.1 (by kernel_rfl) (by kernel_rfl) rfl rfl eqs238.2.2.2.1 eqs238.2.2.2.2 rfl rfl) <| fun nz p0e=>anz <| W_cond (b:=!((y45.From) == (s0_88) && (y45.To) == (s0_88))) rfl ?_ ?_
 intro nj
 rw [nj] at ho
 refine wq <| Wq rfl p0e <| Qa (Ab rfl) <| fun p5t p4i=>anz <| ?_
 cases ho
 exact W_ret ⟨_,res_1 Tryz.results162,rfl,(hB.trans p4i)⟩
 intro nj
 rw [nj] at ho
 refine W_skip <| inBlk_n <| anz <| Wq rfl p0e <| Qa (Ba rfl rfl) <| Qa (Mi rfl) <| fun p08 j1=>?_
 cases ho
 exact ⟨(hB.trans j1),fe rfl⟩
 intro ni
 rw [ni] at ho
 refine W_exit <| andThen_x <| ?_
 cases ho
 exact ⟨rfl,⟨(hB.trans p0d),fe rfl⟩⟩
 rintro s0_88 _ gp ⟨hB,F,rfl⟩ ho
 refine anz <| wq <| wq <| Wq rfl (cr [] gp) <| Qa (Mp rfl) <| Qa (Nk rfl) <| Qa (Fp fa32_4 rfl) <| Qa (La na23 (At.keep0 a_x0 hB) rfl rfl) <| Qa (Ln sl23 (kB zb hB) rfl) <| Qa (Mi rfl) <| fun p19 pj=>anz <| Wf (S1:=Int) (fun (s1_106:Int) r w'=>Chg [] w w'∧∃ F,r=updL F [(0,.pointer (some (p_x0))),(3,.int .i64 (y3)),(104,z6),(105,.int .i64 ((x0.Composites.length:Int))),(106,.int .i64 (s1_106))]) (impl_Category_isShape_T w) ho ⟨(hB.trans pj),fe rfl⟩ ?_ ?_
 rintro s1_106 _ gr ⟨hB,F,rfl⟩ o ho
 replace ho:impl_Category_isShape_L1 x0 y3 s1_106=some o:=ho
 unfold impl_Category_isShape_L1 at ho
 refine wq <| Wq rfl (cr [] gr) <| Qa (Bl rfl rfl) <| fun p5u p0f=>anz <| wq <| W_cond (b:=decide (s1_106 < (x0.Composites.length:Int))) rfl ?_ ?_
 intro nk
 rw [nk] at ho
 refine W_skip <| anz <| wq <| W_block <| wq <| Wq rfl p0f <| Qa (Mi rfl) <| ?_
 obtain ⟨e61,hx62e,ho⟩:=bs ho
 have hx62:=idx_some hx62e
 refine Qa (Ix sl23 (kB zb hB) hx62 rfl rfl rfl) <| ?_
 obtain ⟨u63,fu64,hu65,jy,hs67⟩:=one_get rfl zb hx62.1 hx62.2
 refine Qa (Ld na22 (hB.cell0 hu65) rfl) <| Qa (Ai rfl) <| Qa (Av u63 rfl) <| fun qo k1=>anz <| wq <| wq <| Wq rfl k1 <| Qa (Mv u63 rfl) <| Qa (Ln sl22 (kB jy hB) rfl) <| Qa (Mi rfl) <| Qa (Bn rfl rfl) <| fun p5v p0g=>anz <| W_cond (b:=((e61.length:Int)) != (y3)) rfl ?_ ?_
 intro nl
 rw [nl] at ho
 refine wq <| Wq rfl p0g <| Qa (Ab rfl) <| fun p44 jm=>anz <| ?_
 cases ho
 exact W_ret ⟨_,res_1 Tryz.results162,rfl,(hB.trans jm)⟩
 intro nl
 rw [nl] at ho
 refine W_skip <| anz <| wq <| Wq rfl p0g <| Qa (Mv u63 rfl) <| Qa (Ln sl22 (kB jy hB) rfl) <| Qa (Mi rfl) <| fun p09 p4j=>anz <| Wf (S1:=Int) (fun (s2_117:Int) r w'=>Chg [] w w'∧∃ F,r=updL F [(0,.pointer (some (p_x0))),(3,.int .i64 (y3)),(6,.int .i64 (s1_106)),(104,z6),(105,.int .i64 ((x0.Composites.length:Int))),(106,.int .i64 (s1_106)),(115,u63),(116,.int .i64 ((e61.length:Int))),(117,.int .i64 (s2_117))]) (impl_Category_isShape_T w) ho ⟨(hB.trans p4j),fe rfl⟩ ?_ ?_
 rintro s2_117 _ gy ⟨hB,F,rfl⟩ o ho
 replace ho:impl_Category_isShape_L2 x0 y3 s1_106 e61 s2_117=some o:=ho
 unfold impl_Category_isShape_L2 at ho
 refine wq <| Wq rfl (cr [] gy) <| Qa (Bl rfl rfl) <| fun p46 jn=>anz <| wq <| W_cond (b:=decide (s2_117 < (e61.length:Int))) rfl ?_ ?_
 intro nm
 rw [nm] at ho
 refine W_skip <| anz <| wq <| W_block <| wq <| Wq rfl jn <| Qa (Mi rfl) <| ?_
 obtain ⟨e81,hx82e,ho⟩:=bs ho
 have hx82:=idx_some hx82e
 refine Qa (Ix sl22 (kB jy hB) hx82 rfl rfl rfl) <| Qa (Ei na2 (kB jy hB) hx82 rfl) <| Qa (Ai rfl) <| Qa (Ai rfl) <| fun p5w p4k=>anz <| wq <| wq <| Wqd rfl (by kernel_rfl) p4k <| Qa (Mp rfl) <| Qa (Nk rfl) <| Qa (Fp fa32_2 rfl) <| Qa (La na22 (At.keep0 a_x0 hB) rfl rfl) <| Qa (Mi rfl) <| ?_
 obtain ⟨e85,hx86e,ho⟩:=bs ho
 have hx86:=idx_some hx86e
 refine Qa (Ix sl22 (kB za hB) hx86 rfl rfl rfl) <| Qa (Ei na2 (kB za hB) hx86 rfl) <| Qa (Mp rfl) <| Qa (Nk rfl) <| Qa (Fp fa32_1 rfl) <| Qa (La na22 (At.keep0 a_x0 hB) rfl rfl) <| Qa (Mi rfl) <| ?_
 obtain ⟨e87,hx88e,ho⟩:=bs ho
 have hx88:=idx_some hx88e
 refine Qa (Ix sl22 (kB z8 hB) hx88 rfl rfl rfl) <| Qa (Ei na2 (kB z8 hB) hx88 rfl) <| Qa (Bn rfl rfl) <| fun p3e jf=>anz <| W_cond (b:=(e85) != (e87)) rfl ?_ ?_
 intro qs
 rw [qs] at ho
 refine wq <| wq <| Wq rfl jf <| Qa (Mi rfl) <| Qa (Bn rfl rfl) <| fun g1 q8=>anz <| W_cond (b:=(e81) != ((-1:Int))) rfl ?_ ?_
 intro nn
 rw [nn] at ho
 refine wq <| Wq rfl q8 <| Qa (Ab rfl) <| fun p5x p4l=>anz <| ?_
 cases ho
 exact W_ret ⟨_,res_1 Tryz.results162,rfl,(hB.trans p4l)⟩
 intro nn
 rw [nn] at ho
 refine W_skip <| anz <| W_exit <| andThen_x <| inBlk_x <| anz <| Wq rfl q8 <| Qa (Ba rfl rfl) <| Qa (Mi rfl) <| fun p00 p4m=>?_
 cases ho
 exact ⟨(hB.trans p4m),fe rfl⟩
 intro qs
 rw [qs] at ho
 refine W_skip <| anz <| wq <| Wqd rfl (by kernel_rfl) jf <| ?_
 obtain ⟨g99,hm100,ho⟩:=bs ho
 refine QL.meet (fun r=>∃ F,r=updL F [(0,.pointer (some (p_x0))),(3,.int .i64 (y3)),(6,.int .i64 (s1_106)),(104,z6),(105,.int .i64 ((x0.Composites.length:Int))),(106,.int .i64 (s1_106)),(115,u63),(116,.int .i64 ((e61.length:Int))),(117,.int .i64 (s2_117)),(164,.bool (g99))]) ?_ ?_
 skip
 refine Qa (Mi rfl) <| Qa (Mi rfl) <| Qa (Bs rfl rfl) <| ?_
 obtain ⟨y101,p4n,hm100⟩:=bs hm100
 refine Qc Tryz.func81 rfl rfl (fun _ hC=>impl_inRange_calls  p4n) <| Qa (Nt rfl) <| Qa (Mb rfl) <| ?_
 rcases Bool.eq_false_or_eq_true (!(y101)) with p3 | p3
 rw [p3] at hm100
 refine Sk rfl p3 rfl <| Sk rfl p3 rfl <| Sk rfl p3 rfl <| Sk rfl p3 rfl <| Sk rfl p3 rfl <| Sk rfl p3 rfl <| Sk rfl p3 rfl <| Sk rfl p3 rfl <| Sk rfl p3 rfl <| Sk rfl p3 rfl <| Sk rfl p3 rfl <| Sk rfl p3 rfl <| Sk rfl p3 rfl <| Sk rfl p3 rfl <| Sk rfl p3 rfl <| Sk rfl p3 rfl <| ?_
 refine Sk rfl p3 rfl <| Sk rfl p3 rfl <| Sk rfl p3 rfl <| Qa (PTb rfl p3 rfl) <| ?_
 cases hm100
 exact fe rfl
 rw [p3] at hm100
 refine Qg rfl p3 (Mp rfl) <| Qg rfl p3 (Mi rfl) <| ?_
 obtain ⟨y104,p4o,hm100⟩:=bs hm100
 refine Qcg rfl p3 Tryz.func212 rfl rfl (fun _ hC=>impl_Category_ends_calls (kp _ z8 (hB.trans hC)) (kp _ za (hB.trans hC)) (kp _ zc (hB.trans hC)) (kp _ zb (hB.trans hC)) (At.keep0 a_x0 (hB.trans hC)) p4o) <| Qg rfl p3 (Mp rfl) <| Qg rfl p3 (Nk rfl) <| Qg rfl p3 (Fp fa32_1 rfl) <| Qg rfl p3 (La na22 (At.keep0 a_x0 hB) rfl rfl) <| Qg rfl p3 (Mi rfl) <| ?_
 obtain ⟨e106,hx107e,hm100⟩:=bs hm100
 have hx107:=idx_some hx107e
 refine Qg rfl p3 (Ix sl22 (kB z8 hB) hx107 rfl rfl rfl) <| Qg rfl p3 (Ei na2 (kB z8 hB) hx107 rfl) <| Qg rfl p3 (Mp rfl) <| Qg rfl p3 (Nk rfl) <| Qg rfl p3 (Fp fa32_2 rfl) <| Qg rfl p3 (La na22 (At.keep0 a_x0 hB) rfl rfl) <| Qg rfl p3 (Mi rfl) <| ?_
 obtain ⟨e108,hx109e,hm100⟩:=bs hm100
 have hx109:=idx_some hx109e
 refine Qg rfl p3 (Ix sl22 (kB za hB) hx109 rfl rfl rfl) <| Qg rfl p3 (Ei na2 (kB za hB) hx109 rfl) <| Qg rfl p3 (Bu (bld238_0_1 rfl rfl)) <| QL.valG (v:=.bool (!((y104.From) == (e106) && (y104.To) == (e108)))) rfl (congrArg some p3) (fun _ _=>op_neqS2 eqs238.1 eqs238.2.1 eqs238.2.2.1 (by kernel_rfl) (by kernel_rfl) rfl rfl eqs238.2.2.2.1 eqs238.2.2.2.2 rfl rfl) <| Qa (PFb rfl p3 rfl) <| ?_
 cases hm100
 exact fe rfl
 rintro _ ⟨F,rfl⟩
 refine fun p5y p0h=>anz <| W_cond (b:=g99) rfl ?_ ?_
 intro no
 rw [no] at ho
 refine wq <| Wq rfl p0h <| Qa (Ab rfl) <| fun p5z p4p=>anz <| ?_
 cases ho
 exact W_ret ⟨_,res_1 Tryz.results162,rfl,(hB.trans p4p)⟩
 intro no
 rw [no] at ho
 refine W_skip <| inBlk_n <| anz <| Wq rfl p0h <| Qa (Ba rfl rfl) <| Qa (Mi rfl) <| fun p60 p4q=>?_
 cases ho
 exact ⟨(hB.trans p4q),fe rfl⟩
 intro nm
 rw [nm] at ho
 refine W_exit <| andThen_x <| ?_
 cases ho
 exact ⟨rfl,⟨(hB.trans jn),fe rfl⟩⟩
 rintro s2_117 _ g2 ⟨hB,F,rfl⟩ ho
 refine inBlk_n <| anz <| Wq rfl (cr [] g2) <| Qa (Ba rfl rfl) <| Qa (Mi rfl) <| fun p61 p4r=>?_
 cases ho
 exact ⟨(hB.trans p4r),fe rfl⟩
 intro nk
 rw [nk] at ho
 refine W_exit <| andThen_x <| ?_
 cases ho
 exact ⟨rfl,⟨(hB.trans p0f),fe rfl⟩⟩
 rintro s1_106 _ g4 ⟨hB,F,rfl⟩ ho
 refine anz <| wq <| Wq rfl (cr [] g4) <| Qa (Ab rfl) <| fun p62 p4s=>anz <| ?_
 cases ho
 exact W_ret ⟨_,res_1 Tryz.results162,rfl,(hB.trans p4s)⟩

abbrev impl_Category_then_post (w:World) (x:(Int)) (e:Ending) (w':World):Prop:=e = .returned (.int .i64 x)∧Chg [] w w'
abbrev impl_Category_then_T (w:World):=Tm Tryz.prog Tryz.f150 17 (impl_Category_then_post w)
theorem impl_Category_then_calls {w:World} {x0:MCategory} {p_x0:Addr} {z2:Value} {ze:List Nat} {z1:Value} {zf:List Nat} {z7:Value} {zg:List Nat} {z6:Value} {zh:List Nat} {x1:Int} {x2:Int} (z8:(sImm (sInt .i64)).rep w.heap [z2] x0.From ze) (za:(sImm (sInt .i64)).rep w.heap [z1] x0.To zf) (zc:(sImm (sInt .i64)).rep w.heap [z7] x0.Identity zg) (zb:(sImm (sImm (sInt .i64))).rep w.heap [z6] x0.Composites zh) (a_x0:At w p_x0 [.int .i64 (x0.Objects),z2,z1,z7,z6]) {y:(Int)} (hm:impl_Category_then x0 x1 x2=some y) :
  Calls Tryz.prog 150 #[.pointer (some (p_x0)),.int .i64 (x1),.int .i64 (x2)] w (impl_Category_then_post w y):=by
 refine Cm (S:=Unit) Tryz.func150 rfl Tryz.ntmps150 rfl hm fun o ho hB=>?_
 clear hm
 refine wq <| Wq rfl (cr [] w) <| Qa (Ai rfl) <| fun wd1 hC2=>anz <| wq <| Wq rfl hC2 <| Qa (Mp rfl) <| Qa (Nk rfl) <| Qa (Fp fa32_4 rfl) <| Qa (La na23 (At.keep0 a_x0 hB) rfl rfl) <| Qa (Mi rfl) <| ?_
 obtain ⟨e3,hx4e,ho⟩:=bs ho
 have hx4:=idx_some hx4e
 refine Qa (Ix sl23 (kB zb hB) hx4 rfl rfl rfl) <| ?_
 obtain ⟨u5,fu6,hu7,hr8,hs9⟩:=one_get rfl zb hx4.1 hx4.2
 refine Qa (Ld na22 (hB.cell0 hu7) rfl) <| Qa (Mi rfl) <| ?_
 obtain ⟨e10,hx11e,ho⟩:=bs ho
 have hx11:=idx_some hx11e
 refine Qa (Ix sl22 (kB hr8 hB) hx11 rfl rfl rfl) <| Qa (Ei na2 (kB hr8 hB) hx11 rfl) <| Qa (Ai rfl) <| fun p49 jx=>anz <| ?_
 cases ho
 exact W_ret ⟨_,res_1 Tryz.results150,rfl,(hB.trans jx)⟩
end Go.Proofs.YtcmckiiafgcmjaaGreat
