/- Walks, printed by a program: that a call of each function computes what its model says. No condition beside those that each theorem names. -/
import Derived.Test.YtcmckiiafgcmjaaGreatTy
import Derived.Test.YtcmckiiafgcmjaaGreatMo
import Derived.Test.YtcmckiiafgcmjaaGreatZ00
import Derived.Test.YtcmckiiafgcmjaaGreatZ01
namespace Go.Proofs.YtcmckiiafgcmjaaGreat
open Go Go.Li
set_option linter.unusedVariables false
set_option maxHeartbeats 4000000
set_option maxRecDepth 100000
abbrev spec_l27Make_post (zf:List Nat) (zg:List Nat) (zh:List Nat) (zi:List Nat) (w:World) (x:(ML27Table×Bool)) (e:Ending) (w':World):Prop:=∃ (v0:Value) (f0:List Nat) (v1:Value) (f1:List Nat) (v2:Value) (f2:List Nat) (v3:Value) (f3:List Nat) (v4:Value) (f4:List Nat) (v5:Value) (f5:List Nat) (v6:Value) (f6:List Nat),e = .returned (.tuple #[.agg #[.int .i64 x.1.C.Objects,v0,v1,v2,v3,v4,v5,v6],.bool x.2])∧Chg [] w w'∧(sImm (sInt .i64)).rep w'.heap [v0] x.1.C.From f0∧(∀ b∈f0,b∈(zf++(zg++(zh++zi))) ∨ w.heap.size≤b)∧(sImm (sInt .i64)).rep w'.heap [v1] x.1.C.To f1∧(∀ b∈f1,b∈(zf++(zg++(zh++zi))) ∨ w.heap.size≤b)∧(sImm (sInt .i64)).rep w'.heap [v2] x.1.C.Identity f2∧(∀ b∈f2,b∈(zf++(zg++(zh++zi))) ∨ w.heap.size≤b)∧(sImm (sImm (sInt .i64))).rep w'.heap [v3] x.1.C.Composites f3∧(∀ b∈f3,b∈(zf++(zg++(zh++zi))) ∨ w.heap.size≤b)∧(sImm (sImm (sImm (sInt .i64)))).rep w'.heap [v4] x.1.Lists f4∧(∀ b∈f4,b∈(zf++(zg++(zh++zi))) ∨ w.heap.size≤b)∧(sImm (sImm (sInt .i64))).rep w'.heap [v5] x.1.Pulls f5∧(∀ b∈f5,b∈(zf++(zg++(zh++zi))) ∨ w.heap.size≤b)∧(sImm (sInt .i64)).rep w'.heap [v6] x.1.Tops f6∧(∀ b∈f6,b∈(zf++(zg++(zh++zi))) ∨ w.heap.size≤b)
abbrev spec_l27Make_T (zf:List Nat) (zg:List Nat) (zh:List Nat) (zi:List Nat) (w:World):=Tm Tryz.prog Tryz.f135 24 (spec_l27Make_post zf zg zh zi w)
theorem spec_l27Make_calls {w:World} {x0:MCategory} {z2:Value} {zf:List Nat} {z1:Value} {zg:List Nat} {z7:Value} {zh:List Nat} {z6:Value} {zi:List Nat} (za:(sImm (sInt .i64)).rep w.heap [z2] x0.From zf) (zb:(sImm (sInt .i64)).rep w.heap [z1] x0.To zg) (zd:(sImm (sInt .i64)).rep w.heap [z7] x0.Identity zh) (zc:(sImm (sImm (sInt .i64))).rep w.heap [z6] x0.Composites zi) {y:(ML27Table×Bool)} (hm:spec_l27Make x0=some y) :
  Calls Tryz.prog 135 #[.agg #[.int .i64 (x0.Objects),z2,z1,z7,z6]] w (spec_l27Make_post zf zg zh zi w y):=by
 refine Cm (S:=Unit) Tryz.func135 rfl Tryz.ntmps135 rfl hm fun o ho hB=>?_
 clear hm
 refine wq <| W_region rfl <| WL.box fun b1 wd2 hC3 hr4 hl5=>?_
 replace hr4:Row wd2 b1 [.int .i64 (x0.Objects),z2,z1,z7,z6] 32:=hr4
 replace za:=kp _ za hC3
 replace zb:=kp _ zb hC3
 replace zd:=kp _ zd hC3
 replace zc:=kp _ zc hC3
 replace hB:=(hB.trans hC3)
 refine WL.alloc info96 zr96 fun qu p0q qw pq qx=>?_
 replace pq:Row p0q qu [.int .i64 ((0:Int)),.slice none 0 0,.slice none 0 0,.slice none 0 0,.slice none 0 0,.slice none 0 0,.slice none 0 0,.slice none 0 0] 96:=pq
 have nx:w.heap.size≤qu:=Nat.le_trans hB.size qx
 have qy:=dl (onw qx) (sl _ za)
 have qa:=dl (onw qx) (sl _ zb)
 have q2:=dl (onw qx) (sl _ zd)
 have qb:=dl (onw qx) (sl _ zc)
 have qc:=dl (onw qx) (one_lt (Row.lt hr4))
 replace za:=kp _ za qw
 replace zb:=kp _ zb qw
 replace zd:=kp _ zd qw
 replace zc:=kp _ zc qw
 replace hr4:=kr hr4 qw
 replace hB:=(hB.trans qw)
 refine Wb (Ab rfl) <| anz <| wq <| W_region rfl <| Wb (Lg ag32 hr4.at rfl rfl) <| ?_
 obtain ⟨y24,p0r,ho⟩:=bs ho
 refine WL.call rfl (op_callF Tryz.func205 rfl rfl) (spec_l25Lists_calls za zb zd zc p0r) <| ?_
 rintro _ jk ⟨v28,f29,rfl,qd,qe,ny⟩
 refine ⟨_,rfl,?_⟩
 have d33:=dl ny (one_lt (Row.lt pq))
 have p0u : ∀ b∈f29,b∈(zf++(zg++(zh++zi))) ∨ w.heap.size≤b:=fun b hb=>.inr (Nat.le_trans hB.size (ny b hb))
 replace za:=kp _ za qd
 replace zb:=kp _ zb qd
 replace zd:=kp _ zd qd
 replace zc:=kp _ zc qd
 replace hr4:=kr hr4 qd
 replace pq:=kr pq qd
 replace hB:=(hB.trans qd)
 refine Wb (Mt rfl) <| Wb (Ex v28 rfl rfl) <| Wb (Exb rfl rfl) <| Wb (Av v28 rfl) <| Wb (Ab rfl) <| anz <| wq <| wq <| Wq rfl (cr [] jk) <| Qa (Mb rfl) <| Qa (Nt rfl) <| fun qg p6=>anz <| W_cond (b:=!(y24.2)) rfl ?_ ?_
 intro jz
 rw [jz] at ho
 refine wq <| W_region rfl <| Wb (Bu bld96_) <| WL.storeAll (us:=[.int .i64 ((0:Int)),.slice none 0 0,.slice none 0 0,.slice none 0 0,.slice none 0 0,.slice none 0 0,.slice none 0 0,.slice none 0 0]) info96 (by rw [sz96]; rfl) (kr pq p6) rfl rfl rfl (by intro u hu; simp only [List.mem_cons,List.mem_nil_iff,or_false] at hu; rcases hu with rfl | rfl | rfl | rfl | rfl | rfl | rfl | rfl <;> first | exact rfl) fun nz jl k0=>?_
 replace k0:Row nz qu [.int .i64 ((0:Int)),.slice none 0 0,.slice none 0 0,.slice none 0 0,.slice none 0 0,.slice none 0 0,.slice none 0 0,.slice none 0 0] 96:=k0
 have p0v:=(p6.nil (G:=[qu])).trans jl
 replace hB:=hB.then p0v (one_then nx)
 refine Wb (Ab rfl) <| anz <| ?_
 cases ho
 exact W_ret ⟨_,res_c1 Tryz.results135 Tryz.underlying96 rfl info96 (by rw [sz96]; rfl) rfl k0.at,_,_,_,_,_,_,_,_,_,_,_,_,_,_,rfl,hB,nil_imm,(fun _ h=>nomatch h),nil_imm,(fun _ h=>nomatch h),nil_imm,(fun _ h=>nomatch h),nil_imm,(fun _ h=>nomatch h),nil_imm,(fun _ h=>nomatch h),nil_imm,(fun _ h=>nomatch h),nil_imm,(fun _ h=>nomatch h)⟩
 intro jz
 rw [jz] at ho
 refine W_skip <| anz <| wq <| ?_
 obtain ⟨y43,p0w,ho⟩:=bs ho
 obtain ⟨y63,k1,ho⟩:=bs ho
 refine W_any (m:=9) (U:=.replicate 9 []) (S:=[sV (.agg #[.int .i64 (x0.Objects),z2,z1,z7,z6]),sV (v28),sV (.agg #[.int .i64 (x0.Objects),z2,z1,z7,z6]),sV (v28),⟨true,pl (fun f w v=>∃ (v45:Value) (pr:List Nat) (v48:Value) (ps:List Nat) (v51:Value) (pt:List Nat) (v54:Value) (pu:List Nat) (v57:Value) (pv:List Nat) (v60:Value) (q6:List Nat),v = .agg #[.int .i64 (y43.Shape.Objects),v45,v48,v51,v54,v57,v60]∧f=(pr++(ps++(pt++(pu++(pv++q6)))))∧(sOwn 2 (sInt .i64)).rep w.heap [v45] (y43.Shape.From) pr∧(sOwn 2 (sInt .i64)).rep w.heap [v48] (y43.Shape.To) ps∧(sOwn 2 (sInt .i64)).rep w.heap [v51] (y43.Shape.Identity) pt∧(sOwn 22 (sOwn 2 (sInt .i64))).rep w.heap [v54] (y43.Shape.Composites) pu∧(sOwn 2 (sInt .i64)).rep w.heap [v57] (y43.Sizes) pv∧(sOwn 22 (sOwn 2 (sInt .i64))).rep w.heap [v60] (y43.Actions) q6∧List.Nodup ((pr++(ps++(pt++(pu++(pv++q6)))))))⟩,⟨true,fun _ _ r u=>u=fldOf (r 18) 6⟩,sV (.agg #[.int .i64 (x0.Objects),z2,z1,z7,z6]),sV (v28),⟨true,pl (fun f w v=>∃ (v65:Value) (q7:List Nat),v=v65∧f=q7∧(sImm (sInt .i64)).rep w.heap [v65] (y63) q7∧True)⟩]) (Z:=[]) hmix rfl (by decide) (by decide +kernel) (fun _ _ _ h=>np_out h) (by decide) rfl (by decide +kernel) (stable_all <| stable_cons stable_val (stable_cons stable_val (stable_cons stable_val (stable_cons stable_val (stable_cons (stable_pl <| by rintro f F w w' v hC hn ⟨v45,pr,v48,ps,v51,pt,v54,pu,v57,pv,v60,q6,e1_,e2_,ho47,ho50,ho53,ho56,ho59,ho62,hnd⟩; exact ⟨v45,pr,v48,ps,v51,pt,v54,pu,v57,pv,v60,q6,e1_,e2_,STy.keep _ ho47 hC (fun b hb=>hn b (by rw [e2_]; simp [hb])),STy.keep _ ho50 hC (fun b hb=>hn b (by rw [e2_]; simp [hb])),STy.keep _ ho53 hC (fun b hb=>hn b (by rw [e2_]; simp [hb])),STy.keep _ ho56 hC (fun b hb=>hn b (by rw [e2_]; simp [hb])),STy.keep _ ho59 hC (fun b hb=>hn b (by rw [e2_]; simp [hb])),STy.keep _ ho62 hC (fun b hb=>hn b (by rw [e2_]; simp [hb])),hnd⟩) (stable_cons (stable_frame (X:=fun r=>fldOf (r 18) 6) fun r r' h=>congrArg (fun u=>fldOf (u) 6) (h 4 (by decide +kernel) 18 rfl)) (stable_cons stable_val (stable_cons stable_val (stable_cons (stable_pl <| by rintro f F w w' v hC hn ⟨v65,q7,e1_,e2_,ho67,hnd⟩; exact ⟨v65,q7,e1_,e2_,STy.keep _ ho67 hC (fun b hb=>hn b (by rw [e2_]; simp [hb])),hnd⟩) ( stable_nil)))))))))) ?_ ?_
 refine owes_cons ?_ <| owes_cons ?_ <| owes_cons ?_ <| owes_cons ?_ <| owes_cons ?_ <| owes_cons ?_ <| owes_cons ?_ <| owes_cons ?_ <| owes_cons ?_ <| owes_nil
 exact Oh rfl rfl rfl [(1,.pointer (some (⟨b1,0,none⟩)))] p6 rfl rfl fun _=>Lg ag32 hr4.at rfl rfl
 exact Oh rfl rfl rfl [(4,v28)] p6 rfl rfl fun _=>Mv v28 rfl
 exact Oh rfl rfl rfl [(1,.pointer (some (⟨b1,0,none⟩)))] p6 rfl rfl fun _=>Lg ag32 hr4.at rfl rfl
 exact Oh rfl rfl rfl [(4,v28)] p6 rfl rfl fun _=>Mv v28 rfl
 refine Owes.mem rfl rfl rfl <| fun g r wr hCr H hot=>?_
 have hC:=p6.trans hCr
 obtain ⟨F,rfl⟩:=fr (r:=r) (l:=[(16,.agg #[.int .i64 (x0.Objects),z2,z1,z7,z6]),(17,v28)]) ⟨(H 2 (by decide +kernel) 16 rfl),(H 3 (by decide +kernel) 17 rfl),trivial⟩
 exact OpW.callV (op_callF Tryz.func110 rfl rfl) (spec_l25Make_calls (kp _ za hC) (kp _ zb hC) (kp _ zd hC) (kp _ zc hC) (kp _ qe hC) p0w) fun e w' ⟨v45,pr,v48,ps,v51,pt,v54,pu,v57,pv,v60,q6,he,hC',p7,p8,p9,pa,pb,q3,d0_1,d0_2,d0_3,d0_4,d0_5,d1_2,d1_3,d1_4,d1_5,d2_3,d2_4,d2_5,d3_4,d3_5,d4_5⟩=>⟨_,he,hC',(pr++(ps++(pt++(pu++(pv++q6))))),(fun b hb=>(List.mem_append.1 hb).elim (fun hb=>⟨ofr p7 b hb,sl _ p7.1 b hb⟩) (fun hb=>(List.mem_append.1 hb).elim (fun hb=>⟨ofr p8 b hb,sl _ p8.1 b hb⟩) (fun hb=>(List.mem_append.1 hb).elim (fun hb=>⟨ofr p9 b hb,sl _ p9.1 b hb⟩) (fun hb=>(List.mem_append.1 hb).elim (fun hb=>⟨ofr pa b hb,sl _ pa.1 b hb⟩) (fun hb=>(List.mem_append.1 hb).elim (fun hb=>⟨ofr pb b hb,sl _ pb.1 b hb⟩) (fun hb=>⟨ofr q3 b hb,sl _ q3.1 b hb⟩)))))),v45,pr,v48,ps,v51,pt,v54,pu,v57,pv,v60,q6,rfl,rfl,p7.1,p8.1,p9.1,pa.1,pb.1,q3.1,(nodup_app p7.2.1 (nodup_app p8.2.1 (nodup_app p9.2.1 (nodup_app pa.2.1 (nodup_app pb.2.1 q3.2.1 d4_5) (dis_appR d3_4 d3_5)) (dis_appR d2_3 (dis_appR d2_4 d2_5))) (dis_appR d1_2 (dis_appR d1_3 (dis_appR d1_4 d1_5)))) (dis_appR d0_1 (dis_appR d0_2 (dis_appR d0_3 (dis_appR d0_4 d0_5)))))⟩
 refine Owes.valX rfl rfl rfl <| fun g r wr hCr H hot=>?_
 have hC:=p6.trans hCr
 obtain ⟨v45,pr,v48,ps,v51,pt,v54,pu,v57,pv,v60,q6,hvo47,hgo47,p7,p8,p9,pa,pb,q3,hno47⟩:=H 4 (by decide +kernel) 18 rfl
 obtain ⟨F,rfl⟩:=fr (r:=r) (l:=[(18,.agg #[.int .i64 (y43.Shape.Objects),v45,v48,v51,v54,v57,v60])]) ⟨hvo47,trivial⟩
 exact op_field (off:=6) Tryz.underlying66 rfl u23z rfl rfl rfl rfl
 exact Oh rfl rfl rfl [(1,.pointer (some (⟨b1,0,none⟩)))] p6 rfl rfl fun _=>Lg ag32 hr4.at rfl rfl
 exact Oh rfl rfl rfl [(4,v28)] p6 rfl rfl fun _=>Mv v28 rfl
 refine Owes.mem rfl rfl rfl <| fun g r wr hCr H hot=>?_
 have hC:=p6.trans hCr
 obtain ⟨F,rfl⟩:=fr (r:=r) (l:=[(20,.agg #[.int .i64 (x0.Objects),z2,z1,z7,z6]),(21,v28)]) ⟨(H 6 (by decide +kernel) 20 rfl),(H 7 (by decide +kernel) 21 rfl),trivial⟩
 exact OpW.callV (op_callF Tryz.func206 rfl rfl) (spec_l25Tops_calls (kp _ za hC) (kp _ zb hC) (kp _ zd hC) (kp _ zc hC) (kp _ qe hC) k1) fun e w' ⟨v65,q7,he,hC',qh,p0x⟩=>⟨_,he,hC',q7,(fun b hb=>⟨p0x b hb,sl _ qh b hb⟩),v65,q7,rfl,rfl,qh,trivial⟩
 rintro g r qn ⟨k2,hdone,hot,hfresh,hdis⟩
 obtain ⟨v45,pr,v48,ps,v51,pt,v54,pu,v57,pv,v60,q6,hvo47,hgo47,p7,p8,p9,pa,pb,q3,hno47⟩:=hdone 4 (by decide) (by decide) 18 rfl
 have hfo47:=hfresh 4 (by decide)
 obtain ⟨v65,q7,hvo67,hgo67,qh,hno67⟩:=hdone 8 (by decide) (by decide) 22 rfl
 have hfo67:=hfresh 8 (by decide)
 have hv70:r 19=v60:=((hdone 5 (by decide) (by decide) 19 rfl).trans (by rw [hvo47]; rfl))
 have hdd:=hdis
 obtain ⟨F,rfl⟩:=fw hdone hot [(2,.pointer (some (⟨qu,0,none⟩)))] [(14,.agg #[.int .i64 (x0.Objects),z2,z1,z7,z6]),(15,v28)] [0,1] rfl rfl rfl rfl (z:=[(18,.agg #[.int .i64 (y43.Shape.Objects),v45,v48,v51,v54,v57,v60]),(19,v60),(22,v65)]) ⟨hvo47,hv70,hvo67,trivial⟩
 have g0 : ∀ b∈pr,qg.heap.size≤b:=fun b hb=>(hfo47 b (show b∈g 4 from (show ∀ b∈pr,b∈g 4 from (fun b hb=>(by rw [hgo47]; simp [hb]))) b hb)).1
 replace p7:OE [] w.heap.size qn (sOwn 2 (sInt .i64)) [v45] (y43.Shape.From) pr:=⟨p7,(List.nodup_append.1 hno47).1,fun b hb=>.inr (Nat.le_trans (hB.trans p6).size (g0 b hb))⟩
 have d77:=dl g0 (one_lt (Row.lt (kr pq p6)))
 have g1 : ∀ b∈ps,qg.heap.size≤b:=fun b hb=>(hfo47 b (show b∈g 4 from (show ∀ b∈ps,b∈g 4 from (fun b hb=>(by rw [hgo47]; simp [hb]))) b hb)).1
 replace p8:OE [] w.heap.size qn (sOwn 2 (sInt .i64)) [v48] (y43.Shape.To) ps:=⟨p8,(List.nodup_append.1 (List.nodup_append.1 hno47).2.1).1,fun b hb=>.inr (Nat.le_trans (hB.trans p6).size (g1 b hb))⟩
 have d85:=dl g1 (one_lt (Row.lt (kr pq p6)))
 have j3 : ∀ b∈pt,qg.heap.size≤b:=fun b hb=>(hfo47 b (show b∈g 4 from (show ∀ b∈pt,b∈g 4 from (fun b hb=>(by rw [hgo47]; simp [hb]))) b hb)).1
 replace p9:OE [] w.heap.size qn (sOwn 2 (sInt .i64)) [v51] (y43.Shape.Identity) pt:=⟨p9,(List.nodup_append.1 (List.nodup_append.1 (List.nodup_append.1 hno47).2.1).2.1).1,fun b hb=>.inr (Nat.le_trans (hB.trans p6).size (j3 b hb))⟩
 have d93:=dl j3 (one_lt (Row.lt (kr pq p6)))
 have g2 : ∀ b∈pu,qg.heap.size≤b:=fun b hb=>(hfo47 b (show b∈g 4 from (show ∀ b∈pu,b∈g 4 from (fun b hb=>(by rw [hgo47]; simp [hb]))) b hb)).1
 replace pa:OE [] w.heap.size qn (sOwn 22 (sOwn 2 (sInt .i64))) [v54] (y43.Shape.Composites) pu:=⟨pa,(List.nodup_append.1 (List.nodup_append.1 (List.nodup_append.1 (List.nodup_append.1 hno47).2.1).2.1).2.1).1,fun b hb=>.inr (Nat.le_trans (hB.trans p6).size (g2 b hb))⟩
 have k3:=dl g2 (one_lt (Row.lt (kr pq p6)))
 have g4 : ∀ b∈pv,qg.heap.size≤b:=fun b hb=>(hfo47 b (show b∈g 4 from (show ∀ b∈pv,b∈g 4 from (fun b hb=>(by rw [hgo47]; simp [hb]))) b hb)).1
 replace pb:OE [] w.heap.size qn (sOwn 2 (sInt .i64)) [v57] (y43.Sizes) pv:=⟨pb,(List.nodup_append.1 (List.nodup_append.1 (List.nodup_append.1 (List.nodup_append.1 (List.nodup_append.1 hno47).2.1).2.1).2.1).2.1).1,fun b hb=>.inr (Nat.le_trans (hB.trans p6).size (g4 b hb))⟩
 have p11:=dl g4 (one_lt (Row.lt (kr pq p6)))
 have g5 : ∀ b∈q6,qg.heap.size≤b:=fun b hb=>(hfo47 b (show b∈g 4 from (show ∀ b∈q6,b∈g 4 from (fun b hb=>(by rw [hgo47]; simp [hb]))) b hb)).1
 replace q3:OE [] w.heap.size qn (sOwn 22 (sOwn 2 (sInt .i64))) [v60] (y43.Actions) q6:=⟨q3,(List.nodup_append.1 (List.nodup_append.1 (List.nodup_append.1 (List.nodup_append.1 (List.nodup_append.1 hno47).2.1).2.1).2.1).2.1).2.1,fun b hb=>.inr (Nat.le_trans (hB.trans p6).size (g5 b hb))⟩
 have k4:=dl g5 (one_lt (Row.lt (kr pq p6)))
 have g6 : ∀ b∈q7,qg.heap.size≤b:=fun b hb=>(hfo67 b (show b∈g 8 from (show ∀ b∈q7,b∈g 8 from (fun b hb=>(by rw [hgo67]; simp [hb]))) b hb)).1
 have p12 : ∀ b∈q7,b∈(zf++(zg++(zh++zi))) ∨ w.heap.size≤b:=fun b hb=>.inr (Nat.le_trans (hB.trans p6).size (g6 b hb))
 have k5:=dl g6 (one_lt (Row.lt (kr pq p6)))
 have qi:=(p6.trans k2)
 replace za:=kp _ za qi
 replace zb:=kp _ zb qi
 replace zd:=kp _ zd qi
 replace zc:=kp _ zc qi
 replace hr4:=kr hr4 qi
 replace pq:=kr pq qi
 replace qe:=kp _ qe qi
 replace hB:=(hB.trans qi)
 refine Wb (Bu (bld96_0_1_2_3 rfl (STy.one _ za _ (ms rfl)) (STy.one _ zb _ (ms rfl)) (STy.one _ zd _ (ms rfl)) (STy.one _ zc _ (ms rfl)) (STy.one _ qe _ (ms rfl)) (STy.one _ q3.1 _ (ms rfl)) (STy.one _ qh _ (ms rfl)))) <| WL.storeAll (us:=[.int .i64 (x0.Objects),z2,z1,z7,z6,v28,v60,v65]) info96 (by rw [sz96]; rfl) pq rfl rfl rfl (by intro u hu; simp only [List.mem_cons,List.mem_nil_iff,or_false] at hu; rcases hu with rfl | rfl | rfl | rfl | rfl | rfl | rfl | rfl <;> first | exact rfl | exact (STy.one _ za _ (ms rfl)) | exact (STy.one _ zb _ (ms rfl)) | exact (STy.one _ zd _ (ms rfl)) | exact (STy.one _ zc _ (ms rfl)) | exact (STy.one _ qe _ (ms rfl)) | exact (STy.one _ q3.1 _ (ms rfl)) | exact (STy.one _ qh _ (ms rfl))) fun g8 p5 k6=>?_
 replace k6:Row g8 qu [.int .i64 (x0.Objects),z2,z1,z7,z6,v28,v60,v65] 96:=k6
 replace za:=STy.keep _ za p5 (qy).symm
 replace zb:=STy.keep _ zb p5 (qa).symm
 replace zd:=STy.keep _ zd p5 (q2).symm
 replace zc:=STy.keep _ zc p5 (qb).symm
 replace qe:=STy.keep _ qe p5 d33
 replace qh:=STy.keep _ qh p5 k5
 replace hr4:=Row.keep hr4 p5 ((qc).symm _ (ms rfl))
 replace p7:=okp p7 p5 d77
 replace p8:=okp p8 p5 d85
 replace p9:=okp p9 p5 d93
 replace pa:=okp pa p5 k3
 replace pb:=okp pb p5 p11
 replace q3:=okp q3 p5 k4
 replace hB:=hB.then p5 (one_then nx)
 refine Wb (Ab rfl) <| anz <| ?_
 cases ho
 exact W_ret ⟨_,res_c1 Tryz.results135 Tryz.underlying96 rfl info96 (by rw [sz96]; rfl) rfl k6.at,_,_,_,_,_,_,_,_,_,_,_,_,_,_,rfl,hB,za,(fun b hb=>.inl (by simp [hb])),zb,(fun b hb=>.inl (by simp [hb])),zd,(fun b hb=>.inl (by simp [hb])),zc,(fun b hb=>.inl (by simp [hb])),qe,p0u,((Le.own (Le.own (Le.refl _) 2) 22).le q3.1),(low_wk q3.2.2),qh,p12⟩

abbrev spec_l09Find_post (w:World) (x:(Int)) (e:Ending) (w':World):Prop:=e = .returned (.int .i64 x)∧Chg [] w w'
abbrev spec_l09Find_T (w:World):=Tm Tryz.prog Tryz.f111 19 (spec_l09Find_post w)
theorem spec_l09Find_calls {w:World} {x0:(List (List Int))} {v_x0:Value} {f_x0:List Nat} {x1:(List Int)} {v_x1:Value} {f_x1:List Nat} (h_x0:(sImm (sImm (sInt .i64))).rep w.heap [v_x0] x0 f_x0) (h_x1:(sImm (sInt .i64)).rep w.heap [v_x1] x1 f_x1) {y:(Int)} (hm:spec_l09Find x0 x1=some y) :
  Calls Tryz.prog 111 #[v_x0,v_x1] w (spec_l09Find_post w y):=by
 refine Cm (S:=Unit) Tryz.func111 rfl Tryz.ntmps111 rfl hm fun o ho hB=>?_
 clear hm
 refine wq <| Wq rfl (cr [] w) <| Qa (Ai rfl) <| fun wd1 hC2=>anz <| wq <| wq <| Wq rfl hC2 <| Qa (Ai rfl) <| fun wd3 hC4=>anz <| Wf (S1:=Int) (fun (s0_5:Int) r w'=>Chg [] w w'∧∃ F,r=updL F [(0,v_x0),(1,v_x1),(5,.int .i64 (s0_5))]) (spec_l09Find_T w) ho ⟨(hB.trans hC4),fe rfl⟩ ?_ ?_
 rintro s0_5 _ wd5 ⟨hB,F,rfl⟩ o ho
 replace ho:spec_l09Find_L0 x0 x1 s0_5=some o:=ho
 unfold spec_l09Find_L0 at ho
 refine wq <| wq <| Wq rfl (cr [] wd5) <| Qa (Mi rfl) <| Qa (Mv v_x0 rfl) <| Qa (Ln sl23 (kB h_x0 hB) rfl) <| Qa (Bl rfl rfl) <| fun wd6 hC7=>anz <| W_cond (b:=decide (s0_5 < (x0.length:Int))) rfl ?_ ?_
 intro hb8
 rw [hb8] at ho
 refine W_skip <| anz <| wq <| W_block <| wq <| Wq rfl hC7 <| Qa (Mv v_x0 rfl) <| Qa (Mi rfl) <| ?_
 obtain ⟨e9,hx10e,ho⟩:=bs ho
 have hx10:=idx_some hx10e
 refine Qa (Ix sl23 (kB h_x0 hB) hx10 rfl rfl rfl) <| ?_
 obtain ⟨u11,fu12,hu13,p13,hs15⟩:=one_get rfl h_x0 hx10.1 hx10.2
 refine Qa (Ld na22 (hB.cell0 hu13) rfl) <| Qa (Mv v_x1 rfl) <| ?_
 obtain ⟨y16,p14,ho⟩:=bs ho
 refine Qc Tryz.func88 rfl rfl (fun _ hC=>spec_l01Same_calls (kp _ p13 (hB.trans hC)) (kp _ h_x1 (hB.trans hC)) p14) <| fun p15 jm=>anz <| W_cond (b:=y16) rfl ?_ ?_
 intro k7
 rw [k7] at ho
 refine wq <| Wq rfl jm <| Qa (Mi rfl) <| Qa (Ai rfl) <| fun g9 p16=>anz <| ?_
 cases ho
 exact W_ret ⟨_,res_1 Tryz.results111,rfl,(hB.trans p16)⟩
 intro k7
 rw [k7] at ho
 refine W_skip <| inBlk_n <| anz <| Wq rfl jm <| Qa (Mi rfl) <| Qa (Ba rfl rfl) <| Qa (Ai rfl) <| fun p17 k8=>?_
 cases ho
 exact ⟨(hB.trans k8),fe rfl⟩
 intro hb8
 rw [hb8] at ho
 refine W_exit <| andThen_x <| ?_
 cases ho
 exact ⟨rfl,⟨(hB.trans hC7),fe rfl⟩⟩
 rintro s0_5 _ p18 ⟨hB,F,rfl⟩ ho
 refine anz <| wq <| Wq rfl (cr [] p18) <| Qa (Ai rfl) <| fun jk qd=>anz <| ?_
 cases ho
 exact W_ret ⟨_,res_1 Tryz.results111,rfl,(hB.trans qd)⟩

abbrev spec_l27Marks_post (w:World) (x:((List (List Bool)))) (e:Ending) (w':World):Prop:=∃ (v0:Value) (f0:List Nat),e = .returned (v0)∧Chg [] w w'∧OE [] w.heap.size w' (sOwn 138 (sOwn 4 sBool)) [v0] x f0
abbrev spec_l27Marks_T (w:World):=Tm Tryz.prog Tryz.f136 53 (spec_l27Marks_post w)
theorem spec_l27Marks_calls {w:World} {x0:ML27Table} {zy:Value} {z17:List Nat} {zt:Value} {z18:List Nat} {z10:Value} {z19:List Nat} {z11:Value} {z1a:List Nat} {z13:Value} {z21:List Nat} {z14:Value} {z23:List Nat} {z15:Value} {z26:List Nat} {x1:(List (List (List Int)))} {v_x1:Value} {f_x1:List Nat} (z16:(sImm (sInt .i64)).rep w.heap [zy] x0.C.From z17) (z12:(sImm (sInt .i64)).rep w.heap [zt] x0.C.To z18) (z1b:(sImm (sInt .i64)).rep w.heap [z10] x0.C.Identity z19) (z1c:(sImm (sImm (sInt .i64))).rep w.heap [z11] x0.C.Composites z1a) (z1r:(sImm (sImm (sImm (sInt .i64)))).rep w.heap [z13] x0.Lists z21) (z1s:(sImm (sImm (sInt .i64))).rep w.heap [z14] x0.Pulls z23) (z27:(sImm (sInt .i64)).rep w.heap [z15] x0.Tops z26) (h_x1:(sImm (sImm (sImm (sInt .i64)))).rep w.heap [v_x1] x1 f_x1) {y:((List (List Bool)))} (hm:spec_l27Marks x0 x1=some y) :
  Calls Tryz.prog 136 #[.agg #[.int .i64 (x0.C.Objects),zy,zt,z10,z11,z13,z14,z15],v_x1] w (spec_l27Marks_post w y):=by
 refine Cm (S:=Unit) Tryz.func136 rfl Tryz.ntmps136 rfl hm fun o ho hB=>?_
 clear hm
 refine wq <| W_region rfl <| WL.box fun b1 wd2 hC3 hr4 hl5=>?_
 replace hr4:Row wd2 b1 [.int .i64 (x0.C.Objects),zy,zt,z10,z11,z13,z14,z15] 96:=hr4
 replace hB:=(hB.trans hC3)
 refine Wb (As rfl) <| anz <| wq <| W_region rfl <| WL.lit0 (sOwn 4 sBool) Tryz.underlying97 info138 fun v8 wd9 f10 j4 jn=>?_
 have d13:=dl (ofr jn) (one_lt (Row.lt hr4))
 replace jn:=OE.low (G:=[]) jn hB.size
 replace hr4:=kr hr4 j4
 replace hB:=(hB.trans j4)
 refine Wb (Av v8 rfl) <| anz <| wq <| wq <| Wq rfl (cr [] wd9) <| Qa (Ai rfl) <| fun k9 qj=>anz <| Wf (S1:=(List (List Bool))×Int) (fun s r w'=>match s with | (s0_5,s0_6)=>∃ (v17:Value) (qo:List Nat),Chg [] w w'∧Row w' b1 [.int .i64 (x0.C.Objects),zy,zt,z10,z11,z13,z14,z15] 96∧OE [] w.heap.size w' (sOwn 138 (sOwn 4 sBool)) [v17] (s0_5) qo∧Dis [b1] qo∧∃ F,r=updL F [(1,v_x1),(2,.pointer (some (⟨b1,0,none⟩))),(5,v17),(6,.int .i64 (s0_6))]) (spec_l27Marks_T w) ho ⟨_,_,(hB.trans qj),(kr hr4 qj),(ko jn qj),((d13).symm),fe rfl⟩ ?_ ?_
 rintro ⟨s0_5,s0_6⟩ _ g9 ⟨v17,qo,hB,hr4,pj,q2,F,rfl⟩ o ho
 replace ho:spec_l27Marks_L0 x0 x1 s0_5 s0_6=some o:=ho
 unfold spec_l27Marks_L0 at ho
 refine wq <| wq <| Wq rfl (cr [] g9) <| Qa (Mi rfl) <| Qa (Fr fa96_1 rfl) <| Qa (Lr na26 hr4 rfl rfl) <| Qa (Ln sl26 (kB z1r hB) rfl) <| Qa (Bl rfl rfl) <| fun jo px=>anz <| W_cond (b:=decide (s0_6 < (x0.Lists.length:Int))) rfl ?_ ?_
 intro ka
 rw [ka] at ho
 refine W_skip <| anz <| wq <| W_block <| wq <| W_region rfl <| Wb (Fr fa96_1 rfl) <| Wa px (Lr na26 hr4 rfl rfl) <| Wb (Mi rfl) <| ?_
 obtain ⟨e25,hx26e,ho⟩:=bs ho
 have hx26:=idx_some hx26e
 refine Wa px (Ix sl26 (kB z1r hB) hx26 rfl rfl rfl) <| ?_
 obtain ⟨u27,fu28,hu29,p1a,hs31⟩:=one_get rfl z1r hx26.1 hx26.2
 refine Wa px (Ld na23 (hB.cell0 hu29) rfl) <| Wa px (Ln sl23 (kB p1a hB) rfl) <| ?_
 obtain ⟨n32,hn33,ho⟩:=bs ho
 obtain ⟨hn33a,hn33b,hn33c⟩:=mk_some hn33
 refine WL.make (z0:=false) sBool Tryz.underlying138 info4 zr4 sz4 rfl rfl (fun _=>⟨rfl,rfl⟩) (congrArg (Value.int .i64) hn33a) (congrArg (Value.int .i64) hn33a) (by rw [by4]; exact hn33b) hn33c fun v34 jp jq p6 pk=>?_
 have d39:=dl (ofr pk) (one_lt (Row.lt (kr hr4 px)))
 have d40:=dl (ofr pk) (sl _ (kp _ pj.1 px))
 replace pk:=OE.low (G:=[]) pk (hB.trans px).size
 have kb:=px.trans p6
 replace hr4:=kr hr4 kb
 replace pj:=ko pj kb
 replace hB:=(hB.trans kb)
 refine Wb (Av v34 rfl) <| anz <| wq <| wq <| Wq rfl (cr [] jp) <| Qa (Ai rfl) <| fun p1d qz=>anz <| Wf (S1:=Int×(List Bool)) (fun s r w'=>match s with | (s1_8,s1_o38)=>Chg [] w w'∧Row w' b1 [.int .i64 (x0.C.Objects),zy,zt,z10,z11,z13,z14,z15] 96∧OE [] w.heap.size w' (sOwn 138 (sOwn 4 sBool)) [v17] (s0_5) qo∧OE [] w.heap.size w' (sOwn 4 sBool) [v34] (s1_o38) jq∧Dis [b1] qo∧Dis [b1] jq∧Dis qo jq∧∃ F,r=updL F [(1,v_x1),(2,.pointer (some (⟨b1,0,none⟩))),(5,v17),(6,.int .i64 (s0_6)),(7,v34),(8,.int .i64 (s1_8))]) (spec_l27Marks_T w) ho ⟨(hB.trans qz),(kr hr4 qz),(ko pj qz),(ko pk qz),(q2),((d39).symm),((d40).symm),fe rfl⟩ ?_ ?_
 rintro ⟨s1_8,s1_o38⟩ _ ga ⟨hB,hr4,pj,pk,j5,j6,j7,F,rfl⟩ o ho
 replace ho:spec_l27Marks_L1 x0 x1 s0_6 s1_8 s1_o38=some o:=ho
 unfold spec_l27Marks_L1 at ho
 refine wq <| wq <| Wq rfl (cr [] ga) <| Qa (Mi rfl) <| Qa (Mv v_x1 rfl) <| Qa (Mi rfl) <| ?_
 obtain ⟨e48,hx49e,ho⟩:=bs ho
 have hx49:=idx_some hx49e
 refine Qa (Ix sl26 (kB h_x1 hB) hx49 rfl rfl rfl) <| ?_
 obtain ⟨u50,fu51,hu52,p1e,hs54⟩:=one_get rfl h_x1 hx49.1 hx49.2
 refine Qa (Ld na23 (hB.cell0 hu52) rfl) <| Qa (Ln sl23 (kB p1e hB) rfl) <| Qa (Bl rfl rfl) <| fun gb ph=>anz <| W_cond (b:=decide (s1_8 < (e48.length:Int))) rfl ?_ ?_
 intro kc
 rw [kc] at ho
 refine W_skip <| anz <| wq <| W_block <| ?_
 obtain ⟨e58,hx59e,ho⟩:=bs ho
 have hx59:=idx_some hx59e
 obtain ⟨u60,fu61,hu62,p1f,hs64⟩:=one_get rfl z1r hx59.1 hx59.2
 obtain ⟨e65,hx66e,ho⟩:=bs ho
 have hx66:=idx_some hx66e
 obtain ⟨u67,fu68,hu69,gc,hs71⟩:=one_get rfl h_x1 hx66.1 hx66.2
 obtain ⟨e72,hx73e,ho⟩:=bs ho
 have hx73:=idx_some hx73e
 obtain ⟨u74,fu75,hu76,p1g,hs78⟩:=one_get rfl gc hx73.1 hx73.2
 refine W_any (m:=13) (U:=.replicate 13 []) (S:=[sV (v34),sV (.pointer (some (⟨b1,5,none⟩))),sV (z13),sV (.int .i64 (s0_6)),sV (.pointer (some (elA (z13) 1 (s0_6)))),sV (u60),sV (v_x1),sV (.int .i64 (s0_6)),sV (.pointer (some (elA (v_x1) 1 (s0_6)))),sV (u67),sV (.int .i64 (s1_8)),sV (.pointer (some (elA (u67) 1 (s1_8)))),sV (u74)]) (Z:=[0]) hmix rfl (by decide) (by decide +kernel) (fun _ _ _ h=>np_out h) (by decide) rfl (by decide +kernel) (stable_all (by repeat first | exact stable_nil | refine stable_cons stable_val ?_ | refine stable_cons stable_own ?_)) ?_ ?_
 refine owes_cons ?_ <| owes_cons ?_ <| owes_cons ?_ <| owes_cons ?_ <| owes_cons ?_ <| owes_cons ?_ <| owes_cons ?_ <| owes_cons ?_ <| owes_cons ?_ <| owes_cons ?_ <| owes_cons ?_ <| owes_cons ?_ <| owes_cons ?_ <| owes_nil
 exact Oh rfl rfl rfl [(7,v34)] ph rfl rfl fun _=>Mv v34 rfl
 exact Oh rfl rfl rfl [(2,.pointer (some (⟨b1,0,none⟩)))] ph rfl rfl fun _=>Fr fa96_1 rfl
 exact Ov rfl rfl rfl [] [(34,.pointer (some (⟨b1,5,none⟩)))] [1] ph rfl rfl (by decide +kernel) rfl fun _=>Lr na26 hr4 rfl rfl
 exact Oh rfl rfl rfl [(6,.int .i64 (s0_6))] ph rfl rfl fun _=>Mi rfl
 exact Ov rfl rfl rfl [] [(35,z13),(36,.int .i64 (s0_6))] [2,3] ph rfl rfl (by decide +kernel) rfl fun _=>Ix sl26 (kB z1r hB) hx59 rfl rfl rfl
 exact Ov rfl rfl rfl [] [(37,.pointer (some (elA (z13) 1 (s0_6))))] [4] ph rfl rfl (by decide +kernel) rfl fun _=>Ld na23 (hB.cell0 hu62) rfl
 exact Oh rfl rfl rfl [(1,v_x1)] ph rfl rfl fun _=>Mv v_x1 rfl
 exact Oh rfl rfl rfl [(6,.int .i64 (s0_6))] ph rfl rfl fun _=>Mi rfl
 exact Ov rfl rfl rfl [] [(39,v_x1),(40,.int .i64 (s0_6))] [6,7] ph rfl rfl (by decide +kernel) rfl fun _=>Ix sl26 (kB h_x1 hB) hx66 rfl rfl rfl
 exact Ov rfl rfl rfl [] [(41,.pointer (some (elA (v_x1) 1 (s0_6))))] [8] ph rfl rfl (by decide +kernel) rfl fun _=>Ld na23 (hB.cell0 hu69) rfl
 exact Oh rfl rfl rfl [(8,.int .i64 (s1_8))] ph rfl rfl fun _=>Mi rfl
 exact Ov rfl rfl rfl [] [(42,u67),(43,.int .i64 (s1_8))] [9,10] ph rfl rfl (by decide +kernel) rfl fun _=>Ix sl23 (kB gc hB) hx73 rfl rfl rfl
 exact Ov rfl rfl rfl [] [(44,.pointer (some (elA (u67) 1 (s1_8))))] [11] ph rfl rfl (by decide +kernel) rfl fun _=>Ld na22 (hB.cell0 hu76) rfl
 rintro g r p1h ⟨kd,hdone,hot,hfresh,hdis⟩
 have hdd:=hdis
 obtain ⟨F,rfl⟩:=fw hdone hot [(1,v_x1),(2,.pointer (some (⟨b1,0,none⟩))),(5,v17),(6,.int .i64 (s0_6)),(7,v34),(8,.int .i64 (s1_8))] [(33,v34),(38,u60),(45,u74)] [0,5,12] rfl rfl rfl rfl (z:=[]) trivial
 have jr:=(ph.trans kd)
 replace hr4:=kr hr4 jr
 replace pj:=ko pj jr
 replace pk:=ko pk jr
 replace hB:=(hB.trans jr)
 obtain ⟨y82,p1i,ho⟩:=bs ho
 refine WL.call rfl (op_callF Tryz.func111 rfl rfl) (spec_l09Find_calls (kp _ p1f hB) (kp _ p1g hB) p1i) <| ?_
 rintro _ gd ⟨rfl,ke⟩
 refine ⟨_,rfl,?_⟩
 obtain ⟨e86,hx87e,ho⟩:=bs ho
 have hx87:=idx_some hx87e
 refine Wa ke (Ix sl138 ((Le.own (Le.refl _) 4).le pk.1) hx87 rfl rfl rfl) <| WL.storeEl (z':=true) _ _ sBool_nofp rfl info4 sz4 (ko pk (ke)) hx87.2 rfl rfl ⟨rfl,rfl⟩ fun ge kf o90=>?_
 have kg:=((ke).nil (G:=jq)).trans kf
 replace hr4:=Row.keep hr4 kg (j6 _ (ms rfl))
 replace pj:=okp pj kg j7
 replace hB:=hB.then kg pk.2.2
 refine inBlk_n <| anz <| Wq rfl (cr [] ge) <| Qa (Mi rfl) <| Qa (Ba rfl rfl) <| Qa (Ai rfl) <| fun gf q8=>?_
 cases ho
 exact ⟨(hB.trans q8),(kr hr4 q8),(ko pj q8),(ko o90 q8),j5,j6,j7,fe rfl⟩
 intro kc
 rw [kc] at ho
 refine W_exit <| andThen_x <| ?_
 cases ho
 exact ⟨rfl,⟨(hB.trans ph),(kr hr4 ph),(ko pj ph),(ko pk ph),j5,j6,j7,fe rfl⟩⟩
 rintro ⟨s1_8,s1_o38⟩ _ p1k ⟨hB,hr4,pj,pk,j5,j6,j7,F,rfl⟩ ho
 dsimp only at ho
 refine anz <| W_region rfl <| Wb (Mv v17 rfl) <| Wb (Mv v34 rfl) <| WL.lit1 Tryz.underlying97 info138 zr138 sz138 (STy.one _ pk.1 _ (ms rfl)) fun b95 p1m js j8 p1n=>?_
 replace j8:Row p1m b95 [v34] 138:=j8
 have p1o:=dl (onw p1n) (sl _ pj.1)
 replace hr4:=kr hr4 js
 replace pj:=ko pj js
 replace pk:=ko pk js
 replace hB:=(hB.trans js)
 obtain ⟨n111,hn112,ho⟩:=bs ho
 have hn112a:=fits_some hn112
 refine WL.append1 (E:=(sOwn 4 sBool)) _ _ Tryz.underlying97 info138 zr138 sz138 rfl rfl rfl pj rfl j8 pk.1 pk.2.1 pk.2.2 (j7).symm (by rw [by138]; exact hn112a.1) hn112a.2 hB.size fun v105 p1p p4z kh p1q hs110=>?_
 have p1r:=dis_upd hs110 (j5).symm (j6).symm (one_lt (Row.lt hr4))
 replace hr4:=Row.keep hr4 kh (j5 _ (ms rfl))
 replace j8:=Row.keep j8 kh (p1o _ (ms rfl))
 replace hB:=hB.then kh pj.2.2
 refine Wb (Av v105 rfl) <| inBlk_n <| anz <| Wq rfl (cr [] p1p) <| Qa (Mi rfl) <| Qa (Ba rfl rfl) <| Qa (Ai rfl) <| fun gg ki=>?_
 cases ho
 exact ⟨_,_,(hB.trans ki),(kr hr4 ki),(ko p1q ki),((p1r).symm),fe rfl⟩
 intro ka
 rw [ka] at ho
 refine W_exit <| andThen_x <| ?_
 cases ho
 exact ⟨rfl,⟨_,_,(hB.trans px),(kr hr4 px),(ko pj px),q2,fe rfl⟩⟩
 rintro ⟨s0_5,s0_6⟩ _ p1s ⟨v17,qo,hB,hr4,pj,q2,F,rfl⟩ ho
 dsimp only at ho
 refine anz <| wq <| Wq rfl (cr [] p1s) <| Qa (Mv v17 rfl) <| Qa (Av v17 rfl) <| fun gh gi=>anz <| ?_
 cases ho
 exact W_ret ⟨_,res_1 Tryz.results136,_,_,rfl,(hB.trans gi),(ko pj gi)⟩

abbrev spec_l27Read_post (zo:List Nat) (zp:List Nat) (zq:List Nat) (zr:List Nat) (z8:List Nat) (w:World) (x:(ML27Table×(List (List Bool))×Int)) (e:Ending) (w':World):Prop:=∃ (v0:Value) (f0:List Nat) (v1:Value) (f1:List Nat) (v2:Value) (f2:List Nat) (v3:Value) (f3:List Nat) (v4:Value) (f4:List Nat) (v5:Value) (f5:List Nat) (v6:Value) (f6:List Nat) (v7:Value) (f7:List Nat),e = .returned (.tuple #[.agg #[.int .i64 x.1.C.Objects,v0,v1,v2,v3,v4,v5,v6],v7,.int .i64 x.2.2])∧Chg [] w w'∧(sImm (sInt .i64)).rep w'.heap [v0] x.1.C.From f0∧(∀ b∈f0,b∈(zo++(zp++(zq++(zr++z8)))) ∨ w.heap.size≤b)∧(sImm (sInt .i64)).rep w'.heap [v1] x.1.C.To f1∧(∀ b∈f1,b∈(zo++(zp++(zq++(zr++z8)))) ∨ w.heap.size≤b)∧(sImm (sInt .i64)).rep w'.heap [v2] x.1.C.Identity f2∧(∀ b∈f2,b∈(zo++(zp++(zq++(zr++z8)))) ∨ w.heap.size≤b)∧(sImm (sImm (sInt .i64))).rep w'.heap [v3] x.1.C.Composites f3∧(∀ b∈f3,b∈(zo++(zp++(zq++(zr++z8)))) ∨ w.heap.size≤b)∧(sImm (sImm (sImm (sInt .i64)))).rep w'.heap [v4] x.1.Lists f4∧(∀ b∈f4,b∈(zo++(zp++(zq++(zr++z8)))) ∨ w.heap.size≤b)∧(sImm (sImm (sInt .i64))).rep w'.heap [v5] x.1.Pulls f5∧(∀ b∈f5,b∈(zo++(zp++(zq++(zr++z8)))) ∨ w.heap.size≤b)∧(sImm (sInt .i64)).rep w'.heap [v6] x.1.Tops f6∧(∀ b∈f6,b∈(zo++(zp++(zq++(zr++z8)))) ∨ w.heap.size≤b)∧OE [] w.heap.size w' (sOwn 138 (sOwn 4 sBool)) [v7] x.2.1 f7∧Dis f0 f7∧Dis f1 f7∧Dis f2 f7∧Dis f3 f7∧Dis f4 f7∧Dis f5 f7∧Dis f6 f7
abbrev spec_l27Read_T (zo:List Nat) (zp:List Nat) (zq:List Nat) (zr:List Nat) (z8:List Nat) (w:World):=Tm Tryz.prog Tryz.f70 25 (spec_l27Read_post zo zp zq zr z8 w)
theorem spec_l27Read_calls {w:World} {x0:MTopology} {zk:Value} {zo:List Nat} {zl:Value} {zp:List Nat} {zm:Value} {zq:List Nat} {zn:Value} {zr:List Nat} {ze:Value} {z8:List Nat} (zu:(sImm (sInt .i64)).rep w.heap [zk] x0.Shape.From zo) (zv:(sImm (sInt .i64)).rep w.heap [zl] x0.Shape.To zp) (zw:(sImm (sInt .i64)).rep w.heap [zm] x0.Shape.Identity zq) (zx:(sImm (sImm (sInt .i64))).rep w.heap [zn] x0.Shape.Composites zr) (zj:(sImm (sImm (sImm (sInt .i64)))).rep w.heap [ze] x0.Covers z8) {y:(ML27Table×(List (List Bool))×Int)} (hm:spec_l27Read x0=some y) :
  Calls Tryz.prog 70 #[.agg #[.int .i64 (x0.Shape.Objects),zk,zl,zm,zn,ze]] w (spec_l27Read_post zo zp zq zr z8 w y):=by
 refine Cm (S:=Unit) Tryz.func70 rfl Tryz.ntmps70 rfl hm fun o ho hB=>?_
 clear hm
 refine wq <| W_region rfl <| WL.box fun b1 wd2 hC3 hr4 hl5=>?_
 replace hr4:Row wd2 b1 [.int .i64 (x0.Shape.Objects),zk,zl,zm,zn,ze] 34:=hr4
 replace zu:=kp _ zu hC3
 replace zv:=kp _ zv hC3
 replace zw:=kp _ zw hC3
 replace zx:=kp _ zx hC3
 replace zj:=kp _ zj hC3
 replace hB:=(hB.trans hC3)
 refine WL.alloc info96 zr96 fun py gj qp pi qq=>?_
 replace pi:Row gj py [.int .i64 ((0:Int)),.slice none 0 0,.slice none 0 0,.slice none 0 0,.slice none 0 0,.slice none 0 0,.slice none 0 0,.slice none 0 0] 96:=pi
 have kj:w.heap.size≤py:=Nat.le_trans hB.size qq
 have qa:=dl (onw qq) (sl _ zu)
 have q2:=dl (onw qq) (sl _ zv)
 have qb:=dl (onw qq) (sl _ zw)
 have qc:=dl (onw qq) (sl _ zx)
 have d23:=dl (onw qq) (sl _ zj)
 have d24:=dl (onw qq) (one_lt (Row.lt hr4))
 replace zu:=kp _ zu qp
 replace zv:=kp _ zv qp
 replace zw:=kp _ zw qp
 replace zx:=kp _ zx qp
 replace zj:=kp _ zj qp
 replace hr4:=kr hr4 qp
 replace hB:=(hB.trans qp)
 refine Wb (As rfl) <| Wb (Ai rfl) <| anz <| wq <| wq <| Wq rfl (cr [] gj) <| Qa (Lg ag34 hr4.at rfl rfl) <| ?_
 obtain ⟨y26,kk,ho⟩:=bs ho
 refine Qc Tryz.func75 rfl rfl (fun _ hC=>spec_l27Shape_calls (kp _ zu hC) (kp _ zv hC) (kp _ zw hC) (kp _ zx hC) (kp _ zj hC) kk) <| Qa (Nt rfl) <| fun p1v pc=>anz <| W_cond (b:=!(y26)) rfl ?_ ?_
 intro qr
 rw [qr] at ho
 refine wq <| W_region rfl <| Wb (Bu bld96_) <| WL.storeAll (us:=[.int .i64 ((0:Int)),.slice none 0 0,.slice none 0 0,.slice none 0 0,.slice none 0 0,.slice none 0 0,.slice none 0 0,.slice none 0 0]) info96 (by rw [sz96]; rfl) (kr pi pc) rfl rfl rfl (by intro u hu; simp only [List.mem_cons,List.mem_nil_iff,or_false] at hu; rcases hu with rfl | rfl | rfl | rfl | rfl | rfl | rfl | rfl <;> first | exact rfl) fun gk kl km=>?_
 replace km:Row gk py [.int .i64 ((0:Int)),.slice none 0 0,.slice none 0 0,.slice none 0 0,.slice none 0 0,.slice none 0 0,.slice none 0 0,.slice none 0 0] 96:=km
 have p1w:=(pc.nil (G:=[py])).trans kl
 replace hB:=hB.then p1w (one_then kj)
 refine Wb (As rfl) <| Wb (Ai rfl) <| anz <| ?_
 cases ho
 exact W_ret ⟨_,res_c2 Tryz.results70 Tryz.underlying96 rfl info96 (by rw [sz96]; rfl) rfl km.at,_,_,_,_,_,_,_,_,_,_,_,_,_,_,_,_,rfl,hB,nil_imm,(fun _ h=>nomatch h),nil_imm,(fun _ h=>nomatch h),nil_imm,(fun _ h=>nomatch h),nil_imm,(fun _ h=>nomatch h),nil_imm,(fun _ h=>nomatch h),nil_imm,(fun _ h=>nomatch h),nil_imm,(fun _ h=>nomatch h),nil_OE,(fun _ h=>nomatch h),(fun _ h=>nomatch h),(fun _ h=>nomatch h),(fun _ h=>nomatch h),(fun _ h=>nomatch h),(fun _ h=>nomatch h),(fun _ h=>nomatch h)⟩
 intro qr
 rw [qr] at ho
 refine W_skip <| anz <| wq <| W_region rfl <| Wb (Fr fa34_0 rfl) <| ?_
 refine WL.val (v:=.agg #[.int .i64 (x0.Shape.Objects),zk,zl,zm,zn]) rfl (op_loadAgg (cs:=[.int .i64 (x0.Shape.Objects),zk,zl,zm,zn]) u32 rfl info32 (by rw [sz32]; rfl) rfl (At.sub (kr hr4 pc).at 0 5)) ?_
 obtain ⟨y35,p1x,ho⟩:=bs ho
 refine WL.call rfl (op_callF Tryz.func135 rfl rfl) (spec_l27Make_calls (kp _ zu pc) (kp _ zv pc) (kp _ zw pc) (kp _ zx pc) p1x) <| ?_
 rintro _ gl ⟨v39,gm,v42,gn,v45,pr,v48,ps,v51,pt,v54,pu,v57,pv,rfl,p1y,q4,go,q5,gp,p7,gq,p8,gr,p9,gs,pa,gt,pb,j3⟩
 refine ⟨_,rfl,?_⟩
 have d89:Dis gm [py]:=dis_out go (da (qa).symm (da (q2).symm (da (qb).symm (qc).symm))) (one_lt (Row.lt (kr pi pc)))
 have p20 : ∀ b∈gm,b∈(zo++(zp++(zq++(zr++z8)))) ∨ w.heap.size≤b:=low_out go (low_app (fun b hb=>.inl (by simp [hb])) (low_app (fun b hb=>.inl (by simp [hb])) (low_app (fun b hb=>.inl (by simp [hb])) (fun b hb=>.inl (by simp [hb]))))) (hB.trans pc).size
 have d92:Dis gn [py]:=dis_out gp (da (qa).symm (da (q2).symm (da (qb).symm (qc).symm))) (one_lt (Row.lt (kr pi pc)))
 have p22 : ∀ b∈gn,b∈(zo++(zp++(zq++(zr++z8)))) ∨ w.heap.size≤b:=low_out gp (low_app (fun b hb=>.inl (by simp [hb])) (low_app (fun b hb=>.inl (by simp [hb])) (low_app (fun b hb=>.inl (by simp [hb])) (fun b hb=>.inl (by simp [hb]))))) (hB.trans pc).size
 have d95:Dis pr [py]:=dis_out gq (da (qa).symm (da (q2).symm (da (qb).symm (qc).symm))) (one_lt (Row.lt (kr pi pc)))
 have p24 : ∀ b∈pr,b∈(zo++(zp++(zq++(zr++z8)))) ∨ w.heap.size≤b:=low_out gq (low_app (fun b hb=>.inl (by simp [hb])) (low_app (fun b hb=>.inl (by simp [hb])) (low_app (fun b hb=>.inl (by simp [hb])) (fun b hb=>.inl (by simp [hb]))))) (hB.trans pc).size
 have d98:Dis ps [py]:=dis_out gr (da (qa).symm (da (q2).symm (da (qb).symm (qc).symm))) (one_lt (Row.lt (kr pi pc)))
 have p26 : ∀ b∈ps,b∈(zo++(zp++(zq++(zr++z8)))) ∨ w.heap.size≤b:=low_out gr (low_app (fun b hb=>.inl (by simp [hb])) (low_app (fun b hb=>.inl (by simp [hb])) (low_app (fun b hb=>.inl (by simp [hb])) (fun b hb=>.inl (by simp [hb]))))) (hB.trans pc).size
 have k3:Dis pt [py]:=dis_out gs (da (qa).symm (da (q2).symm (da (qb).symm (qc).symm))) (one_lt (Row.lt (kr pi pc)))
 have p27 : ∀ b∈pt,b∈(zo++(zp++(zq++(zr++z8)))) ∨ w.heap.size≤b:=low_out gs (low_app (fun b hb=>.inl (by simp [hb])) (low_app (fun b hb=>.inl (by simp [hb])) (low_app (fun b hb=>.inl (by simp [hb])) (fun b hb=>.inl (by simp [hb]))))) (hB.trans pc).size
 have p28:Dis pu [py]:=dis_out gt (da (qa).symm (da (q2).symm (da (qb).symm (qc).symm))) (one_lt (Row.lt (kr pi pc)))
 have p29 : ∀ b∈pu,b∈(zo++(zp++(zq++(zr++z8)))) ∨ w.heap.size≤b:=low_out gt (low_app (fun b hb=>.inl (by simp [hb])) (low_app (fun b hb=>.inl (by simp [hb])) (low_app (fun b hb=>.inl (by simp [hb])) (fun b hb=>.inl (by simp [hb]))))) (hB.trans pc).size
 have p2a:Dis pv [py]:=dis_out j3 (da (qa).symm (da (q2).symm (da (qb).symm (qc).symm))) (one_lt (Row.lt (kr pi pc)))
 have p2b : ∀ b∈pv,b∈(zo++(zp++(zq++(zr++z8)))) ∨ w.heap.size≤b:=low_out j3 (low_app (fun b hb=>.inl (by simp [hb])) (low_app (fun b hb=>.inl (by simp [hb])) (low_app (fun b hb=>.inl (by simp [hb])) (fun b hb=>.inl (by simp [hb]))))) (hB.trans pc).size
 have qk:=pc.trans p1y
 replace zu:=kp _ zu qk
 replace zv:=kp _ zv qk
 replace zw:=kp _ zw qk
 replace zx:=kp _ zx qk
 replace zj:=kp _ zj qk
 replace hr4:=kr hr4 qk
 replace pi:=kr pi qk
 replace hB:=(hB.trans qk)
 refine Wb (Mt rfl) <| Wb (Ex (.agg #[.int .i64 (y35.1.C.Objects),v39,v42,v45,v48,v51,v54,v57]) rfl rfl) <| Wb (Exb rfl rfl) <| WL.alloc info96 zr96 fun j9 p2c pz j0 q0=>?_
 replace j0:Row p2c j9 [.int .i64 ((0:Int)),.slice none 0 0,.slice none 0 0,.slice none 0 0,.slice none 0 0,.slice none 0 0,.slice none 0 0,.slice none 0 0] 96:=j0
 have p2d:w.heap.size≤j9:=Nat.le_trans hB.size q0
 have p2e:=dl (onw q0) (sl _ zu)
 have k4:=dl (onw q0) (sl _ zv)
 have p2f:=dl (onw q0) (sl _ zw)
 have p2g:=dl (onw q0) (sl _ zx)
 have p2h:=dl (onw q0) (sl _ zj)
 have p2i:=dl (onw q0) (one_lt (Row.lt hr4))
 have gu:=dl (onw q0) (one_lt (Row.lt pi))
 have p2j:=dl (onw q0) (sl _ q4)
 have p2k:=dl (onw q0) (sl _ q5)
 have p2l:=dl (onw q0) (sl _ p7)
 have k5:=dl (onw q0) (sl _ p8)
 have p2m:=dl (onw q0) (sl _ p9)
 have p2n:=dl (onw q0) (sl _ pa)
 have p2o:=dl (onw q0) (sl _ pb)
 replace zu:=kp _ zu pz
 replace zv:=kp _ zv pz
 replace zw:=kp _ zw pz
 replace zx:=kp _ zx pz
 replace zj:=kp _ zj pz
 replace q4:=kp _ q4 pz
 replace q5:=kp _ q5 pz
 replace p7:=kp _ p7 pz
 replace p8:=kp _ p8 pz
 replace p9:=kp _ p9 pz
 replace pa:=kp _ pa pz
 replace pb:=kp _ pb pz
 replace hr4:=kr hr4 pz
 replace pi:=kr pi pz
 replace hB:=(hB.trans pz)
 refine WL.storeAll (us:=[.int .i64 (y35.1.C.Objects),v39,v42,v45,v48,v51,v54,v57]) info96 (by rw [sz96]; rfl) j0 rfl rfl rfl (by intro u hu; simp only [List.mem_cons,List.mem_nil_iff,or_false] at hu; rcases hu with rfl | rfl | rfl | rfl | rfl | rfl | rfl | rfl <;> first | exact rfl | exact (STy.one _ q4 _ (ms rfl)) | exact (STy.one _ q5 _ (ms rfl)) | exact (STy.one _ p7 _ (ms rfl)) | exact (STy.one _ p8 _ (ms rfl)) | exact (STy.one _ p9 _ (ms rfl)) | exact (STy.one _ pa _ (ms rfl)) | exact (STy.one _ pb _ (ms rfl))) fun gv q1 ql=>?_
 replace ql:Row gv j9 [.int .i64 (y35.1.C.Objects),v39,v42,v45,v48,v51,v54,v57] 96:=ql
 replace zu:=STy.keep _ zu q1 (p2e).symm
 replace zv:=STy.keep _ zv q1 (k4).symm
 replace zw:=STy.keep _ zw q1 (p2f).symm
 replace zx:=STy.keep _ zx q1 (p2g).symm
 replace zj:=STy.keep _ zj q1 (p2h).symm
 replace q4:=STy.keep _ q4 q1 (p2j).symm
 replace q5:=STy.keep _ q5 q1 (p2k).symm
 replace p7:=STy.keep _ p7 q1 (p2l).symm
 replace p8:=STy.keep _ p8 q1 (k5).symm
 replace p9:=STy.keep _ p9 q1 (p2m).symm
 replace pa:=STy.keep _ pa q1 (p2n).symm
 replace pb:=STy.keep _ pb q1 (p2o).symm
 replace hr4:=Row.keep hr4 q1 ((p2i).symm _ (ms rfl))
 replace pi:=Row.keep pi q1 ((gu).symm _ (ms rfl))
 replace hB:=hB.then q1 (one_then p2d)
 refine Wb (Ab rfl) <| anz <| wq <| wq <| Wq rfl (cr [] gv) <| Qa (Mb rfl) <| Qa (Nt rfl) <| fun g8 p5=>anz <| W_cond (b:=!(y35.2)) rfl ?_ ?_
 intro kn
 rw [kn] at ho
 refine wq <| W_region rfl <| Wb (Bu bld96_) <| WL.storeAll (us:=[.int .i64 ((0:Int)),.slice none 0 0,.slice none 0 0,.slice none 0 0,.slice none 0 0,.slice none 0 0,.slice none 0 0,.slice none 0 0]) info96 (by rw [sz96]; rfl) (kr pi p5) rfl rfl rfl (by intro u hu; simp only [List.mem_cons,List.mem_nil_iff,or_false] at hu; rcases hu with rfl | rfl | rfl | rfl | rfl | rfl | rfl | rfl <;> first | exact rfl) fun p2p p2q kq=>?_
 replace kq:Row p2p py [.int .i64 ((0:Int)),.slice none 0 0,.slice none 0 0,.slice none 0 0,.slice none 0 0,.slice none 0 0,.slice none 0 0,.slice none 0 0] 96:=kq
 have p2r:=(p5.nil (G:=[py])).trans p2q
 replace hB:=hB.then p2r (one_then kj)
 refine Wb (As rfl) <| Wb (Ai rfl) <| anz <| ?_
 cases ho
 exact W_ret ⟨_,res_c2 Tryz.results70 Tryz.underlying96 rfl info96 (by rw [sz96]; rfl) rfl kq.at,_,_,_,_,_,_,_,_,_,_,_,_,_,_,_,_,rfl,hB,nil_imm,(fun _ h=>nomatch h),nil_imm,(fun _ h=>nomatch h),nil_imm,(fun _ h=>nomatch h),nil_imm,(fun _ h=>nomatch h),nil_imm,(fun _ h=>nomatch h),nil_imm,(fun _ h=>nomatch h),nil_imm,(fun _ h=>nomatch h),nil_OE,(fun _ h=>nomatch h),(fun _ h=>nomatch h),(fun _ h=>nomatch h),(fun _ h=>nomatch h),(fun _ h=>nomatch h),(fun _ h=>nomatch h),(fun _ h=>nomatch h)⟩
 intro kn
 rw [kn] at ho
 refine W_skip <| anz <| wq <| ?_
 obtain ⟨y142,p2s,ho⟩:=bs ho
 refine W_any (m:=5) (U:=.replicate 5 []) (S:=[sV (.agg #[.int .i64 (y35.1.C.Objects),v39,v42,v45,v48,v51,v54,v57]),sV (.agg #[.int .i64 (y35.1.C.Objects),v39,v42,v45,v48,v51,v54,v57]),sV (.pointer (some (⟨b1,5,none⟩))),sV (ze),sO (sOwn 138 (sOwn 4 sBool)) (y142)]) (Z:=[]) hmix rfl (by decide) (by decide +kernel) (fun _ _ _ h=>np_out h) (by decide) rfl (by decide +kernel) (stable_all (by repeat first | exact stable_nil | refine stable_cons stable_val ?_ | refine stable_cons stable_own ?_)) ?_ ?_
 refine owes_cons ?_ <| owes_cons ?_ <| owes_cons ?_ <| owes_cons ?_ <| owes_cons ?_ <| owes_nil
 exact Oh rfl rfl rfl [(5,.pointer (some (⟨j9,0,none⟩)))] p5 rfl rfl fun _=>Lg ag96 ql.at rfl rfl
 exact Oh rfl rfl rfl [(5,.pointer (some (⟨j9,0,none⟩)))] p5 rfl rfl fun _=>Lg ag96 ql.at rfl rfl
 exact Oh rfl rfl rfl [(1,.pointer (some (⟨b1,0,none⟩)))] p5 rfl rfl fun _=>Fr fa34_1 rfl
 exact Ov rfl rfl rfl [] [(22,.pointer (some (⟨b1,5,none⟩)))] [2] p5 rfl rfl (by decide +kernel) rfl fun _=>Lr na26 hr4 rfl rfl
 refine Owes.mem rfl rfl rfl <| fun g r wr hCr H hot=>?_
 have hC:=p5.trans hCr
 obtain ⟨F,rfl⟩:=fr (r:=r) (l:=[(21,.agg #[.int .i64 (y35.1.C.Objects),v39,v42,v45,v48,v51,v54,v57]),(23,ze)]) ⟨(H 1 (by decide +kernel) 21 rfl),(H 3 (by decide +kernel) 23 rfl),trivial⟩
 exact OpW.own (op_callF Tryz.func136 rfl rfl) (spec_l27Marks_calls (kp _ q4 hC) (kp _ q5 hC) (kp _ p7 hC) (kp _ p8 hC) (kp _ p9 hC) (kp _ pa hC) (kp _ pb hC) (kp _ zj hC) p2s)
 rintro g r gw ⟨ks,hdone,hot,hfresh,hdis⟩
 have qm:OwnV (sOwn 138 (sOwn 4 sBool)) (y142) _ _ _:=hdone 4 (by decide) (by decide) 24 rfl
 generalize hvv144:r 24=v144 at qm
 have hfo146:=hfresh 4 (by decide)
 have hdd:=hdis
 obtain ⟨F,rfl⟩:=fw hdone hot [(2,.pointer (some (⟨py,0,none⟩)))] [(20,.agg #[.int .i64 (y35.1.C.Objects),v39,v42,v45,v48,v51,v54,v57])] [0] rfl rfl rfl rfl (z:=[(24,v144)]) ⟨hvv144,trivial⟩
 obtain ⟨p2t,hgf145⟩ : ∃ k,k=g 4:=⟨_,rfl⟩
 rw [← hgf145] at qm hfo146
 replace qm:OE [] w.heap.size gw (sOwn 138 (sOwn 4 sBool)) [v144] (y142) p2t:=⟨qm.1,qm.2,fun b hb=>.inr (Nat.le_trans (hB.trans p5).size (hfo146 b hb).1)⟩
 have p2u:=dl (fun b hb=>(hfo146 b hb).1) (one_lt (Row.lt (kr pi p5)))
 have kt:=dl (fun b hb=>(hfo146 b hb).1) (sl _ (kp _ q4 p5))
 have p2v:=dl (fun b hb=>(hfo146 b hb).1) (sl _ (kp _ q5 p5))
 have p2w:=dl (fun b hb=>(hfo146 b hb).1) (sl _ (kp _ p7 p5))
 have p2x:=dl (fun b hb=>(hfo146 b hb).1) (sl _ (kp _ p8 p5))
 have p2y:=dl (fun b hb=>(hfo146 b hb).1) (sl _ (kp _ p9 p5))
 have p2z:=dl (fun b hb=>(hfo146 b hb).1) (sl _ (kp _ pa p5))
 have p30:=dl (fun b hb=>(hfo146 b hb).1) (sl _ (kp _ pb p5))
 have pw:=(p5.trans ks)
 replace zu:=kp _ zu pw
 replace zv:=kp _ zv pw
 replace zw:=kp _ zw pw
 replace zx:=kp _ zx pw
 replace zj:=kp _ zj pw
 replace hr4:=kr hr4 pw
 replace pi:=kr pi pw
 replace q4:=kp _ q4 pw
 replace q5:=kp _ q5 pw
 replace p7:=kp _ p7 pw
 replace p8:=kp _ p8 pw
 replace p9:=kp _ p9 pw
 replace pa:=kp _ pa pw
 replace pb:=kp _ pb pw
 replace ql:=kr ql pw
 replace hB:=(hB.trans pw)
 refine WL.storeAll (us:=[.int .i64 (y35.1.C.Objects),v39,v42,v45,v48,v51,v54,v57]) info96 (by rw [sz96]; rfl) pi rfl rfl rfl (by intro u hu; simp only [List.mem_cons,List.mem_nil_iff,or_false] at hu; rcases hu with rfl | rfl | rfl | rfl | rfl | rfl | rfl | rfl <;> first | exact rfl | exact (STy.one _ q4 _ (ms rfl)) | exact (STy.one _ q5 _ (ms rfl)) | exact (STy.one _ p7 _ (ms rfl)) | exact (STy.one _ p8 _ (ms rfl)) | exact (STy.one _ p9 _ (ms rfl)) | exact (STy.one _ pa _ (ms rfl)) | exact (STy.one _ pb _ (ms rfl))) fun gx pm ku=>?_
 replace ku:Row gx py [.int .i64 (y35.1.C.Objects),v39,v42,v45,v48,v51,v54,v57] 96:=ku
 replace zu:=STy.keep _ zu pm (qa).symm
 replace zv:=STy.keep _ zv pm (q2).symm
 replace zw:=STy.keep _ zw pm (qb).symm
 replace zx:=STy.keep _ zx pm (qc).symm
 replace zj:=STy.keep _ zj pm (d23).symm
 replace q4:=STy.keep _ q4 pm d89
 replace q5:=STy.keep _ q5 pm d92
 replace p7:=STy.keep _ p7 pm d95
 replace p8:=STy.keep _ p8 pm d98
 replace p9:=STy.keep _ p9 pm k3
 replace pa:=STy.keep _ pa pm p28
 replace pb:=STy.keep _ pb pm p2a
 replace hr4:=Row.keep hr4 pm ((d24).symm _ (ms rfl))
 replace ql:=Row.keep ql pm (gu _ (ms rfl))
 replace qm:=okp qm pm p2u
 replace hB:=hB.then pm (one_then kj)
 refine Wb (Av v144 rfl) <| Wb (Ai rfl) <| anz <| ?_
 cases ho
 exact W_ret ⟨_,res_c2 Tryz.results70 Tryz.underlying96 rfl info96 (by rw [sz96]; rfl) rfl ku.at,_,_,_,_,_,_,_,_,_,_,_,_,_,_,_,_,rfl,hB,q4,p20,q5,p22,p7,p24,p8,p26,p9,p27,pa,p29,pb,p2b,qm,(kt).symm,(p2v).symm,(p2w).symm,(p2x).symm,(p2y).symm,(p2z).symm,(p30).symm⟩

abbrev spec_l27Local_post (w:World) (x:(Bool)) (e:Ending) (w':World):Prop:=e = .returned (.bool x)∧Chg [] w w'
abbrev spec_l27Local_T (w:World):=Tm Tryz.prog Tryz.f207 53 (spec_l27Local_post w)
theorem spec_l27Local_calls {w:World} {x0:ML27Table} {zy:Value} {z17:List Nat} {zt:Value} {z18:List Nat} {z10:Value} {z19:List Nat} {z11:Value} {z1a:List Nat} {z13:Value} {z21:List Nat} {z14:Value} {z23:List Nat} {z15:Value} {z26:List Nat} {x1:(List (List Bool))} {v_x1:Value} {f_x1:List Nat} {x2:Int} {x3:Int} {x4:Int} (z16:(sImm (sInt .i64)).rep w.heap [zy] x0.C.From z17) (z12:(sImm (sInt .i64)).rep w.heap [zt] x0.C.To z18) (z1b:(sImm (sInt .i64)).rep w.heap [z10] x0.C.Identity z19) (z1c:(sImm (sImm (sInt .i64))).rep w.heap [z11] x0.C.Composites z1a) (z1r:(sImm (sImm (sImm (sInt .i64)))).rep w.heap [z13] x0.Lists z21) (z1s:(sImm (sImm (sInt .i64))).rep w.heap [z14] x0.Pulls z23) (z27:(sImm (sInt .i64)).rep w.heap [z15] x0.Tops z26) (h_x1:(sImm (sImm sBool)).rep w.heap [v_x1] x1 f_x1) {y:(Bool)} (hm:spec_l27Local x0 x1 x2 x3 x4=some y) :
  Calls Tryz.prog 207 #[.agg #[.int .i64 (x0.C.Objects),zy,zt,z10,z11,z13,z14,z15],v_x1,.int .i64 (x2),.int .i64 (x3),.int .i64 (x4)] w (spec_l27Local_post w y):=by
 refine Cm (S:=Unit) Tryz.func207 rfl Tryz.ntmps207 rfl hm fun o ho hB=>?_
 clear hm
 refine wq <| W_region rfl <| WL.box fun b1 wd2 hC3 hr4 hl5=>?_
 replace hr4:Row wd2 b1 [.int .i64 (x0.C.Objects),zy,zt,z10,z11,z13,z14,z15] 96:=hr4
 replace hB:=(hB.trans hC3)
 refine Wb (Ab rfl) <| anz <| wq <| Wq rfl (cr [] wd2) <| Qa (Fr fa96_1 rfl) <| Qa (Lr na26 hr4 rfl rfl) <| Qa (Mi rfl) <| ?_
 obtain ⟨e8,hx9e,ho⟩:=bs ho
 have hx9:=idx_some hx9e
 refine Qa (Ix sl26 (kB z1r hB) hx9 rfl rfl rfl) <| ?_
 obtain ⟨u10,fu11,hu12,gy,hs14⟩:=one_get rfl z1r hx9.1 hx9.2
 refine Qa (Ld na23 (hB.cell0 hu12) rfl) <| Qa (Mi rfl) <| ?_
 obtain ⟨e15,hx16e,ho⟩:=bs ho
 have hx16:=idx_some hx16e
 refine Qa (Ix sl23 (kB gy hB) hx16 rfl rfl rfl) <| ?_
 obtain ⟨u17,fu18,hu19,ja,hs21⟩:=one_get rfl gy hx16.1 hx16.2
 refine Qa (Ld na22 (hB.cell0 hu19) rfl) <| Qa (Av u17 rfl) <| fun jo px=>anz <| wq <| wq <| Wq rfl px <| Qa (Ai rfl) <| fun p50 gz=>anz <| Wf (S1:=Int) (fun (s0_12:Int) r w'=>Chg [] w w'∧Row w' b1 [.int .i64 (x0.C.Objects),zy,zt,z10,z11,z13,z14,z15] 96∧∃ F,r=updL F [(1,v_x1),(4,.int .i64 (x4)),(5,.pointer (some (⟨b1,0,none⟩))),(11,u17),(12,.int .i64 (s0_12))]) (spec_l27Local_T w) ho ⟨(hB.trans gz),(kr hr4 gz),fe rfl⟩ ?_ ?_
 rintro s0_12 _ jk ⟨hB,hr4,F,rfl⟩ o ho
 replace ho:spec_l27Local_L0 x0 x1 x4 e15 s0_12=some o:=ho
 unfold spec_l27Local_L0 at ho
 refine wq <| wq <| Wq rfl (cr [] jk) <| Qa (Mi rfl) <| Qa (Mv u17 rfl) <| Qa (Ln sl22 (kB ja hB) rfl) <| Qa (Bl rfl rfl) <| fun p51 kv=>anz <| W_cond (b:=decide (s0_12 < (e15.length:Int))) rfl ?_ ?_
 intro pf
 rw [pf] at ho
 refine W_skip <| anz <| wq <| W_block <| wq <| Wqd rfl (by kernel_rfl) kv <| Qa (Mv v_x1 rfl) <| Qa (Fr fa96_0 rfl) <| Qa (Fr fa32_2 rfl) <| Qa (Lr na22 hr4 rfl rfl) <| Qa (Mv u17 rfl) <| Qa (Mi rfl) <| ?_
 obtain ⟨e30,hx31e,ho⟩:=bs ho
 have hx31:=idx_some hx31e
 refine Qa (Ix sl22 (kB ja hB) hx31 rfl rfl rfl) <| Qa (Ei na2 (kB ja hB) hx31 rfl) <| ?_
 obtain ⟨e32,hx33e,ho⟩:=bs ho
 have hx33:=idx_some hx33e
 refine Qa (Ix sl22 (kB z12 hB) hx33 rfl rfl rfl) <| Qa (Ei na2 (kB z12 hB) hx33 rfl) <| ?_
 obtain ⟨e34,hx35e,ho⟩:=bs ho
 have hx35:=idx_some hx35e
 refine Qa (Ix sl97 (kB h_x1 hB) hx35 rfl rfl rfl) <| ?_
 obtain ⟨u36,fu37,hu38,p00,hs40⟩:=one_get rfl h_x1 hx35.1 hx35.2
 refine Qa (Ld na138 (hB.cell0 hu38) rfl) <| Qa (Fr fa96_2 rfl) <| Qa (Lr na23 hr4 rfl rfl) <| Qa (Mv u17 rfl) <| Qa (Mi rfl) <| ?_
 obtain ⟨e41,hx42e,ho⟩:=bs ho
 have hx42:=idx_some hx42e
 refine Qa (Ix sl22 (kB ja hB) hx42 rfl rfl rfl) <| Qa (Ei na2 (kB ja hB) hx42 rfl) <| ?_
 obtain ⟨e43,hx44e,ho⟩:=bs ho
 have hx44:=idx_some hx44e
 refine Qa (Ix sl23 (kB z1s hB) hx44 rfl rfl rfl) <| ?_
 obtain ⟨u45,fu46,hu47,p01,hs49⟩:=one_get rfl z1s hx44.1 hx44.2
 refine Qa (Ld na22 (hB.cell0 hu47) rfl) <| Qa (Mi rfl) <| ?_
 obtain ⟨e50,hx51e,ho⟩:=bs ho
 have hx51:=idx_some hx51e
 refine Qa (Ix sl22 (kB p01 hB) hx51 rfl rfl rfl) <| Qa (Ei na2 (kB p01 hB) hx51 rfl) <| ?_
 obtain ⟨e52,hx53e,ho⟩:=bs ho
 have hx53:=idx_some hx53e
 refine Qa (Ix sl138 (kB p00 hB) hx53 rfl rfl rfl) <| Qa (Eb na4 (kB p00 hB) hx53 rfl) <| Qa (Nt rfl) <| fun p02 p03=>anz <| W_cond (b:=!(e52)) rfl ?_ ?_
 intro kw
 rw [kw] at ho
 refine wq <| Wq rfl p03 <| Qa (Ab rfl) <| fun jt p31=>anz <| ?_
 cases ho
 exact W_ret ⟨_,res_1 Tryz.results207,rfl,(hB.trans p31)⟩
 intro kw
 rw [kw] at ho
 refine W_skip <| inBlk_n <| anz <| Wq rfl p03 <| Qa (Mi rfl) <| Qa (Ba rfl rfl) <| Qa (Ai rfl) <| fun p52 p04=>?_
 cases ho
 exact ⟨(hB.trans p04),(kr hr4 p04),fe rfl⟩
 intro pf
 rw [pf] at ho
 refine W_exit <| andThen_x <| ?_
 cases ho
 exact ⟨rfl,⟨(hB.trans kv),(kr hr4 kv),fe rfl⟩⟩
 rintro s0_12 _ p32 ⟨hB,hr4,F,rfl⟩ ho
 refine anz <| wq <| Wq rfl (cr [] p32) <| Qa (Ab rfl) <| fun p53 p33=>anz <| ?_
 cases ho
 exact W_ret ⟨_,res_1 Tryz.results207,rfl,(hB.trans p33)⟩

abbrev spec_l27Step_post (v_x1:Value) (f_x1:List Nat) (w:World) (x:(Bool×(List (List Bool)))) (e:Ending) (w':World):Prop:=∃ (f0:List Nat),e = .returned (.bool x.1)∧Chg f_x1 w w'∧OE f_x1 w.heap.size w' (sOwn 138 (sOwn 4 sBool)) [v_x1] x.2 f0
abbrev spec_l27Step_T (v_x1:Value) (f_x1:List Nat) (w:World):=Tm Tryz.prog Tryz.f137 140 (spec_l27Step_post v_x1 f_x1 w)
theorem spec_l27Step_calls {w:World} {x0:ML27Table} {zy:Value} {z17:List Nat} {zt:Value} {z18:List Nat} {z10:Value} {z19:List Nat} {z11:Value} {z1a:List Nat} {z13:Value} {z21:List Nat} {z14:Value} {z23:List Nat} {z15:Value} {z26:List Nat} {x1:(List (List Bool))} {v_x1:Value} {f_x1:List Nat} (z16:(sImm (sInt .i64)).rep w.heap [zy] x0.C.From z17) (z12:(sImm (sInt .i64)).rep w.heap [zt] x0.C.To z18) (z1b:(sImm (sInt .i64)).rep w.heap [z10] x0.C.Identity z19) (z1c:(sImm (sImm (sInt .i64))).rep w.heap [z11] x0.C.Composites z1a) (z1r:(sImm (sImm (sImm (sInt .i64)))).rep w.heap [z13] x0.Lists z21) (z1s:(sImm (sImm (sInt .i64))).rep w.heap [z14] x0.Pulls z23) (z27:(sImm (sInt .i64)).rep w.heap [z15] x0.Tops z26) (o_x1:OE f_x1 w.heap.size w (sOwn 138 (sOwn 4 sBool)) [v_x1] x1 f_x1) (n_h_x0_C_From:Dis z17 f_x1) (n_h_x0_C_To:Dis z18 f_x1) (n_h_x0_C_Identity:Dis z19 f_x1) (n_h_x0_C_Composites:Dis z1a f_x1) (n_h_x0_Lists:Dis z21 f_x1) (n_h_x0_Pulls:Dis z23 f_x1) (n_h_x0_Tops:Dis z26 f_x1) {y:(Bool×(List (List Bool)))} (hm:spec_l27Step x0 x1=some y) :
  Calls Tryz.prog 137 #[.agg #[.int .i64 (x0.C.Objects),zy,zt,z10,z11,z13,z14,z15],v_x1] w (spec_l27Step_post v_x1 f_x1 w y):=by
 refine Cm (S:=Unit) Tryz.func137 rfl Tryz.ntmps137 rfl hm fun o ho hB=>?_
 clear hm
 have hB:Chg f_x1 w w:=cr _ _
 replace o_x1:OE f_x1 w.heap.size w (sOwn 138 (sOwn 4 sBool)) [v_x1] x1 f_x1:=OE.give o_x1 fun b hb=>by simp [hb]
 refine wq <| W_region rfl <| WL.box fun b8 wd9 p05 p2 p34=>?_
 replace p2:Row wd9 b8 [.int .i64 (x0.C.Objects),zy,zt,z10,z11,z13,z14,z15] 96:=p2
 have d14:=dl (onw p34) (sl _ o_x1.1)
 replace o_x1:=ko o_x1 p05
 replace hB:=(hB.trans (Chg.nil p05))
 refine Wb (Ab rfl) <| anz <| wq <| wq <| Wq rfl (cr [] wd9) <| Qa (Ai rfl) <| fun p54 kx=>anz <| Wf (S1:=Int) (fun (s0_5:Int) r w'=>Chg f_x1 w w'∧OE f_x1 w.heap.size w' (sOwn 138 (sOwn 4 sBool)) [v_x1] (x1) f_x1∧Row w' b8 [.int .i64 (x0.C.Objects),zy,zt,z10,z11,z13,z14,z15] 96∧Dis f_x1 [b8]∧∃ F,r=updL F [(1,v_x1),(2,.pointer (some (⟨b8,0,none⟩))),(5,.int .i64 (s0_5))]) (spec_l27Step_T v_x1 f_x1 w) ho ⟨(hB.trans (Chg.nil kx)),(ko o_x1 kx),(kr p2 kx),((d14).symm),fe rfl⟩ ?_ ?_
 rintro s0_5 _ p06 ⟨hB,o_x1,p2,qy,F,rfl⟩ o ho
 replace ho:spec_l27Step_L0 x0 x1 s0_5=some o:=ho
 unfold spec_l27Step_L0 at ho
 refine wq <| wq <| Wq rfl (cr [] p06) <| Qa (Mi rfl) <| Qa (Mv v_x1 rfl) <| Qa (Ln sl97 ((Le.own (Le.own (Le.refl _) 4) 138).le o_x1.1) rfl) <| Qa (Bl rfl rfl) <| fun p36 j1=>anz <| W_cond (b:=decide (s0_5 < (x1.length:Int))) rfl ?_ ?_
 intro ky
 rw [ky] at ho
 refine W_skip <| anz <| wq <| W_block <| wq <| wq <| Wqd rfl (by kernel_rfl) j1 <| Qa (Mv v_x1 rfl) <| Qa (Mi rfl) <| ?_
 obtain ⟨e23,hx24e,ho⟩:=bs ho
 have hx24:=idx_some hx24e
 refine Qa (Ix sl97 ((Le.own (Le.own (Le.refl _) 4) 138).le o_x1.1) hx24 rfl rfl rfl) <| ?_
 obtain ⟨u25,fu26,hu27,p07,hs29⟩:=one_get rfl ((Le.own (Le.own (Le.refl _) 4) 138).le o_x1.1) hx24.1 hx24.2
 refine Qa (Ld na138 hu27 rfl) <| Qa (Fr fa96_3 rfl) <| Qa (Lr na22 p2 rfl rfl) <| Qa (Mi rfl) <| ?_
 obtain ⟨e30,hx31e,ho⟩:=bs ho
 have hx31:=idx_some hx31e
 refine Qa (Ix sl22 (STy.keep _ z27 hB n_h_x0_Tops) hx31 rfl rfl rfl) <| Qa (Ei na2 (STy.keep _ z27 hB n_h_x0_Tops) hx31 rfl) <| ?_
 obtain ⟨e32,hx33e,ho⟩:=bs ho
 have hx33:=idx_some hx33e
 refine Qa (Ix sl138 p07 hx33 rfl rfl rfl) <| Qa (Eb na4 p07 hx33 rfl) <| Qa (Nt rfl) <| fun p55 q9=>anz <| W_cond (b:=!(e32)) rfl ?_ ?_
 intro kz
 rw [kz] at ho
 refine wq <| ?_
 obtain ⟨e37,hx38e,ho⟩:=bs ho
 have hx38:=idx_some hx38e
 obtain ⟨u39,fu40,hu41,n0,hs43⟩:=one_get rfl ((Le.own (Le.own (Le.refl _) 4) 138).le o_x1.1) hx38.1 hx38.2
 obtain ⟨e44,hx45e,ho⟩:=bs ho
 have hx45:=idx_some hx45e
 refine W_any (m:=9) (U:=.replicate 9 []) (S:=[sV (v_x1),sV (.int .i64 (s0_5)),sV (.pointer (some (elA (v_x1) 1 (s0_5)))),sV (u39),sV (.pointer (some (⟨b8,7,none⟩))),sV (z15),sV (.int .i64 (s0_5)),sV (.pointer (some (elA (z15) 1 (s0_5)))),sV (.int .i64 (e44))]) (Z:=[]) hmix rfl (by decide) (by decide +kernel) (fun _ _ _ h=>np_out h) (by decide) rfl (by decide +kernel) (stable_all (by repeat first | exact stable_nil | refine stable_cons stable_val ?_ | refine stable_cons stable_own ?_)) ?_ ?_
 refine owes_cons ?_ <| owes_cons ?_ <| owes_cons ?_ <| owes_cons ?_ <| owes_cons ?_ <| owes_cons ?_ <| owes_cons ?_ <| owes_cons ?_ <| owes_cons ?_ <| owes_nil
 exact Oh rfl rfl rfl [(1,v_x1)] q9 rfl rfl fun _=>Mv v_x1 rfl
 exact Oh rfl rfl rfl [(5,.int .i64 (s0_5))] q9 rfl rfl fun _=>Mi rfl
 exact Ov rfl rfl rfl [] [(27,v_x1),(28,.int .i64 (s0_5))] [0,1] q9 rfl rfl (by decide +kernel) rfl fun _=>Ix sl97 ((Le.own (Le.own (Le.refl _) 4) 138).le o_x1.1) hx38 rfl rfl rfl
 exact Ov rfl rfl rfl [] [(29,.pointer (some (elA (v_x1) 1 (s0_5))))] [2] q9 rfl rfl (by decide +kernel) rfl fun _=>Ld na138 hu41 rfl
 exact Oh rfl rfl rfl [(2,.pointer (some (⟨b8,0,none⟩)))] q9 rfl rfl fun _=>Fr fa96_3 rfl
 exact Ov rfl rfl rfl [] [(31,.pointer (some (⟨b8,7,none⟩)))] [4] q9 rfl rfl (by decide +kernel) rfl fun _=>Lr na22 p2 rfl rfl
 exact Oh rfl rfl rfl [(5,.int .i64 (s0_5))] q9 rfl rfl fun _=>Mi rfl
 exact Ov rfl rfl rfl [] [(32,z15),(33,.int .i64 (s0_5))] [5,6] q9 rfl rfl (by decide +kernel) rfl fun _=>Ix sl22 (STy.keep _ z27 hB n_h_x0_Tops) hx45 rfl rfl rfl
 exact Ov rfl rfl rfl [] [(34,.pointer (some (elA (z15) 1 (s0_5))))] [7] q9 rfl rfl (by decide +kernel) rfl fun _=>Ei na2 (STy.keep _ z27 hB n_h_x0_Tops) hx45 rfl
 rintro g r p56 ⟨p37,hdone,hot,hfresh,hdis⟩
 have hdd:=hdis
 obtain ⟨F,rfl⟩:=fw hdone hot [] [(30,u39),(35,.int .i64 (e44))] [3,8] rfl rfl rfl rfl (z:=[]) trivial
 have jb:=(q9.trans p37)
 replace o_x1:=ko o_x1 jb
 replace p2:=kr p2 jb
 replace hu41:=jb.cell0 hu41
 replace n0:=kp _ n0 jb
 replace hB:=(hB.trans (Chg.nil jb))
 obtain ⟨e49,hx50e,ho⟩:=bs ho
 have hx50:=idx_some hx50e
 refine Wb (Ix sl138 n0 hx50 rfl rfl rfl) <| ?_
 obtain ⟨k51,o52,hk53,hf54⟩:=own_focus rfl hB.size o_x1 hx38.2 hu41
 have d55:Dis k51 [b8]:=fun b hb=>qy b (hk53 b hb)
 refine WL.storeEl (z':=true) _ _ sBool_nofp rfl info4 sz4 o52 hx50.2 rfl rfl ⟨rfl,rfl⟩ fun p3a n1 o58=>?_
 obtain ⟨f59,o60,hs61⟩:=hf54 _ _ _ n1 o58
 replace p2:=Row.keep p2 n1 ((d55).symm _ (ms rfl))
 replace hB:=hB.then n1 (fun b hb=>o_x1.2.2 b (hk53 b hb))
 refine anz <| wq <| Wq rfl (cr [] p3a) <| Qa (Ab rfl) <| fun p58 p08=>anz <| ?_
 cases ho
 exact W_ret ⟨_,res_1 Tryz.results137,_,rfl,(hB.trans (Chg.nil p08)),(ko o60 p08)⟩
 intro kz
 rw [kz] at ho
 refine W_skip <| anz <| wq <| Wq rfl q9 <| Qa (Ai rfl) <| fun p59 n2=>anz <| Wf (S1:=Int) (fun (s1_6:Int) r w'=>Chg f_x1 w w'∧OE f_x1 w.heap.size w' (sOwn 138 (sOwn 4 sBool)) [v_x1] (x1) f_x1∧Row w' b8 [.int .i64 (x0.C.Objects),zy,zt,z10,z11,z13,z14,z15] 96∧Dis f_x1 [b8]∧∃ F,r=updL F [(1,v_x1),(2,.pointer (some (⟨b8,0,none⟩))),(5,.int .i64 (s0_5)),(6,.int .i64 (s1_6))]) (spec_l27Step_T v_x1 f_x1 w) ho ⟨(hB.trans (Chg.nil n2)),(ko o_x1 n2),(kr p2 n2),(qy),fe rfl⟩ ?_ ?_
 rintro s1_6 _ p3d ⟨hB,o_x1,p2,jc,F,rfl⟩ o ho
 replace ho:spec_l27Step_L1 x0 x1 s0_5 s1_6=some o:=ho
 unfold spec_l27Step_L1 at ho
 refine wq <| wq <| Wq rfl (cr [] p3d) <| Qa (Mi rfl) <| Qa (Mv v_x1 rfl) <| Qa (Mi rfl) <| ?_
 obtain ⟨e70,hx71e,ho⟩:=bs ho
 have hx71:=idx_some hx71e
 refine Qa (Ix sl97 ((Le.own (Le.own (Le.refl _) 4) 138).le o_x1.1) hx71 rfl rfl rfl) <| ?_
 obtain ⟨u72,fu73,hu74,p3e,hs76⟩:=one_get rfl ((Le.own (Le.own (Le.refl _) 4) 138).le o_x1.1) hx71.1 hx71.2
 refine Qa (Ld na138 hu74 rfl) <| Qa (Ln sl138 p3e rfl) <| Qa (Bl rfl rfl) <| fun n3 j2=>anz <| W_cond (b:=decide (s1_6 < (e70.length:Int))) rfl ?_ ?_
 intro n4
 rw [n4] at ho
 refine W_skip <| anz <| wq <| W_block <| wq <| wq <| Wq rfl j2 <| Qa (Mv v_x1 rfl) <| Qa (Mi rfl) <| ?_
 obtain ⟨e80,hx81e,ho⟩:=bs ho
 have hx81:=idx_some hx81e
 refine Qa (Ix sl97 ((Le.own (Le.own (Le.refl _) 4) 138).le o_x1.1) hx81 rfl rfl rfl) <| ?_
 obtain ⟨u82,fu83,hu84,p09,hs86⟩:=one_get rfl ((Le.own (Le.own (Le.refl _) 4) 138).le o_x1.1) hx81.1 hx81.2
 refine Qa (Ld na138 hu84 rfl) <| Qa (Mi rfl) <| ?_
 obtain ⟨e87,hx88e,ho⟩:=bs ho
 have hx88:=idx_some hx88e
 refine Qa (Ix sl138 p09 hx88 rfl rfl rfl) <| Qa (Eb na4 p09 hx88 rfl) <| Qa (Nt rfl) <| fun p3f jd=>anz <| W_cond (b:=!(e87)) rfl ?_ ?_
 intro qs
 rw [qs] at ho
 refine W_exit <| andThen_x <| inBlk_x <| anz <| Wq rfl jd <| Qa (Mi rfl) <| Qa (Ba rfl rfl) <| Qa (Ai rfl) <| fun gf q8=>?_
 cases ho
 exact ⟨(hB.trans (Chg.nil q8)),(ko o_x1 q8),(kr p2 q8),jc,fe rfl⟩
 intro qs
 rw [qs] at ho
 refine W_skip <| anz <| wq <| wq <| Wq rfl jd <| Qa (Ai rfl) <| fun p1k n5=>anz <| Wf (S1:=Int) (fun (s2_7:Int) r w'=>Chg f_x1 w w'∧OE f_x1 w.heap.size w' (sOwn 138 (sOwn 4 sBool)) [v_x1] (x1) f_x1∧Row w' b8 [.int .i64 (x0.C.Objects),zy,zt,z10,z11,z13,z14,z15] 96∧Dis f_x1 [b8]∧∃ F,r=updL F [(1,v_x1),(2,.pointer (some (⟨b8,0,none⟩))),(5,.int .i64 (s0_5)),(6,.int .i64 (s1_6)),(7,.int .i64 (s2_7))]) (spec_l27Step_T v_x1 f_x1 w) ho ⟨(hB.trans (Chg.nil n5)),(ko o_x1 n5),(kr p2 n5),(jc),fe rfl⟩ ?_ ?_
 rintro s2_7 _ p0a ⟨hB,o_x1,p2,je,F,rfl⟩ o ho
 replace ho:spec_l27Step_L2 x0 x1 s0_5 s1_6 s2_7=some o:=ho
 unfold spec_l27Step_L2 at ho
 refine wq <| wq <| Wq rfl (cr [] p0a) <| Qa (Mi rfl) <| Qa (Fr fa96_2 rfl) <| Qa (Lr na23 p2 rfl rfl) <| Qa (Ln sl23 (STy.keep _ z1s hB n_h_x0_Pulls) rfl) <| Qa (Bl rfl rfl) <| fun p5a ju=>anz <| W_cond (b:=decide (s2_7 < (x0.Pulls.length:Int))) rfl ?_ ?_
 intro n6
 rw [n6] at ho
 refine W_skip <| anz <| wq <| W_block <| wq <| Wqd rfl (by kernel_rfl) ju <| ?_
 obtain ⟨g101,hm102,ho⟩:=bs ho
 refine QL.meet (fun r=>∃ F,r=updL F [(1,v_x1),(2,.pointer (some (⟨b8,0,none⟩))),(5,.int .i64 (s0_5)),(6,.int .i64 (s1_6)),(7,.int .i64 (s2_7)),(90,.bool (g101))]) ?_ ?_
 skip
 refine Qa (Fr fa96_0 rfl) <| Qa (Fr fa32_1 rfl) <| Qa (Lr na22 p2 rfl rfl) <| Qa (Mi rfl) <| ?_
 obtain ⟨e103,hx104e,hm102⟩:=bs hm102
 have hx104:=idx_some hx104e
 refine Qa (Ix sl22 (STy.keep _ z16 hB n_h_x0_C_From) hx104 rfl rfl rfl) <| Qa (Ei na2 (STy.keep _ z16 hB n_h_x0_C_From) hx104 rfl) <| Qa (Mi rfl) <| Qa (Be rfl rfl) <| Qa (Mb rfl) <| ?_
 rcases Bool.eq_false_or_eq_true (e103 == s0_5) with p0 | p0
 rw [p0] at hm102
 refine Qg rfl p0 (Mv v_x1 rfl) <| Qg rfl p0 (Fr fa96_0 rfl) <| Qg rfl p0 (Fr fa32_2 rfl) <| Qg rfl p0 (Lr na22 p2 rfl rfl) <| Qg rfl p0 (Mi rfl) <| ?_
 obtain ⟨e106,hx107e,hm102⟩:=bs hm102
 have hx107:=idx_some hx107e
 refine Qg rfl p0 (Ix sl22 (STy.keep _ z12 hB n_h_x0_C_To) hx107 rfl rfl rfl) <| Qg rfl p0 (Ei na2 (STy.keep _ z12 hB n_h_x0_C_To) hx107 rfl) <| ?_
 obtain ⟨e108,hx109e,hm102⟩:=bs hm102
 have hx109:=idx_some hx109e
 refine Qg rfl p0 (Ix sl97 ((Le.own (Le.own (Le.refl _) 4) 138).le o_x1.1) hx109 rfl rfl rfl) <| ?_
 obtain ⟨u110,fu111,hu112,j0,hs114⟩:=one_get rfl ((Le.own (Le.own (Le.refl _) 4) 138).le o_x1.1) hx109.1 hx109.2
 refine Qg rfl p0 (Ld na138 hu112 rfl) <| Qg rfl p0 (Fr fa96_2 rfl) <| Qg rfl p0 (Lr na23 p2 rfl rfl) <| Qg rfl p0 (Mi rfl) <| ?_
 obtain ⟨e115,hx116e,hm102⟩:=bs hm102
 have hx116:=idx_some hx116e
 refine Qg rfl p0 (Ix sl23 (STy.keep _ z1s hB n_h_x0_Pulls) hx116 rfl rfl rfl) <| ?_
 obtain ⟨u117,fu118,hu119,p0b,hs121⟩:=one_getP rfl z1s hB n_h_x0_Pulls hx116.1 hx116.2
 have n_hr120:Dis fu118 f_x1:=fun b hb=>n_h_x0_Pulls b (hs121 b hb)
 refine Qg rfl p0 (Ld na22 hu119 rfl) <| Qg rfl p0 (Mi rfl) <| ?_
 obtain ⟨e122,hx123e,hm102⟩:=bs hm102
 have hx123:=idx_some hx123e
 refine Qg rfl p0 (Ix sl22 (STy.keep _ p0b hB n_hr120) hx123 rfl rfl rfl) <| Qg rfl p0 (Ei na2 (STy.keep _ p0b hB n_hr120) hx123 rfl) <| ?_
 obtain ⟨e124,hx125e,hm102⟩:=bs hm102
 have hx125:=idx_some hx125e
 refine Qg rfl p0 (Ix sl138 j0 hx125 rfl rfl rfl) <| Qg rfl p0 (Eb na4 j0 hx125 rfl) <| Qg rfl p0 (Nt rfl) <| Qa (PTb rfl p0 rfl) <| ?_
 cases hm102
 exact fe rfl
 rw [p0] at hm102
 refine Sk rfl p0 rfl <| Sk rfl p0 rfl <| Sk rfl p0 rfl <| Sk rfl p0 rfl <| Sk rfl p0 rfl <| Sk rfl p0 rfl <| Sk rfl p0 rfl <| Sk rfl p0 rfl <| Sk rfl p0 rfl <| Sk rfl p0 rfl <| Sk rfl p0 rfl <| Sk rfl p0 rfl <| Sk rfl p0 rfl <| Sk rfl p0 rfl <| Sk rfl p0 rfl <| Sk rfl p0 rfl <| ?_
 refine Sk rfl p0 rfl <| Sk rfl p0 rfl <| Sk rfl p0 rfl <| Sk rfl p0 rfl <| Qa (PFb rfl p0 rfl) <| ?_
 cases hm102
 exact fe rfl
 rintro _ ⟨F,rfl⟩
 refine fun p5b pn=>anz <| W_cond (b:=g101) rfl ?_ ?_
 intro n7
 rw [n7] at ho
 refine wq <| ?_
 obtain ⟨e129,hx130e,ho⟩:=bs ho
 have hx130:=idx_some hx130e
 obtain ⟨e131,hx132e,ho⟩:=bs ho
 have hx132:=idx_some hx132e
 obtain ⟨u133,fu134,hu135,n8,hs137⟩:=one_get rfl ((Le.own (Le.own (Le.refl _) 4) 138).le o_x1.1) hx132.1 hx132.2
 obtain ⟨e138,hx139e,ho⟩:=bs ho
 have hx139:=idx_some hx139e
 obtain ⟨u140,fu141,hu142,p0c,hs144⟩:=one_getP rfl z1s hB n_h_x0_Pulls hx139.1 hx139.2
 have n_hr143:Dis fu141 f_x1:=fun b hb=>n_h_x0_Pulls b (hs144 b hb)
 obtain ⟨e145,hx146e,ho⟩:=bs ho
 have hx146:=idx_some hx146e
 refine W_any (m:=17) (U:=.replicate 17 []) (S:=[sV (v_x1),sV (.pointer (some (⟨b8,0,none⟩))),sV (.pointer (some (⟨b8,2,none⟩))),sV (zt),sV (.int .i64 (s2_7)),sV (.pointer (some (elA (zt) 1 (s2_7)))),sV (.int .i64 (e129)),sV (.pointer (some (elA (v_x1) 1 (e129)))),sV (u133),sV (.pointer (some (⟨b8,6,none⟩))),sV (z14),sV (.int .i64 (s2_7)),sV (.pointer (some (elA (z14) 1 (s2_7)))),sV (u140),sV (.int .i64 (s1_6)),sV (.pointer (some (elA (u140) 1 (s1_6)))),sV (.int .i64 (e145))]) (Z:=[]) hmix rfl (by decide) (by decide +kernel) (fun _ _ _ h=>np_out h) (by decide) rfl (by decide +kernel) (stable_all (by repeat first | exact stable_nil | refine stable_cons stable_val ?_ | refine stable_cons stable_own ?_)) ?_ ?_
 refine owes_cons ?_ <| owes_cons ?_ <| owes_cons ?_ <| owes_cons ?_ <| owes_cons ?_ <| owes_cons ?_ <| owes_cons ?_ <| owes_cons ?_ <| owes_cons ?_ <| owes_cons ?_ <| owes_cons ?_ <| owes_cons ?_ <| owes_cons ?_ <| owes_cons ?_ <| owes_cons ?_ <| owes_cons ?_ <| owes_cons ?_ <| owes_nil
 exact Oh rfl rfl rfl [(1,v_x1)] pn rfl rfl fun _=>Mv v_x1 rfl
 exact Oh rfl rfl rfl [(2,.pointer (some (⟨b8,0,none⟩)))] pn rfl rfl fun _=>Fr fa96_0 rfl
 exact Ov rfl rfl rfl [] [(92,.pointer (some (⟨b8,0,none⟩)))] [1] pn rfl rfl (by decide +kernel) rfl fun _=>Fr fa32_2 rfl
 exact Ov rfl rfl rfl [] [(93,.pointer (some (⟨b8,2,none⟩)))] [2] pn rfl rfl (by decide +kernel) rfl fun _=>Lr na22 p2 rfl rfl
 exact Oh rfl rfl rfl [(7,.int .i64 (s2_7))] pn rfl rfl fun _=>Mi rfl
 exact Ov rfl rfl rfl [] [(94,zt),(95,.int .i64 (s2_7))] [3,4] pn rfl rfl (by decide +kernel) rfl fun _=>Ix sl22 (STy.keep _ z12 hB n_h_x0_C_To) hx130 rfl rfl rfl
 exact Ov rfl rfl rfl [] [(96,.pointer (some (elA (zt) 1 (s2_7))))] [5] pn rfl rfl (by decide +kernel) rfl fun _=>Ei na2 (STy.keep _ z12 hB n_h_x0_C_To) hx130 rfl
 exact Ov rfl rfl rfl [] [(91,v_x1),(97,.int .i64 (e129))] [0,6] pn rfl rfl (by decide +kernel) rfl fun _=>Ix sl97 ((Le.own (Le.own (Le.refl _) 4) 138).le o_x1.1) hx132 rfl rfl rfl
 exact Ov rfl rfl rfl [] [(98,.pointer (some (elA (v_x1) 1 (e129))))] [7] pn rfl rfl (by decide +kernel) rfl fun _=>Ld na138 hu135 rfl
 exact Oh rfl rfl rfl [(2,.pointer (some (⟨b8,0,none⟩)))] pn rfl rfl fun _=>Fr fa96_2 rfl
 exact Ov rfl rfl rfl [] [(100,.pointer (some (⟨b8,6,none⟩)))] [9] pn rfl rfl (by decide +kernel) rfl fun _=>Lr na23 p2 rfl rfl
 exact Oh rfl rfl rfl [(7,.int .i64 (s2_7))] pn rfl rfl fun _=>Mi rfl
 exact Ov rfl rfl rfl [] [(101,z14),(102,.int .i64 (s2_7))] [10,11] pn rfl rfl (by decide +kernel) rfl fun _=>Ix sl23 (STy.keep _ z1s hB n_h_x0_Pulls) hx139 rfl rfl rfl
 exact Ov rfl rfl rfl [] [(103,.pointer (some (elA (z14) 1 (s2_7))))] [12] pn rfl rfl (by decide +kernel) rfl fun _=>Ld na22 hu142 rfl
 exact Oh rfl rfl rfl [(6,.int .i64 (s1_6))] pn rfl rfl fun _=>Mi rfl
 exact Ov rfl rfl rfl [] [(104,u140),(105,.int .i64 (s1_6))] [13,14] pn rfl rfl (by decide +kernel) rfl fun _=>Ix sl22 (STy.keep _ p0c hB n_hr143) hx146 rfl rfl rfl
 exact Ov rfl rfl rfl [] [(106,.pointer (some (elA (u140) 1 (s1_6))))] [15] pn rfl rfl (by decide +kernel) rfl fun _=>Ei na2 (STy.keep _ p0c hB n_hr143) hx146 rfl
 rintro g r gw ⟨ks,hdone,hot,hfresh,hdis⟩
 have hdd:=hdis
 obtain ⟨F,rfl⟩:=fw hdone hot [] [(99,u133),(107,.int .i64 (e145))] [8,16] rfl rfl rfl rfl (z:=[]) trivial
 have jf:=(pn.trans ks)
 replace o_x1:=ko o_x1 jf
 replace p2:=kr p2 jf
 replace hu135:=jf.cell0 hu135
 replace n8:=kp _ n8 jf
 replace hB:=(hB.trans (Chg.nil jf))
 obtain ⟨e150,hx151e,ho⟩:=bs ho
 have hx151:=idx_some hx151e
 refine Wb (Ix sl138 n8 hx151 rfl rfl rfl) <| ?_
 obtain ⟨k152,p3g,hk154,hf155⟩:=own_focus rfl hB.size o_x1 hx132.2 hu135
 have kt:Dis k152 [b8]:=fun b hb=>je b (hk154 b hb)
 refine WL.storeEl (z':=true) _ _ sBool_nofp rfl info4 sz4 p3g hx151.2 rfl rfl ⟨rfl,rfl⟩ fun p3h n9 p3i=>?_
 obtain ⟨p5c,p3j,hs162⟩:=hf155 _ _ _ n9 p3i
 replace p2:=Row.keep p2 n9 ((kt).symm _ (ms rfl))
 replace hB:=hB.then n9 (fun b hb=>o_x1.2.2 b (hk154 b hb))
 refine anz <| wq <| Wq rfl (cr [] p3h) <| Qa (Ab rfl) <| fun gx pm=>anz <| ?_
 cases ho
 exact W_ret ⟨_,res_1 Tryz.results137,_,rfl,(hB.trans (Chg.nil pm)),(ko p3j pm)⟩
 intro n7
 rw [n7] at ho
 refine W_skip <| inBlk_n <| anz <| Wq rfl pn <| Qa (Mi rfl) <| Qa (Ba rfl rfl) <| Qa (Ai rfl) <| fun p5d na=>?_
 cases ho
 exact ⟨(hB.trans (Chg.nil na)),(ko o_x1 na),(kr p2 na),je,fe rfl⟩
 intro n6
 rw [n6] at ho
 refine W_exit <| andThen_x <| ?_
 cases ho
 exact ⟨rfl,⟨(hB.trans (Chg.nil ju)),(ko o_x1 ju),(kr p2 ju),je,fe rfl⟩⟩
 rintro s2_7 _ p3k ⟨hB,o_x1,p2,je,F,rfl⟩ ho
 refine anz <| wq <| Wq rfl (cr [] p3k) <| Qa (Ai rfl) <| fun p5e nb=>anz <| Wf (S1:=Int) (fun (s3_8:Int) r w'=>Chg f_x1 w w'∧OE f_x1 w.heap.size w' (sOwn 138 (sOwn 4 sBool)) [v_x1] (x1) f_x1∧Row w' b8 [.int .i64 (x0.C.Objects),zy,zt,z10,z11,z13,z14,z15] 96∧Dis f_x1 [b8]∧∃ F,r=updL F [(1,v_x1),(2,.pointer (some (⟨b8,0,none⟩))),(5,.int .i64 (s0_5)),(6,.int .i64 (s1_6)),(8,.int .i64 (s3_8))]) (spec_l27Step_T v_x1 f_x1 w) ho ⟨(hB.trans (Chg.nil nb)),(ko o_x1 nb),(kr p2 nb),(je),fe rfl⟩ ?_ ?_
 rintro s3_8 _ p3l ⟨hB,o_x1,p2,jg,F,rfl⟩ o ho
 replace ho:spec_l27Step_L3 x0 x1 s0_5 s1_6 s3_8=some o:=ho
 unfold spec_l27Step_L3 at ho
 refine wq <| wq <| Wq rfl (cr [] p3l) <| Qa (Mi rfl) <| Qa (Mv v_x1 rfl) <| Qa (Mi rfl) <| ?_
 obtain ⟨e174,hx175e,ho⟩:=bs ho
 have hx175:=idx_some hx175e
 refine Qa (Ix sl97 ((Le.own (Le.own (Le.refl _) 4) 138).le o_x1.1) hx175 rfl rfl rfl) <| ?_
 obtain ⟨u176,fu177,hu178,p3m,hs180⟩:=one_get rfl ((Le.own (Le.own (Le.refl _) 4) 138).le o_x1.1) hx175.1 hx175.2
 refine Qa (Ld na138 hu178 rfl) <| Qa (Ln sl138 p3m rfl) <| Qa (Bl rfl rfl) <| fun p5f jv=>anz <| W_cond (b:=decide (s3_8 < (e174.length:Int))) rfl ?_ ?_
 intro nc
 rw [nc] at ho
 refine W_skip <| anz <| wq <| W_block <| wq <| Wq rfl jv <| ?_
 obtain ⟨g184,hm185,ho⟩:=bs ho
 refine QL.meet (fun r=>∃ F,r=updL F [(1,v_x1),(2,.pointer (some (⟨b8,0,none⟩))),(5,.int .i64 (s0_5)),(6,.int .i64 (s1_6)),(8,.int .i64 (s3_8)),(133,.bool (g184))]) ?_ ?_
 skip
 refine Qa (Mv v_x1 rfl) <| Qa (Mi rfl) <| ?_
 obtain ⟨e186,hx187e,hm185⟩:=bs hm185
 have hx187:=idx_some hx187e
 refine Qa (Ix sl97 ((Le.own (Le.own (Le.refl _) 4) 138).le o_x1.1) hx187 rfl rfl rfl) <| ?_
 obtain ⟨u188,fu189,hu190,p0d,hs192⟩:=one_get rfl ((Le.own (Le.own (Le.refl _) 4) 138).le o_x1.1) hx187.1 hx187.2
 refine Qa (Ld na138 hu190 rfl) <| Qa (Mi rfl) <| ?_
 obtain ⟨e193,hx194e,hm185⟩:=bs hm185
 have hx194:=idx_some hx194e
 refine Qa (Ix sl138 p0d hx194 rfl rfl rfl) <| Qa (Eb na4 p0d hx194 rfl) <| Qa (Nt rfl) <| Qa (Mb rfl) <| ?_
 rcases Bool.eq_false_or_eq_true (!(e193)) with pp | pp
 rw [pp] at hm185
 refine Qg rfl pp (Lg ag96 p2.at rfl rfl) <| Qg rfl pp (Mv v_x1 rfl) <| Qg rfl pp (Mi rfl) <| Qg rfl pp (Mi rfl) <| Qg rfl pp (Mi rfl) <| ?_
 obtain ⟨y196,p3n,hm185⟩:=bs hm185
 refine Qcg rfl pp Tryz.func207 rfl rfl (fun _ hC=>spec_l27Local_calls (STy.keep _ z16 (hB.trans (Chg.nil hC)) n_h_x0_C_From) (STy.keep _ z12 (hB.trans (Chg.nil hC)) n_h_x0_C_To) (STy.keep _ z1b (hB.trans (Chg.nil hC)) n_h_x0_C_Identity) (STy.keep _ z1c (hB.trans (Chg.nil hC)) n_h_x0_C_Composites) (STy.keep _ z1r (hB.trans (Chg.nil hC)) n_h_x0_Lists) (STy.keep _ z1s (hB.trans (Chg.nil hC)) n_h_x0_Pulls) (STy.keep _ z27 (hB.trans (Chg.nil hC)) n_h_x0_Tops) ((Le.own (Le.own (Le.refl _) 4) 138).le (kp _ o_x1.1 hC)) p3n) <| Qa (PTb rfl pp rfl) <| ?_
 cases hm185
 exact fe rfl
 rw [pp] at hm185
 refine Sk rfl pp rfl <| Sk rfl pp rfl <| Sk rfl pp rfl <| Sk rfl pp rfl <| Sk rfl pp rfl <| Sk rfl pp rfl <| Qa (PFb rfl pp rfl) <| ?_
 cases hm185
 exact fe rfl
 rintro _ ⟨F,rfl⟩
 refine fun p3o jh=>anz <| W_cond (b:=g184) rfl ?_ ?_
 intro nd
 rw [nd] at ho
 refine wq <| W_region rfl <| Wb (Mv v_x1 rfl) <| Wb (Mi rfl) <| ?_
 obtain ⟨e201,hx202e,ho⟩:=bs ho
 have hx202:=idx_some hx202e
 refine Wa jh (Ix sl97 ((Le.own (Le.own (Le.refl _) 4) 138).le o_x1.1) hx202 rfl rfl rfl) <| ?_
 obtain ⟨u203,fu204,hu205,ne,hs207⟩:=one_get rfl ((Le.own (Le.own (Le.refl _) 4) 138).le o_x1.1) hx202.1 hx202.2
 refine Wa jh (Ld na138 hu205 rfl) <| Wb (Mi rfl) <| ?_
 obtain ⟨e208,hx209e,ho⟩:=bs ho
 have hx209:=idx_some hx209e
 refine Wa jh (Ix sl138 ne hx209 rfl rfl rfl) <| ?_
 have ji:=jh.trans (cr [] p3o)
 replace hu205:=ji.cell0 hu205
 replace ne:=kp _ ne ji
 replace o_x1:=ko o_x1 ji
 replace p2:=kr p2 ji
 replace hB:=(hB.trans (Chg.nil ji))
 obtain ⟨k211,p3p,hk213,hf214⟩:=own_focus rfl hB.size o_x1 hx202.2 hu205
 have p3q:Dis k211 [b8]:=fun b hb=>jg b (hk213 b hb)
 refine WL.storeEl (z':=true) _ _ sBool_nofp rfl info4 sz4 p3p hx209.2 rfl rfl ⟨rfl,rfl⟩ fun p3r nf p3s=>?_
 obtain ⟨p5g,p3t,hs221⟩:=hf214 _ _ _ nf p3s
 replace p2:=Row.keep p2 nf ((p3q).symm _ (ms rfl))
 replace hB:=hB.then nf (fun b hb=>o_x1.2.2 b (hk213 b hb))
 refine anz <| wq <| Wq rfl (cr [] p3r) <| Qa (Ab rfl) <| fun p5h p0e=>anz <| ?_
 cases ho
 exact W_ret ⟨_,res_1 Tryz.results137,_,rfl,(hB.trans (Chg.nil p0e)),(ko p3t p0e)⟩
 intro nd
 rw [nd] at ho
 refine W_skip <| inBlk_n <| anz <| Wq rfl jh <| Qa (Mi rfl) <| Qa (Ba rfl rfl) <| Qa (Ai rfl) <| fun p5i ng=>?_
 cases ho
 exact ⟨(hB.trans (Chg.nil ng)),(ko o_x1 ng),(kr p2 ng),jg,fe rfl⟩
 intro nc
 rw [nc] at ho
 refine W_exit <| andThen_x <| ?_
 cases ho
 exact ⟨rfl,⟨(hB.trans (Chg.nil jv)),(ko o_x1 jv),(kr p2 jv),jg,fe rfl⟩⟩
 rintro s3_8 _ p3u ⟨hB,o_x1,p2,jg,F,rfl⟩ ho
 refine inBlk_n <| anz <| Wq rfl (cr [] p3u) <| Qa (Mi rfl) <| Qa (Ba rfl rfl) <| Qa (Ai rfl) <| fun p5j nh=>?_
 cases ho
 exact ⟨(hB.trans (Chg.nil nh)),(ko o_x1 nh),(kr p2 nh),jg,fe rfl⟩
 intro n4
 rw [n4] at ho
 refine W_exit <| andThen_x <| ?_
 cases ho
 exact ⟨rfl,⟨(hB.trans (Chg.nil j2)),(ko o_x1 j2),(kr p2 j2),jc,fe rfl⟩⟩
 rintro s1_6 _ p3v ⟨hB,o_x1,p2,jc,F,rfl⟩ ho
 refine inBlk_n <| anz <| Wq rfl (cr [] p3v) <| Qa (Mi rfl) <| Qa (Ba rfl rfl) <| Qa (Ai rfl) <| fun p5k ni=>?_
 cases ho
 exact ⟨(hB.trans (Chg.nil ni)),(ko o_x1 ni),(kr p2 ni),jc,fe rfl⟩
 intro ky
 rw [ky] at ho
 refine W_exit <| andThen_x <| ?_
 cases ho
 exact ⟨rfl,⟨(hB.trans (Chg.nil j1)),(ko o_x1 j1),(kr p2 j1),qy,fe rfl⟩⟩
 rintro s0_5 _ p3w ⟨hB,o_x1,p2,qy,F,rfl⟩ ho
 refine anz <| wq <| Wq rfl (cr [] p3w) <| Qa (Ab rfl) <| fun p5l p0f=>anz <| ?_
 cases ho
 exact W_ret ⟨_,res_1 Tryz.results137,_,rfl,(hB.trans (Chg.nil p0f)),(ko o_x1 p0f)⟩

abbrev impl_Category_arrows_post (w:World) (x:(Int)) (e:Ending) (w':World):Prop:=e = .returned (.int .i64 x)∧Chg [] w w'
abbrev impl_Category_arrows_T (w:World):=Tm Tryz.prog Tryz.f105 8 (impl_Category_arrows_post w)
theorem impl_Category_arrows_calls {w:World} {x0:MCategory} {p_x0:Addr} {z2:Value} {zf:List Nat} {z1:Value} {zg:List Nat} {z7:Value} {zh:List Nat} {z6:Value} {zi:List Nat} (za:(sImm (sInt .i64)).rep w.heap [z2] x0.From zf) (zb:(sImm (sInt .i64)).rep w.heap [z1] x0.To zg) (zd:(sImm (sInt .i64)).rep w.heap [z7] x0.Identity zh) (zc:(sImm (sImm (sInt .i64))).rep w.heap [z6] x0.Composites zi) (a_x0:At w p_x0 [.int .i64 (x0.Objects),z2,z1,z7,z6]) {y:(Int)} (hm:impl_Category_arrows x0=some y) :
  Calls Tryz.prog 105 #[.pointer (some (p_x0))] w (impl_Category_arrows_post w y):=by
 refine Cm (S:=Unit) Tryz.func105 rfl Tryz.ntmps105 rfl hm fun o ho hB=>?_
 clear hm
 refine wq <| Wq rfl (cr [] w) <| Qa (Ai rfl) <| fun wd1 hC2=>anz <| wq <| Wq rfl hC2 <| Qa (Mp rfl) <| Qa (Nk rfl) <| Qa (Fp fa32_1 rfl) <| Qa (La na22 (At.keep0 a_x0 hB) rfl rfl) <| Qa (Ln sl22 (kB za hB) rfl) <| Qa (Ai rfl) <| fun wd3 hC4=>anz <| ?_
 cases ho
 exact W_ret ⟨_,res_1 Tryz.results105,rfl,(hB.trans hC4)⟩

abbrev impl_inRange_post (w:World) (x:(Bool)) (e:Ending) (w':World):Prop:=e = .returned (.bool x)∧Chg [] w w'
abbrev impl_inRange_T (w:World):=Tm Tryz.prog Tryz.f81 15 (impl_inRange_post w)
theorem impl_inRange_calls {w:World} {x0:Int} {x1:Int} {x2:Int}  {y:(Bool)} (hm:impl_inRange x0 x1 x2=some y) :
  Calls Tryz.prog 81 #[.int .i64 (x0),.int .i64 (x1),.int .i64 (x2)] w (impl_inRange_post w y):=by
 refine Cm (S:=Unit) Tryz.func81 rfl Tryz.ntmps81 rfl hm fun o ho hB=>?_
 clear hm
 refine wq <| Wq rfl (cr [] w) <| Qa (Ab rfl) <| fun wd1 hC2=>anz <| wq <| Wq rfl hC2 <| ?_
 obtain ⟨g3,hm4,ho⟩:=bs ho
 refine QL.meet (fun r=>∃ F,r=updL F [(6,.bool (g3))]) ?_ ?_
 skip
 refine Qa (Mi rfl) <| Qa (Mi rfl) <| Qa (Bh rfl rfl) <| Qa (Mb rfl) <| ?_
 rcases Bool.eq_false_or_eq_true (decide (x0 ≥ x1)) with hb5 | hb5
 rw [hb5] at hm4
 refine Qg rfl hb5 (Mi rfl) <| Qg rfl hb5 (Mi rfl) <| Qg rfl hb5 (Bk rfl rfl) <| Qa (PTb rfl hb5 rfl) <| Qa (Ab rfl) <| ?_
 cases hm4
 exact fe rfl
 rw [hb5] at hm4
 refine Sk rfl hb5 rfl <| Sk rfl hb5 rfl <| Sk rfl hb5 rfl <| Qa (PFb rfl hb5 rfl) <| Qa (Ab rfl) <| ?_
 cases hm4
 exact fe rfl
 rintro _ ⟨F,rfl⟩
 refine fun wd6 hC7=>anz <| ?_
 cases ho
 exact W_ret ⟨_,res_1 Tryz.results81,rfl,(hB.trans hC7)⟩

abbrev impl_within_post (w:World) (x:(Bool)) (e:Ending) (w':World):Prop:=e = .returned (.bool x)∧Chg [] w w'
abbrev impl_within_T (w:World):=Tm Tryz.prog Tryz.f147 19 (impl_within_post w)
theorem impl_within_calls {w:World} {x0:(List Int)} {v_x0:Value} {f_x0:List Nat} {x1:Int} (h_x0:(sImm (sInt .i64)).rep w.heap [v_x0] x0 f_x0) {y:(Bool)} (hm:impl_within x0 x1=some y) :
  Calls Tryz.prog 147 #[v_x0,.int .i64 (x1)] w (impl_within_post w y):=by
 refine Cm (S:=Unit) Tryz.func147 rfl Tryz.ntmps147 rfl hm fun o ho hB=>?_
 clear hm
 refine wq <| Wq rfl (cr [] w) <| Qa (Ab rfl) <| fun wd1 hC2=>anz <| wq <| wq <| Wq rfl hC2 <| Qa (Mv v_x0 rfl) <| Qa (Ln sl22 (kB h_x0 hB) rfl) <| Qa (Mi rfl) <| fun wd3 hC4=>anz <| Wf (S1:=Int) (fun (s0_9:Int) r w'=>Chg [] w w'∧∃ F,r=updL F [(1,.int .i64 (x1)),(7,v_x0),(8,.int .i64 ((x0.length:Int))),(9,.int .i64 (s0_9))]) (impl_within_T w) ho ⟨(hB.trans hC4),fe rfl⟩ ?_ ?_
 rintro s0_9 _ wd5 ⟨hB,F,rfl⟩ o ho
 replace ho:impl_within_L0 x0 x1 s0_9=some o:=ho
 unfold impl_within_L0 at ho
 refine wq <| Wq rfl (cr [] wd5) <| Qa (Bl rfl rfl) <| fun wd6 hC7=>anz <| wq <| W_cond (b:=decide (s0_9 < (x0.length:Int))) rfl ?_ ?_
 intro hb8
 rw [hb8] at ho
 refine W_skip <| anz <| wq <| W_block <| wq <| Wq rfl hC7 <| ?_
 obtain ⟨e9,hx10e,ho⟩:=bs ho
 have hx10:=idx_some hx10e
 refine Qa (Ix sl22 (kB h_x0 hB) hx10 rfl rfl rfl) <| Qa (Ei na2 (kB h_x0 hB) hx10 rfl) <| Qa (Ai rfl) <| fun p5m p3x=>anz <| wq <| Wq rfl p3x <| Qa (Mi rfl) <| Qa (Mi rfl) <| Qa (Bs rfl rfl) <| ?_
 obtain ⟨y13,p3y,ho⟩:=bs ho
 refine Qc Tryz.func81 rfl rfl (fun _ hC=>impl_inRange_calls  p3y) <| Qa (Nt rfl) <| fun k9 qj=>anz <| W_cond (b:=!(y13)) rfl ?_ ?_
 intro nj
 rw [nj] at ho
 refine wq <| Wq rfl qj <| Qa (Ab rfl) <| fun p15 jm=>anz <| ?_
 cases ho
 exact W_ret ⟨_,res_1 Tryz.results147,rfl,(hB.trans jm)⟩
 intro nj
 rw [nj] at ho
 refine W_skip <| inBlk_n <| anz <| Wq rfl qj <| Qa (Ba rfl rfl) <| Qa (Mi rfl) <| fun p36 j1=>?_
 cases ho
 exact ⟨(hB.trans j1),fe rfl⟩
 intro hb8
 rw [hb8] at ho
 refine W_exit <| andThen_x <| ?_
 cases ho
 exact ⟨rfl,⟨(hB.trans hC7),fe rfl⟩⟩
 rintro s0_9 _ jo ⟨hB,F,rfl⟩ ho
 refine anz <| wq <| Wq rfl (cr [] jo) <| Qa (Ab rfl) <| fun p17 k8=>anz <| ?_
 cases ho
 exact W_ret ⟨_,res_1 Tryz.results147,rfl,(hB.trans k8)⟩

abbrev impl_Category_ends_post (w:World) (x:(MEnds)) (e:Ending) (w':World):Prop:=e = .returned (.agg #[.int .i64 x.From,.int .i64 x.To])∧Chg [] w w'
abbrev impl_Category_ends_T (w:World):=Tm Tryz.prog Tryz.f212 20 (impl_Category_ends_post w)
theorem impl_Category_ends_calls {w:World} {x0:MCategory} {p_x0:Addr} {z2:Value} {zf:List Nat} {z1:Value} {zg:List Nat} {z7:Value} {zh:List Nat} {z6:Value} {zi:List Nat} {x1:Int} (za:(sImm (sInt .i64)).rep w.heap [z2] x0.From zf) (zb:(sImm (sInt .i64)).rep w.heap [z1] x0.To zg) (zd:(sImm (sInt .i64)).rep w.heap [z7] x0.Identity zh) (zc:(sImm (sImm (sInt .i64))).rep w.heap [z6] x0.Composites zi) (a_x0:At w p_x0 [.int .i64 (x0.Objects),z2,z1,z7,z6]) {y:(MEnds)} (hm:impl_Category_ends x0 x1=some y) :
  Calls Tryz.prog 212 #[.pointer (some (p_x0)),.int .i64 (x1)] w (impl_Category_ends_post w y):=by
 refine Cm (S:=Unit) Tryz.func212 rfl Tryz.ntmps212 rfl hm fun o ho hB=>?_
 clear hm
 refine wq <| W_region rfl <| WL.alloc info238 zr238 fun b1 wd2 hC3 hr4 hl5=>?_
 replace hr4:Row wd2 b1 [.int .i64 ((0:Int)),.int .i64 ((0:Int))] 238:=hr4
 have lo6:w.heap.size≤b1:=Nat.le_trans hB.size hl5
 replace hB:=(hB.trans hC3)
 refine anz <| wq <| ?_
 obtain ⟨e8,hx9e,ho⟩:=bs ho
 have hx9:=idx_some hx9e
 obtain ⟨e10,hx11e,ho⟩:=bs ho
 have hx11:=idx_some hx11e
 refine W_any (m:=14) (U:=.replicate 14 []) (S:=[sV (.pointer (some (p_x0))),sV (.pointer (some (p_x0))),sV (.pointer (some (p_x0.add 1))),sV (z2),sV (.int .i64 (x1)),sV (.pointer (some (elA (z2) 1 (x1)))),sV (.int .i64 (e8)),sV (.pointer (some (p_x0))),sV (.pointer (some (p_x0))),sV (.pointer (some (p_x0.add 2))),sV (z1),sV (.int .i64 (x1)),sV (.pointer (some (elA (z1) 1 (x1)))),sV (.int .i64 (e10))]) (Z:=[]) hmix rfl (by decide) (by decide +kernel) (fun _ _ _ h=>np_out h) (by decide) rfl (by decide +kernel) (stable_all (by repeat first | exact stable_nil | refine stable_cons stable_val ?_ | refine stable_cons stable_own ?_)) ?_ ?_
 refine owes_cons ?_ <| owes_cons ?_ <| owes_cons ?_ <| owes_cons ?_ <| owes_cons ?_ <| owes_cons ?_ <| owes_cons ?_ <| owes_cons ?_ <| owes_cons ?_ <| owes_cons ?_ <| owes_cons ?_ <| owes_cons ?_ <| owes_cons ?_ <| owes_cons ?_ <| owes_nil
 exact Oh rfl rfl rfl [(0,.pointer (some (p_x0)))] (cr [] wd2) rfl rfl fun _=>Mp rfl
 exact Ov rfl rfl rfl [] [(5,.pointer (some (p_x0)))] [0] (cr [] wd2) rfl rfl (by decide +kernel) rfl fun _=>Nk rfl
 exact Ov rfl rfl rfl [] [(6,.pointer (some (p_x0)))] [1] (cr [] wd2) rfl rfl (by decide +kernel) rfl fun _=>Fp fa32_1 rfl
 exact Ov rfl rfl rfl [] [(7,.pointer (some (p_x0.add 1)))] [2] (cr [] wd2) rfl rfl (by decide +kernel) rfl fun _=>La na22 (At.keep0 a_x0 hB) rfl rfl
 exact Oh rfl rfl rfl [(1,.int .i64 (x1))] (cr [] wd2) rfl rfl fun _=>Mi rfl
 exact Ov rfl rfl rfl [] [(8,z2),(9,.int .i64 (x1))] [3,4] (cr [] wd2) rfl rfl (by decide +kernel) rfl fun _=>Ix sl22 (kB za hB) hx9 rfl rfl rfl
 exact Ov rfl rfl rfl [] [(10,.pointer (some (elA (z2) 1 (x1))))] [5] (cr [] wd2) rfl rfl (by decide +kernel) rfl fun _=>Ei na2 (kB za hB) hx9 rfl
 exact Oh rfl rfl rfl [(0,.pointer (some (p_x0)))] (cr [] wd2) rfl rfl fun _=>Mp rfl
 exact Ov rfl rfl rfl [] [(12,.pointer (some (p_x0)))] [7] (cr [] wd2) rfl rfl (by decide +kernel) rfl fun _=>Nk rfl
 exact Ov rfl rfl rfl [] [(13,.pointer (some (p_x0)))] [8] (cr [] wd2) rfl rfl (by decide +kernel) rfl fun _=>Fp fa32_2 rfl
 exact Ov rfl rfl rfl [] [(14,.pointer (some (p_x0.add 2)))] [9] (cr [] wd2) rfl rfl (by decide +kernel) rfl fun _=>La na22 (At.keep0 a_x0 hB) rfl rfl
 exact Oh rfl rfl rfl [(1,.int .i64 (x1))] (cr [] wd2) rfl rfl fun _=>Mi rfl
 exact Ov rfl rfl rfl [] [(15,z1),(16,.int .i64 (x1))] [10,11] (cr [] wd2) rfl rfl (by decide +kernel) rfl fun _=>Ix sl22 (kB zb hB) hx11 rfl rfl rfl
 exact Ov rfl rfl rfl [] [(17,.pointer (some (elA (z1) 1 (x1))))] [12] (cr [] wd2) rfl rfl (by decide +kernel) rfl fun _=>Ei na2 (kB zb hB) hx11 rfl
 rintro g r p3z ⟨jw,hdone,hot,hfresh,hdis⟩
 have hdd:=hdis
 obtain ⟨F,rfl⟩:=fw hdone hot [(4,.pointer (some (⟨b1,0,none⟩)))] [(11,.int .i64 (e8)),(18,.int .i64 (e10))] [6,13] rfl rfl rfl rfl (z:=[]) trivial
 replace hr4:=kr hr4 jw
 replace hB:=(hB.trans jw)
 refine Wb (Bu (bld238_0_1 rfl rfl)) <| WL.storeAll (us:=[.int .i64 (e8),.int .i64 (e10)]) info238 (by rw [sz238]; rfl) hr4 rfl rfl rfl (by intro u hu; simp only [List.mem_cons,List.mem_nil_iff,or_false] at hu; rcases hu with rfl | rfl <;> first | exact rfl) fun k9 qj nk=>?_
 replace nk:Row k9 b1 [.int .i64 (e8),.int .i64 (e10)] 238:=nk
 replace hB:=hB.then qj (one_then lo6)
 refine anz <| ?_
 cases ho
 exact W_ret ⟨_,res_c Tryz.results212 Tryz.underlying238 rfl info238 (by rw [sz238]; rfl) rfl nk.at,rfl,hB⟩

abbrev impl_Category_isShape_post (w:World) (x:(Bool)) (e:Ending) (w':World):Prop:=e = .returned (.bool x)∧Chg [] w w'
abbrev impl_Category_isShape_T (w:World):=Tm Tryz.prog Tryz.f162 167 (impl_Category_isShape_post w)
theorem impl_Category_isShape_calls {w:World} {x0:MCategory} {p_x0:Addr} {z2:Value} {zf:List Nat} {z1:Value} {zg:List Nat} {z7:Value} {zh:List Nat} {z6:Value} {zi:List Nat} (za:(sImm (sInt .i64)).rep w.heap [z2] x0.From zf) (zb:(sImm (sInt .i64)).rep w.heap [z1] x0.To zg) (zd:(sImm (sInt .i64)).rep w.heap [z7] x0.Identity zh) (zc:(sImm (sImm (sInt .i64))).rep w.heap [z6] x0.Composites zi) (a_x0:At w p_x0 [.int .i64 (x0.Objects),z2,z1,z7,z6]) {y:(Bool)} (hm:impl_Category_isShape x0=some y) :
  Calls Tryz.prog 162 #[.pointer (some (p_x0))] w (impl_Category_isShape_post w y):=by
 refine Cm (S:=Unit) Tryz.func162 rfl Tryz.ntmps162 rfl hm fun o ho hB=>?_
 clear hm
 refine wq <| Wq rfl (cr [] w) <| Qa (Ab rfl) <| fun wd1 hC2=>anz <| wq <| Wq rfl hC2 <| Qa (Mp rfl) <| ?_
 obtain ⟨y3,hy4,ho⟩:=bs ho
 refine Qc Tryz.func105 rfl rfl (fun _ hC=>impl_Category_arrows_calls (kp _ za (hB.trans hC)) (kp _ zb (hB.trans hC)) (kp _ zd (hB.trans hC)) (kp _ zc (hB.trans hC)) (At.keep0 a_x0 (hB.trans hC)) hy4) <| Qa (Ai rfl) <| fun wd5 hC6=>anz <| wq <| wq <| Wqd rfl (by kernel_rfl) hC6 <| ?_
 obtain ⟨g7,hm8,ho⟩:=bs ho
 refine QL.meet (fun r=>∃ F,r=updL F [(0,.pointer (some (p_x0))),(3,.int .i64 (y3)),(54,.bool (g7))]) ?_ ?_
 skip
 refine Qa (Mp rfl) <| Qa (Nk rfl) <| Qa (F0 fa32_0 rfl) <| Qa (Lb na2 (At.keep0 a_x0 hB) rfl rfl) <| ?_
 obtain ⟨y9,p40,hm8⟩:=bs hm8
 refine Qc Tryz.func81 rfl rfl (fun _ hC=>impl_inRange_calls  p40) <| Qa (Nt rfl) <| Qa (Mb rfl) <| ?_
 rcases Bool.eq_false_or_eq_true (!(y9)) with qf | qf
 rw [qf] at hm8
 refine Sk rfl qf rfl <| Sk rfl qf rfl <| Qa (PTb rfl qf rfl) <| Qa (Mb rfl) <| Sk rfl rfl rfl <| Sk rfl rfl rfl <| Sk rfl rfl rfl <| Sk rfl rfl rfl <| Sk rfl rfl rfl <| Sk rfl rfl rfl <| Sk rfl rfl rfl <| Qa (PTb rfl rfl rfl) <| Qa (Mb rfl) <| Sk rfl rfl rfl <| Sk rfl rfl rfl <| Sk rfl rfl rfl <| ?_
 refine Sk rfl rfl rfl <| Sk rfl rfl rfl <| Sk rfl rfl rfl <| Sk rfl rfl rfl <| Sk rfl rfl rfl <| Sk rfl rfl rfl <| Sk rfl rfl rfl <| Qa (PTb rfl rfl rfl) <| Qa (Mb rfl) <| Sk rfl rfl rfl <| Sk rfl rfl rfl <| Sk rfl rfl rfl <| Sk rfl rfl rfl <| Sk rfl rfl rfl <| Sk rfl rfl rfl <| Sk rfl rfl rfl <| ?_
 refine Sk rfl rfl rfl <| Sk rfl rfl rfl <| Sk rfl rfl rfl <| Qa (PTb rfl rfl rfl) <| ?_
 cases hm8
 exact fe rfl
 rw [qf] at hm8
 refine Qg rfl qf (Mi rfl) <| Qg rfl qf (Bg rfl rfl) <| Qa (PFb rfl qf rfl) <| Qa (Mb rfl) <| ?_
 rcases Bool.eq_false_or_eq_true (decide (y3 > (40:Int))) with pg | pg
 rw [pg] at hm8
 refine Sk rfl pg rfl <| Sk rfl pg rfl <| Sk rfl pg rfl <| Sk rfl pg rfl <| Sk rfl pg rfl <| Sk rfl pg rfl <| Sk rfl pg rfl <| Qa (PTb rfl pg rfl) <| Qa (Mb rfl) <| Sk rfl rfl rfl <| Sk rfl rfl rfl <| Sk rfl rfl rfl <| Sk rfl rfl rfl <| Sk rfl rfl rfl <| Sk rfl rfl rfl <| Sk rfl rfl rfl <| ?_
 refine Sk rfl rfl rfl <| Sk rfl rfl rfl <| Sk rfl rfl rfl <| Qa (PTb rfl rfl rfl) <| Qa (Mb rfl) <| Sk rfl rfl rfl <| Sk rfl rfl rfl <| Sk rfl rfl rfl <| Sk rfl rfl rfl <| Sk rfl rfl rfl <| Sk rfl rfl rfl <| Sk rfl rfl rfl <| Sk rfl rfl rfl <| Sk rfl rfl rfl <| Sk rfl rfl rfl <| Qa (PTb rfl rfl rfl) <| ?_
 cases hm8
 exact fe rfl
 rw [pg] at hm8
 refine Qg rfl pg (Mp rfl) <| Qg rfl pg (Nk rfl) <| Qg rfl pg (Fp fa32_2 rfl) <| Qg rfl pg (La na22 (At.keep0 a_x0 hB) rfl rfl) <| Qg rfl pg (Ln sl22 (kB zb hB) rfl) <| Qg rfl pg (Mi rfl) <| Qg rfl pg (Bn rfl rfl) <| Qa (PFb rfl pg rfl) <| Qa (Mb rfl) <| ?_
 rcases Bool.eq_false_or_eq_true (((x0.To.length:Int)) != y3) with pd | pd
 rw [pd] at hm8
 refine Sk rfl pd rfl <| Sk rfl pd rfl <| Sk rfl pd rfl <| Sk rfl pd rfl <| Sk rfl pd rfl <| Sk rfl pd rfl <| Sk rfl pd rfl <| Sk rfl pd rfl <| Sk rfl pd rfl <| Sk rfl pd rfl <| Qa (PTb rfl pd rfl) <| Qa (Mb rfl) <| Sk rfl rfl rfl <| Sk rfl rfl rfl <| Sk rfl rfl rfl <| Sk rfl rfl rfl <| ?_
 refine Sk rfl rfl rfl <| Sk rfl rfl rfl <| Sk rfl rfl rfl <| Sk rfl rfl rfl <| Sk rfl rfl rfl <| Sk rfl rfl rfl <| Qa (PTb rfl rfl rfl) <| ?_
 cases hm8
 exact fe rfl
 rw [pd] at hm8
 refine Qg rfl pd (Mp rfl) <| Qg rfl pd (Nk rfl) <| Qg rfl pd (Fp fa32_1 rfl) <| Qg rfl pd (La na22 (At.keep0 a_x0 hB) rfl rfl) <| Qg rfl pd (Mp rfl) <| Qg rfl pd (Nk rfl) <| Qg rfl pd (F0 fa32_0 rfl) <| Qg rfl pd (Lb na2 (At.keep0 a_x0 hB) rfl rfl) <| ?_
 obtain ⟨y14,p41,hm8⟩:=bs hm8
 refine Qcg rfl pd Tryz.func147 rfl rfl (fun _ hC=>impl_within_calls (kp _ za (hB.trans hC)) p41) <| Qg rfl pd (Nt rfl) <| Qa (PFb rfl pd rfl) <| Qa (Mb rfl) <| ?_
 rcases Bool.eq_false_or_eq_true (!(y14)) with pe | pe
 rw [pe] at hm8
 refine Sk rfl pe rfl <| Sk rfl pe rfl <| Sk rfl pe rfl <| Sk rfl pe rfl <| Sk rfl pe rfl <| Sk rfl pe rfl <| Sk rfl pe rfl <| Sk rfl pe rfl <| Sk rfl pe rfl <| Sk rfl pe rfl <| Qa (PTb rfl pe rfl) <| ?_
 cases hm8
 exact fe rfl
 rw [pe] at hm8
 refine Qg rfl pe (Mp rfl) <| Qg rfl pe (Nk rfl) <| Qg rfl pe (Fp fa32_2 rfl) <| Qg rfl pe (La na22 (At.keep0 a_x0 hB) rfl rfl) <| Qg rfl pe (Mp rfl) <| Qg rfl pe (Nk rfl) <| Qg rfl pe (F0 fa32_0 rfl) <| Qg rfl pe (Lb na2 (At.keep0 a_x0 hB) rfl rfl) <| ?_
 obtain ⟨y17,p42,hm8⟩:=bs hm8
 refine Qcg rfl pe Tryz.func147 rfl rfl (fun _ hC=>impl_within_calls (kp _ zb (hB.trans hC)) p42) <| Qg rfl pe (Nt rfl) <| Qa (PFb rfl pe rfl) <| ?_
 cases hm8
 exact fe rfl
 rintro _ ⟨F,rfl⟩
 refine fun p06 p0g=>anz <| W_cond (b:=g7) rfl ?_ ?_
 intro p1
 rw [p1] at ho
 refine wq <| Wq rfl p0g <| Qa (Ab rfl) <| fun jo px=>anz <| ?_
 cases ho
 exact W_ret ⟨_,res_1 Tryz.results162,rfl,(hB.trans px)⟩
 intro p1
 rw [p1] at ho
 refine W_skip <| anz <| wq <| wq <| Wqd rfl (by kernel_rfl) p0g <| ?_
 obtain ⟨g24,hm25,ho⟩:=bs ho
 refine QL.meet (fun r=>∃ F,r=updL F [(0,.pointer (some (p_x0))),(3,.int .i64 (y3)),(82,.bool (g24))]) ?_ ?_
 skip
 refine Qa (Mp rfl) <| Qa (Nk rfl) <| Qa (Fp fa32_3 rfl) <| Qa (La na22 (At.keep0 a_x0 hB) rfl rfl) <| Qa (Ln sl22 (kB zd hB) rfl) <| Qa (Mp rfl) <| Qa (Nk rfl) <| Qa (F0 fa32_0 rfl) <| Qa (Lb na2 (At.keep0 a_x0 hB) rfl rfl) <| Qa (Bn rfl rfl) <| Qa (Mb rfl) <| ?_
 rcases Bool.eq_false_or_eq_true (((x0.Identity.length:Int)) != (x0.Objects)) with po | po
 rw [po] at hm25
 refine Sk rfl po rfl <| Sk rfl po rfl <| Sk rfl po rfl <| Sk rfl po rfl <| Sk rfl po rfl <| Sk rfl po rfl <| Sk rfl po rfl <| Qa (PTb rfl po rfl) <| Qa (Mb rfl) <| Sk rfl rfl rfl <| Sk rfl rfl rfl <| Sk rfl rfl rfl <| Sk rfl rfl rfl <| Sk rfl rfl rfl <| Sk rfl rfl rfl <| Sk rfl rfl rfl <| ?_
 refine Qa (PTb rfl rfl rfl) <| ?_
 cases hm25
 exact fe rfl
 rw [po] at hm25
 refine Qg rfl po (Mp rfl) <| Qg rfl po (Nk rfl) <| Qg rfl po (Fp fa32_3 rfl) <| Qg rfl po (La na22 (At.keep0 a_x0 hB) rfl rfl) <| Qg rfl po (Mi rfl) <| ?_
 obtain ⟨y27,p43,hm25⟩:=bs hm25
 refine Qcg rfl po Tryz.func147 rfl rfl (fun _ hC=>impl_within_calls (kp _ zd (hB.trans hC)) p43) <| Qg rfl po (Nt rfl) <| Qa (PFb rfl po rfl) <| Qa (Mb rfl) <| ?_
 rcases Bool.eq_false_or_eq_true (!(y27)) with pf | pf
 rw [pf] at hm25
 refine Sk rfl pf rfl <| Sk rfl pf rfl <| Sk rfl pf rfl <| Sk rfl pf rfl <| Sk rfl pf rfl <| Sk rfl pf rfl <| Sk rfl pf rfl <| Qa (PTb rfl pf rfl) <| ?_
 cases hm25
 exact fe rfl
 rw [pf] at hm25
 refine Qg rfl pf (Mp rfl) <| Qg rfl pf (Nk rfl) <| Qg rfl pf (Fp fa32_4 rfl) <| Qg rfl pf (La na23 (At.keep0 a_x0 hB) rfl rfl) <| Qg rfl pf (Ln sl23 (kB zc hB) rfl) <| Qg rfl pf (Mi rfl) <| Qg rfl pf (Bn rfl rfl) <| Qa (PFb rfl pf rfl) <| ?_
 cases hm25
 exact fe rfl
 rintro _ ⟨F,rfl⟩
 refine fun p5n p0h=>anz <| W_cond (b:=g24) rfl ?_ ?_
 intro nl
 rw [nl] at ho
 refine wq <| Wq rfl p0h <| Qa (Ab rfl) <| fun p44 nm=>anz <| ?_
 cases ho
 exact W_ret ⟨_,res_1 Tryz.results162,rfl,(hB.trans nm)⟩
 intro nl
 rw [nl] at ho
 refine W_skip <| anz <| wq <| wq <| Wq rfl p0h <| Qa (Mp rfl) <| Qa (Nk rfl) <| Qa (Fp fa32_3 rfl) <| Qa (La na22 (At.keep0 a_x0 hB) rfl rfl) <| Qa (Ln sl22 (kB zd hB) rfl) <| Qa (Mi rfl) <| fun jp p45=>anz <| Wf (S1:=Int) (fun (s0_88:Int) r w'=>Chg [] w w'∧∃ F,r=updL F [(0,.pointer (some (p_x0))),(3,.int .i64 (y3)),(86,z7),(87,.int .i64 ((x0.Identity.length:Int))),(88,.int .i64 (s0_88))]) (impl_Category_isShape_T w) ho ⟨(hB.trans p45),fe rfl⟩ ?_ ?_
 rintro s0_88 _ gl ⟨hB,F,rfl⟩ o ho
 replace ho:impl_Category_isShape_L0 x0 s0_88=some o:=ho
 unfold impl_Category_isShape_L0 at ho
 refine wq <| Wq rfl (cr [] gl) <| Qa (Bl rfl rfl) <| fun p0i p0j=>anz <| wq <| W_cond (b:=decide (s0_88 < (x0.Identity.length:Int))) rfl ?_ ?_
 intro nn
 rw [nn] at ho
 refine W_skip <| anz <| wq <| W_block <| wq <| Wq rfl p0j <| Qa (Mi rfl) <| ?_
 obtain ⟨e41,hx42e,ho⟩:=bs ho
 have hx42:=idx_some hx42e
 refine Qa (Ix sl22 (kB zd hB) hx42 rfl rfl rfl) <| Qa (Ei na2 (kB zd hB) hx42 rfl) <| Qa (Ai rfl) <| Qa (Ai rfl) <| fun p5o p46=>anz <| wq <| Wq rfl p46 <| Qa (Mp rfl) <| Qa (Mi rfl) <| ?_
 obtain ⟨y45,p47,ho⟩:=bs ho
 refine Qc Tryz.func212 rfl rfl (fun _ hC=>impl_Category_ends_calls (kp _ za (hB.trans hC)) (kp _ zb (hB.trans hC)) (kp _ zd (hB.trans hC)) (kp _ zc (hB.trans hC)) (At.keep0 a_x0 (hB.trans hC)) p47) <| Qa (Mi rfl) <| Qa (Mi rfl) <| Qa (Bu (bld238_0_1 rfl rfl)) <| qv (v:=.bool (!((y45.From) == (s0_88) && (y45.To) == (s0_88)))) rfl (fun _ _=>op_neqS2 eqs238.1 eqs238.2.1 eqs238.2.2.1 (by kernel_rfl) (by kernel_rfl) rfl rfl eqs238.2.2.2.1 eqs238.2.2.2.2 rfl rfl) <| fun ga p0k=>anz <| W_cond (b:=!((y45.From) == (s0_88) && (y45.To) == (s0_88))) rfl ?_ ?_
 intro no
 rw [no] at ho
 refine wq <| Wq rfl p0k <| Qa (Ab rfl) <| fun p48 jx=>anz <| ?_
 cases ho
 exact W_ret ⟨_,res_1 Tryz.results162,rfl,(hB.trans jx)⟩
 intro no
 rw [no] at ho
 refine W_skip <| inBlk_n <| anz <| Wq rfl p0k <| Qa (Ba rfl rfl) <| Qa (Mi rfl) <| fun p5p p49=>?_
 cases ho
 exact ⟨(hB.trans p49),fe rfl⟩
 intro nn
 rw [nn] at ho
 refine W_exit <| andThen_x <| ?_
 cases ho
 exact ⟨rfl,⟨(hB.trans p0j),fe rfl⟩⟩
 rintro s0_88 _ p02 ⟨hB,F,rfl⟩ ho
 refine anz <| wq <| wq <| Wq rfl (cr [] p02) <| Qa (Mp rfl) <| Qa (Nk rfl) <| Qa (Fp fa32_4 rfl) <| Qa (La na23 (At.keep0 a_x0 hB) rfl rfl) <| Qa (Ln sl23 (kB zc hB) rfl) <| Qa (Mi rfl) <| fun gb ph=>anz <| Wf (S1:=Int) (fun (s1_106:Int) r w'=>Chg [] w w'∧∃ F,r=updL F [(0,.pointer (some (p_x0))),(3,.int .i64 (y3)),(104,z6),(105,.int .i64 ((x0.Composites.length:Int))),(106,.int .i64 (s1_106))]) (impl_Category_isShape_T w) ho ⟨(hB.trans ph),fe rfl⟩ ?_ ?_
 rintro s1_106 _ jt ⟨hB,F,rfl⟩ o ho
 replace ho:impl_Category_isShape_L1 x0 y3 s1_106=some o:=ho
 unfold impl_Category_isShape_L1 at ho
 refine wq <| Wq rfl (cr [] jt) <| Qa (Bl rfl rfl) <| fun p4a jj=>anz <| wq <| W_cond (b:=decide (s1_106 < (x0.Composites.length:Int))) rfl ?_ ?_
 intro qt
 rw [qt] at ho
 refine W_skip <| anz <| wq <| W_block <| wq <| Wq rfl jj <| Qa (Mi rfl) <| ?_
 obtain ⟨e61,hx62e,ho⟩:=bs ho
 have hx62:=idx_some hx62e
 refine Qa (Ix sl23 (kB zc hB) hx62 rfl rfl rfl) <| ?_
 obtain ⟨u63,fu64,hu65,jy,hs67⟩:=one_get rfl zc hx62.1 hx62.2
 refine Qa (Ld na22 (hB.cell0 hu65) rfl) <| Qa (Ai rfl) <| Qa (Av u63 rfl) <| fun qn k2=>anz <| wq <| wq <| Wq rfl k2 <| Qa (Mv u63 rfl) <| Qa (Ln sl22 (kB jy hB) rfl) <| Qa (Mi rfl) <| Qa (Bn rfl rfl) <| fun p5q p0l=>anz <| W_cond (b:=((e61.length:Int)) != (y3)) rfl ?_ ?_
 intro np
 rw [np] at ho
 refine wq <| Wq rfl p0l <| Qa (Ab rfl) <| fun p5r p4b=>anz <| ?_
 cases ho
 exact W_ret ⟨_,res_1 Tryz.results162,rfl,(hB.trans p4b)⟩
 intro np
 rw [np] at ho
 refine W_skip <| anz <| wq <| Wq rfl p0l <| Qa (Mv u63 rfl) <| Qa (Ln sl22 (kB jy hB) rfl) <| Qa (Mi rfl) <| fun p5s p4c=>anz <| Wf (S1:=Int) (fun (s2_117:Int) r w'=>Chg [] w w'∧∃ F,r=updL F [(0,.pointer (some (p_x0))),(3,.int .i64 (y3)),(6,.int .i64 (s1_106)),(104,z6),(105,.int .i64 ((x0.Composites.length:Int))),(106,.int .i64 (s1_106)),(115,u63),(116,.int .i64 ((e61.length:Int))),(117,.int .i64 (s2_117))]) (impl_Category_isShape_T w) ho ⟨(hB.trans p4c),fe rfl⟩ ?_ ?_
 rintro s2_117 _ n3 ⟨hB,F,rfl⟩ o ho
 replace ho:impl_Category_isShape_L2 x0 y3 s1_106 e61 s2_117=some o:=ho
 unfold impl_Category_isShape_L2 at ho
 refine wq <| Wq rfl (cr [] n3) <| Qa (Bl rfl rfl) <| fun p5t p0m=>anz <| wq <| W_cond (b:=decide (s2_117 < (e61.length:Int))) rfl ?_ ?_
 intro nq
 rw [nq] at ho
 refine W_skip <| anz <| wq <| W_block <| wq <| Wq rfl p0m <| Qa (Mi rfl) <| ?_
 obtain ⟨e81,hx82e,ho⟩:=bs ho
 have hx82:=idx_some hx82e
 refine Qa (Ix sl22 (kB jy hB) hx82 rfl rfl rfl) <| Qa (Ei na2 (kB jy hB) hx82 rfl) <| Qa (Ai rfl) <| Qa (Ai rfl) <| fun p5u p4d=>anz <| wq <| wq <| Wqd rfl (by kernel_rfl) p4d <| Qa (Mp rfl) <| Qa (Nk rfl) <| Qa (Fp fa32_2 rfl) <| Qa (La na22 (At.keep0 a_x0 hB) rfl rfl) <| Qa (Mi rfl) <| ?_
 obtain ⟨e85,hx86e,ho⟩:=bs ho
 have hx86:=idx_some hx86e
 refine Qa (Ix sl22 (kB zb hB) hx86 rfl rfl rfl) <| Qa (Ei na2 (kB zb hB) hx86 rfl) <| Qa (Mp rfl) <| Qa (Nk rfl) <| Qa (Fp fa32_1 rfl) <| Qa (La na22 (At.keep0 a_x0 hB) rfl rfl) <| Qa (Mi rfl) <| ?_
 obtain ⟨e87,hx88e,ho⟩:=bs ho
 have hx88:=idx_some hx88e
 refine Qa (Ix sl22 (kB za hB) hx88 rfl rfl rfl) <| Qa (Ei na2 (kB za hB) hx88 rfl) <| Qa (Bn rfl rfl) <| fun p3f jd=>anz <| W_cond (b:=(e85) != (e87)) rfl ?_ ?_
 intro qs
 rw [qs] at ho
 refine wq <| wq <| Wq rfl jd <| Qa (Mi rfl) <| Qa (Bn rfl rfl) <| fun gf q8=>anz <| W_cond (b:=(e81) != ((-1:Int))) rfl ?_ ?_
 intro nr
 rw [nr] at ho
 refine wq <| Wq rfl q8 <| Qa (Ab rfl) <| fun p5v p4e=>anz <| ?_
 cases ho
 exact W_ret ⟨_,res_1 Tryz.results162,rfl,(hB.trans p4e)⟩
 intro nr
 rw [nr] at ho
 refine W_skip <| anz <| W_exit <| andThen_x <| inBlk_x <| anz <| Wq rfl q8 <| Qa (Ba rfl rfl) <| Qa (Mi rfl) <| fun p0a p4f=>?_
 cases ho
 exact ⟨(hB.trans p4f),fe rfl⟩
 intro qs
 rw [qs] at ho
 refine W_skip <| anz <| wq <| Wqd rfl (by kernel_rfl) jd <| ?_
 obtain ⟨g99,hm100,ho⟩:=bs ho
 refine QL.meet (fun r=>∃ F,r=updL F [(0,.pointer (some (p_x0))),(3,.int .i64 (y3)),(6,.int .i64 (s1_106)),(104,z6),(105,.int .i64 ((x0.Composites.length:Int))),(106,.int .i64 (s1_106)),(115,u63),(116,.int .i64 ((e61.length:Int))),(117,.int .i64 (s2_117)),(164,.bool (g99))]) ?_ ?_
 skip
 refine Qa (Mi rfl) <| Qa (Mi rfl) <| Qa (Bs rfl rfl) <| ?_
 obtain ⟨y101,p4g,hm100⟩:=bs hm100
 refine Qc Tryz.func81 rfl rfl (fun _ hC=>impl_inRange_calls  p4g) <| Qa (Nt rfl) <| Qa (Mb rfl) <| ?_
 rcases Bool.eq_false_or_eq_true (!(y101)) with p3 | p3
 rw [p3] at hm100
 refine Sk rfl p3 rfl <| Sk rfl p3 rfl <| Sk rfl p3 rfl <| Sk rfl p3 rfl <| Sk rfl p3 rfl <| Sk rfl p3 rfl <| Sk rfl p3 rfl <| Sk rfl p3 rfl <| Sk rfl p3 rfl <| Sk rfl p3 rfl <| Sk rfl p3 rfl <| Sk rfl p3 rfl <| Sk rfl p3 rfl <| Sk rfl p3 rfl <| Sk rfl p3 rfl <| Sk rfl p3 rfl <| ?_
 refine Sk rfl p3 rfl <| Sk rfl p3 rfl <| Sk rfl p3 rfl <| Qa (PTb rfl p3 rfl) <| ?_
 cases hm100
 exact fe rfl
 rw [p3] at hm100
 refine Qg rfl p3 (Mp rfl) <| Qg rfl p3 (Mi rfl) <| ?_
 obtain ⟨y104,p4h,hm100⟩:=bs hm100
 refine Qcg rfl p3 Tryz.func212 rfl rfl (fun _ hC=>impl_Category_ends_calls (kp _ za (hB.trans hC)) (kp _ zb (hB.trans hC)) (kp _ zd (hB.trans hC)) (kp _ zc (hB.trans hC)) (At.keep0 a_x0 (hB.trans hC)) p4h) <| Qg rfl p3 (Mp rfl) <| Qg rfl p3 (Nk rfl) <| Qg rfl p3 (Fp fa32_1 rfl) <| Qg rfl p3 (La na22 (At.keep0 a_x0 hB) rfl rfl) <| Qg rfl p3 (Mi rfl) <| ?_
 obtain ⟨e106,hx107e,hm100⟩:=bs hm100
 have hx107:=idx_some hx107e
 refine Qg rfl p3 (Ix sl22 (kB za hB) hx107 rfl rfl rfl) <| Qg rfl p3 (Ei na2 (kB za hB) hx107 rfl) <| Qg rfl p3 (Mp rfl) <| Qg rfl p3 (Nk rfl) <| Qg rfl p3 (Fp fa32_2 rfl) <| Qg rfl p3 (La na22 (At.keep0 a_x0 hB) rfl rfl) <| Qg rfl p3 (Mi rfl) <| ?_
 obtain ⟨e108,hx109e,hm100⟩:=bs hm100
 have hx109:=idx_some hx109e
 refine Qg rfl p3 (Ix sl22 (kB zb hB) hx109 rfl rfl rfl) <| Qg rfl p3 (Ei na2 (kB zb hB) hx109 rfl) <| Qg rfl p3 (Bu (bld238_0_1 rfl rfl)) <| QL.valG (v:=.bool (!((y104.From) == (e106) && (y104.To) == (e108)))) rfl (congrArg some p3) (fun _ _=>op_neqS2 eqs238.1 eqs238.2.1 eqs238.2.2.1 (by kernel_rfl) (by kernel_rfl) rfl rfl eqs238.2.2.2.1 eqs238.2.2.2.2 rfl rfl) <| Qa (PFb rfl p3 rfl) <| ?_
 cases hm100
 exact fe rfl
 rintro _ ⟨F,rfl⟩
 refine fun p5w p0n=>anz <| W_cond (b:=g99) rfl ?_ ?_
 intro ns
 rw [ns] at ho
 refine wq <| Wq rfl p0n <| Qa (Ab rfl) <| fun p5x p4i=>anz <| ?_
 cases ho
 exact W_ret ⟨_,res_1 Tryz.results162,rfl,(hB.trans p4i)⟩
 intro ns
 rw [ns] at ho
 refine W_skip <| inBlk_n <| anz <| Wq rfl p0n <| Qa (Ba rfl rfl) <| Qa (Mi rfl) <| fun p5y p4j=>?_
 cases ho
 exact ⟨(hB.trans p4j),fe rfl⟩
 intro nq
 rw [nq] at ho
 refine W_exit <| andThen_x <| ?_
 cases ho
 exact ⟨rfl,⟨(hB.trans p0m),fe rfl⟩⟩
 rintro s2_117 _ gg ⟨hB,F,rfl⟩ ho
 refine inBlk_n <| anz <| Wq rfl (cr [] gg) <| Qa (Ba rfl rfl) <| Qa (Mi rfl) <| fun p5z p4k=>?_
 cases ho
 exact ⟨(hB.trans p4k),fe rfl⟩
 intro qt
 rw [qt] at ho
 refine W_exit <| andThen_x <| ?_
 cases ho
 exact ⟨rfl,⟨(hB.trans jj),fe rfl⟩⟩
 rintro s1_106 _ gh ⟨hB,F,rfl⟩ ho
 refine anz <| wq <| Wq rfl (cr [] gh) <| Qa (Ab rfl) <| fun p60 p4l=>anz <| ?_
 cases ho
 exact W_ret ⟨_,res_1 Tryz.results162,rfl,(hB.trans p4l)⟩

abbrev impl_Category_then_post (w:World) (x:(Int)) (e:Ending) (w':World):Prop:=e = .returned (.int .i64 x)∧Chg [] w w'
abbrev impl_Category_then_T (w:World):=Tm Tryz.prog Tryz.f150 17 (impl_Category_then_post w)
theorem impl_Category_then_calls {w:World} {x0:MCategory} {p_x0:Addr} {z2:Value} {zf:List Nat} {z1:Value} {zg:List Nat} {z7:Value} {zh:List Nat} {z6:Value} {zi:List Nat} {x1:Int} {x2:Int} (za:(sImm (sInt .i64)).rep w.heap [z2] x0.From zf) (zb:(sImm (sInt .i64)).rep w.heap [z1] x0.To zg) (zd:(sImm (sInt .i64)).rep w.heap [z7] x0.Identity zh) (zc:(sImm (sImm (sInt .i64))).rep w.heap [z6] x0.Composites zi) (a_x0:At w p_x0 [.int .i64 (x0.Objects),z2,z1,z7,z6]) {y:(Int)} (hm:impl_Category_then x0 x1 x2=some y) :
  Calls Tryz.prog 150 #[.pointer (some (p_x0)),.int .i64 (x1),.int .i64 (x2)] w (impl_Category_then_post w y):=by
 refine Cm (S:=Unit) Tryz.func150 rfl Tryz.ntmps150 rfl hm fun o ho hB=>?_
 clear hm
 refine wq <| Wq rfl (cr [] w) <| Qa (Ai rfl) <| fun wd1 hC2=>anz <| wq <| Wq rfl hC2 <| Qa (Mp rfl) <| Qa (Nk rfl) <| Qa (Fp fa32_4 rfl) <| Qa (La na23 (At.keep0 a_x0 hB) rfl rfl) <| Qa (Mi rfl) <| ?_
 obtain ⟨e3,hx4e,ho⟩:=bs ho
 have hx4:=idx_some hx4e
 refine Qa (Ix sl23 (kB zc hB) hx4 rfl rfl rfl) <| ?_
 obtain ⟨u5,fu6,hu7,hr8,hs9⟩:=one_get rfl zc hx4.1 hx4.2
 refine Qa (Ld na22 (hB.cell0 hu7) rfl) <| Qa (Mi rfl) <| ?_
 obtain ⟨e10,hx11e,ho⟩:=bs ho
 have hx11:=idx_some hx11e
 refine Qa (Ix sl22 (kB hr8 hB) hx11 rfl rfl rfl) <| Qa (Ei na2 (kB hr8 hB) hx11 rfl) <| Qa (Ai rfl) <| fun p3z jw=>anz <| ?_
 cases ho
 exact W_ret ⟨_,res_1 Tryz.results150,rfl,(hB.trans jw)⟩

abbrev impl_Category_fault_post (w:World) (x:(Int×Int×Int×Int)) (e:Ending) (w':World):Prop:=e = .returned (.tuple #[.int .i64 x.1,.int .i64 x.2.1,.int .i64 x.2.2.1,.int .i64 x.2.2.2])∧Chg [] w w'
abbrev impl_Category_fault_T (w:World):=Tm Tryz.prog Tryz.f163 102 (impl_Category_fault_post w)
theorem impl_Category_fault_calls {w:World} {x0:MCategory} {p_x0:Addr} {z2:Value} {zf:List Nat} {z1:Value} {zg:List Nat} {z7:Value} {zh:List Nat} {z6:Value} {zi:List Nat} (za:(sImm (sInt .i64)).rep w.heap [z2] x0.From zf) (zb:(sImm (sInt .i64)).rep w.heap [z1] x0.To zg) (zd:(sImm (sInt .i64)).rep w.heap [z7] x0.Identity zh) (zc:(sImm (sImm (sInt .i64))).rep w.heap [z6] x0.Composites zi) (a_x0:At w p_x0 [.int .i64 (x0.Objects),z2,z1,z7,z6]) {y:(Int×Int×Int×Int)} (hm:impl_Category_fault x0=some y) :
  Calls Tryz.prog 163 #[.pointer (some (p_x0))] w (impl_Category_fault_post w y):=by
 refine Cm (S:=Unit) Tryz.func163 rfl Tryz.ntmps163 rfl hm fun o ho hB=>?_
 clear hm
 refine wq <| Wq rfl (cr [] w) <| Qa (Ai rfl) <| Qa (Ai rfl) <| Qa (Ai rfl) <| Qa (Ai rfl) <| fun wd1 hC2=>anz <| wq <| Wq rfl hC2 <| Qa (Mp rfl) <| ?_
 obtain ⟨y3,hy4,ho⟩:=bs ho
 refine Qc Tryz.func105 rfl rfl (fun _ hC=>impl_Category_arrows_calls (kp _ za (hB.trans hC)) (kp _ zb (hB.trans hC)) (kp _ zd (hB.trans hC)) (kp _ zc (hB.trans hC)) (At.keep0 a_x0 (hB.trans hC)) hy4) <| Qa (Ai rfl) <| fun wd5 hC6=>anz <| wq <| wq <| Wq rfl hC6 <| Qa (Ai rfl) <| fun wd7 hC8=>anz <| Wf (S1:=Int) (fun (s0_7:Int) r w'=>Chg [] w w'∧∃ F,r=updL F [(0,.pointer (some (p_x0))),(6,.int .i64 (y3)),(7,.int .i64 (s0_7))]) (impl_Category_fault_T w) ho ⟨(hB.trans hC8),fe rfl⟩ ?_ ?_
 rintro s0_7 _ wd9 ⟨hB,F,rfl⟩ o ho
 replace ho:impl_Category_fault_L0 x0 y3 s0_7=some o:=ho
 unfold impl_Category_fault_L0 at ho
 refine wq <| wq <| Wq rfl (cr [] wd9) <| Qa (Mi rfl) <| Qa (Mi rfl) <| Qa (Bl rfl rfl) <| fun p61 j4=>anz <| W_cond (b:=decide (s0_7 < y3)) rfl ?_ ?_
 intro pg
 rw [pg] at ho
 refine W_skip <| anz <| wq <| W_block <| wq <| Wqd rfl (by kernel_rfl) j4 <| ?_
 obtain ⟨g13,hm14,ho⟩:=bs ho
 refine QL.meet (fun r=>∃ F,r=updL F [(0,.pointer (some (p_x0))),(6,.int .i64 (y3)),(7,.int .i64 (s0_7)),(55,.bool (g13))]) ?_ ?_
 skip
 refine Qa (Mp rfl) <| Qa (Mp rfl) <| Qa (Nk rfl) <| Qa (Fp fa32_3 rfl) <| Qa (La na22 (At.keep0 a_x0 hB) rfl rfl) <| Qa (Mp rfl) <| Qa (Nk rfl) <| Qa (Fp fa32_1 rfl) <| Qa (La na22 (At.keep0 a_x0 hB) rfl rfl) <| Qa (Mi rfl) <| ?_
 obtain ⟨e15,hx16e,hm14⟩:=bs hm14
 have hx16:=idx_some hx16e
 refine Qa (Ix sl22 (kB za hB) hx16 rfl rfl rfl) <| Qa (Ei na2 (kB za hB) hx16 rfl) <| ?_
 obtain ⟨e17,hx18e,hm14⟩:=bs hm14
 have hx18:=idx_some hx18e
 refine Qa (Ix sl22 (kB zd hB) hx18 rfl rfl rfl) <| Qa (Ei na2 (kB zd hB) hx18 rfl) <| Qa (Mi rfl) <| ?_
 obtain ⟨y19,p4m,hm14⟩:=bs hm14
 refine Qc Tryz.func150 rfl rfl (fun _ hC=>impl_Category_then_calls (kp _ za (hB.trans hC)) (kp _ zb (hB.trans hC)) (kp _ zd (hB.trans hC)) (kp _ zc (hB.trans hC)) (At.keep0 a_x0 (hB.trans hC)) p4m) <| Qa (Mi rfl) <| Qa (Bn rfl rfl) <| Qa (Mb rfl) <| ?_
 rcases Bool.eq_false_or_eq_true (y19 != s0_7) with p1 | p1
 rw [p1] at hm14
 refine Sk rfl p1 rfl <| Sk rfl p1 rfl <| Sk rfl p1 rfl <| Sk rfl p1 rfl <| Sk rfl p1 rfl <| Sk rfl p1 rfl <| Sk rfl p1 rfl <| Sk rfl p1 rfl <| Sk rfl p1 rfl <| Sk rfl p1 rfl <| Sk rfl p1 rfl <| Sk rfl p1 rfl <| Sk rfl p1 rfl <| Sk rfl p1 rfl <| Sk rfl p1 rfl <| Sk rfl p1 rfl <| ?_
 refine Sk rfl p1 rfl <| Sk rfl p1 rfl <| Qa (PTb rfl p1 rfl) <| ?_
 cases hm14
 exact fe rfl
 rw [p1] at hm14
 refine Qg rfl p1 (Mp rfl) <| Qg rfl p1 (Mi rfl) <| Qg rfl p1 (Mp rfl) <| Qg rfl p1 (Nk rfl) <| Qg rfl p1 (Fp fa32_3 rfl) <| Qg rfl p1 (La na22 (At.keep0 a_x0 hB) rfl rfl) <| Qg rfl p1 (Mp rfl) <| Qg rfl p1 (Nk rfl) <| Qg rfl p1 (Fp fa32_2 rfl) <| Qg rfl p1 (La na22 (At.keep0 a_x0 hB) rfl rfl) <| Qg rfl p1 (Mi rfl) <| ?_
 obtain ⟨e22,hx23e,hm14⟩:=bs hm14
 have hx23:=idx_some hx23e
 refine Qg rfl p1 (Ix sl22 (kB zb hB) hx23 rfl rfl rfl) <| Qg rfl p1 (Ei na2 (kB zb hB) hx23 rfl) <| ?_
 obtain ⟨e24,hx25e,hm14⟩:=bs hm14
 have hx25:=idx_some hx25e
 refine Qg rfl p1 (Ix sl22 (kB zd hB) hx25 rfl rfl rfl) <| Qg rfl p1 (Ei na2 (kB zd hB) hx25 rfl) <| ?_
 obtain ⟨y26,kk,hm14⟩:=bs hm14
 refine Qcg rfl p1 Tryz.func150 rfl rfl (fun _ hC=>impl_Category_then_calls (kp _ za (hB.trans hC)) (kp _ zb (hB.trans hC)) (kp _ zd (hB.trans hC)) (kp _ zc (hB.trans hC)) (At.keep0 a_x0 (hB.trans hC)) kk) <| Qg rfl p1 (Mi rfl) <| Qg rfl p1 (Bn rfl rfl) <| Qa (PFb rfl p1 rfl) <| ?_
 cases hm14
 exact fe rfl
 rintro _ ⟨F,rfl⟩
 refine fun p1v pc=>anz <| W_cond (b:=g13) rfl ?_ ?_
 intro qr
 rw [qr] at ho
 refine wq <| Wq rfl pc <| Qa (Mi rfl) <| Qa (Ai rfl) <| Qa (Ai rfl) <| Qa (Ai rfl) <| Qa (Ai rfl) <| fun gk kl=>anz <| ?_
 cases ho
 exact W_ret ⟨_,res_4 Tryz.results163,rfl,(hB.trans kl)⟩
 intro qr
 rw [qr] at ho
 refine W_skip <| inBlk_n <| anz <| Wq rfl pc <| Qa (Mi rfl) <| Qa (Ba rfl rfl) <| Qa (Ai rfl) <| fun p44 nm=>?_
 cases ho
 exact ⟨(hB.trans nm),fe rfl⟩
 intro pg
 rw [pg] at ho
 refine W_exit <| andThen_x <| ?_
 cases ho
 exact ⟨rfl,⟨(hB.trans j4),fe rfl⟩⟩
 rintro s0_7 _ jp ⟨hB,F,rfl⟩ ho
 refine anz <| wq <| wq <| Wq rfl (cr [] jp) <| Qa (Ai rfl) <| fun qg p6=>anz <| Wf (S1:=Int) (fun (s1_8:Int) r w'=>Chg [] w w'∧∃ F,r=updL F [(0,.pointer (some (p_x0))),(6,.int .i64 (y3)),(8,.int .i64 (s1_8))]) (impl_Category_fault_T w) ho ⟨(hB.trans p6),fe rfl⟩ ?_ ?_
 rintro s1_8 _ p0i ⟨hB,F,rfl⟩ o ho
 replace ho:impl_Category_fault_L1 x0 y3 s1_8=some o:=ho
 unfold impl_Category_fault_L1 at ho
 refine wq <| wq <| Wq rfl (cr [] p0i) <| Qa (Mi rfl) <| Qa (Mi rfl) <| Qa (Bl rfl rfl) <| fun nz jl=>anz <| W_cond (b:=decide (s1_8 < y3)) rfl ?_ ?_
 intro nt
 rw [nt] at ho
 refine W_skip <| anz <| wq <| W_block <| wq <| Wq rfl jl <| Qa (Ai rfl) <| fun p1d qz=>anz <| Wf (S1:=Int) (fun (s2_9:Int) r w'=>Chg [] w w'∧∃ F,r=updL F [(0,.pointer (some (p_x0))),(6,.int .i64 (y3)),(8,.int .i64 (s1_8)),(9,.int .i64 (s2_9))]) (impl_Category_fault_T w) ho ⟨(hB.trans qz),fe rfl⟩ ?_ ?_
 rintro s2_9 _ p4n ⟨hB,F,rfl⟩ o ho
 replace ho:impl_Category_fault_L2 x0 y3 s1_8 s2_9=some o:=ho
 unfold impl_Category_fault_L2 at ho
 refine wq <| wq <| Wq rfl (cr [] p4n) <| Qa (Mi rfl) <| Qa (Mi rfl) <| Qa (Bl rfl rfl) <| fun p62 p0o=>anz <| W_cond (b:=decide (s2_9 < y3)) rfl ?_ ?_
 intro nu
 rw [nu] at ho
 refine W_skip <| anz <| wq <| W_block <| wq <| wq <| Wq rfl p0o <| Qa (Mp rfl) <| Qa (Mi rfl) <| Qa (Mi rfl) <| ?_
 obtain ⟨y48,p4o,ho⟩:=bs ho
 refine Qc Tryz.func150 rfl rfl (fun _ hC=>impl_Category_then_calls (kp _ za (hB.trans hC)) (kp _ zb (hB.trans hC)) (kp _ zd (hB.trans hC)) (kp _ zc (hB.trans hC)) (At.keep0 a_x0 (hB.trans hC)) p4o) <| Qa (Bl rfl rfl) <| fun p48 jx=>anz <| W_cond (b:=decide (y48 < (0:Int))) rfl ?_ ?_
 intro nv
 rw [nv] at ho
 refine W_exit <| andThen_x <| inBlk_x <| anz <| Wq rfl jx <| Qa (Mi rfl) <| Qa (Ba rfl rfl) <| Qa (Ai rfl) <| fun p63 p4p=>?_
 cases ho
 exact ⟨(hB.trans p4p),fe rfl⟩
 intro nv
 rw [nv] at ho
 refine W_skip <| anz <| wq <| Wq rfl jx <| Qa (Ai rfl) <| fun gb ph=>anz <| Wf (S1:=Int) (fun (s3_10:Int) r w'=>Chg [] w w'∧∃ F,r=updL F [(0,.pointer (some (p_x0))),(6,.int .i64 (y3)),(8,.int .i64 (s1_8)),(9,.int .i64 (s2_9)),(10,.int .i64 (s3_10))]) (impl_Category_fault_T w) ho ⟨(hB.trans ph),fe rfl⟩ ?_ ?_
 rintro s3_10 _ jt ⟨hB,F,rfl⟩ o ho
 replace ho:impl_Category_fault_L3 x0 y3 s1_8 s2_9 s3_10=some o:=ho
 unfold impl_Category_fault_L3 at ho
 refine wq <| wq <| Wq rfl (cr [] jt) <| Qa (Mi rfl) <| Qa (Mi rfl) <| Qa (Bl rfl rfl) <| fun p4a jj=>anz <| W_cond (b:=decide (s3_10 < y3)) rfl ?_ ?_
 intro qt
 rw [qt] at ho
 refine W_skip <| anz <| wq <| W_block <| wq <| Wq rfl jj <| ?_
 obtain ⟨g61,hm62,ho⟩:=bs ho
 refine QL.meet (fun r=>∃ F,r=updL F [(0,.pointer (some (p_x0))),(6,.int .i64 (y3)),(8,.int .i64 (s1_8)),(9,.int .i64 (s2_9)),(10,.int .i64 (s3_10)),(98,.bool (g61))]) ?_ ?_
 skip
 refine Qa (Mp rfl) <| Qa (Mi rfl) <| Qa (Mi rfl) <| ?_
 obtain ⟨y63,k1,hm62⟩:=bs hm62
 refine Qc Tryz.func150 rfl rfl (fun _ hC=>impl_Category_then_calls (kp _ za (hB.trans hC)) (kp _ zb (hB.trans hC)) (kp _ zd (hB.trans hC)) (kp _ zc (hB.trans hC)) (At.keep0 a_x0 (hB.trans hC)) k1) <| Qa (Bh rfl rfl) <| Qa (Mb rfl) <| ?_
 rcases Bool.eq_false_or_eq_true (decide (y63 ≥ (0:Int))) with p4 | p4
 rw [p4] at hm62
 refine Qg rfl p4 (Mp rfl) <| Qg rfl p4 (Mp rfl) <| Qg rfl p4 (Mi rfl) <| Qg rfl p4 (Mi rfl) <| ?_
 obtain ⟨y66,p4q,hm62⟩:=bs hm62
 refine Qcg rfl p4 Tryz.func150 rfl rfl (fun _ hC=>impl_Category_then_calls (kp _ za (hB.trans hC)) (kp _ zb (hB.trans hC)) (kp _ zd (hB.trans hC)) (kp _ zc (hB.trans hC)) (At.keep0 a_x0 (hB.trans hC)) p4q) <| Qg rfl p4 (Mi rfl) <| ?_
 obtain ⟨y68,p4r,hm62⟩:=bs hm62
 refine Qcg rfl p4 Tryz.func150 rfl rfl (fun _ hC=>impl_Category_then_calls (kp _ za (hB.trans hC)) (kp _ zb (hB.trans hC)) (kp _ zd (hB.trans hC)) (kp _ zc (hB.trans hC)) (At.keep0 a_x0 (hB.trans hC)) p4r) <| Qg rfl p4 (Mp rfl) <| Qg rfl p4 (Mi rfl) <| Qg rfl p4 (Mp rfl) <| Qg rfl p4 (Mi rfl) <| Qg rfl p4 (Mi rfl) <| ?_
 obtain ⟨y70,p4s,hm62⟩:=bs hm62
 refine Qcg rfl p4 Tryz.func150 rfl rfl (fun _ hC=>impl_Category_then_calls (kp _ za (hB.trans hC)) (kp _ zb (hB.trans hC)) (kp _ zd (hB.trans hC)) (kp _ zc (hB.trans hC)) (At.keep0 a_x0 (hB.trans hC)) p4s) <| ?_
 obtain ⟨y72,p4t,hm62⟩:=bs hm62
 refine Qcg rfl p4 Tryz.func150 rfl rfl (fun _ hC=>impl_Category_then_calls (kp _ za (hB.trans hC)) (kp _ zb (hB.trans hC)) (kp _ zd (hB.trans hC)) (kp _ zc (hB.trans hC)) (At.keep0 a_x0 (hB.trans hC)) p4t) <| Qg rfl p4 (Bn rfl rfl) <| Qa (PTb rfl p4 rfl) <| ?_
 cases hm62
 exact fe rfl
 rw [p4] at hm62
 refine Sk rfl p4 rfl <| Sk rfl p4 rfl <| Sk rfl p4 rfl <| Sk rfl p4 rfl <| Sk rfl p4 rfl <| Sk rfl p4 rfl <| Sk rfl p4 rfl <| Sk rfl p4 rfl <| Sk rfl p4 rfl <| Sk rfl p4 rfl <| Sk rfl p4 rfl <| Sk rfl p4 rfl <| Sk rfl p4 rfl <| Sk rfl p4 rfl <| Sk rfl p4 rfl <| Qa (PFb rfl p4 rfl) <| ?_
 cases hm62
 exact fe rfl
 rintro _ ⟨F,rfl⟩
 refine fun p64 p0p=>anz <| W_cond (b:=g61) rfl ?_ ?_
 intro nw
 rw [nw] at ho
 refine wq <| Wq rfl p0p <| Qa (Mi rfl) <| Qa (Mi rfl) <| Qa (Mi rfl) <| Qa (Ai rfl) <| Qa (Ai rfl) <| Qa (Ai rfl) <| Qa (Ai rfl) <| fun n3 j2=>anz <| ?_
 cases ho
 exact W_ret ⟨_,res_4 Tryz.results163,rfl,(hB.trans j2)⟩
 intro nw
 rw [nw] at ho
 refine W_skip <| inBlk_n <| anz <| Wq rfl p0p <| Qa (Mi rfl) <| Qa (Ba rfl rfl) <| Qa (Ai rfl) <| fun p1h kd=>?_
 cases ho
 exact ⟨(hB.trans kd),fe rfl⟩
 intro qt
 rw [qt] at ho
 refine W_exit <| andThen_x <| ?_
 cases ho
 exact ⟨rfl,⟨(hB.trans jj),fe rfl⟩⟩
 rintro s3_10 _ p4u ⟨hB,F,rfl⟩ ho
 refine inBlk_n <| anz <| Wq rfl (cr [] p4u) <| Qa (Mi rfl) <| Qa (Ba rfl rfl) <| Qa (Ai rfl) <| fun p65 p4v=>?_
 cases ho
 exact ⟨(hB.trans p4v),fe rfl⟩
 intro nu
 rw [nu] at ho
 refine W_exit <| andThen_x <| ?_
 cases ho
 exact ⟨rfl,⟨(hB.trans p0o),fe rfl⟩⟩
 rintro s2_9 _ gd ⟨hB,F,rfl⟩ ho
 refine inBlk_n <| anz <| Wq rfl (cr [] gd) <| Qa (Mi rfl) <| Qa (Ba rfl rfl) <| Qa (Ai rfl) <| fun p66 p4w=>?_
 cases ho
 exact ⟨(hB.trans p4w),fe rfl⟩
 intro nt
 rw [nt] at ho
 refine W_exit <| andThen_x <| ?_
 cases ho
 exact ⟨rfl,⟨(hB.trans jl),fe rfl⟩⟩
 rintro s1_8 _ p4x ⟨hB,F,rfl⟩ ho
 refine anz <| wq <| Wq rfl (cr [] p4x) <| Qa (Ai rfl) <| Qa (Ai rfl) <| Qa (Ai rfl) <| Qa (Ai rfl) <| fun ge kf=>anz <| ?_
 cases ho
 exact W_ret ⟨_,res_4 Tryz.results163,rfl,(hB.trans kf)⟩
end Go.Proofs.YtcmckiiafgcmjaaGreat
