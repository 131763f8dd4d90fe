/- Walks, printed by a program: that a call of each function computes what its model says. No condition beside those that each theorem names. -/
import Derived.Test.YtcmckiiafgcmjaaGreatTy
import Derived.Test.YtcmckiiafgcmjaaGreatMo
import Derived.Test.YtcmckiiafgcmjaaGreatZ00
import Derived.Test.YtcmckiiafgcmjaaGreatZ01
namespace Go.Proofs.YtcmckiiafgcmjaaGreat
open Go Go.Li
set_option linter.unusedVariables false
set_option maxHeartbeats 4000000
set_option maxRecDepth 100000
abbrev spec_l27Make_post (zd:List Nat) (ze:List Nat) (zf:List Nat) (zg:List Nat) (w:World) (x:(ML27Table×Bool)) (e:Ending) (w':World):Prop:=∃ (v0:Value) (f0:List Nat) (v1:Value) (f1:List Nat) (v2:Value) (f2:List Nat) (v3:Value) (f3:List Nat) (v4:Value) (f4:List Nat) (v5:Value) (f5:List Nat) (v6:Value) (f6:List Nat),e = .returned (.tuple #[.agg #[.int .i64 x.1.C.Objects,v0,v1,v2,v3,v4,v5,v6],.bool x.2])∧Chg [] w w'∧(sImm (sInt .i64)).rep w'.heap [v0] x.1.C.From f0∧(∀ b∈f0,b∈(zd++(ze++(zf++zg))) ∨ w.heap.size≤b)∧(sImm (sInt .i64)).rep w'.heap [v1] x.1.C.To f1∧(∀ b∈f1,b∈(zd++(ze++(zf++zg))) ∨ w.heap.size≤b)∧(sImm (sInt .i64)).rep w'.heap [v2] x.1.C.Identity f2∧(∀ b∈f2,b∈(zd++(ze++(zf++zg))) ∨ w.heap.size≤b)∧(sImm (sImm (sInt .i64))).rep w'.heap [v3] x.1.C.Composites f3∧(∀ b∈f3,b∈(zd++(ze++(zf++zg))) ∨ w.heap.size≤b)∧(sImm (sImm (sImm (sInt .i64)))).rep w'.heap [v4] x.1.Lists f4∧(∀ b∈f4,b∈(zd++(ze++(zf++zg))) ∨ w.heap.size≤b)∧(sImm (sImm (sInt .i64))).rep w'.heap [v5] x.1.Pulls f5∧(∀ b∈f5,b∈(zd++(ze++(zf++zg))) ∨ w.heap.size≤b)∧(sImm (sInt .i64)).rep w'.heap [v6] x.1.Tops f6∧(∀ b∈f6,b∈(zd++(ze++(zf++zg))) ∨ w.heap.size≤b)
abbrev spec_l27Make_T (zd:List Nat) (ze:List Nat) (zf:List Nat) (zg:List Nat) (w:World):=Tm Tryz.prog Tryz.f135 24 (spec_l27Make_post zd ze zf zg w)
theorem spec_l27Make_calls {w:World} {x0:MCategory} {z2:Value} {zd:List Nat} {z1:Value} {ze:List Nat} {z8:Value} {zf:List Nat} {z7:Value} {zg:List Nat} (z6:(sImm (sInt .i64)).rep w.heap [z2] x0.From zd) (za:(sImm (sInt .i64)).rep w.heap [z1] x0.To ze) (zc:(sImm (sInt .i64)).rep w.heap [z8] x0.Identity zf) (zb:(sImm (sImm (sInt .i64))).rep w.heap [z7] x0.Composites zg) {y:(ML27Table×Bool)} (hm:spec_l27Make x0=some y) :
  Calls Tryz.prog 135 #[.agg #[.int .i64 (x0.Objects),z2,z1,z8,z7]] w (spec_l27Make_post zd ze zf zg w y):=by
 refine Cm (S:=Unit) Tryz.func135 rfl Tryz.ntmps135 rfl hm fun o ho hB=>?_
 clear hm
 refine wq <| W_region rfl <| WL.box fun b1 wd2 hC3 hr4 hl5=>?_
 replace hr4:Row wd2 b1 [.int .i64 (x0.Objects),z2,z1,z8,z7] 32:=hr4
 replace z6:=kp _ z6 hC3
 replace za:=kp _ za hC3
 replace zc:=kp _ zc hC3
 replace zb:=kp _ zb hC3
 replace hB:=(hB.trans hC3)
 refine WL.alloc info96 zr96 fun j7 p16 j8 ps j9=>?_
 replace ps:Row p16 j7 [.int .i64 ((0:Int)),.slice none 0 0,.slice none 0 0,.slice none 0 0,.slice none 0 0,.slice none 0 0,.slice none 0 0,.slice none 0 0] 96:=ps
 have ga:w.heap.size≤j7:=Nat.le_trans hB.size j9
 have ja:=dl (onw j9) (sl _ z6)
 have qc:=dl (onw j9) (sl _ za)
 have pi:=dl (onw j9) (sl _ zc)
 have qd:=dl (onw j9) (sl _ zb)
 have qe:=dl (onw j9) (one_lt (Row.lt hr4))
 replace z6:=kp _ z6 j8
 replace za:=kp _ za j8
 replace zc:=kp _ zc j8
 replace zb:=kp _ zb j8
 replace hr4:=kr hr4 j8
 replace hB:=(hB.trans j8)
 refine Wb (Ab rfl) <| anz <| wq <| W_region rfl <| Wb (Lg ag32 hr4.at rfl rfl) <| ?_
 obtain ⟨y24,p17,ho⟩:=bs ho
 refine WL.call rfl (op_callF Tryz.func205 rfl rfl) (spec_l25Lists_calls z6 za zc zb p17) <| ?_
 rintro _ je ⟨v28,f29,rfl,qh,qi,gb⟩
 refine ⟨_,rfl,?_⟩
 have d33:=dl gb (one_lt (Row.lt ps))
 have p1a : ∀ b∈f29,b∈(zd++(ze++(zf++zg))) ∨ w.heap.size≤b:=fun b hb=>.inr (Nat.le_trans hB.size (gb b hb))
 replace z6:=kp _ z6 qh
 replace za:=kp _ za qh
 replace zc:=kp _ zc qh
 replace zb:=kp _ zb qh
 replace hr4:=kr hr4 qh
 replace ps:=kr ps qh
 replace hB:=(hB.trans qh)
 refine Wb (Mt rfl) <| Wb (Ex v28 rfl rfl) <| Wb (Exb rfl rfl) <| Wb (Av v28 rfl) <| Wb (Ab rfl) <| anz <| wq <| wq <| Wq rfl (cr [] je) <| Qa (Mb rfl) <| Qa (Nt rfl) <| fun qt p5=>anz <| W_cond (b:=!(y24.2)) rfl ?_ ?_
 intro k9
 rw [k9] at ho
 refine wq <| W_region rfl <| Wb (Bu bld96_) <| WL.storeAll (us:=[.int .i64 ((0:Int)),.slice none 0 0,.slice none 0 0,.slice none 0 0,.slice none 0 0,.slice none 0 0,.slice none 0 0,.slice none 0 0]) info96 (by rw [sz96]; rfl) (kr ps p5) rfl rfl rfl (by intro u hu; simp only [List.mem_cons,List.mem_nil_iff,or_false] at hu; rcases hu with rfl | rfl | rfl | rfl | rfl | rfl | rfl | rfl <;> first | exact rfl) fun p1b p1c ka=>?_
 replace ka:Row p1b j7 [.int .i64 ((0:Int)),.slice none 0 0,.slice none 0 0,.slice none 0 0,.slice none 0 0,.slice none 0 0,.slice none 0 0,.slice none 0 0] 96:=ka
 have p1d:=(p5.nil (G:=[j7])).trans p1c
 replace hB:=hB.then p1d (one_then ga)
 refine Wb (Ab rfl) <| anz <| ?_
 cases ho
 exact W_ret ⟨_,res_c1 Tryz.results135 Tryz.underlying96 rfl info96 (by rw [sz96]; rfl) rfl ka.at,_,_,_,_,_,_,_,_,_,_,_,_,_,_,rfl,hB,nil_imm,(fun _ h=>nomatch h),nil_imm,(fun _ h=>nomatch h),nil_imm,(fun _ h=>nomatch h),nil_imm,(fun _ h=>nomatch h),nil_imm,(fun _ h=>nomatch h),nil_imm,(fun _ h=>nomatch h),nil_imm,(fun _ h=>nomatch h)⟩
 intro k9
 rw [k9] at ho
 refine W_skip <| anz <| wq <| ?_
 obtain ⟨y43,p1e,ho⟩:=bs ho
 obtain ⟨y63,p1f,ho⟩:=bs ho
 refine W_any (m:=9) (U:=.replicate 9 []) (S:=[sV (.agg #[.int .i64 (x0.Objects),z2,z1,z8,z7]),sV (v28),sV (.agg #[.int .i64 (x0.Objects),z2,z1,z8,z7]),sV (v28),⟨true,pl (fun f w v=>∃ (v45:Value) (pt:List Nat) (v48:Value) (pu:List Nat) (v51:Value) (pv:List Nat) (v54:Value) (pw:List Nat) (v57:Value) (px:List Nat) (v60:Value) (q6:List Nat),v = .agg #[.int .i64 (y43.Shape.Objects),v45,v48,v51,v54,v57,v60]∧f=(pt++(pu++(pv++(pw++(px++q6)))))∧(sOwn 2 (sInt .i64)).rep w.heap [v45] (y43.Shape.From) pt∧(sOwn 2 (sInt .i64)).rep w.heap [v48] (y43.Shape.To) pu∧(sOwn 2 (sInt .i64)).rep w.heap [v51] (y43.Shape.Identity) pv∧(sOwn 22 (sOwn 2 (sInt .i64))).rep w.heap [v54] (y43.Shape.Composites) pw∧(sOwn 2 (sInt .i64)).rep w.heap [v57] (y43.Sizes) px∧(sOwn 22 (sOwn 2 (sInt .i64))).rep w.heap [v60] (y43.Actions) q6∧List.Nodup ((pt++(pu++(pv++(pw++(px++q6)))))))⟩,⟨true,fun _ _ r u=>u=fldOf (r 18) 6⟩,sV (.agg #[.int .i64 (x0.Objects),z2,z1,z8,z7]),sV (v28),⟨true,pl (fun f w v=>∃ (v65:Value) (q9:List Nat),v=v65∧f=q9∧(sImm (sInt .i64)).rep w.heap [v65] (y63) q9∧True)⟩]) (Z:=[]) hmix rfl (by decide) (by decide +kernel) (fun _ _ _ h=>np_out h) (by decide) rfl (by decide +kernel) (stable_all <| stable_cons stable_val (stable_cons stable_val (stable_cons stable_val (stable_cons stable_val (stable_cons (stable_pl <| by rintro f F w w' v hC hn ⟨v45,pt,v48,pu,v51,pv,v54,pw,v57,px,v60,q6,e1_,e2_,ho47,ho50,ho53,ho56,ho59,ho62,hnd⟩; exact ⟨v45,pt,v48,pu,v51,pv,v54,pw,v57,px,v60,q6,e1_,e2_,STy.keep _ ho47 hC (fun b hb=>hn b (by rw [e2_]; simp [hb])),STy.keep _ ho50 hC (fun b hb=>hn b (by rw [e2_]; simp [hb])),STy.keep _ ho53 hC (fun b hb=>hn b (by rw [e2_]; simp [hb])),STy.keep _ ho56 hC (fun b hb=>hn b (by rw [e2_]; simp [hb])),STy.keep _ ho59 hC (fun b hb=>hn b (by rw [e2_]; simp [hb])),STy.keep _ ho62 hC (fun b hb=>hn b (by rw [e2_]; simp [hb])),hnd⟩) (stable_cons (stable_frame (X:=fun r=>fldOf (r 18) 6) fun r r' h=>congrArg (fun u=>fldOf (u) 6) (h 4 (by decide +kernel) 18 rfl)) (stable_cons stable_val (stable_cons stable_val (stable_cons (stable_pl <| by rintro f F w w' v hC hn ⟨v65,q9,e1_,e2_,ho67,hnd⟩; exact ⟨v65,q9,e1_,e2_,STy.keep _ ho67 hC (fun b hb=>hn b (by rw [e2_]; simp [hb])),hnd⟩) ( stable_nil)))))))))) ?_ ?_
 refine owes_cons ?_ <| owes_cons ?_ <| owes_cons ?_ <| owes_cons ?_ <| owes_cons ?_ <| owes_cons ?_ <| owes_cons ?_ <| owes_cons ?_ <| owes_cons ?_ <| owes_nil
 exact Oh rfl rfl rfl [(1,.pointer (some (⟨b1,0,none⟩)))] p5 rfl rfl fun _=>Lg ag32 hr4.at rfl rfl
 exact Oh rfl rfl rfl [(4,v28)] p5 rfl rfl fun _=>Mv v28 rfl
 exact Oh rfl rfl rfl [(1,.pointer (some (⟨b1,0,none⟩)))] p5 rfl rfl fun _=>Lg ag32 hr4.at rfl rfl
 exact Oh rfl rfl rfl [(4,v28)] p5 rfl rfl fun _=>Mv v28 rfl
 refine Owes.mem rfl rfl rfl <| fun g r wr hCr H hot=>?_
 have hC:=p5.trans hCr
 obtain ⟨F,rfl⟩:=fr (r:=r) (l:=[(16,.agg #[.int .i64 (x0.Objects),z2,z1,z8,z7]),(17,v28)]) ⟨(H 2 (by decide +kernel) 16 rfl),(H 3 (by decide +kernel) 17 rfl),trivial⟩
 exact OpW.callV (op_callF Tryz.func110 rfl rfl) (spec_l25Make_calls (kp _ z6 hC) (kp _ za hC) (kp _ zc hC) (kp _ zb hC) (kp _ qi hC) p1e) fun e w' ⟨v45,pt,v48,pu,v51,pv,v54,pw,v57,px,v60,q6,he,hC',p6,p7,p8,p9,pa,q3,d0_1,d0_2,d0_3,d0_4,d0_5,d1_2,d1_3,d1_4,d1_5,d2_3,d2_4,d2_5,d3_4,d3_5,d4_5⟩=>⟨_,he,hC',(pt++(pu++(pv++(pw++(px++q6))))),(fun b hb=>(List.mem_append.1 hb).elim (fun hb=>⟨ofr p6 b hb,sl _ p6.1 b hb⟩) (fun hb=>(List.mem_append.1 hb).elim (fun hb=>⟨ofr p7 b hb,sl _ p7.1 b hb⟩) (fun hb=>(List.mem_append.1 hb).elim (fun hb=>⟨ofr p8 b hb,sl _ p8.1 b hb⟩) (fun hb=>(List.mem_append.1 hb).elim (fun hb=>⟨ofr p9 b hb,sl _ p9.1 b hb⟩) (fun hb=>(List.mem_append.1 hb).elim (fun hb=>⟨ofr pa b hb,sl _ pa.1 b hb⟩) (fun hb=>⟨ofr q3 b hb,sl _ q3.1 b hb⟩)))))),v45,pt,v48,pu,v51,pv,v54,pw,v57,px,v60,q6,rfl,rfl,p6.1,p7.1,p8.1,p9.1,pa.1,q3.1,(nodup_app p6.2.1 (nodup_app p7.2.1 (nodup_app p8.2.1 (nodup_app p9.2.1 (nodup_app pa.2.1 q3.2.1 d4_5) (dis_appR d3_4 d3_5)) (dis_appR d2_3 (dis_appR d2_4 d2_5))) (dis_appR d1_2 (dis_appR d1_3 (dis_appR d1_4 d1_5)))) (dis_appR d0_1 (dis_appR d0_2 (dis_appR d0_3 (dis_appR d0_4 d0_5)))))⟩
 refine Owes.valX rfl rfl rfl <| fun g r wr hCr H hot=>?_
 have hC:=p5.trans hCr
 obtain ⟨v45,pt,v48,pu,v51,pv,v54,pw,v57,px,v60,q6,hvo47,hgo47,p6,p7,p8,p9,pa,q3,hno47⟩:=H 4 (by decide +kernel) 18 rfl
 obtain ⟨F,rfl⟩:=fr (r:=r) (l:=[(18,.agg #[.int .i64 (y43.Shape.Objects),v45,v48,v51,v54,v57,v60])]) ⟨hvo47,trivial⟩
 exact op_field (off:=6) Tryz.underlying66 rfl u23z rfl rfl rfl rfl
 exact Oh rfl rfl rfl [(1,.pointer (some (⟨b1,0,none⟩)))] p5 rfl rfl fun _=>Lg ag32 hr4.at rfl rfl
 exact Oh rfl rfl rfl [(4,v28)] p5 rfl rfl fun _=>Mv v28 rfl
 refine Owes.mem rfl rfl rfl <| fun g r wr hCr H hot=>?_
 have hC:=p5.trans hCr
 obtain ⟨F,rfl⟩:=fr (r:=r) (l:=[(20,.agg #[.int .i64 (x0.Objects),z2,z1,z8,z7]),(21,v28)]) ⟨(H 6 (by decide +kernel) 20 rfl),(H 7 (by decide +kernel) 21 rfl),trivial⟩
 exact OpW.callV (op_callF Tryz.func206 rfl rfl) (spec_l25Tops_calls (kp _ z6 hC) (kp _ za hC) (kp _ zc hC) (kp _ zb hC) (kp _ qi hC) p1f) fun e w' ⟨v65,q9,he,hC',ql,gc⟩=>⟨_,he,hC',q9,(fun b hb=>⟨gc b hb,sl _ ql b hb⟩),v65,q9,rfl,rfl,ql,trivial⟩
 rintro g r qu ⟨kb,hdone,hot,hfresh,hdis⟩
 obtain ⟨v45,pt,v48,pu,v51,pv,v54,pw,v57,px,v60,q6,hvo47,hgo47,p6,p7,p8,p9,pa,q3,hno47⟩:=hdone 4 (by decide) (by decide) 18 rfl
 have hfo47:=hfresh 4 (by decide)
 obtain ⟨v65,q9,hvo67,hgo67,ql,hno67⟩:=hdone 8 (by decide) (by decide) 22 rfl
 have hfo67:=hfresh 8 (by decide)
 have hv70:r 19=v60:=((hdone 5 (by decide) (by decide) 19 rfl).trans (by rw [hvo47]; rfl))
 have hdd:=hdis
 obtain ⟨F,rfl⟩:=fw hdone hot [(2,.pointer (some (⟨j7,0,none⟩)))] [(14,.agg #[.int .i64 (x0.Objects),z2,z1,z8,z7]),(15,v28)] [0,1] rfl rfl rfl rfl (z:=[(18,.agg #[.int .i64 (y43.Shape.Objects),v45,v48,v51,v54,v57,v60]),(19,v60),(22,v65)]) ⟨hvo47,hv70,hvo67,trivial⟩
 have gd : ∀ b∈pt,qt.heap.size≤b:=fun b hb=>(hfo47 b (show b∈g 4 from (show ∀ b∈pt,b∈g 4 from (fun b hb=>(by rw [hgo47]; simp [hb]))) b hb)).1
 replace p6:OE [] w.heap.size qu (sOwn 2 (sInt .i64)) [v45] (y43.Shape.From) pt:=⟨p6,(List.nodup_append.1 hno47).1,fun b hb=>.inr (Nat.le_trans (hB.trans p5).size (gd b hb))⟩
 have d77:=dl gd (one_lt (Row.lt (kr ps p5)))
 have ge : ∀ b∈pu,qt.heap.size≤b:=fun b hb=>(hfo47 b (show b∈g 4 from (show ∀ b∈pu,b∈g 4 from (fun b hb=>(by rw [hgo47]; simp [hb]))) b hb)).1
 replace p7:OE [] w.heap.size qu (sOwn 2 (sInt .i64)) [v48] (y43.Shape.To) pu:=⟨p7,(List.nodup_append.1 (List.nodup_append.1 hno47).2.1).1,fun b hb=>.inr (Nat.le_trans (hB.trans p5).size (ge b hb))⟩
 have d85:=dl ge (one_lt (Row.lt (kr ps p5)))
 have jf : ∀ b∈pv,qt.heap.size≤b:=fun b hb=>(hfo47 b (show b∈g 4 from (show ∀ b∈pv,b∈g 4 from (fun b hb=>(by rw [hgo47]; simp [hb]))) b hb)).1
 replace p8:OE [] w.heap.size qu (sOwn 2 (sInt .i64)) [v51] (y43.Shape.Identity) pv:=⟨p8,(List.nodup_append.1 (List.nodup_append.1 (List.nodup_append.1 hno47).2.1).2.1).1,fun b hb=>.inr (Nat.le_trans (hB.trans p5).size (jf b hb))⟩
 have d93:=dl jf (one_lt (Row.lt (kr ps p5)))
 have gf : ∀ b∈pw,qt.heap.size≤b:=fun b hb=>(hfo47 b (show b∈g 4 from (show ∀ b∈pw,b∈g 4 from (fun b hb=>(by rw [hgo47]; simp [hb]))) b hb)).1
 replace p9:OE [] w.heap.size qu (sOwn 22 (sOwn 2 (sInt .i64))) [v54] (y43.Shape.Composites) pw:=⟨p9,(List.nodup_append.1 (List.nodup_append.1 (List.nodup_append.1 (List.nodup_append.1 hno47).2.1).2.1).2.1).1,fun b hb=>.inr (Nat.le_trans (hB.trans p5).size (gf b hb))⟩
 have jg:=dl gf (one_lt (Row.lt (kr ps p5)))
 have gg : ∀ b∈px,qt.heap.size≤b:=fun b hb=>(hfo47 b (show b∈g 4 from (show ∀ b∈px,b∈g 4 from (fun b hb=>(by rw [hgo47]; simp [hb]))) b hb)).1
 replace pa:OE [] w.heap.size qu (sOwn 2 (sInt .i64)) [v57] (y43.Sizes) px:=⟨pa,(List.nodup_append.1 (List.nodup_append.1 (List.nodup_append.1 (List.nodup_append.1 (List.nodup_append.1 hno47).2.1).2.1).2.1).2.1).1,fun b hb=>.inr (Nat.le_trans (hB.trans p5).size (gg b hb))⟩
 have p1j:=dl gg (one_lt (Row.lt (kr ps p5)))
 have gh : ∀ b∈q6,qt.heap.size≤b:=fun b hb=>(hfo47 b (show b∈g 4 from (show ∀ b∈q6,b∈g 4 from (fun b hb=>(by rw [hgo47]; simp [hb]))) b hb)).1
 replace q3:OE [] w.heap.size qu (sOwn 22 (sOwn 2 (sInt .i64))) [v60] (y43.Actions) q6:=⟨q3,(List.nodup_append.1 (List.nodup_append.1 (List.nodup_append.1 (List.nodup_append.1 (List.nodup_append.1 hno47).2.1).2.1).2.1).2.1).2.1,fun b hb=>.inr (Nat.le_trans (hB.trans p5).size (gh b hb))⟩
 have kc:=dl gh (one_lt (Row.lt (kr ps p5)))
 have gi : ∀ b∈q9,qt.heap.size≤b:=fun b hb=>(hfo67 b (show b∈g 8 from (show ∀ b∈q9,b∈g 8 from (fun b hb=>(by rw [hgo67]; simp [hb]))) b hb)).1
 have p1k : ∀ b∈q9,b∈(zd++(ze++(zf++zg))) ∨ w.heap.size≤b:=fun b hb=>.inr (Nat.le_trans (hB.trans p5).size (gi b hb))
 have kd:=dl gi (one_lt (Row.lt (kr ps p5)))
 have qm:=(p5.trans kb)
 replace z6:=kp _ z6 qm
 replace za:=kp _ za qm
 replace zc:=kp _ zc qm
 replace zb:=kp _ zb qm
 replace hr4:=kr hr4 qm
 replace ps:=kr ps qm
 replace qi:=kp _ qi qm
 replace hB:=(hB.trans qm)
 refine Wb (Bu (bld96_0_1_2_3 rfl (STy.one _ z6 _ (ms rfl)) (STy.one _ za _ (ms rfl)) (STy.one _ zc _ (ms rfl)) (STy.one _ zb _ (ms rfl)) (STy.one _ qi _ (ms rfl)) (STy.one _ q3.1 _ (ms rfl)) (STy.one _ ql _ (ms rfl)))) <| WL.storeAll (us:=[.int .i64 (x0.Objects),z2,z1,z8,z7,v28,v60,v65]) info96 (by rw [sz96]; rfl) ps rfl rfl rfl (by intro u hu; simp only [List.mem_cons,List.mem_nil_iff,or_false] at hu; rcases hu with rfl | rfl | rfl | rfl | rfl | rfl | rfl | rfl <;> first | exact rfl | exact (STy.one _ z6 _ (ms rfl)) | exact (STy.one _ za _ (ms rfl)) | exact (STy.one _ zc _ (ms rfl)) | exact (STy.one _ zb _ (ms rfl)) | exact (STy.one _ qi _ (ms rfl)) | exact (STy.one _ q3.1 _ (ms rfl)) | exact (STy.one _ ql _ (ms rfl))) fun gj p4 ke=>?_
 replace ke:Row gj j7 [.int .i64 (x0.Objects),z2,z1,z8,z7,v28,v60,v65] 96:=ke
 replace z6:=STy.keep _ z6 p4 (ja).symm
 replace za:=STy.keep _ za p4 (qc).symm
 replace zc:=STy.keep _ zc p4 (pi).symm
 replace zb:=STy.keep _ zb p4 (qd).symm
 replace qi:=STy.keep _ qi p4 d33
 replace ql:=STy.keep _ ql p4 kd
 replace hr4:=Row.keep hr4 p4 ((qe).symm _ (ms rfl))
 replace p6:=okp p6 p4 d77
 replace p7:=okp p7 p4 d85
 replace p8:=okp p8 p4 d93
 replace p9:=okp p9 p4 jg
 replace pa:=okp pa p4 p1j
 replace q3:=okp q3 p4 kc
 replace hB:=hB.then p4 (one_then ga)
 refine Wb (Ab rfl) <| anz <| ?_
 cases ho
 exact W_ret ⟨_,res_c1 Tryz.results135 Tryz.underlying96 rfl info96 (by rw [sz96]; rfl) rfl ke.at,_,_,_,_,_,_,_,_,_,_,_,_,_,_,rfl,hB,z6,(fun b hb=>.inl (by simp [hb])),za,(fun b hb=>.inl (by simp [hb])),zc,(fun b hb=>.inl (by simp [hb])),zb,(fun b hb=>.inl (by simp [hb])),qi,p1a,((Le.own (Le.own (Le.refl _) 2) 22).le q3.1),(low_wk q3.2.2),ql,p1k⟩

abbrev spec_l09Find_post (w:World) (x:(Int)) (e:Ending) (w':World):Prop:=e = .returned (.int .i64 x)∧Chg [] w w'
abbrev spec_l09Find_T (w:World):=Tm Tryz.prog Tryz.f111 19 (spec_l09Find_post w)
theorem spec_l09Find_calls {w:World} {x0:(List (List Int))} {v_x0:Value} {f_x0:List Nat} {x1:(List Int)} {v_x1:Value} {f_x1:List Nat} (h_x0:(sImm (sImm (sInt .i64))).rep w.heap [v_x0] x0 f_x0) (h_x1:(sImm (sInt .i64)).rep w.heap [v_x1] x1 f_x1) {y:(Int)} (hm:spec_l09Find x0 x1=some y) :
  Calls Tryz.prog 111 #[v_x0,v_x1] w (spec_l09Find_post w y):=by
 refine Cm (S:=Unit) Tryz.func111 rfl Tryz.ntmps111 rfl hm fun o ho hB=>?_
 clear hm
 refine wq <| Wq rfl (cr [] w) <| Qa (Ai rfl) <| fun wd1 hC2=>anz <| wq <| wq <| Wq rfl hC2 <| Qa (Ai rfl) <| fun wd3 hC4=>anz <| Wf (S1:=Int) (fun (s0_5:Int) r w'=>Chg [] w w'∧∃ F,r=updL F [(0,v_x0),(1,v_x1),(5,.int .i64 (s0_5))]) (spec_l09Find_T w) ho ⟨(hB.trans hC4),fe rfl⟩ ?_ ?_
 rintro s0_5 _ wd5 ⟨hB,F,rfl⟩ o ho
 replace ho:spec_l09Find_L0 x0 x1 s0_5=some o:=ho
 unfold spec_l09Find_L0 at ho
 refine wq <| wq <| Wq rfl (cr [] wd5) <| Qa (Mi rfl) <| Qa (Mv v_x0 rfl) <| Qa (Ln sl23 (kB h_x0 hB) rfl) <| Qa (Bl rfl rfl) <| fun wd6 hC7=>anz <| W_cond (b:=decide (s0_5 < (x0.length:Int))) rfl ?_ ?_
 intro hb8
 rw [hb8] at ho
 refine W_skip <| anz <| wq <| W_block <| wq <| Wq rfl hC7 <| Qa (Mv v_x0 rfl) <| Qa (Mi rfl) <| ?_
 obtain ⟨e9,hx10e,ho⟩:=bs ho
 have hx10:=idx_some hx10e
 refine Qa (Ix sl23 (kB h_x0 hB) hx10 rfl rfl rfl) <| ?_
 obtain ⟨u11,fu12,hu13,p1l,hs15⟩:=one_get rfl h_x0 hx10.1 hx10.2
 refine Qa (Ld na22 (hB.cell0 hu13) rfl) <| Qa (Mv v_x1 rfl) <| ?_
 obtain ⟨y16,p1m,ho⟩:=bs ho
 refine Qc Tryz.func88 rfl rfl (fun _ hC=>spec_l01Same_calls (kp _ p1l (hB.trans hC)) (kp _ h_x1 (hB.trans hC)) p1m) <| fun p1n jy=>anz <| W_cond (b:=y16) rfl ?_ ?_
 intro kf
 rw [kf] at ho
 refine wq <| Wq rfl jy <| Qa (Mi rfl) <| Qa (Ai rfl) <| fun jz p1o=>anz <| ?_
 cases ho
 exact W_ret ⟨_,res_1 Tryz.results111,rfl,(hB.trans p1o)⟩
 intro kf
 rw [kf] at ho
 refine W_skip <| inBlk_n <| anz <| Wq rfl jy <| Qa (Mi rfl) <| Qa (Ba rfl rfl) <| Qa (Ai rfl) <| fun p1p kg=>?_
 cases ho
 exact ⟨(hB.trans kg),fe rfl⟩
 intro hb8
 rw [hb8] at ho
 refine W_exit <| andThen_x <| ?_
 cases ho
 exact ⟨rfl,⟨(hB.trans hC7),fe rfl⟩⟩
 rintro s0_5 _ p1q ⟨hB,F,rfl⟩ ho
 refine anz <| wq <| Wq rfl (cr [] p1q) <| Qa (Ai rfl) <| fun je qh=>anz <| ?_
 cases ho
 exact W_ret ⟨_,res_1 Tryz.results111,rfl,(hB.trans qh)⟩

abbrev spec_l27Marks_post (w:World) (x:((List (List Bool)))) (e:Ending) (w':World):Prop:=∃ (v0:Value) (f0:List Nat),e = .returned (v0)∧Chg [] w w'∧OE [] w.heap.size w' (sOwn 138 (sOwn 4 sBool)) [v0] x f0
abbrev spec_l27Marks_T (w:World):=Tm Tryz.prog Tryz.f136 53 (spec_l27Marks_post w)
theorem spec_l27Marks_calls {w:World} {x0:ML27Table} {zu:Value} {z19:List Nat} {zo:Value} {z1a:List Nat} {z10:Value} {z1b:List Nat} {z11:Value} {z1c:List Nat} {z13:Value} {z23:List Nat} {z14:Value} {z26:List Nat} {z15:Value} {z27:List Nat} {x1:(List (List (List Int)))} {v_x1:Value} {f_x1:List Nat} (z16:(sImm (sInt .i64)).rep w.heap [zu] x0.C.From z19) (z12:(sImm (sInt .i64)).rep w.heap [zo] x0.C.To z1a) (z17:(sImm (sInt .i64)).rep w.heap [z10] x0.C.Identity z1b) (z18:(sImm (sImm (sInt .i64))).rep w.heap [z11] x0.C.Composites z1c) (z1r:(sImm (sImm (sImm (sInt .i64)))).rep w.heap [z13] x0.Lists z23) (z1s:(sImm (sImm (sInt .i64))).rep w.heap [z14] x0.Pulls z26) (z21:(sImm (sInt .i64)).rep w.heap [z15] x0.Tops z27) (h_x1:(sImm (sImm (sImm (sInt .i64)))).rep w.heap [v_x1] x1 f_x1) {y:((List (List Bool)))} (hm:spec_l27Marks x0 x1=some y) :
  Calls Tryz.prog 136 #[.agg #[.int .i64 (x0.C.Objects),zu,zo,z10,z11,z13,z14,z15],v_x1] w (spec_l27Marks_post w y):=by
 refine Cm (S:=Unit) Tryz.func136 rfl Tryz.ntmps136 rfl hm fun o ho hB=>?_
 clear hm
 refine wq <| W_region rfl <| WL.box fun b1 wd2 hC3 hr4 hl5=>?_
 replace hr4:Row wd2 b1 [.int .i64 (x0.C.Objects),zu,zo,z10,z11,z13,z14,z15] 96:=hr4
 replace hB:=(hB.trans hC3)
 refine Wb (As rfl) <| anz <| wq <| W_region rfl <| WL.lit0 (sOwn 4 sBool) u97 info138 fun v8 wd9 f10 qn qj=>?_
 have kh:=dl (ofr qj) (one_lt (Row.lt hr4))
 replace qj:=OE.low (G:=[]) qj hB.size
 replace hr4:=kr hr4 qn
 replace hB:=(hB.trans qn)
 refine Wb (Av v8 rfl) <| anz <| wq <| wq <| Wq rfl (cr [] wd9) <| Qa (Ai rfl) <| fun k0 q7=>anz <| Wf (S1:=(List (List Bool))×Int) (fun s r w'=>match s with | (s0_5,s0_6)=>∃ (v17:Value) (q8:List Nat),Chg [] w w'∧Row w' b1 [.int .i64 (x0.C.Objects),zu,zo,z10,z11,z13,z14,z15] 96∧OE [] w.heap.size w' (sOwn 138 (sOwn 4 sBool)) [v17] (s0_5) q8∧Dis [b1] q8∧∃ F,r=updL F [(1,v_x1),(2,.pointer (some (⟨b1,0,none⟩))),(5,v17),(6,.int .i64 (s0_6))]) (spec_l27Marks_T w) ho ⟨_,_,(hB.trans q7),(kr hr4 q7),(ko qj q7),((kh).symm),fe rfl⟩ ?_ ?_
 rintro ⟨s0_5,s0_6⟩ _ jz ⟨v17,q8,hB,hr4,p1,pi,F,rfl⟩ o ho
 replace ho:spec_l27Marks_L0 x0 x1 s0_5 s0_6=some o:=ho
 unfold spec_l27Marks_L0 at ho
 refine wq <| wq <| Wq rfl (cr [] jz) <| Qa (Mi rfl) <| Qa (Fr fa96_1 rfl) <| Qa (Lr na26 hr4 rfl rfl) <| Qa (Ln sl26 (kB z1r hB) rfl) <| Qa (Bl rfl rfl) <| fun jh pd=>anz <| W_cond (b:=decide (s0_6 < (x0.Lists.length:Int))) rfl ?_ ?_
 intro qw
 rw [qw] at ho
 refine W_skip <| anz <| wq <| W_block <| wq <| W_region rfl <| Wb (Fr fa96_1 rfl) <| Wa pd (Lr na26 hr4 rfl rfl) <| Wb (Mi rfl) <| ?_
 obtain ⟨e25,hx26e,ho⟩:=bs ho
 have hx26:=idx_some hx26e
 refine Wa pd (Ix sl26 (kB z1r hB) hx26 rfl rfl rfl) <| ?_
 obtain ⟨u27,fu28,hu29,p1s,hs31⟩:=one_get rfl z1r hx26.1 hx26.2
 refine Wa pd (Ld na23 (hB.cell0 hu29) rfl) <| Wa pd (Ln sl23 (kB p1s hB) rfl) <| ?_
 obtain ⟨n32,hn33,ho⟩:=bs ho
 obtain ⟨hn33a,hn33b,hn33c⟩:=mk_some hn33
 refine WL.make (z0:=false) sBool u138 info4 zr4 sz4 rfl rfl (fun _=>⟨rfl,rfl⟩) (congrArg (Value.int .i64) hn33a) (congrArg (Value.int .i64) hn33a) (by rw [by4]; exact hn33b) hn33c fun v34 gk k1 p5 pk=>?_
 have d39:=dl (ofr pk) (one_lt (Row.lt (kr hr4 pd)))
 have d40:=dl (ofr pk) (sl _ (kp _ p1.1 pd))
 replace pk:=OE.low (G:=[]) pk (hB.trans pd).size
 have ki:=pd.trans p5
 replace hr4:=kr hr4 ki
 replace p1:=ko p1 ki
 replace hB:=(hB.trans ki)
 refine Wb (Av v34 rfl) <| anz <| wq <| wq <| Wq rfl (cr [] gk) <| Qa (Ai rfl) <| fun p5e qo=>anz <| Wf (S1:=Int×(List Bool)) (fun s r w'=>match s with | (s1_8,s1_o38)=>Chg [] w w'∧Row w' b1 [.int .i64 (x0.C.Objects),zu,zo,z10,z11,z13,z14,z15] 96∧OE [] w.heap.size w' (sOwn 138 (sOwn 4 sBool)) [v17] (s0_5) q8∧OE [] w.heap.size w' (sOwn 4 sBool) [v34] (s1_o38) k1∧Dis [b1] q8∧Dis [b1] k1∧Dis q8 k1∧∃ F,r=updL F [(1,v_x1),(2,.pointer (some (⟨b1,0,none⟩))),(5,v17),(6,.int .i64 (s0_6)),(7,v34),(8,.int .i64 (s1_8))]) (spec_l27Marks_T w) ho ⟨(hB.trans qo),(kr hr4 qo),(ko p1 qo),(ko pk qo),(pi),((d39).symm),((d40).symm),fe rfl⟩ ?_ ?_
 rintro ⟨s1_8,s1_o38⟩ _ gl ⟨hB,hr4,p1,pk,ji,jj,jk,F,rfl⟩ o ho
 replace ho:spec_l27Marks_L1 x0 x1 s0_6 s1_8 s1_o38=some o:=ho
 unfold spec_l27Marks_L1 at ho
 refine wq <| wq <| Wq rfl (cr [] gl) <| Qa (Mi rfl) <| Qa (Mv v_x1 rfl) <| Qa (Mi rfl) <| ?_
 obtain ⟨e48,hx49e,ho⟩:=bs ho
 have hx49:=idx_some hx49e
 refine Qa (Ix sl26 (kB h_x1 hB) hx49 rfl rfl rfl) <| ?_
 obtain ⟨u50,fu51,hu52,p1v,hs54⟩:=one_get rfl h_x1 hx49.1 hx49.2
 refine Qa (Ld na23 (hB.cell0 hu52) rfl) <| Qa (Ln sl23 (kB p1v hB) rfl) <| Qa (Bl rfl rfl) <| fun p1w pj=>anz <| W_cond (b:=decide (s1_8 < (e48.length:Int))) rfl ?_ ?_
 intro kj
 rw [kj] at ho
 refine W_skip <| anz <| wq <| W_block <| ?_
 obtain ⟨e58,hx59e,ho⟩:=bs ho
 have hx59:=idx_some hx59e
 obtain ⟨u60,fu61,hu62,p1x,hs64⟩:=one_get rfl z1r hx59.1 hx59.2
 obtain ⟨e65,hx66e,ho⟩:=bs ho
 have hx66:=idx_some hx66e
 obtain ⟨u67,fu68,hu69,gm,hs71⟩:=one_get rfl h_x1 hx66.1 hx66.2
 obtain ⟨e72,hx73e,ho⟩:=bs ho
 have hx73:=idx_some hx73e
 obtain ⟨u74,fu75,hu76,p1y,hs78⟩:=one_get rfl gm hx73.1 hx73.2
 refine W_any (m:=13) (U:=.replicate 13 []) (S:=[sV (v34),sV (.pointer (some (⟨b1,5,none⟩))),sV (z13),sV (.int .i64 (s0_6)),sV (.pointer (some (elA (z13) 1 (s0_6)))),sV (u60),sV (v_x1),sV (.int .i64 (s0_6)),sV (.pointer (some (elA (v_x1) 1 (s0_6)))),sV (u67),sV (.int .i64 (s1_8)),sV (.pointer (some (elA (u67) 1 (s1_8)))),sV (u74)]) (Z:=[0]) hmix rfl (by decide) (by decide +kernel) (fun _ _ _ h=>np_out h) (by decide) rfl (by decide +kernel) (stable_all (by repeat first | exact stable_nil | refine stable_cons stable_val ?_ | refine stable_cons stable_own ?_)) ?_ ?_
 refine owes_cons ?_ <| owes_cons ?_ <| owes_cons ?_ <| owes_cons ?_ <| owes_cons ?_ <| owes_cons ?_ <| owes_cons ?_ <| owes_cons ?_ <| owes_cons ?_ <| owes_cons ?_ <| owes_cons ?_ <| owes_cons ?_ <| owes_cons ?_ <| owes_nil
 exact Oh rfl rfl rfl [(7,v34)] pj rfl rfl fun _=>Mv v34 rfl
 exact Oh rfl rfl rfl [(2,.pointer (some (⟨b1,0,none⟩)))] pj rfl rfl fun _=>Fr fa96_1 rfl
 exact Ov rfl rfl rfl [] [(34,.pointer (some (⟨b1,5,none⟩)))] [1] pj rfl rfl (by decide +kernel) rfl fun _=>Lr na26 hr4 rfl rfl
 exact Oh rfl rfl rfl [(6,.int .i64 (s0_6))] pj rfl rfl fun _=>Mi rfl
 exact Ov rfl rfl rfl [] [(35,z13),(36,.int .i64 (s0_6))] [2,3] pj rfl rfl (by decide +kernel) rfl fun _=>Ix sl26 (kB z1r hB) hx59 rfl rfl rfl
 exact Ov rfl rfl rfl [] [(37,.pointer (some (elA (z13) 1 (s0_6))))] [4] pj rfl rfl (by decide +kernel) rfl fun _=>Ld na23 (hB.cell0 hu62) rfl
 exact Oh rfl rfl rfl [(1,v_x1)] pj rfl rfl fun _=>Mv v_x1 rfl
 exact Oh rfl rfl rfl [(6,.int .i64 (s0_6))] pj rfl rfl fun _=>Mi rfl
 exact Ov rfl rfl rfl [] [(39,v_x1),(40,.int .i64 (s0_6))] [6,7] pj rfl rfl (by decide +kernel) rfl fun _=>Ix sl26 (kB h_x1 hB) hx66 rfl rfl rfl
 exact Ov rfl rfl rfl [] [(41,.pointer (some (elA (v_x1) 1 (s0_6))))] [8] pj rfl rfl (by decide +kernel) rfl fun _=>Ld na23 (hB.cell0 hu69) rfl
 exact Oh rfl rfl rfl [(8,.int .i64 (s1_8))] pj rfl rfl fun _=>Mi rfl
 exact Ov rfl rfl rfl [] [(42,u67),(43,.int .i64 (s1_8))] [9,10] pj rfl rfl (by decide +kernel) rfl fun _=>Ix sl23 (kB gm hB) hx73 rfl rfl rfl
 exact Ov rfl rfl rfl [] [(44,.pointer (some (elA (u67) 1 (s1_8))))] [11] pj rfl rfl (by decide +kernel) rfl fun _=>Ld na22 (hB.cell0 hu76) rfl
 rintro g r p5f ⟨p1z,hdone,hot,hfresh,hdis⟩
 have hdd:=hdis
 obtain ⟨F,rfl⟩:=fw hdone hot [(1,v_x1),(2,.pointer (some (⟨b1,0,none⟩))),(5,v17),(6,.int .i64 (s0_6)),(7,v34),(8,.int .i64 (s1_8))] [(33,v34),(38,u60),(45,u74)] [0,5,12] rfl rfl rfl rfl (z:=[]) trivial
 have k2:=(pj.trans p1z)
 replace hr4:=kr hr4 k2
 replace p1:=ko p1 k2
 replace pk:=ko pk k2
 replace hB:=(hB.trans k2)
 obtain ⟨y82,p20,ho⟩:=bs ho
 refine WL.call rfl (op_callF Tryz.func111 rfl rfl) (spec_l09Find_calls (kp _ p1x hB) (kp _ p1y hB) p20) <| ?_
 rintro _ p5g ⟨rfl,kk⟩
 refine ⟨_,rfl,?_⟩
 obtain ⟨e86,hx87e,ho⟩:=bs ho
 have hx87:=idx_some hx87e
 refine Wa kk (Ix sl138 ((Le.own (Le.refl _) 4).le pk.1) hx87 rfl rfl rfl) <| WL.storeEl (z':=true) _ _ sBool_nofp rfl info4 sz4 (ko pk (kk)) hx87.2 rfl rfl ⟨rfl,rfl⟩ fun p21 p22 o90=>?_
 have kl:=((kk).nil (G:=k1)).trans p22
 replace hr4:=Row.keep hr4 kl (jj _ (ms rfl))
 replace p1:=okp p1 kl jk
 replace hB:=hB.then kl pk.2.2
 refine inBlk_n <| anz <| Wq rfl (cr [] p21) <| Qa (Mi rfl) <| Qa (Ba rfl rfl) <| Qa (Ai rfl) <| fun gn qa=>?_
 cases ho
 exact ⟨(hB.trans qa),(kr hr4 qa),(ko p1 qa),(ko o90 qa),ji,jj,jk,fe rfl⟩
 intro kj
 rw [kj] at ho
 refine W_exit <| andThen_x <| ?_
 cases ho
 exact ⟨rfl,⟨(hB.trans pj),(kr hr4 pj),(ko p1 pj),(ko pk pj),ji,jj,jk,fe rfl⟩⟩
 rintro ⟨s1_8,s1_o38⟩ _ p24 ⟨hB,hr4,p1,pk,ji,jj,jk,F,rfl⟩ ho
 dsimp only at ho
 refine anz <| W_region rfl <| Wb (Mv v17 rfl) <| Wb (Mv v34 rfl) <| WL.lit1 u97 info138 zr138 sz138 (STy.one _ pk.1 _ (ms rfl)) fun b95 p26 k3 jl p27=>?_
 replace jl:Row p26 b95 [v34] 138:=jl
 have km:=dl (onw p27) (sl _ p1.1)
 replace hr4:=kr hr4 k3
 replace p1:=ko p1 k3
 replace pk:=ko pk k3
 replace hB:=(hB.trans k3)
 obtain ⟨n111,hn112,ho⟩:=bs ho
 have hn112a:=fits_some hn112
 refine WL.append1 (E:=(sOwn 4 sBool)) _ _ u97 info138 zr138 sz138 rfl rfl rfl p1 rfl jl pk.1 pk.2.1 pk.2.2 (jk).symm (by rw [by138]; exact hn112a.1) hn112a.2 hB.size fun v105 p28 p5h kn p29 hs110=>?_
 have p2a:=dis_upd hs110 (ji).symm (jj).symm (one_lt (Row.lt hr4))
 replace hr4:=Row.keep hr4 kn (ji _ (ms rfl))
 replace jl:=Row.keep jl kn (km _ (ms rfl))
 replace hB:=hB.then kn p1.2.2
 refine Wb (Av v105 rfl) <| inBlk_n <| anz <| Wq rfl (cr [] p28) <| Qa (Mi rfl) <| Qa (Ba rfl rfl) <| Qa (Ai rfl) <| fun go kq=>?_
 cases ho
 exact ⟨_,_,(hB.trans kq),(kr hr4 kq),(ko p29 kq),((p2a).symm),fe rfl⟩
 intro qw
 rw [qw] at ho
 refine W_exit <| andThen_x <| ?_
 cases ho
 exact ⟨rfl,⟨_,_,(hB.trans pd),(kr hr4 pd),(ko p1 pd),pi,fe rfl⟩⟩
 rintro ⟨s0_5,s0_6⟩ _ p2b ⟨v17,q8,hB,hr4,p1,pi,F,rfl⟩ ho
 dsimp only at ho
 refine anz <| wq <| Wq rfl (cr [] p2b) <| Qa (Mv v17 rfl) <| Qa (Av v17 rfl) <| fun gp gq=>anz <| ?_
 cases ho
 exact W_ret ⟨_,res_1 Tryz.results136,_,_,rfl,(hB.trans gq),(ko p1 gq)⟩

abbrev spec_l27Read_post (zv:List Nat) (zw:List Nat) (zx:List Nat) (zy:List Nat) (zj:List Nat) (w:World) (x:(ML27Table×(List (List Bool))×Int)) (e:Ending) (w':World):Prop:=∃ (v0:Value) (f0:List Nat) (v1:Value) (f1:List Nat) (v2:Value) (f2:List Nat) (v3:Value) (f3:List Nat) (v4:Value) (f4:List Nat) (v5:Value) (f5:List Nat) (v6:Value) (f6:List Nat) (v7:Value) (f7:List Nat),e = .returned (.tuple #[.agg #[.int .i64 x.1.C.Objects,v0,v1,v2,v3,v4,v5,v6],v7,.int .i64 x.2.2])∧Chg [] w w'∧(sImm (sInt .i64)).rep w'.heap [v0] x.1.C.From f0∧(∀ b∈f0,b∈(zv++(zw++(zx++(zy++zj)))) ∨ w.heap.size≤b)∧(sImm (sInt .i64)).rep w'.heap [v1] x.1.C.To f1∧(∀ b∈f1,b∈(zv++(zw++(zx++(zy++zj)))) ∨ w.heap.size≤b)∧(sImm (sInt .i64)).rep w'.heap [v2] x.1.C.Identity f2∧(∀ b∈f2,b∈(zv++(zw++(zx++(zy++zj)))) ∨ w.heap.size≤b)∧(sImm (sImm (sInt .i64))).rep w'.heap [v3] x.1.C.Composites f3∧(∀ b∈f3,b∈(zv++(zw++(zx++(zy++zj)))) ∨ w.heap.size≤b)∧(sImm (sImm (sImm (sInt .i64)))).rep w'.heap [v4] x.1.Lists f4∧(∀ b∈f4,b∈(zv++(zw++(zx++(zy++zj)))) ∨ w.heap.size≤b)∧(sImm (sImm (sInt .i64))).rep w'.heap [v5] x.1.Pulls f5∧(∀ b∈f5,b∈(zv++(zw++(zx++(zy++zj)))) ∨ w.heap.size≤b)∧(sImm (sInt .i64)).rep w'.heap [v6] x.1.Tops f6∧(∀ b∈f6,b∈(zv++(zw++(zx++(zy++zj)))) ∨ w.heap.size≤b)∧OE [] w.heap.size w' (sOwn 138 (sOwn 4 sBool)) [v7] x.2.1 f7∧Dis f0 f7∧Dis f1 f7∧Dis f2 f7∧Dis f3 f7∧Dis f4 f7∧Dis f5 f7∧Dis f6 f7
abbrev spec_l27Read_T (zv:List Nat) (zw:List Nat) (zx:List Nat) (zy:List Nat) (zj:List Nat) (w:World):=Tm Tryz.prog Tryz.f70 25 (spec_l27Read_post zv zw zx zy zj w)
theorem spec_l27Read_calls {w:World} {x0:MTopology} {zk:Value} {zv:List Nat} {zl:Value} {zw:List Nat} {zm:Value} {zx:List Nat} {zn:Value} {zy:List Nat} {zi:Value} {zj:List Nat} (zp:(sImm (sInt .i64)).rep w.heap [zk] x0.Shape.From zv) (zq:(sImm (sInt .i64)).rep w.heap [zl] x0.Shape.To zw) (zr:(sImm (sInt .i64)).rep w.heap [zm] x0.Shape.Identity zx) (zt:(sImm (sImm (sInt .i64))).rep w.heap [zn] x0.Shape.Composites zy) (zh:(sImm (sImm (sImm (sInt .i64)))).rep w.heap [zi] x0.Covers zj) {y:(ML27Table×(List (List Bool))×Int)} (hm:spec_l27Read x0=some y) :
  Calls Tryz.prog 70 #[.agg #[.int .i64 (x0.Shape.Objects),zk,zl,zm,zn,zi]] w (spec_l27Read_post zv zw zx zy zj w y):=by
 refine Cm (S:=Unit) Tryz.func70 rfl Tryz.ntmps70 rfl hm fun o ho hB=>?_
 clear hm
 refine wq <| W_region rfl <| WL.box fun b1 wd2 hC3 hr4 hl5=>?_
 replace hr4:Row wd2 b1 [.int .i64 (x0.Shape.Objects),zk,zl,zm,zn,zi] 34:=hr4
 replace zp:=kp _ zp hC3
 replace zq:=kp _ zq hC3
 replace zr:=kp _ zr hC3
 replace zt:=kp _ zt hC3
 replace zh:=kp _ zh hC3
 replace hB:=(hB.trans hC3)
 refine WL.alloc info96 zr96 fun q0 gr qx pf qy=>?_
 replace pf:Row gr q0 [.int .i64 ((0:Int)),.slice none 0 0,.slice none 0 0,.slice none 0 0,.slice none 0 0,.slice none 0 0,.slice none 0 0,.slice none 0 0] 96:=pf
 have ks:w.heap.size≤q0:=Nat.le_trans hB.size qy
 have qc:=dl (onw qy) (sl _ zp)
 have pi:=dl (onw qy) (sl _ zq)
 have qd:=dl (onw qy) (sl _ zr)
 have qe:=dl (onw qy) (sl _ zt)
 have d23:=dl (onw qy) (sl _ zh)
 have d24:=dl (onw qy) (one_lt (Row.lt hr4))
 replace zp:=kp _ zp qx
 replace zq:=kp _ zq qx
 replace zr:=kp _ zr qx
 replace zt:=kp _ zt qx
 replace zh:=kp _ zh qx
 replace hr4:=kr hr4 qx
 replace hB:=(hB.trans qx)
 refine Wb (As rfl) <| Wb (Ai rfl) <| anz <| wq <| wq <| Wq rfl (cr [] gr) <| Qa (Lg ag34 hr4.at rfl rfl) <| ?_
 obtain ⟨y26,p2e,ho⟩:=bs ho
 refine Qc Tryz.func75 rfl rfl (fun _ hC=>spec_l27Shape_calls (kp _ zp hC) (kp _ zq hC) (kp _ zr hC) (kp _ zt hC) (kp _ zh hC) p2e) <| Qa (Nt rfl) <| fun p5i pg=>anz <| W_cond (b:=!(y26)) rfl ?_ ?_
 intro kt
 rw [kt] at ho
 refine wq <| W_region rfl <| Wb (Bu bld96_) <| WL.storeAll (us:=[.int .i64 ((0:Int)),.slice none 0 0,.slice none 0 0,.slice none 0 0,.slice none 0 0,.slice none 0 0,.slice none 0 0,.slice none 0 0]) info96 (by rw [sz96]; rfl) (kr pf pg) rfl rfl rfl (by intro u hu; simp only [List.mem_cons,List.mem_nil_iff,or_false] at hu; rcases hu with rfl | rfl | rfl | rfl | rfl | rfl | rfl | rfl <;> first | exact rfl) fun p2f p2g ku=>?_
 replace ku:Row p2f q0 [.int .i64 ((0:Int)),.slice none 0 0,.slice none 0 0,.slice none 0 0,.slice none 0 0,.slice none 0 0,.slice none 0 0,.slice none 0 0] 96:=ku
 have p2h:=(pg.nil (G:=[q0])).trans p2g
 replace hB:=hB.then p2h (one_then ks)
 refine Wb (As rfl) <| Wb (Ai rfl) <| anz <| ?_
 cases ho
 exact W_ret ⟨_,res_c2 Tryz.results70 Tryz.underlying96 rfl info96 (by rw [sz96]; rfl) rfl ku.at,_,_,_,_,_,_,_,_,_,_,_,_,_,_,_,_,rfl,hB,nil_imm,(fun _ h=>nomatch h),nil_imm,(fun _ h=>nomatch h),nil_imm,(fun _ h=>nomatch h),nil_imm,(fun _ h=>nomatch h),nil_imm,(fun _ h=>nomatch h),nil_imm,(fun _ h=>nomatch h),nil_imm,(fun _ h=>nomatch h),nil_OE,(fun _ h=>nomatch h),(fun _ h=>nomatch h),(fun _ h=>nomatch h),(fun _ h=>nomatch h),(fun _ h=>nomatch h),(fun _ h=>nomatch h),(fun _ h=>nomatch h)⟩
 intro kt
 rw [kt] at ho
 refine W_skip <| anz <| wq <| W_region rfl <| Wb (Fr fa34_0 rfl) <| ?_
 refine WL.val (v:=.agg #[.int .i64 (x0.Shape.Objects),zk,zl,zm,zn]) rfl (op_loadAgg (cs:=[.int .i64 (x0.Shape.Objects),zk,zl,zm,zn]) u32 rfl info32 (by rw [sz32]; rfl) rfl (At.sub (kr hr4 pg).at 0 5)) ?_
 obtain ⟨y35,p2i,ho⟩:=bs ho
 refine WL.call rfl (op_callF Tryz.func135 rfl rfl) (spec_l27Make_calls (kp _ zp pg) (kp _ zq pg) (kp _ zr pg) (kp _ zt pg) p2i) <| ?_
 rintro _ gs ⟨v39,gt,v42,gu,v45,pt,v48,pu,v51,pv,v54,pw,v57,px,rfl,p2j,q4,gv,ph,gw,p6,gx,p7,gy,p8,gz,p9,p00,pa,jf⟩
 refine ⟨_,rfl,?_⟩
 have d89:Dis gt [q0]:=dis_out gv (da (qc).symm (da (pi).symm (da (qd).symm (qe).symm))) (one_lt (Row.lt (kr pf pg)))
 have p2l : ∀ b∈gt,b∈(zv++(zw++(zx++(zy++zj)))) ∨ w.heap.size≤b:=low_out gv (low_app (fun b hb=>.inl (by simp [hb])) (low_app (fun b hb=>.inl (by simp [hb])) (low_app (fun b hb=>.inl (by simp [hb])) (fun b hb=>.inl (by simp [hb]))))) (hB.trans pg).size
 have d92:Dis gu [q0]:=dis_out gw (da (qc).symm (da (pi).symm (da (qd).symm (qe).symm))) (one_lt (Row.lt (kr pf pg)))
 have kv : ∀ b∈gu,b∈(zv++(zw++(zx++(zy++zj)))) ∨ w.heap.size≤b:=low_out gw (low_app (fun b hb=>.inl (by simp [hb])) (low_app (fun b hb=>.inl (by simp [hb])) (low_app (fun b hb=>.inl (by simp [hb])) (fun b hb=>.inl (by simp [hb]))))) (hB.trans pg).size
 have kw:Dis pt [q0]:=dis_out gx (da (qc).symm (da (pi).symm (da (qd).symm (qe).symm))) (one_lt (Row.lt (kr pf pg)))
 have p2n : ∀ b∈pt,b∈(zv++(zw++(zx++(zy++zj)))) ∨ w.heap.size≤b:=low_out gx (low_app (fun b hb=>.inl (by simp [hb])) (low_app (fun b hb=>.inl (by simp [hb])) (low_app (fun b hb=>.inl (by simp [hb])) (fun b hb=>.inl (by simp [hb]))))) (hB.trans pg).size
 have kx:Dis pu [q0]:=dis_out gy (da (qc).symm (da (pi).symm (da (qd).symm (qe).symm))) (one_lt (Row.lt (kr pf pg)))
 have p2o : ∀ b∈pu,b∈(zv++(zw++(zx++(zy++zj)))) ∨ w.heap.size≤b:=low_out gy (low_app (fun b hb=>.inl (by simp [hb])) (low_app (fun b hb=>.inl (by simp [hb])) (low_app (fun b hb=>.inl (by simp [hb])) (fun b hb=>.inl (by simp [hb]))))) (hB.trans pg).size
 have jg:Dis pv [q0]:=dis_out gz (da (qc).symm (da (pi).symm (da (qd).symm (qe).symm))) (one_lt (Row.lt (kr pf pg)))
 have p2p : ∀ b∈pv,b∈(zv++(zw++(zx++(zy++zj)))) ∨ w.heap.size≤b:=low_out gz (low_app (fun b hb=>.inl (by simp [hb])) (low_app (fun b hb=>.inl (by simp [hb])) (low_app (fun b hb=>.inl (by simp [hb])) (fun b hb=>.inl (by simp [hb]))))) (hB.trans pg).size
 have p2q:Dis pw [q0]:=dis_out p00 (da (qc).symm (da (pi).symm (da (qd).symm (qe).symm))) (one_lt (Row.lt (kr pf pg)))
 have p2r : ∀ b∈pw,b∈(zv++(zw++(zx++(zy++zj)))) ∨ w.heap.size≤b:=low_out p00 (low_app (fun b hb=>.inl (by simp [hb])) (low_app (fun b hb=>.inl (by simp [hb])) (low_app (fun b hb=>.inl (by simp [hb])) (fun b hb=>.inl (by simp [hb]))))) (hB.trans pg).size
 have p2s:Dis px [q0]:=dis_out jf (da (qc).symm (da (pi).symm (da (qd).symm (qe).symm))) (one_lt (Row.lt (kr pf pg)))
 have p2t : ∀ b∈px,b∈(zv++(zw++(zx++(zy++zj)))) ∨ w.heap.size≤b:=low_out jf (low_app (fun b hb=>.inl (by simp [hb])) (low_app (fun b hb=>.inl (by simp [hb])) (low_app (fun b hb=>.inl (by simp [hb])) (fun b hb=>.inl (by simp [hb]))))) (hB.trans pg).size
 have qp:=pg.trans p2j
 replace zp:=kp _ zp qp
 replace zq:=kp _ zq qp
 replace zr:=kp _ zr qp
 replace zt:=kp _ zt qp
 replace zh:=kp _ zh qp
 replace hr4:=kr hr4 qp
 replace pf:=kr pf qp
 replace hB:=(hB.trans qp)
 refine Wb (Mt rfl) <| Wb (Ex (.agg #[.int .i64 (y35.1.C.Objects),v39,v42,v45,v48,v51,v54,v57]) rfl rfl) <| Wb (Exb rfl rfl) <| WL.alloc info96 zr96 fun jm p01 pq jb q1=>?_
 replace jb:Row p01 jm [.int .i64 ((0:Int)),.slice none 0 0,.slice none 0 0,.slice none 0 0,.slice none 0 0,.slice none 0 0,.slice none 0 0,.slice none 0 0] 96:=jb
 have p2u:w.heap.size≤jm:=Nat.le_trans hB.size q1
 have p2v:=dl (onw q1) (sl _ zp)
 have kc:=dl (onw q1) (sl _ zq)
 have p2w:=dl (onw q1) (sl _ zr)
 have p2x:=dl (onw q1) (sl _ zt)
 have p2y:=dl (onw q1) (sl _ zh)
 have p2z:=dl (onw q1) (one_lt (Row.lt hr4))
 have p02:=dl (onw q1) (one_lt (Row.lt pf))
 have p30:=dl (onw q1) (sl _ q4)
 have p31:=dl (onw q1) (sl _ ph)
 have p32:=dl (onw q1) (sl _ p6)
 have kd:=dl (onw q1) (sl _ p7)
 have p33:=dl (onw q1) (sl _ p8)
 have p34:=dl (onw q1) (sl _ p9)
 have p35:=dl (onw q1) (sl _ pa)
 replace zp:=kp _ zp pq
 replace zq:=kp _ zq pq
 replace zr:=kp _ zr pq
 replace zt:=kp _ zt pq
 replace zh:=kp _ zh pq
 replace q4:=kp _ q4 pq
 replace ph:=kp _ ph pq
 replace p6:=kp _ p6 pq
 replace p7:=kp _ p7 pq
 replace p8:=kp _ p8 pq
 replace p9:=kp _ p9 pq
 replace pa:=kp _ pa pq
 replace hr4:=kr hr4 pq
 replace pf:=kr pf pq
 replace hB:=(hB.trans pq)
 refine WL.storeAll (us:=[.int .i64 (y35.1.C.Objects),v39,v42,v45,v48,v51,v54,v57]) info96 (by rw [sz96]; rfl) jb rfl rfl rfl (by intro u hu; simp only [List.mem_cons,List.mem_nil_iff,or_false] at hu; rcases hu with rfl | rfl | rfl | rfl | rfl | rfl | rfl | rfl <;> first | exact rfl | exact (STy.one _ q4 _ (ms rfl)) | exact (STy.one _ ph _ (ms rfl)) | exact (STy.one _ p6 _ (ms rfl)) | exact (STy.one _ p7 _ (ms rfl)) | exact (STy.one _ p8 _ (ms rfl)) | exact (STy.one _ p9 _ (ms rfl)) | exact (STy.one _ pa _ (ms rfl))) fun p03 q2 qq=>?_
 replace qq:Row p03 jm [.int .i64 (y35.1.C.Objects),v39,v42,v45,v48,v51,v54,v57] 96:=qq
 replace zp:=STy.keep _ zp q2 (p2v).symm
 replace zq:=STy.keep _ zq q2 (kc).symm
 replace zr:=STy.keep _ zr q2 (p2w).symm
 replace zt:=STy.keep _ zt q2 (p2x).symm
 replace zh:=STy.keep _ zh q2 (p2y).symm
 replace q4:=STy.keep _ q4 q2 (p30).symm
 replace ph:=STy.keep _ ph q2 (p31).symm
 replace p6:=STy.keep _ p6 q2 (p32).symm
 replace p7:=STy.keep _ p7 q2 (kd).symm
 replace p8:=STy.keep _ p8 q2 (p33).symm
 replace p9:=STy.keep _ p9 q2 (p34).symm
 replace pa:=STy.keep _ pa q2 (p35).symm
 replace hr4:=Row.keep hr4 q2 ((p2z).symm _ (ms rfl))
 replace pf:=Row.keep pf q2 ((p02).symm _ (ms rfl))
 replace hB:=hB.then q2 (one_then p2u)
 refine Wb (Ab rfl) <| anz <| wq <| wq <| Wq rfl (cr [] p03) <| Qa (Mb rfl) <| Qa (Nt rfl) <| fun gj p4=>anz <| W_cond (b:=!(y35.2)) rfl ?_ ?_
 intro ky
 rw [ky] at ho
 refine wq <| W_region rfl <| Wb (Bu bld96_) <| WL.storeAll (us:=[.int .i64 ((0:Int)),.slice none 0 0,.slice none 0 0,.slice none 0 0,.slice none 0 0,.slice none 0 0,.slice none 0 0,.slice none 0 0]) info96 (by rw [sz96]; rfl) (kr pf p4) rfl rfl rfl (by intro u hu; simp only [List.mem_cons,List.mem_nil_iff,or_false] at hu; rcases hu with rfl | rfl | rfl | rfl | rfl | rfl | rfl | rfl <;> first | exact rfl) fun p36 p37 kz=>?_
 replace kz:Row p36 q0 [.int .i64 ((0:Int)),.slice none 0 0,.slice none 0 0,.slice none 0 0,.slice none 0 0,.slice none 0 0,.slice none 0 0,.slice none 0 0] 96:=kz
 have p38:=(p4.nil (G:=[q0])).trans p37
 replace hB:=hB.then p38 (one_then ks)
 refine Wb (As rfl) <| Wb (Ai rfl) <| anz <| ?_
 cases ho
 exact W_ret ⟨_,res_c2 Tryz.results70 Tryz.underlying96 rfl info96 (by rw [sz96]; rfl) rfl kz.at,_,_,_,_,_,_,_,_,_,_,_,_,_,_,_,_,rfl,hB,nil_imm,(fun _ h=>nomatch h),nil_imm,(fun _ h=>nomatch h),nil_imm,(fun _ h=>nomatch h),nil_imm,(fun _ h=>nomatch h),nil_imm,(fun _ h=>nomatch h),nil_imm,(fun _ h=>nomatch h),nil_imm,(fun _ h=>nomatch h),nil_OE,(fun _ h=>nomatch h),(fun _ h=>nomatch h),(fun _ h=>nomatch h),(fun _ h=>nomatch h),(fun _ h=>nomatch h),(fun _ h=>nomatch h),(fun _ h=>nomatch h)⟩
 intro ky
 rw [ky] at ho
 refine W_skip <| anz <| wq <| ?_
 obtain ⟨y142,p39,ho⟩:=bs ho
 refine W_any (m:=5) (U:=.replicate 5 []) (S:=[sV (.agg #[.int .i64 (y35.1.C.Objects),v39,v42,v45,v48,v51,v54,v57]),sV (.agg #[.int .i64 (y35.1.C.Objects),v39,v42,v45,v48,v51,v54,v57]),sV (.pointer (some (⟨b1,5,none⟩))),sV (zi),sO (sOwn 138 (sOwn 4 sBool)) (y142)]) (Z:=[]) hmix rfl (by decide) (by decide +kernel) (fun _ _ _ h=>np_out h) (by decide) rfl (by decide +kernel) (stable_all (by repeat first | exact stable_nil | refine stable_cons stable_val ?_ | refine stable_cons stable_own ?_)) ?_ ?_
 refine owes_cons ?_ <| owes_cons ?_ <| owes_cons ?_ <| owes_cons ?_ <| owes_cons ?_ <| owes_nil
 exact Oh rfl rfl rfl [(5,.pointer (some (⟨jm,0,none⟩)))] p4 rfl rfl fun _=>Lg ag96 qq.at rfl rfl
 exact Oh rfl rfl rfl [(5,.pointer (some (⟨jm,0,none⟩)))] p4 rfl rfl fun _=>Lg ag96 qq.at rfl rfl
 exact Oh rfl rfl rfl [(1,.pointer (some (⟨b1,0,none⟩)))] p4 rfl rfl fun _=>Fr fa34_1 rfl
 exact Ov rfl rfl rfl [] [(22,.pointer (some (⟨b1,5,none⟩)))] [2] p4 rfl rfl (by decide +kernel) rfl fun _=>Lr na26 hr4 rfl rfl
 refine Owes.mem rfl rfl rfl <| fun g r wr hCr H hot=>?_
 have hC:=p4.trans hCr
 obtain ⟨F,rfl⟩:=fr (r:=r) (l:=[(21,.agg #[.int .i64 (y35.1.C.Objects),v39,v42,v45,v48,v51,v54,v57]),(23,zi)]) ⟨(H 1 (by decide +kernel) 21 rfl),(H 3 (by decide +kernel) 23 rfl),trivial⟩
 exact OpW.own (op_callF Tryz.func136 rfl rfl) (spec_l27Marks_calls (kp _ q4 hC) (kp _ ph hC) (kp _ p6 hC) (kp _ p7 hC) (kp _ p8 hC) (kp _ p9 hC) (kp _ pa hC) (kp _ zh hC) p39)
 rintro g r p04 ⟨n0,hdone,hot,hfresh,hdis⟩
 have qr:OwnV (sOwn 138 (sOwn 4 sBool)) (y142) _ _ _:=hdone 4 (by decide) (by decide) 24 rfl
 generalize hvv144:r 24=v144 at qr
 have hfo146:=hfresh 4 (by decide)
 have hdd:=hdis
 obtain ⟨F,rfl⟩:=fw hdone hot [(2,.pointer (some (⟨q0,0,none⟩)))] [(20,.agg #[.int .i64 (y35.1.C.Objects),v39,v42,v45,v48,v51,v54,v57])] [0] rfl rfl rfl rfl (z:=[(24,v144)]) ⟨hvv144,trivial⟩
 obtain ⟨p3a,hgf145⟩ : ∃ k,k=g 4:=⟨_,rfl⟩
 rw [← hgf145] at qr hfo146
 replace qr:OE [] w.heap.size p04 (sOwn 138 (sOwn 4 sBool)) [v144] (y142) p3a:=⟨qr.1,qr.2,fun b hb=>.inr (Nat.le_trans (hB.trans p4).size (hfo146 b hb).1)⟩
 have p3b:=dl (fun b hb=>(hfo146 b hb).1) (one_lt (Row.lt (kr pf p4)))
 have n1:=dl (fun b hb=>(hfo146 b hb).1) (sl _ (kp _ q4 p4))
 have p3c:=dl (fun b hb=>(hfo146 b hb).1) (sl _ (kp _ ph p4))
 have p3d:=dl (fun b hb=>(hfo146 b hb).1) (sl _ (kp _ p6 p4))
 have p3e:=dl (fun b hb=>(hfo146 b hb).1) (sl _ (kp _ p7 p4))
 have p3f:=dl (fun b hb=>(hfo146 b hb).1) (sl _ (kp _ p8 p4))
 have p3g:=dl (fun b hb=>(hfo146 b hb).1) (sl _ (kp _ p9 p4))
 have p3h:=dl (fun b hb=>(hfo146 b hb).1) (sl _ (kp _ pa p4))
 have py:=(p4.trans n0)
 replace zp:=kp _ zp py
 replace zq:=kp _ zq py
 replace zr:=kp _ zr py
 replace zt:=kp _ zt py
 replace zh:=kp _ zh py
 replace hr4:=kr hr4 py
 replace pf:=kr pf py
 replace q4:=kp _ q4 py
 replace ph:=kp _ ph py
 replace p6:=kp _ p6 py
 replace p7:=kp _ p7 py
 replace p8:=kp _ p8 py
 replace p9:=kp _ p9 py
 replace pa:=kp _ pa py
 replace qq:=kr qq py
 replace hB:=(hB.trans py)
 refine WL.storeAll (us:=[.int .i64 (y35.1.C.Objects),v39,v42,v45,v48,v51,v54,v57]) info96 (by rw [sz96]; rfl) pf rfl rfl rfl (by intro u hu; simp only [List.mem_cons,List.mem_nil_iff,or_false] at hu; rcases hu with rfl | rfl | rfl | rfl | rfl | rfl | rfl | rfl <;> first | exact rfl | exact (STy.one _ q4 _ (ms rfl)) | exact (STy.one _ ph _ (ms rfl)) | exact (STy.one _ p6 _ (ms rfl)) | exact (STy.one _ p7 _ (ms rfl)) | exact (STy.one _ p8 _ (ms rfl)) | exact (STy.one _ p9 _ (ms rfl)) | exact (STy.one _ pa _ (ms rfl))) fun p05 pm n2=>?_
 replace n2:Row p05 q0 [.int .i64 (y35.1.C.Objects),v39,v42,v45,v48,v51,v54,v57] 96:=n2
 replace zp:=STy.keep _ zp pm (qc).symm
 replace zq:=STy.keep _ zq pm (pi).symm
 replace zr:=STy.keep _ zr pm (qd).symm
 replace zt:=STy.keep _ zt pm (qe).symm
 replace zh:=STy.keep _ zh pm (d23).symm
 replace q4:=STy.keep _ q4 pm d89
 replace ph:=STy.keep _ ph pm d92
 replace p6:=STy.keep _ p6 pm kw
 replace p7:=STy.keep _ p7 pm kx
 replace p8:=STy.keep _ p8 pm jg
 replace p9:=STy.keep _ p9 pm p2q
 replace pa:=STy.keep _ pa pm p2s
 replace hr4:=Row.keep hr4 pm ((d24).symm _ (ms rfl))
 replace qq:=Row.keep qq pm (p02 _ (ms rfl))
 replace qr:=okp qr pm p3b
 replace hB:=hB.then pm (one_then ks)
 refine Wb (Av v144 rfl) <| Wb (Ai rfl) <| anz <| ?_
 cases ho
 exact W_ret ⟨_,res_c2 Tryz.results70 Tryz.underlying96 rfl info96 (by rw [sz96]; rfl) rfl n2.at,_,_,_,_,_,_,_,_,_,_,_,_,_,_,_,_,rfl,hB,q4,p2l,ph,kv,p6,p2n,p7,p2o,p8,p2p,p9,p2r,pa,p2t,qr,(n1).symm,(p3c).symm,(p3d).symm,(p3e).symm,(p3f).symm,(p3g).symm,(p3h).symm⟩

abbrev spec_l27Local_post (w:World) (x:(Bool)) (e:Ending) (w':World):Prop:=e = .returned (.bool x)∧Chg [] w w'
abbrev spec_l27Local_T (w:World):=Tm Tryz.prog Tryz.f207 53 (spec_l27Local_post w)
theorem spec_l27Local_calls {w:World} {x0:ML27Table} {zu:Value} {z19:List Nat} {zo:Value} {z1a:List Nat} {z10:Value} {z1b:List Nat} {z11:Value} {z1c:List Nat} {z13:Value} {z23:List Nat} {z14:Value} {z26:List Nat} {z15:Value} {z27:List Nat} {x1:(List (List Bool))} {v_x1:Value} {f_x1:List Nat} {x2:Int} {x3:Int} {x4:Int} (z16:(sImm (sInt .i64)).rep w.heap [zu] x0.C.From z19) (z12:(sImm (sInt .i64)).rep w.heap [zo] x0.C.To z1a) (z17:(sImm (sInt .i64)).rep w.heap [z10] x0.C.Identity z1b) (z18:(sImm (sImm (sInt .i64))).rep w.heap [z11] x0.C.Composites z1c) (z1r:(sImm (sImm (sImm (sInt .i64)))).rep w.heap [z13] x0.Lists z23) (z1s:(sImm (sImm (sInt .i64))).rep w.heap [z14] x0.Pulls z26) (z21:(sImm (sInt .i64)).rep w.heap [z15] x0.Tops z27) (h_x1:(sImm (sImm sBool)).rep w.heap [v_x1] x1 f_x1) {y:(Bool)} (hm:spec_l27Local x0 x1 x2 x3 x4=some y) :
  Calls Tryz.prog 207 #[.agg #[.int .i64 (x0.C.Objects),zu,zo,z10,z11,z13,z14,z15],v_x1,.int .i64 (x2),.int .i64 (x3),.int .i64 (x4)] w (spec_l27Local_post w y):=by
 refine Cm (S:=Unit) Tryz.func207 rfl Tryz.ntmps207 rfl hm fun o ho hB=>?_
 clear hm
 refine wq <| W_region rfl <| WL.box fun b1 wd2 hC3 hr4 hl5=>?_
 replace hr4:Row wd2 b1 [.int .i64 (x0.C.Objects),zu,zo,z10,z11,z13,z14,z15] 96:=hr4
 replace hB:=(hB.trans hC3)
 refine Wb (Ab rfl) <| anz <| wq <| Wq rfl (cr [] wd2) <| Qa (Fr fa96_1 rfl) <| Qa (Lr na26 hr4 rfl rfl) <| Qa (Mi rfl) <| ?_
 obtain ⟨e8,hx9e,ho⟩:=bs ho
 have hx9:=idx_some hx9e
 refine Qa (Ix sl26 (kB z1r hB) hx9 rfl rfl rfl) <| ?_
 obtain ⟨u10,fu11,hu12,p06,hs14⟩:=one_get rfl z1r hx9.1 hx9.2
 refine Qa (Ld na23 (hB.cell0 hu12) rfl) <| Qa (Mi rfl) <| ?_
 obtain ⟨e15,hx16e,ho⟩:=bs ho
 have hx16:=idx_some hx16e
 refine Qa (Ix sl23 (kB p06 hB) hx16 rfl rfl rfl) <| ?_
 obtain ⟨u17,fu18,hu19,jn,hs21⟩:=one_get rfl p06 hx16.1 hx16.2
 refine Qa (Ld na22 (hB.cell0 hu19) rfl) <| Qa (Av u17 rfl) <| fun jh pd=>anz <| wq <| wq <| Wq rfl pd <| Qa (Ai rfl) <| fun p5j p07=>anz <| Wf (S1:=Int) (fun (s0_12:Int) r w'=>Chg [] w w'∧Row w' b1 [.int .i64 (x0.C.Objects),zu,zo,z10,z11,z13,z14,z15] 96∧∃ F,r=updL F [(1,v_x1),(4,.int .i64 (x4)),(5,.pointer (some (⟨b1,0,none⟩))),(11,u17),(12,.int .i64 (s0_12))]) (spec_l27Local_T w) ho ⟨(hB.trans p07),(kr hr4 p07),fe rfl⟩ ?_ ?_
 rintro s0_12 _ je ⟨hB,hr4,F,rfl⟩ o ho
 replace ho:spec_l27Local_L0 x0 x1 x4 e15 s0_12=some o:=ho
 unfold spec_l27Local_L0 at ho
 refine wq <| wq <| Wq rfl (cr [] je) <| Qa (Mi rfl) <| Qa (Mv u17 rfl) <| Qa (Ln sl22 (kB jn hB) rfl) <| Qa (Bl rfl rfl) <| fun p5k jo=>anz <| W_cond (b:=decide (s0_12 < (e15.length:Int))) rfl ?_ ?_
 intro pe
 rw [pe] at ho
 refine W_skip <| anz <| wq <| W_block <| wq <| Wqd rfl (by kernel_rfl) jo <| Qa (Mv v_x1 rfl) <| Qa (Fr fa96_0 rfl) <| Qa (Fr fa32_2 rfl) <| Qa (Lr na22 hr4 rfl rfl) <| Qa (Mv u17 rfl) <| Qa (Mi rfl) <| ?_
 obtain ⟨e30,hx31e,ho⟩:=bs ho
 have hx31:=idx_some hx31e
 refine Qa (Ix sl22 (kB jn hB) hx31 rfl rfl rfl) <| Qa (Ei na2 (kB jn hB) hx31 rfl) <| ?_
 obtain ⟨e32,hx33e,ho⟩:=bs ho
 have hx33:=idx_some hx33e
 refine Qa (Ix sl22 (kB z12 hB) hx33 rfl rfl rfl) <| Qa (Ei na2 (kB z12 hB) hx33 rfl) <| ?_
 obtain ⟨e34,hx35e,ho⟩:=bs ho
 have hx35:=idx_some hx35e
 refine Qa (Ix sl97 (kB h_x1 hB) hx35 rfl rfl rfl) <| ?_
 obtain ⟨u36,fu37,hu38,p08,hs40⟩:=one_get rfl h_x1 hx35.1 hx35.2
 refine Qa (Ld na138 (hB.cell0 hu38) rfl) <| Qa (Fr fa96_2 rfl) <| Qa (Lr na23 hr4 rfl rfl) <| Qa (Mv u17 rfl) <| Qa (Mi rfl) <| ?_
 obtain ⟨e41,hx42e,ho⟩:=bs ho
 have hx42:=idx_some hx42e
 refine Qa (Ix sl22 (kB jn hB) hx42 rfl rfl rfl) <| Qa (Ei na2 (kB jn hB) hx42 rfl) <| ?_
 obtain ⟨e43,hx44e,ho⟩:=bs ho
 have hx44:=idx_some hx44e
 refine Qa (Ix sl23 (kB z1s hB) hx44 rfl rfl rfl) <| ?_
 obtain ⟨u45,fu46,hu47,p09,hs49⟩:=one_get rfl z1s hx44.1 hx44.2
 refine Qa (Ld na22 (hB.cell0 hu47) rfl) <| Qa (Mi rfl) <| ?_
 obtain ⟨e50,hx51e,ho⟩:=bs ho
 have hx51:=idx_some hx51e
 refine Qa (Ix sl22 (kB p09 hB) hx51 rfl rfl rfl) <| Qa (Ei na2 (kB p09 hB) hx51 rfl) <| ?_
 obtain ⟨e52,hx53e,ho⟩:=bs ho
 have hx53:=idx_some hx53e
 refine Qa (Ix sl138 (kB p08 hB) hx53 rfl rfl rfl) <| Qa (Eb na4 (kB p08 hB) hx53 rfl) <| Qa (Nt rfl) <| fun p0a p0b=>anz <| W_cond (b:=!(e52)) rfl ?_ ?_
 intro n3
 rw [n3] at ho
 refine wq <| Wq rfl p0b <| Qa (Ab rfl) <| fun p0c p3i=>anz <| ?_
 cases ho
 exact W_ret ⟨_,res_1 Tryz.results207,rfl,(hB.trans p3i)⟩
 intro n3
 rw [n3] at ho
 refine W_skip <| inBlk_n <| anz <| Wq rfl p0b <| Qa (Mi rfl) <| Qa (Ba rfl rfl) <| Qa (Ai rfl) <| fun p5l p0d=>?_
 cases ho
 exact ⟨(hB.trans p0d),(kr hr4 p0d),fe rfl⟩
 intro pe
 rw [pe] at ho
 refine W_exit <| andThen_x <| ?_
 cases ho
 exact ⟨rfl,⟨(hB.trans jo),(kr hr4 jo),fe rfl⟩⟩
 rintro s0_12 _ p3j ⟨hB,hr4,F,rfl⟩ ho
 refine anz <| wq <| Wq rfl (cr [] p3j) <| Qa (Ab rfl) <| fun p0e p3k=>anz <| ?_
 cases ho
 exact W_ret ⟨_,res_1 Tryz.results207,rfl,(hB.trans p3k)⟩

abbrev spec_l27Step_post (v_x1:Value) (f_x1:List Nat) (w:World) (x:(Bool×(List (List Bool)))) (e:Ending) (w':World):Prop:=∃ (f0:List Nat),e = .returned (.bool x.1)∧Chg f_x1 w w'∧OE f_x1 w.heap.size w' (sOwn 138 (sOwn 4 sBool)) [v_x1] x.2 f0
abbrev spec_l27Step_T (v_x1:Value) (f_x1:List Nat) (w:World):=Tm Tryz.prog Tryz.f137 140 (spec_l27Step_post v_x1 f_x1 w)
theorem spec_l27Step_calls {w:World} {x0:ML27Table} {zu:Value} {z19:List Nat} {zo:Value} {z1a:List Nat} {z10:Value} {z1b:List Nat} {z11:Value} {z1c:List Nat} {z13:Value} {z23:List Nat} {z14:Value} {z26:List Nat} {z15:Value} {z27:List Nat} {x1:(List (List Bool))} {v_x1:Value} {f_x1:List Nat} (z16:(sImm (sInt .i64)).rep w.heap [zu] x0.C.From z19) (z12:(sImm (sInt .i64)).rep w.heap [zo] x0.C.To z1a) (z17:(sImm (sInt .i64)).rep w.heap [z10] x0.C.Identity z1b) (z18:(sImm (sImm (sInt .i64))).rep w.heap [z11] x0.C.Composites z1c) (z1r:(sImm (sImm (sImm (sInt .i64)))).rep w.heap [z13] x0.Lists z23) (z1s:(sImm (sImm (sInt .i64))).rep w.heap [z14] x0.Pulls z26) (z21:(sImm (sInt .i64)).rep w.heap [z15] x0.Tops z27) (o_x1:OE f_x1 w.heap.size w (sOwn 138 (sOwn 4 sBool)) [v_x1] x1 f_x1) (n_h_x0_C_From:Dis z19 f_x1) (n_h_x0_C_To:Dis z1a f_x1) (n_h_x0_C_Identity:Dis z1b f_x1) (n_h_x0_C_Composites:Dis z1c f_x1) (n_h_x0_Lists:Dis z23 f_x1) (n_h_x0_Pulls:Dis z26 f_x1) (n_h_x0_Tops:Dis z27 f_x1) {y:(Bool×(List (List Bool)))} (hm:spec_l27Step x0 x1=some y) :
  Calls Tryz.prog 137 #[.agg #[.int .i64 (x0.C.Objects),zu,zo,z10,z11,z13,z14,z15],v_x1] w (spec_l27Step_post v_x1 f_x1 w y):=by
 refine Cm (S:=Unit) Tryz.func137 rfl Tryz.ntmps137 rfl hm fun o ho hB=>?_
 clear hm
 have hB:Chg f_x1 w w:=cr _ _
 replace o_x1:OE f_x1 w.heap.size w (sOwn 138 (sOwn 4 sBool)) [v_x1] x1 f_x1:=OE.give o_x1 fun b hb=>by simp [hb]
 refine wq <| W_region rfl <| WL.box fun b8 wd9 p0f p2 p3l=>?_
 replace p2:Row wd9 b8 [.int .i64 (x0.C.Objects),zu,zo,z10,z11,z13,z14,z15] 96:=p2
 have d14:=dl (onw p3l) (sl _ o_x1.1)
 replace o_x1:=ko o_x1 p0f
 replace hB:=(hB.trans (Chg.nil p0f))
 refine Wb (Ab rfl) <| anz <| wq <| wq <| Wq rfl (cr [] wd9) <| Qa (Ai rfl) <| fun p5m n4=>anz <| Wf (S1:=Int) (fun (s0_5:Int) r w'=>Chg f_x1 w w'∧OE f_x1 w.heap.size w' (sOwn 138 (sOwn 4 sBool)) [v_x1] (x1) f_x1∧Row w' b8 [.int .i64 (x0.C.Objects),zu,zo,z10,z11,z13,z14,z15] 96∧Dis f_x1 [b8]∧∃ F,r=updL F [(1,v_x1),(2,.pointer (some (⟨b8,0,none⟩))),(5,.int .i64 (s0_5))]) (spec_l27Step_T v_x1 f_x1 w) ho ⟨(hB.trans (Chg.nil n4)),(ko o_x1 n4),(kr p2 n4),((d14).symm),fe rfl⟩ ?_ ?_
 rintro s0_5 _ p0g ⟨hB,o_x1,p2,ja,F,rfl⟩ o ho
 replace ho:spec_l27Step_L0 x0 x1 s0_5=some o:=ho
 unfold spec_l27Step_L0 at ho
 refine wq <| wq <| Wq rfl (cr [] p0g) <| Qa (Mi rfl) <| Qa (Mv v_x1 rfl) <| Qa (Ln sl97 ((Le.own (Le.own (Le.refl _) 4) 138).le o_x1.1) rfl) <| Qa (Bl rfl rfl) <| fun p3n jc=>anz <| W_cond (b:=decide (s0_5 < (x1.length:Int))) rfl ?_ ?_
 intro n5
 rw [n5] at ho
 refine W_skip <| anz <| wq <| W_block <| wq <| wq <| Wqd rfl (by kernel_rfl) jc <| Qa (Mv v_x1 rfl) <| Qa (Mi rfl) <| ?_
 obtain ⟨e23,hx24e,ho⟩:=bs ho
 have hx24:=idx_some hx24e
 refine Qa (Ix sl97 ((Le.own (Le.own (Le.refl _) 4) 138).le o_x1.1) hx24 rfl rfl rfl) <| ?_
 obtain ⟨u25,fu26,hu27,p0h,hs29⟩:=one_get rfl ((Le.own (Le.own (Le.refl _) 4) 138).le o_x1.1) hx24.1 hx24.2
 refine Qa (Ld na138 hu27 rfl) <| Qa (Fr fa96_3 rfl) <| Qa (Lr na22 p2 rfl rfl) <| Qa (Mi rfl) <| ?_
 obtain ⟨e30,hx31e,ho⟩:=bs ho
 have hx31:=idx_some hx31e
 refine Qa (Ix sl22 (STy.keep _ z21 hB n_h_x0_Tops) hx31 rfl rfl rfl) <| Qa (Ei na2 (STy.keep _ z21 hB n_h_x0_Tops) hx31 rfl) <| ?_
 obtain ⟨e32,hx33e,ho⟩:=bs ho
 have hx33:=idx_some hx33e
 refine Qa (Ix sl138 p0h hx33 rfl rfl rfl) <| Qa (Eb na4 p0h hx33 rfl) <| Qa (Nt rfl) <| fun p5n qb=>anz <| W_cond (b:=!(e32)) rfl ?_ ?_
 intro n6
 rw [n6] at ho
 refine wq <| ?_
 obtain ⟨e37,hx38e,ho⟩:=bs ho
 have hx38:=idx_some hx38e
 obtain ⟨u39,fu40,hu41,n7,hs43⟩:=one_get rfl ((Le.own (Le.own (Le.refl _) 4) 138).le o_x1.1) hx38.1 hx38.2
 obtain ⟨e44,hx45e,ho⟩:=bs ho
 have hx45:=idx_some hx45e
 refine W_any (m:=9) (U:=.replicate 9 []) (S:=[sV (v_x1),sV (.int .i64 (s0_5)),sV (.pointer (some (elA (v_x1) 1 (s0_5)))),sV (u39),sV (.pointer (some (⟨b8,7,none⟩))),sV (z15),sV (.int .i64 (s0_5)),sV (.pointer (some (elA (z15) 1 (s0_5)))),sV (.int .i64 (e44))]) (Z:=[]) hmix rfl (by decide) (by decide +kernel) (fun _ _ _ h=>np_out h) (by decide) rfl (by decide +kernel) (stable_all (by repeat first | exact stable_nil | refine stable_cons stable_val ?_ | refine stable_cons stable_own ?_)) ?_ ?_
 refine owes_cons ?_ <| owes_cons ?_ <| owes_cons ?_ <| owes_cons ?_ <| owes_cons ?_ <| owes_cons ?_ <| owes_cons ?_ <| owes_cons ?_ <| owes_cons ?_ <| owes_nil
 exact Oh rfl rfl rfl [(1,v_x1)] qb rfl rfl fun _=>Mv v_x1 rfl
 exact Oh rfl rfl rfl [(5,.int .i64 (s0_5))] qb rfl rfl fun _=>Mi rfl
 exact Ov rfl rfl rfl [] [(27,v_x1),(28,.int .i64 (s0_5))] [0,1] qb rfl rfl (by decide +kernel) rfl fun _=>Ix sl97 ((Le.own (Le.own (Le.refl _) 4) 138).le o_x1.1) hx38 rfl rfl rfl
 exact Ov rfl rfl rfl [] [(29,.pointer (some (elA (v_x1) 1 (s0_5))))] [2] qb rfl rfl (by decide +kernel) rfl fun _=>Ld na138 hu41 rfl
 exact Oh rfl rfl rfl [(2,.pointer (some (⟨b8,0,none⟩)))] qb rfl rfl fun _=>Fr fa96_3 rfl
 exact Ov rfl rfl rfl [] [(31,.pointer (some (⟨b8,7,none⟩)))] [4] qb rfl rfl (by decide +kernel) rfl fun _=>Lr na22 p2 rfl rfl
 exact Oh rfl rfl rfl [(5,.int .i64 (s0_5))] qb rfl rfl fun _=>Mi rfl
 exact Ov rfl rfl rfl [] [(32,z15),(33,.int .i64 (s0_5))] [5,6] qb rfl rfl (by decide +kernel) rfl fun _=>Ix sl22 (STy.keep _ z21 hB n_h_x0_Tops) hx45 rfl rfl rfl
 exact Ov rfl rfl rfl [] [(34,.pointer (some (elA (z15) 1 (s0_5))))] [7] qb rfl rfl (by decide +kernel) rfl fun _=>Ei na2 (STy.keep _ z21 hB n_h_x0_Tops) hx45 rfl
 rintro g r p5o ⟨p3o,hdone,hot,hfresh,hdis⟩
 have hdd:=hdis
 obtain ⟨F,rfl⟩:=fw hdone hot [] [(30,u39),(35,.int .i64 (e44))] [3,8] rfl rfl rfl rfl (z:=[]) trivial
 have jp:=(qb.trans p3o)
 replace o_x1:=ko o_x1 jp
 replace p2:=kr p2 jp
 replace hu41:=jp.cell0 hu41
 replace n7:=kp _ n7 jp
 replace hB:=(hB.trans (Chg.nil jp))
 obtain ⟨e49,hx50e,ho⟩:=bs ho
 have hx50:=idx_some hx50e
 refine Wb (Ix sl138 n7 hx50 rfl rfl rfl) <| ?_
 obtain ⟨k51,o52,hk53,hf54⟩:=own_focus rfl hB.size o_x1 hx38.2 hu41
 have d55:Dis k51 [b8]:=fun b hb=>ja b (hk53 b hb)
 refine WL.storeEl (z':=true) _ _ sBool_nofp rfl info4 sz4 o52 hx50.2 rfl rfl ⟨rfl,rfl⟩ fun p3r n8 o58=>?_
 obtain ⟨f59,o60,hs61⟩:=hf54 _ _ _ n8 o58
 replace p2:=Row.keep p2 n8 ((d55).symm _ (ms rfl))
 replace hB:=hB.then n8 (fun b hb=>o_x1.2.2 b (hk53 b hb))
 refine anz <| wq <| Wq rfl (cr [] p3r) <| Qa (Ab rfl) <| fun p5q p0i=>anz <| ?_
 cases ho
 exact W_ret ⟨_,res_1 Tryz.results137,_,rfl,(hB.trans (Chg.nil p0i)),(ko o60 p0i)⟩
 intro n6
 rw [n6] at ho
 refine W_skip <| anz <| wq <| Wq rfl qb <| Qa (Ai rfl) <| fun p5r n9=>anz <| Wf (S1:=Int) (fun (s1_6:Int) r w'=>Chg f_x1 w w'∧OE f_x1 w.heap.size w' (sOwn 138 (sOwn 4 sBool)) [v_x1] (x1) f_x1∧Row w' b8 [.int .i64 (x0.C.Objects),zu,zo,z10,z11,z13,z14,z15] 96∧Dis f_x1 [b8]∧∃ F,r=updL F [(1,v_x1),(2,.pointer (some (⟨b8,0,none⟩))),(5,.int .i64 (s0_5)),(6,.int .i64 (s1_6))]) (spec_l27Step_T v_x1 f_x1 w) ho ⟨(hB.trans (Chg.nil n9)),(ko o_x1 n9),(kr p2 n9),(ja),fe rfl⟩ ?_ ?_
 rintro s1_6 _ p3u ⟨hB,o_x1,p2,jq,F,rfl⟩ o ho
 replace ho:spec_l27Step_L1 x0 x1 s0_5 s1_6=some o:=ho
 unfold spec_l27Step_L1 at ho
 refine wq <| wq <| Wq rfl (cr [] p3u) <| Qa (Mi rfl) <| Qa (Mv v_x1 rfl) <| Qa (Mi rfl) <| ?_
 obtain ⟨e70,hx71e,ho⟩:=bs ho
 have hx71:=idx_some hx71e
 refine Qa (Ix sl97 ((Le.own (Le.own (Le.refl _) 4) 138).le o_x1.1) hx71 rfl rfl rfl) <| ?_
 obtain ⟨u72,fu73,hu74,p3v,hs76⟩:=one_get rfl ((Le.own (Le.own (Le.refl _) 4) 138).le o_x1.1) hx71.1 hx71.2
 refine Qa (Ld na138 hu74 rfl) <| Qa (Ln sl138 p3v rfl) <| Qa (Bl rfl rfl) <| fun p0j k4=>anz <| W_cond (b:=decide (s1_6 < (e70.length:Int))) rfl ?_ ?_
 intro na
 rw [na] at ho
 refine W_skip <| anz <| wq <| W_block <| wq <| wq <| Wq rfl k4 <| Qa (Mv v_x1 rfl) <| Qa (Mi rfl) <| ?_
 obtain ⟨e80,hx81e,ho⟩:=bs ho
 have hx81:=idx_some hx81e
 refine Qa (Ix sl97 ((Le.own (Le.own (Le.refl _) 4) 138).le o_x1.1) hx81 rfl rfl rfl) <| ?_
 obtain ⟨u82,fu83,hu84,p0k,hs86⟩:=one_get rfl ((Le.own (Le.own (Le.refl _) 4) 138).le o_x1.1) hx81.1 hx81.2
 refine Qa (Ld na138 hu84 rfl) <| Qa (Mi rfl) <| ?_
 obtain ⟨e87,hx88e,ho⟩:=bs ho
 have hx88:=idx_some hx88e
 refine Qa (Ix sl138 p0k hx88 rfl rfl rfl) <| Qa (Eb na4 p0k hx88 rfl) <| Qa (Nt rfl) <| fun nb pz=>anz <| W_cond (b:=!(e87)) rfl ?_ ?_
 intro qz
 rw [qz] at ho
 refine W_exit <| andThen_x <| inBlk_x <| anz <| Wq rfl pz <| Qa (Mi rfl) <| Qa (Ba rfl rfl) <| Qa (Ai rfl) <| fun gn qa=>?_
 cases ho
 exact ⟨(hB.trans (Chg.nil qa)),(ko o_x1 qa),(kr p2 qa),jq,fe rfl⟩
 intro qz
 rw [qz] at ho
 refine W_skip <| anz <| wq <| wq <| Wq rfl pz <| Qa (Ai rfl) <| fun p24 nc=>anz <| Wf (S1:=Int) (fun (s2_7:Int) r w'=>Chg f_x1 w w'∧OE f_x1 w.heap.size w' (sOwn 138 (sOwn 4 sBool)) [v_x1] (x1) f_x1∧Row w' b8 [.int .i64 (x0.C.Objects),zu,zo,z10,z11,z13,z14,z15] 96∧Dis f_x1 [b8]∧∃ F,r=updL F [(1,v_x1),(2,.pointer (some (⟨b8,0,none⟩))),(5,.int .i64 (s0_5)),(6,.int .i64 (s1_6)),(7,.int .i64 (s2_7))]) (spec_l27Step_T v_x1 f_x1 w) ho ⟨(hB.trans (Chg.nil nc)),(ko o_x1 nc),(kr p2 nc),(jq),fe rfl⟩ ?_ ?_
 rintro s2_7 _ p0l ⟨hB,o_x1,p2,j0,F,rfl⟩ o ho
 replace ho:spec_l27Step_L2 x0 x1 s0_5 s1_6 s2_7=some o:=ho
 unfold spec_l27Step_L2 at ho
 refine wq <| wq <| Wq rfl (cr [] p0l) <| Qa (Mi rfl) <| Qa (Fr fa96_2 rfl) <| Qa (Lr na23 p2 rfl rfl) <| Qa (Ln sl23 (STy.keep _ z1s hB n_h_x0_Pulls) rfl) <| Qa (Bl rfl rfl) <| fun p5s k5=>anz <| W_cond (b:=decide (s2_7 < (x0.Pulls.length:Int))) rfl ?_ ?_
 intro nd
 rw [nd] at ho
 refine W_skip <| anz <| wq <| W_block <| wq <| Wqd rfl (by kernel_rfl) k5 <| ?_
 obtain ⟨g101,hm102,ho⟩:=bs ho
 refine QL.meet (fun r=>∃ F,r=updL F [(1,v_x1),(2,.pointer (some (⟨b8,0,none⟩))),(5,.int .i64 (s0_5)),(6,.int .i64 (s1_6)),(7,.int .i64 (s2_7)),(90,.bool (g101))]) ?_ ?_
 skip
 refine Qa (Fr fa96_0 rfl) <| Qa (Fr fa32_1 rfl) <| Qa (Lr na22 p2 rfl rfl) <| Qa (Mi rfl) <| ?_
 obtain ⟨e103,hx104e,hm102⟩:=bs hm102
 have hx104:=idx_some hx104e
 refine Qa (Ix sl22 (STy.keep _ z16 hB n_h_x0_C_From) hx104 rfl rfl rfl) <| Qa (Ei na2 (STy.keep _ z16 hB n_h_x0_C_From) hx104 rfl) <| Qa (Mi rfl) <| Qa (Be rfl rfl) <| Qa (Mb rfl) <| ?_
 rcases Bool.eq_false_or_eq_true (e103 == s0_5) with p0 | p0
 rw [p0] at hm102
 refine Qg rfl p0 (Mv v_x1 rfl) <| Qg rfl p0 (Fr fa96_0 rfl) <| Qg rfl p0 (Fr fa32_2 rfl) <| Qg rfl p0 (Lr na22 p2 rfl rfl) <| Qg rfl p0 (Mi rfl) <| ?_
 obtain ⟨e106,hx107e,hm102⟩:=bs hm102
 have hx107:=idx_some hx107e
 refine Qg rfl p0 (Ix sl22 (STy.keep _ z12 hB n_h_x0_C_To) hx107 rfl rfl rfl) <| Qg rfl p0 (Ei na2 (STy.keep _ z12 hB n_h_x0_C_To) hx107 rfl) <| ?_
 obtain ⟨e108,hx109e,hm102⟩:=bs hm102
 have hx109:=idx_some hx109e
 refine Qg rfl p0 (Ix sl97 ((Le.own (Le.own (Le.refl _) 4) 138).le o_x1.1) hx109 rfl rfl rfl) <| ?_
 obtain ⟨u110,fu111,hu112,jb,hs114⟩:=one_get rfl ((Le.own (Le.own (Le.refl _) 4) 138).le o_x1.1) hx109.1 hx109.2
 refine Qg rfl p0 (Ld na138 hu112 rfl) <| Qg rfl p0 (Fr fa96_2 rfl) <| Qg rfl p0 (Lr na23 p2 rfl rfl) <| Qg rfl p0 (Mi rfl) <| ?_
 obtain ⟨e115,hx116e,hm102⟩:=bs hm102
 have hx116:=idx_some hx116e
 refine Qg rfl p0 (Ix sl23 (STy.keep _ z1s hB n_h_x0_Pulls) hx116 rfl rfl rfl) <| ?_
 obtain ⟨u117,fu118,hu119,p0m,hs121⟩:=one_getP rfl z1s hB n_h_x0_Pulls hx116.1 hx116.2
 have n_hr120:Dis fu118 f_x1:=fun b hb=>n_h_x0_Pulls b (hs121 b hb)
 refine Qg rfl p0 (Ld na22 hu119 rfl) <| Qg rfl p0 (Mi rfl) <| ?_
 obtain ⟨e122,hx123e,hm102⟩:=bs hm102
 have hx123:=idx_some hx123e
 refine Qg rfl p0 (Ix sl22 (STy.keep _ p0m hB n_hr120) hx123 rfl rfl rfl) <| Qg rfl p0 (Ei na2 (STy.keep _ p0m hB n_hr120) hx123 rfl) <| ?_
 obtain ⟨e124,hx125e,hm102⟩:=bs hm102
 have hx125:=idx_some hx125e
 refine Qg rfl p0 (Ix sl138 jb hx125 rfl rfl rfl) <| Qg rfl p0 (Eb na4 jb hx125 rfl) <| Qg rfl p0 (Nt rfl) <| Qa (PTb rfl p0 rfl) <| ?_
 cases hm102
 exact fe rfl
 rw [p0] at hm102
 refine Sk rfl p0 rfl <| Sk rfl p0 rfl <| Sk rfl p0 rfl <| Sk rfl p0 rfl <| Sk rfl p0 rfl <| Sk rfl p0 rfl <| Sk rfl p0 rfl <| Sk rfl p0 rfl <| Sk rfl p0 rfl <| Sk rfl p0 rfl <| Sk rfl p0 rfl <| Sk rfl p0 rfl <| Sk rfl p0 rfl <| Sk rfl p0 rfl <| Sk rfl p0 rfl <| Sk rfl p0 rfl <| ?_
 refine Sk rfl p0 rfl <| Sk rfl p0 rfl <| Sk rfl p0 rfl <| Sk rfl p0 rfl <| Qa (PFb rfl p0 rfl) <| ?_
 cases hm102
 exact fe rfl
 rintro _ ⟨F,rfl⟩
 refine fun p5t pn=>anz <| W_cond (b:=g101) rfl ?_ ?_
 intro ne
 rw [ne] at ho
 refine wq <| ?_
 obtain ⟨e129,hx130e,ho⟩:=bs ho
 have hx130:=idx_some hx130e
 obtain ⟨e131,hx132e,ho⟩:=bs ho
 have hx132:=idx_some hx132e
 obtain ⟨u133,fu134,hu135,nf,hs137⟩:=one_get rfl ((Le.own (Le.own (Le.refl _) 4) 138).le o_x1.1) hx132.1 hx132.2
 obtain ⟨e138,hx139e,ho⟩:=bs ho
 have hx139:=idx_some hx139e
 obtain ⟨u140,fu141,hu142,p0n,hs144⟩:=one_getP rfl z1s hB n_h_x0_Pulls hx139.1 hx139.2
 have n_hr143:Dis fu141 f_x1:=fun b hb=>n_h_x0_Pulls b (hs144 b hb)
 obtain ⟨e145,hx146e,ho⟩:=bs ho
 have hx146:=idx_some hx146e
 refine W_any (m:=17) (U:=.replicate 17 []) (S:=[sV (v_x1),sV (.pointer (some (⟨b8,0,none⟩))),sV (.pointer (some (⟨b8,2,none⟩))),sV (zo),sV (.int .i64 (s2_7)),sV (.pointer (some (elA (zo) 1 (s2_7)))),sV (.int .i64 (e129)),sV (.pointer (some (elA (v_x1) 1 (e129)))),sV (u133),sV (.pointer (some (⟨b8,6,none⟩))),sV (z14),sV (.int .i64 (s2_7)),sV (.pointer (some (elA (z14) 1 (s2_7)))),sV (u140),sV (.int .i64 (s1_6)),sV (.pointer (some (elA (u140) 1 (s1_6)))),sV (.int .i64 (e145))]) (Z:=[]) hmix rfl (by decide) (by decide +kernel) (fun _ _ _ h=>np_out h) (by decide) rfl (by decide +kernel) (stable_all (by repeat first | exact stable_nil | refine stable_cons stable_val ?_ | refine stable_cons stable_own ?_)) ?_ ?_
 refine owes_cons ?_ <| owes_cons ?_ <| owes_cons ?_ <| owes_cons ?_ <| owes_cons ?_ <| owes_cons ?_ <| owes_cons ?_ <| owes_cons ?_ <| owes_cons ?_ <| owes_cons ?_ <| owes_cons ?_ <| owes_cons ?_ <| owes_cons ?_ <| owes_cons ?_ <| owes_cons ?_ <| owes_cons ?_ <| owes_cons ?_ <| owes_nil
 exact Oh rfl rfl rfl [(1,v_x1)] pn rfl rfl fun _=>Mv v_x1 rfl
 exact Oh rfl rfl rfl [(2,.pointer (some (⟨b8,0,none⟩)))] pn rfl rfl fun _=>Fr fa96_0 rfl
 exact Ov rfl rfl rfl [] [(92,.pointer (some (⟨b8,0,none⟩)))] [1] pn rfl rfl (by decide +kernel) rfl fun _=>Fr fa32_2 rfl
 exact Ov rfl rfl rfl [] [(93,.pointer (some (⟨b8,2,none⟩)))] [2] pn rfl rfl (by decide +kernel) rfl fun _=>Lr na22 p2 rfl rfl
 exact Oh rfl rfl rfl [(7,.int .i64 (s2_7))] pn rfl rfl fun _=>Mi rfl
 exact Ov rfl rfl rfl [] [(94,zo),(95,.int .i64 (s2_7))] [3,4] pn rfl rfl (by decide +kernel) rfl fun _=>Ix sl22 (STy.keep _ z12 hB n_h_x0_C_To) hx130 rfl rfl rfl
 exact Ov rfl rfl rfl [] [(96,.pointer (some (elA (zo) 1 (s2_7))))] [5] pn rfl rfl (by decide +kernel) rfl fun _=>Ei na2 (STy.keep _ z12 hB n_h_x0_C_To) hx130 rfl
 exact Ov rfl rfl rfl [] [(91,v_x1),(97,.int .i64 (e129))] [0,6] pn rfl rfl (by decide +kernel) rfl fun _=>Ix sl97 ((Le.own (Le.own (Le.refl _) 4) 138).le o_x1.1) hx132 rfl rfl rfl
 exact Ov rfl rfl rfl [] [(98,.pointer (some (elA (v_x1) 1 (e129))))] [7] pn rfl rfl (by decide +kernel) rfl fun _=>Ld na138 hu135 rfl
 exact Oh rfl rfl rfl [(2,.pointer (some (⟨b8,0,none⟩)))] pn rfl rfl fun _=>Fr fa96_2 rfl
 exact Ov rfl rfl rfl [] [(100,.pointer (some (⟨b8,6,none⟩)))] [9] pn rfl rfl (by decide +kernel) rfl fun _=>Lr na23 p2 rfl rfl
 exact Oh rfl rfl rfl [(7,.int .i64 (s2_7))] pn rfl rfl fun _=>Mi rfl
 exact Ov rfl rfl rfl [] [(101,z14),(102,.int .i64 (s2_7))] [10,11] pn rfl rfl (by decide +kernel) rfl fun _=>Ix sl23 (STy.keep _ z1s hB n_h_x0_Pulls) hx139 rfl rfl rfl
 exact Ov rfl rfl rfl [] [(103,.pointer (some (elA (z14) 1 (s2_7))))] [12] pn rfl rfl (by decide +kernel) rfl fun _=>Ld na22 hu142 rfl
 exact Oh rfl rfl rfl [(6,.int .i64 (s1_6))] pn rfl rfl fun _=>Mi rfl
 exact Ov rfl rfl rfl [] [(104,u140),(105,.int .i64 (s1_6))] [13,14] pn rfl rfl (by decide +kernel) rfl fun _=>Ix sl22 (STy.keep _ p0n hB n_hr143) hx146 rfl rfl rfl
 exact Ov rfl rfl rfl [] [(106,.pointer (some (elA (u140) 1 (s1_6))))] [15] pn rfl rfl (by decide +kernel) rfl fun _=>Ei na2 (STy.keep _ p0n hB n_hr143) hx146 rfl
 rintro g r p04 ⟨n0,hdone,hot,hfresh,hdis⟩
 have hdd:=hdis
 obtain ⟨F,rfl⟩:=fw hdone hot [] [(99,u133),(107,.int .i64 (e145))] [8,16] rfl rfl rfl rfl (z:=[]) trivial
 have jr:=(pn.trans n0)
 replace o_x1:=ko o_x1 jr
 replace p2:=kr p2 jr
 replace hu135:=jr.cell0 hu135
 replace nf:=kp _ nf jr
 replace hB:=(hB.trans (Chg.nil jr))
 obtain ⟨e150,hx151e,ho⟩:=bs ho
 have hx151:=idx_some hx151e
 refine Wb (Ix sl138 nf hx151 rfl rfl rfl) <| ?_
 obtain ⟨k152,p3w,hk154,hf155⟩:=own_focus rfl hB.size o_x1 hx132.2 hu135
 have n1:Dis k152 [b8]:=fun b hb=>j0 b (hk154 b hb)
 refine WL.storeEl (z':=true) _ _ sBool_nofp rfl info4 sz4 p3w hx151.2 rfl rfl ⟨rfl,rfl⟩ fun p3x ng p3y=>?_
 obtain ⟨p5u,p3z,hs162⟩:=hf155 _ _ _ ng p3y
 replace p2:=Row.keep p2 ng ((n1).symm _ (ms rfl))
 replace hB:=hB.then ng (fun b hb=>o_x1.2.2 b (hk154 b hb))
 refine anz <| wq <| Wq rfl (cr [] p3x) <| Qa (Ab rfl) <| fun p05 pm=>anz <| ?_
 cases ho
 exact W_ret ⟨_,res_1 Tryz.results137,_,rfl,(hB.trans (Chg.nil pm)),(ko p3z pm)⟩
 intro ne
 rw [ne] at ho
 refine W_skip <| inBlk_n <| anz <| Wq rfl pn <| Qa (Mi rfl) <| Qa (Ba rfl rfl) <| Qa (Ai rfl) <| fun p5v nh=>?_
 cases ho
 exact ⟨(hB.trans (Chg.nil nh)),(ko o_x1 nh),(kr p2 nh),j0,fe rfl⟩
 intro nd
 rw [nd] at ho
 refine W_exit <| andThen_x <| ?_
 cases ho
 exact ⟨rfl,⟨(hB.trans (Chg.nil k5)),(ko o_x1 k5),(kr p2 k5),j0,fe rfl⟩⟩
 rintro s2_7 _ p40 ⟨hB,o_x1,p2,j0,F,rfl⟩ ho
 refine anz <| wq <| Wq rfl (cr [] p40) <| Qa (Ai rfl) <| fun p5w ni=>anz <| Wf (S1:=Int) (fun (s3_8:Int) r w'=>Chg f_x1 w w'∧OE f_x1 w.heap.size w' (sOwn 138 (sOwn 4 sBool)) [v_x1] (x1) f_x1∧Row w' b8 [.int .i64 (x0.C.Objects),zu,zo,z10,z11,z13,z14,z15] 96∧Dis f_x1 [b8]∧∃ F,r=updL F [(1,v_x1),(2,.pointer (some (⟨b8,0,none⟩))),(5,.int .i64 (s0_5)),(6,.int .i64 (s1_6)),(8,.int .i64 (s3_8))]) (spec_l27Step_T v_x1 f_x1 w) ho ⟨(hB.trans (Chg.nil ni)),(ko o_x1 ni),(kr p2 ni),(j0),fe rfl⟩ ?_ ?_
 rintro s3_8 _ p41 ⟨hB,o_x1,p2,js,F,rfl⟩ o ho
 replace ho:spec_l27Step_L3 x0 x1 s0_5 s1_6 s3_8=some o:=ho
 unfold spec_l27Step_L3 at ho
 refine wq <| wq <| Wq rfl (cr [] p41) <| Qa (Mi rfl) <| Qa (Mv v_x1 rfl) <| Qa (Mi rfl) <| ?_
 obtain ⟨e174,hx175e,ho⟩:=bs ho
 have hx175:=idx_some hx175e
 refine Qa (Ix sl97 ((Le.own (Le.own (Le.refl _) 4) 138).le o_x1.1) hx175 rfl rfl rfl) <| ?_
 obtain ⟨u176,fu177,hu178,p42,hs180⟩:=one_get rfl ((Le.own (Le.own (Le.refl _) 4) 138).le o_x1.1) hx175.1 hx175.2
 refine Qa (Ld na138 hu178 rfl) <| Qa (Ln sl138 p42 rfl) <| Qa (Bl rfl rfl) <| fun p5x k6=>anz <| W_cond (b:=decide (s3_8 < (e174.length:Int))) rfl ?_ ?_
 intro nj
 rw [nj] at ho
 refine W_skip <| anz <| wq <| W_block <| wq <| Wq rfl k6 <| ?_
 obtain ⟨g184,hm185,ho⟩:=bs ho
 refine QL.meet (fun r=>∃ F,r=updL F [(1,v_x1),(2,.pointer (some (⟨b8,0,none⟩))),(5,.int .i64 (s0_5)),(6,.int .i64 (s1_6)),(8,.int .i64 (s3_8)),(133,.bool (g184))]) ?_ ?_
 skip
 refine Qa (Mv v_x1 rfl) <| Qa (Mi rfl) <| ?_
 obtain ⟨e186,hx187e,hm185⟩:=bs hm185
 have hx187:=idx_some hx187e
 refine Qa (Ix sl97 ((Le.own (Le.own (Le.refl _) 4) 138).le o_x1.1) hx187 rfl rfl rfl) <| ?_
 obtain ⟨u188,fu189,hu190,p0o,hs192⟩:=one_get rfl ((Le.own (Le.own (Le.refl _) 4) 138).le o_x1.1) hx187.1 hx187.2
 refine Qa (Ld na138 hu190 rfl) <| Qa (Mi rfl) <| ?_
 obtain ⟨e193,hx194e,hm185⟩:=bs hm185
 have hx194:=idx_some hx194e
 refine Qa (Ix sl138 p0o hx194 rfl rfl rfl) <| Qa (Eb na4 p0o hx194 rfl) <| Qa (Nt rfl) <| Qa (Mb rfl) <| ?_
 rcases Bool.eq_false_or_eq_true (!(e193)) with pr | pr
 rw [pr] at hm185
 refine Qg rfl pr (Lg ag96 p2.at rfl rfl) <| Qg rfl pr (Mv v_x1 rfl) <| Qg rfl pr (Mi rfl) <| Qg rfl pr (Mi rfl) <| Qg rfl pr (Mi rfl) <| ?_
 obtain ⟨y196,p43,hm185⟩:=bs hm185
 refine Qcg rfl pr Tryz.func207 rfl rfl (fun _ hC=>spec_l27Local_calls (STy.keep _ z16 (hB.trans (Chg.nil hC)) n_h_x0_C_From) (STy.keep _ z12 (hB.trans (Chg.nil hC)) n_h_x0_C_To) (STy.keep _ z17 (hB.trans (Chg.nil hC)) n_h_x0_C_Identity) (STy.keep _ z18 (hB.trans (Chg.nil hC)) n_h_x0_C_Composites) (STy.keep _ z1r (hB.trans (Chg.nil hC)) n_h_x0_Lists) (STy.keep _ z1s (hB.trans (Chg.nil hC)) n_h_x0_Pulls) (STy.keep _ z21 (hB.trans (Chg.nil hC)) n_h_x0_Tops) ((Le.own (Le.own (Le.refl _) 4) 138).le (kp _ o_x1.1 hC)) p43) <| Qa (PTb rfl pr rfl) <| ?_
 cases hm185
 exact fe rfl
 rw [pr] at hm185
 refine Sk rfl pr rfl <| Sk rfl pr rfl <| Sk rfl pr rfl <| Sk rfl pr rfl <| Sk rfl pr rfl <| Sk rfl pr rfl <| Qa (PFb rfl pr rfl) <| ?_
 cases hm185
 exact fe rfl
 rintro _ ⟨F,rfl⟩
 refine fun p44 jt=>anz <| W_cond (b:=g184) rfl ?_ ?_
 intro nk
 rw [nk] at ho
 refine wq <| W_region rfl <| Wb (Mv v_x1 rfl) <| Wb (Mi rfl) <| ?_
 obtain ⟨e201,hx202e,ho⟩:=bs ho
 have hx202:=idx_some hx202e
 refine Wa jt (Ix sl97 ((Le.own (Le.own (Le.refl _) 4) 138).le o_x1.1) hx202 rfl rfl rfl) <| ?_
 obtain ⟨u203,fu204,hu205,nl,hs207⟩:=one_get rfl ((Le.own (Le.own (Le.refl _) 4) 138).le o_x1.1) hx202.1 hx202.2
 refine Wa jt (Ld na138 hu205 rfl) <| Wb (Mi rfl) <| ?_
 obtain ⟨e208,hx209e,ho⟩:=bs ho
 have hx209:=idx_some hx209e
 refine Wa jt (Ix sl138 nl hx209 rfl rfl rfl) <| ?_
 have ju:=jt.trans (cr [] p44)
 replace hu205:=ju.cell0 hu205
 replace nl:=kp _ nl ju
 replace o_x1:=ko o_x1 ju
 replace p2:=kr p2 ju
 replace hB:=(hB.trans (Chg.nil ju))
 obtain ⟨k211,p45,hk213,hf214⟩:=own_focus rfl hB.size o_x1 hx202.2 hu205
 have p46:Dis k211 [b8]:=fun b hb=>js b (hk213 b hb)
 refine WL.storeEl (z':=true) _ _ sBool_nofp rfl info4 sz4 p45 hx209.2 rfl rfl ⟨rfl,rfl⟩ fun p47 nm p48=>?_
 obtain ⟨p5y,p49,hs221⟩:=hf214 _ _ _ nm p48
 replace p2:=Row.keep p2 nm ((p46).symm _ (ms rfl))
 replace hB:=hB.then nm (fun b hb=>o_x1.2.2 b (hk213 b hb))
 refine anz <| wq <| Wq rfl (cr [] p47) <| Qa (Ab rfl) <| fun p5z p0p=>anz <| ?_
 cases ho
 exact W_ret ⟨_,res_1 Tryz.results137,_,rfl,(hB.trans (Chg.nil p0p)),(ko p49 p0p)⟩
 intro nk
 rw [nk] at ho
 refine W_skip <| inBlk_n <| anz <| Wq rfl jt <| Qa (Mi rfl) <| Qa (Ba rfl rfl) <| Qa (Ai rfl) <| fun p60 nn=>?_
 cases ho
 exact ⟨(hB.trans (Chg.nil nn)),(ko o_x1 nn),(kr p2 nn),js,fe rfl⟩
 intro nj
 rw [nj] at ho
 refine W_exit <| andThen_x <| ?_
 cases ho
 exact ⟨rfl,⟨(hB.trans (Chg.nil k6)),(ko o_x1 k6),(kr p2 k6),js,fe rfl⟩⟩
 rintro s3_8 _ p4a ⟨hB,o_x1,p2,js,F,rfl⟩ ho
 refine inBlk_n <| anz <| Wq rfl (cr [] p4a) <| Qa (Mi rfl) <| Qa (Ba rfl rfl) <| Qa (Ai rfl) <| fun p61 no=>?_
 cases ho
 exact ⟨(hB.trans (Chg.nil no)),(ko o_x1 no),(kr p2 no),js,fe rfl⟩
 intro na
 rw [na] at ho
 refine W_exit <| andThen_x <| ?_
 cases ho
 exact ⟨rfl,⟨(hB.trans (Chg.nil k4)),(ko o_x1 k4),(kr p2 k4),jq,fe rfl⟩⟩
 rintro s1_6 _ p4b ⟨hB,o_x1,p2,jq,F,rfl⟩ ho
 refine inBlk_n <| anz <| Wq rfl (cr [] p4b) <| Qa (Mi rfl) <| Qa (Ba rfl rfl) <| Qa (Ai rfl) <| fun p62 np=>?_
 cases ho
 exact ⟨(hB.trans (Chg.nil np)),(ko o_x1 np),(kr p2 np),jq,fe rfl⟩
 intro n5
 rw [n5] at ho
 refine W_exit <| andThen_x <| ?_
 cases ho
 exact ⟨rfl,⟨(hB.trans (Chg.nil jc)),(ko o_x1 jc),(kr p2 jc),ja,fe rfl⟩⟩
 rintro s0_5 _ p4c ⟨hB,o_x1,p2,ja,F,rfl⟩ ho
 refine anz <| wq <| Wq rfl (cr [] p4c) <| Qa (Ab rfl) <| fun p63 p0q=>anz <| ?_
 cases ho
 exact W_ret ⟨_,res_1 Tryz.results137,_,rfl,(hB.trans (Chg.nil p0q)),(ko o_x1 p0q)⟩

abbrev spec_l27Is_post (w:World) (x:(Bool)) (e:Ending) (w':World):Prop:=e = .returned (.bool x)∧Chg [] w w'
abbrev spec_l27Is_T (w:World):=Tm Tryz.prog Tryz.f71 27 (spec_l27Is_post w)
theorem spec_l27Is_calls {w:World} {x0:ML27Table} {zu:Value} {z19:List Nat} {zo:Value} {z1a:List Nat} {z10:Value} {z1b:List Nat} {z11:Value} {z1c:List Nat} {z13:Value} {z23:List Nat} {z14:Value} {z26:List Nat} {z15:Value} {z27:List Nat} {x1:(List (List Bool))} {v_x1:Value} {f_x1:List Nat} (z16:(sImm (sInt .i64)).rep w.heap [zu] x0.C.From z19) (z12:(sImm (sInt .i64)).rep w.heap [zo] x0.C.To z1a) (z17:(sImm (sInt .i64)).rep w.heap [z10] x0.C.Identity z1b) (z18:(sImm (sImm (sInt .i64))).rep w.heap [z11] x0.C.Composites z1c) (z1r:(sImm (sImm (sImm (sInt .i64)))).rep w.heap [z13] x0.Lists z23) (z1s:(sImm (sImm (sInt .i64))).rep w.heap [z14] x0.Pulls z26) (z21:(sImm (sInt .i64)).rep w.heap [z15] x0.Tops z27) (h_x1:(sImm (sImm sBool)).rep w.heap [v_x1] x1 f_x1) {y:(Bool)} (hm:spec_l27Is x0 x1=some y) :
  Calls Tryz.prog 71 #[.agg #[.int .i64 (x0.C.Objects),zu,zo,z10,z11,z13,z14,z15],v_x1] w (spec_l27Is_post w y):=by
 refine Cm (S:=Unit) Tryz.func71 rfl Tryz.ntmps71 rfl hm fun o ho hB=>?_
 clear hm
 refine wq <| W_region rfl <| WL.box fun b1 wd2 hC3 hr4 hl5=>?_
 replace hr4:Row wd2 b1 [.int .i64 (x0.C.Objects),zu,zo,z10,z11,z13,z14,z15] 96:=hr4
 replace hB:=(hB.trans hC3)
 refine Wb (Ab rfl) <| anz <| wq <| W_region rfl <| WL.lit0 (sOwn 4 sBool) u97 info138 fun v8 wd9 f10 qn qj=>?_
 have kh:=dl (ofr qj) (one_lt (Row.lt hr4))
 replace qj:=OE.low (G:=[]) qj hB.size
 replace hr4:=kr hr4 qn
 replace hB:=(hB.trans qn)
 refine Wb (Av v8 rfl) <| anz <| wq <| wq <| Wq rfl (cr [] wd9) <| Qa (Ai rfl) <| fun k0 q7=>anz <| Wf (S1:=(List (List Bool))×Int) (fun s r w'=>match s with | (s0_5,s0_6)=>∃ (v17:Value) (q8:List Nat),Chg [] w w'∧Row w' b1 [.int .i64 (x0.C.Objects),zu,zo,z10,z11,z13,z14,z15] 96∧OE [] w.heap.size w' (sOwn 138 (sOwn 4 sBool)) [v17] (s0_5) q8∧Dis [b1] q8∧∃ F,r=updL F [(1,v_x1),(2,.pointer (some (⟨b1,0,none⟩))),(5,v17),(6,.int .i64 (s0_6))]) (spec_l27Is_T w) ho ⟨_,_,(hB.trans q7),(kr hr4 q7),(ko qj q7),((kh).symm),fe rfl⟩ ?_ ?_
 rintro ⟨s0_5,s0_6⟩ _ jz ⟨v17,q8,hB,hr4,p1,pi,F,rfl⟩ o ho
 replace ho:spec_l27Is_L0 x1 s0_5 s0_6=some o:=ho
 unfold spec_l27Is_L0 at ho
 refine wq <| wq <| Wq rfl (cr [] jz) <| Qa (Mi rfl) <| Qa (Mv v_x1 rfl) <| Qa (Ln sl97 (kB h_x1 hB) rfl) <| Qa (Bl rfl rfl) <| fun jh pd=>anz <| W_cond (b:=decide (s0_6 < (x1.length:Int))) rfl ?_ ?_
 intro qw
 rw [qw] at ho
 refine W_skip <| anz <| wq <| W_block <| W_region rfl <| Wb (Mv v17 rfl) <| WL.lit0 sBool u138 info4 fun v25 je f27 jo q5=>?_
 have d30:=dl (ofr q5) (one_lt (Row.lt (kr hr4 pd)))
 have d31:=dl (ofr q5) (sl _ (kp _ p1.1 pd))
 replace q5:=OE.low (G:=[]) q5 (hB.trans pd).size
 have nq:=pd.trans jo
 replace hr4:=kr hr4 nq
 replace p1:=ko p1 nq
 replace hB:=(hB.trans nq)
 refine Wb (Mv v_x1 rfl) <| Wb (Mi rfl) <| ?_
 obtain ⟨e33,hx34e,ho⟩:=bs ho
 have hx34:=idx_some hx34e
 refine Wb (Ix sl97 (kB h_x1 hB) hx34 rfl rfl rfl) <| ?_
 obtain ⟨u35,fu36,hu37,p4d,hs39⟩:=one_get rfl h_x1 hx34.1 hx34.2
 refine Wb (Ld na138 (hB.cell0 hu37) rfl) <| ?_
 obtain ⟨n46,hn47,ho⟩:=bs ho
 have hn47a:=fits_some hn47
 refine WL.appendS (E:=sBool) _ _ sBool_nofp u138 info4 zr4 sz4 rfl rfl rfl q5 rfl (kp _ p4d hB) (by rw [by4]; exact hn47a.1) hn47a.2 hB.size fun v40 p65 f42 qo ph hs45=>?_
 have d48:=dis_upd hs45 d30 (fun _ h=>nomatch h) (one_lt (Row.lt hr4))
 have d49:=dis_upd hs45 d31 (fun _ h=>nomatch h) (sl _ p1.1)
 replace hr4:=Row.keep hr4 qo ((d30).symm _ (ms rfl))
 replace p1:=okp p1 qo (d31).symm
 replace hB:=hB.then qo q5.2.2
 refine WL.lit1 u97 info138 zr138 sz138 (STy.one _ ph.1 _ (ms rfl)) fun b51 p0u jd jv p4g=>?_
 replace jv:Row p0u b51 [v40] 138:=jv
 have d58:=dl (onw p4g) (sl _ p1.1)
 replace hr4:=kr hr4 jd
 replace p1:=ko p1 jd
 replace ph:=ko ph jd
 replace hB:=(hB.trans jd)
 obtain ⟨n67,hn68,ho⟩:=bs ho
 have hn68a:=fits_some hn68
 refine WL.append1 (E:=(sOwn 4 sBool)) _ _ u97 info138 zr138 sz138 rfl rfl rfl p1 rfl jv ph.1 ph.2.1 ph.2.2 d49 (by rw [by138]; exact hn68a.1) hn68a.2 hB.size fun v61 p0e f63 nr o65 hs66=>?_
 have d69:=dis_upd hs66 (pi).symm d48 (one_lt (Row.lt hr4))
 replace hr4:=Row.keep hr4 nr (pi _ (ms rfl))
 replace jv:=Row.keep jv nr (d58 _ (ms rfl))
 replace hB:=hB.then nr p1.2.2
 refine Wb (Av v61 rfl) <| inBlk_n <| anz <| Wq rfl (cr [] p0e) <| Qa (Mi rfl) <| Qa (Ba rfl rfl) <| Qa (Ai rfl) <| fun p4k jw=>?_
 cases ho
 exact ⟨_,_,(hB.trans jw),(kr hr4 jw),(ko o65 jw),((d69).symm),fe rfl⟩
 intro qw
 rw [qw] at ho
 refine W_exit <| andThen_x <| ?_
 cases ho
 exact ⟨rfl,⟨_,_,(hB.trans pd),(kr hr4 pd),(ko p1 pd),pi,fe rfl⟩⟩
 rintro ⟨s0_5,s0_6⟩ _ p0v ⟨v17,q8,hB,hr4,p1,pi,F,rfl⟩ ho
 dsimp only at ho
 refine anz <| wq <| W_region rfl <| Wb (Lg ag96 hr4.at rfl rfl) <| Wb (Mv v17 rfl) <| ?_
 obtain ⟨y76,p4l,ho⟩:=bs ho
 refine WL.call rfl (op_callF Tryz.func137 rfl rfl) (spec_l27Step_calls (kp _ z16 hB) (kp _ z12 hB) (kp _ z17 hB) (kp _ z18 hB) (kp _ z1r hB) (kp _ z1s hB) (kp _ z21 hB) (OE.give (B':=p0v.heap.size) p1 fun _ h=>h) (dis_par (sl _ z16) p1.2.2) (dis_par (sl _ z12) p1.2.2) (dis_par (sl _ z17) p1.2.2) (dis_par (sl _ z18) p1.2.2) (dis_par (sl _ z1r) p1.2.2) (dis_par (sl _ z1s) p1.2.2) (dis_par (sl _ z21) p1.2.2) p4l) <| ?_
 rintro _ p4m ⟨f80,rfl,jx,o81⟩
 refine ⟨_,rfl,?_⟩
 replace o81:=OE.back o81 p1.2.2 hB.size
 replace hr4:=Row.keep hr4 jx ((Dis.symm (pi).symm) _ (ms rfl))
 replace hB:=hB.then jx p1.2.2
 refine Wb (Nt rfl) <| Wb (Ab rfl) <| anz <| ?_
 cases ho
 exact W_ret ⟨_,res_1 Tryz.results71,rfl,hB⟩

abbrev spec_IsTopology_post (w:World) (x:(Bool×Int)) (e:Ending) (w':World):Prop:=e = .returned (.tuple #[.bool x.1,.int .i64 x.2])∧Chg [] w w'
abbrev spec_IsTopology_T (w:World):=Tm Tryz.prog Tryz.f16 19 (spec_IsTopology_post w)
theorem spec_IsTopology_calls {w:World} {x0:MTopology} {zk:Value} {zv:List Nat} {zl:Value} {zw:List Nat} {zm:Value} {zx:List Nat} {zn:Value} {zy:List Nat} {zi:Value} {zj:List Nat} (zp:(sImm (sInt .i64)).rep w.heap [zk] x0.Shape.From zv) (zq:(sImm (sInt .i64)).rep w.heap [zl] x0.Shape.To zw) (zr:(sImm (sInt .i64)).rep w.heap [zm] x0.Shape.Identity zx) (zt:(sImm (sImm (sInt .i64))).rep w.heap [zn] x0.Shape.Composites zy) (zh:(sImm (sImm (sImm (sInt .i64)))).rep w.heap [zi] x0.Covers zj) {y:(Bool×Int)} (hm:spec_IsTopology x0=some y) :
  Calls Tryz.prog 16 #[.agg #[.int .i64 (x0.Shape.Objects),zk,zl,zm,zn,zi]] w (spec_IsTopology_post w y):=by
 refine Cm (S:=Unit) Tryz.func16 rfl Tryz.ntmps16 rfl hm fun o ho hB=>?_
 clear hm
 refine wq <| W_region rfl <| WL.box fun b1 wd2 hC3 hr4 hl5=>?_
 replace hr4:Row wd2 b1 [.int .i64 (x0.Shape.Objects),zk,zl,zm,zn,zi] 34:=hr4
 replace hB:=(hB.trans hC3)
 refine Wb (Ab rfl) <| Wb (Ai rfl) <| anz <| wq <| W_region rfl <| Wb (Lg ag34 hr4.at rfl rfl) <| ?_
 obtain ⟨y8,hy9,ho⟩:=bs ho
 refine WL.call rfl (op_callF Tryz.func70 rfl rfl) (spec_l27Read_calls (kp _ zp hB) (kp _ zq hB) (kp _ zr hB) (kp _ zt hB) (kp _ zh hB) hy9) <| ?_
 rintro _ p69 ⟨v12,f13,v15,f16,v18,f19,v21,f22,v24,f25,v27,f28,v30,f31,v33,f34,rfl,qn,j1,p6i,j2,p6j,j3,p6k,j4,gc,j5,p6l,q5,p6m,j6,p6n,qs,d42,d48,d53,d57,d60,d62,d63⟩
 refine ⟨_,rfl,?_⟩
 replace qs:=OE.low (G:=[]) qs hB.size
 replace hr4:=kr hr4 qn
 replace hB:=(hB.trans qn)
 refine Wb (Mt rfl) <| Wb (Ex (.agg #[.int .i64 (y8.1.C.Objects),v12,v15,v18,v21,v24,v27,v30]) rfl rfl) <| Wb (Ex v33 rfl rfl) <| Wb (Exi rfl rfl) <| WL.alloc info96 zr96 fun ns nb pz nt qf=>?_
 replace nt:Row nb ns [.int .i64 ((0:Int)),.slice none 0 0,.slice none 0 0,.slice none 0 0,.slice none 0 0,.slice none 0 0,.slice none 0 0,.slice none 0 0] 96:=nt
 have kv:w.heap.size≤ns:=Nat.le_trans hB.size qf
 have d94:=dl (onw qf) (one_lt (Row.lt hr4))
 have kw:=dl (onw qf) (sl _ j1)
 have j0:=dl (onw qf) (sl _ j2)
 have d97:=dl (onw qf) (sl _ j3)
 have kx:=dl (onw qf) (sl _ j4)
 have d99:=dl (onw qf) (sl _ j5)
 have p4q:=dl (onw qf) (sl _ q5)
 have jg:=dl (onw qf) (sl _ j6)
 have km:=dl (onw qf) (sl _ qs.1)
 replace j1:=kp _ j1 pz
 replace j2:=kp _ j2 pz
 replace j3:=kp _ j3 pz
 replace j4:=kp _ j4 pz
 replace j5:=kp _ j5 pz
 replace q5:=kp _ q5 pz
 replace j6:=kp _ j6 pz
 replace hr4:=kr hr4 pz
 replace qs:=ko qs pz
 replace hB:=(hB.trans pz)
 refine WL.storeAll (us:=[.int .i64 (y8.1.C.Objects),v12,v15,v18,v21,v24,v27,v30]) info96 (by rw [sz96]; rfl) nt rfl rfl rfl (by intro u hu; simp only [List.mem_cons,List.mem_nil_iff,or_false] at hu; rcases hu with rfl | rfl | rfl | rfl | rfl | rfl | rfl | rfl <;> first | exact rfl | exact (STy.one _ j1 _ (ms rfl)) | exact (STy.one _ j2 _ (ms rfl)) | exact (STy.one _ j3 _ (ms rfl)) | exact (STy.one _ j4 _ (ms rfl)) | exact (STy.one _ j5 _ (ms rfl)) | exact (STy.one _ q5 _ (ms rfl)) | exact (STy.one _ j6 _ (ms rfl))) fun p0x qg nu=>?_
 replace nu:Row p0x ns [.int .i64 (y8.1.C.Objects),v12,v15,v18,v21,v24,v27,v30] 96:=nu
 replace j1:=STy.keep _ j1 qg (kw).symm
 replace j2:=STy.keep _ j2 qg (j0).symm
 replace j3:=STy.keep _ j3 qg (d97).symm
 replace j4:=STy.keep _ j4 qg (kx).symm
 replace j5:=STy.keep _ j5 qg (d99).symm
 replace q5:=STy.keep _ q5 qg (p4q).symm
 replace j6:=STy.keep _ j6 qg (jg).symm
 replace hr4:=Row.keep hr4 qg ((d94).symm _ (ms rfl))
 replace qs:=okp qs qg (km).symm
 replace hB:=hB.then qg (one_then kv)
 refine Wb (Av v33 rfl) <| Wb (Ai rfl) <| anz <| wq <| wq <| Wq rfl (cr [] p0x) <| Qa (Mi rfl) <| Qa (Bn rfl rfl) <| fun p6u p0y=>anz <| W_cond (b:=(y8.2.2) != ((0:Int))) rfl ?_ ?_
 intro nv
 rw [nv] at ho
 refine wq <| Wq rfl p0y <| Qa (Mi rfl) <| Qa (Ab rfl) <| Qa (Ai rfl) <| fun p01 pq=>anz <| ?_
 cases ho
 exact W_ret ⟨_,res_2 Tryz.results16,rfl,(hB.trans pq)⟩
 intro nv
 rw [nv] at ho
 refine W_skip <| anz <| wq <| Wq rfl p0y <| Qa (Lg ag96 nu.at rfl rfl) <| Qa (Mv v33 rfl) <| ?_
 obtain ⟨y113,p4r,ho⟩:=bs ho
 refine Qc Tryz.func71 rfl rfl (fun _ hC=>spec_l27Is_calls (kp _ j1 hC) (kp _ j2 hC) (kp _ j3 hC) (kp _ j4 hC) (kp _ j5 hC) (kp _ q5 hC) (kp _ j6 hC) ((Le.own (Le.own (Le.refl _) 4) 138).le (kp _ qs.1 hC)) p4r) <| Qa (Ab rfl) <| Qa (Ai rfl) <| fun p4s nw=>anz <| ?_
 cases ho
 exact W_ret ⟨_,res_2 Tryz.results16,rfl,(hB.trans nw)⟩

abbrev impl_Category_arrows_post (w:World) (x:(Int)) (e:Ending) (w':World):Prop:=e = .returned (.int .i64 x)∧Chg [] w w'
abbrev impl_Category_arrows_T (w:World):=Tm Tryz.prog Tryz.f105 8 (impl_Category_arrows_post w)
theorem impl_Category_arrows_calls {w:World} {x0:MCategory} {p_x0:Addr} {z2:Value} {zd:List Nat} {z1:Value} {ze:List Nat} {z8:Value} {zf:List Nat} {z7:Value} {zg:List Nat} (z6:(sImm (sInt .i64)).rep w.heap [z2] x0.From zd) (za:(sImm (sInt .i64)).rep w.heap [z1] x0.To ze) (zc:(sImm (sInt .i64)).rep w.heap [z8] x0.Identity zf) (zb:(sImm (sImm (sInt .i64))).rep w.heap [z7] x0.Composites zg) (a_x0:At w p_x0 [.int .i64 (x0.Objects),z2,z1,z8,z7]) {y:(Int)} (hm:impl_Category_arrows x0=some y) :
  Calls Tryz.prog 105 #[.pointer (some (p_x0))] w (impl_Category_arrows_post w y):=by
 refine Cm (S:=Unit) Tryz.func105 rfl Tryz.ntmps105 rfl hm fun o ho hB=>?_
 clear hm
 refine wq <| Wq rfl (cr [] w) <| Qa (Ai rfl) <| fun wd1 hC2=>anz <| wq <| Wq rfl hC2 <| Qa (Mp rfl) <| Qa (Nk rfl) <| Qa (Fp fa32_1 rfl) <| Qa (La na22 (At.keep0 a_x0 hB) rfl rfl) <| Qa (Ln sl22 (kB z6 hB) rfl) <| Qa (Ai rfl) <| fun wd3 hC4=>anz <| ?_
 cases ho
 exact W_ret ⟨_,res_1 Tryz.results105,rfl,(hB.trans hC4)⟩

abbrev impl_inRange_post (w:World) (x:(Bool)) (e:Ending) (w':World):Prop:=e = .returned (.bool x)∧Chg [] w w'
abbrev impl_inRange_T (w:World):=Tm Tryz.prog Tryz.f81 15 (impl_inRange_post w)
theorem impl_inRange_calls {w:World} {x0:Int} {x1:Int} {x2:Int}  {y:(Bool)} (hm:impl_inRange x0 x1 x2=some y) :
  Calls Tryz.prog 81 #[.int .i64 (x0),.int .i64 (x1),.int .i64 (x2)] w (impl_inRange_post w y):=by
 refine Cm (S:=Unit) Tryz.func81 rfl Tryz.ntmps81 rfl hm fun o ho hB=>?_
 clear hm
 refine wq <| Wq rfl (cr [] w) <| Qa (Ab rfl) <| fun wd1 hC2=>anz <| wq <| Wq rfl hC2 <| ?_
 obtain ⟨g3,hm4,ho⟩:=bs ho
 refine QL.meet (fun r=>∃ F,r=updL F [(6,.bool (g3))]) ?_ ?_
 skip
 refine Qa (Mi rfl) <| Qa (Mi rfl) <| Qa (Bh rfl rfl) <| Qa (Mb rfl) <| ?_
 rcases Bool.eq_false_or_eq_true (decide (x0 ≥ x1)) with hb5 | hb5
 rw [hb5] at hm4
 refine Qg rfl hb5 (Mi rfl) <| Qg rfl hb5 (Mi rfl) <| Qg rfl hb5 (Bk rfl rfl) <| Qa (PTb rfl hb5 rfl) <| Qa (Ab rfl) <| ?_
 cases hm4
 exact fe rfl
 rw [hb5] at hm4
 refine Sk rfl hb5 rfl <| Sk rfl hb5 rfl <| Sk rfl hb5 rfl <| Qa (PFb rfl hb5 rfl) <| Qa (Ab rfl) <| ?_
 cases hm4
 exact fe rfl
 rintro _ ⟨F,rfl⟩
 refine fun wd6 hC7=>anz <| ?_
 cases ho
 exact W_ret ⟨_,res_1 Tryz.results81,rfl,(hB.trans hC7)⟩

abbrev impl_within_post (w:World) (x:(Bool)) (e:Ending) (w':World):Prop:=e = .returned (.bool x)∧Chg [] w w'
abbrev impl_within_T (w:World):=Tm Tryz.prog Tryz.f147 19 (impl_within_post w)
theorem impl_within_calls {w:World} {x0:(List Int)} {v_x0:Value} {f_x0:List Nat} {x1:Int} (h_x0:(sImm (sInt .i64)).rep w.heap [v_x0] x0 f_x0) {y:(Bool)} (hm:impl_within x0 x1=some y) :
  Calls Tryz.prog 147 #[v_x0,.int .i64 (x1)] w (impl_within_post w y):=by
 refine Cm (S:=Unit) Tryz.func147 rfl Tryz.ntmps147 rfl hm fun o ho hB=>?_
 clear hm
 refine wq <| Wq rfl (cr [] w) <| Qa (Ab rfl) <| fun wd1 hC2=>anz <| wq <| wq <| Wq rfl hC2 <| Qa (Mv v_x0 rfl) <| Qa (Ln sl22 (kB h_x0 hB) rfl) <| Qa (Mi rfl) <| fun wd3 hC4=>anz <| Wf (S1:=Int) (fun (s0_9:Int) r w'=>Chg [] w w'∧∃ F,r=updL F [(1,.int .i64 (x1)),(7,v_x0),(8,.int .i64 ((x0.length:Int))),(9,.int .i64 (s0_9))]) (impl_within_T w) ho ⟨(hB.trans hC4),fe rfl⟩ ?_ ?_
 rintro s0_9 _ wd5 ⟨hB,F,rfl⟩ o ho
 replace ho:impl_within_L0 x0 x1 s0_9=some o:=ho
 unfold impl_within_L0 at ho
 refine wq <| Wq rfl (cr [] wd5) <| Qa (Bl rfl rfl) <| fun wd6 hC7=>anz <| wq <| W_cond (b:=decide (s0_9 < (x0.length:Int))) rfl ?_ ?_
 intro hb8
 rw [hb8] at ho
 refine W_skip <| anz <| wq <| W_block <| wq <| Wq rfl hC7 <| ?_
 obtain ⟨e9,hx10e,ho⟩:=bs ho
 have hx10:=idx_some hx10e
 refine Qa (Ix sl22 (kB h_x0 hB) hx10 rfl rfl rfl) <| Qa (Ei na2 (kB h_x0 hB) hx10 rfl) <| Qa (Ai rfl) <| fun p6v p4t=>anz <| wq <| Wq rfl p4t <| Qa (Mi rfl) <| Qa (Mi rfl) <| Qa (Bs rfl rfl) <| ?_
 obtain ⟨y13,p4u,ho⟩:=bs ho
 refine Qc Tryz.func81 rfl rfl (fun _ hC=>impl_inRange_calls  p4u) <| Qa (Nt rfl) <| fun k0 q7=>anz <| W_cond (b:=!(y13)) rfl ?_ ?_
 intro nx
 rw [nx] at ho
 refine wq <| Wq rfl q7 <| Qa (Ab rfl) <| fun p1n jy=>anz <| ?_
 cases ho
 exact W_ret ⟨_,res_1 Tryz.results147,rfl,(hB.trans jy)⟩
 intro nx
 rw [nx] at ho
 refine W_skip <| inBlk_n <| anz <| Wq rfl q7 <| Qa (Ba rfl rfl) <| Qa (Mi rfl) <| fun p3n jc=>?_
 cases ho
 exact ⟨(hB.trans jc),fe rfl⟩
 intro hb8
 rw [hb8] at ho
 refine W_exit <| andThen_x <| ?_
 cases ho
 exact ⟨rfl,⟨(hB.trans hC7),fe rfl⟩⟩
 rintro s0_9 _ jh ⟨hB,F,rfl⟩ ho
 refine anz <| wq <| Wq rfl (cr [] jh) <| Qa (Ab rfl) <| fun p1p kg=>anz <| ?_
 cases ho
 exact W_ret ⟨_,res_1 Tryz.results147,rfl,(hB.trans kg)⟩

abbrev impl_Category_ends_post (w:World) (x:(MEnds)) (e:Ending) (w':World):Prop:=e = .returned (.agg #[.int .i64 x.From,.int .i64 x.To])∧Chg [] w w'
abbrev impl_Category_ends_T (w:World):=Tm Tryz.prog Tryz.f212 20 (impl_Category_ends_post w)
theorem impl_Category_ends_calls {w:World} {x0:MCategory} {p_x0:Addr} {z2:Value} {zd:List Nat} {z1:Value} {ze:List Nat} {z8:Value} {zf:List Nat} {z7:Value} {zg:List Nat} {x1:Int} (z6:(sImm (sInt .i64)).rep w.heap [z2] x0.From zd) (za:(sImm (sInt .i64)).rep w.heap [z1] x0.To ze) (zc:(sImm (sInt .i64)).rep w.heap [z8] x0.Identity zf) (zb:(sImm (sImm (sInt .i64))).rep w.heap [z7] x0.Composites zg) (a_x0:At w p_x0 [.int .i64 (x0.Objects),z2,z1,z8,z7]) {y:(MEnds)} (hm:impl_Category_ends x0 x1=some y) :
  Calls Tryz.prog 212 #[.pointer (some (p_x0)),.int .i64 (x1)] w (impl_Category_ends_post w y):=by
 refine Cm (S:=Unit) Tryz.func212 rfl Tryz.ntmps212 rfl hm fun o ho hB=>?_
 clear hm
 refine wq <| W_region rfl <| WL.alloc info238 zr238 fun b1 wd2 hC3 hr4 hl5=>?_
 replace hr4:Row wd2 b1 [.int .i64 ((0:Int)),.int .i64 ((0:Int))] 238:=hr4
 have lo6:w.heap.size≤b1:=Nat.le_trans hB.size hl5
 replace hB:=(hB.trans hC3)
 refine anz <| wq <| ?_
 obtain ⟨e8,hx9e,ho⟩:=bs ho
 have hx9:=idx_some hx9e
 obtain ⟨e10,hx11e,ho⟩:=bs ho
 have hx11:=idx_some hx11e
 refine W_any (m:=14) (U:=.replicate 14 []) (S:=[sV (.pointer (some (p_x0))),sV (.pointer (some (p_x0))),sV (.pointer (some (p_x0.add 1))),sV (z2),sV (.int .i64 (x1)),sV (.pointer (some (elA (z2) 1 (x1)))),sV (.int .i64 (e8)),sV (.pointer (some (p_x0))),sV (.pointer (some (p_x0))),sV (.pointer (some (p_x0.add 2))),sV (z1),sV (.int .i64 (x1)),sV (.pointer (some (elA (z1) 1 (x1)))),sV (.int .i64 (e10))]) (Z:=[]) hmix rfl (by decide) (by decide +kernel) (fun _ _ _ h=>np_out h) (by decide) rfl (by decide +kernel) (stable_all (by repeat first | exact stable_nil | refine stable_cons stable_val ?_ | refine stable_cons stable_own ?_)) ?_ ?_
 refine owes_cons ?_ <| owes_cons ?_ <| owes_cons ?_ <| owes_cons ?_ <| owes_cons ?_ <| owes_cons ?_ <| owes_cons ?_ <| owes_cons ?_ <| owes_cons ?_ <| owes_cons ?_ <| owes_cons ?_ <| owes_cons ?_ <| owes_cons ?_ <| owes_cons ?_ <| owes_nil
 exact Oh rfl rfl rfl [(0,.pointer (some (p_x0)))] (cr [] wd2) rfl rfl fun _=>Mp rfl
 exact Ov rfl rfl rfl [] [(5,.pointer (some (p_x0)))] [0] (cr [] wd2) rfl rfl (by decide +kernel) rfl fun _=>Nk rfl
 exact Ov rfl rfl rfl [] [(6,.pointer (some (p_x0)))] [1] (cr [] wd2) rfl rfl (by decide +kernel) rfl fun _=>Fp fa32_1 rfl
 exact Ov rfl rfl rfl [] [(7,.pointer (some (p_x0.add 1)))] [2] (cr [] wd2) rfl rfl (by decide +kernel) rfl fun _=>La na22 (At.keep0 a_x0 hB) rfl rfl
 exact Oh rfl rfl rfl [(1,.int .i64 (x1))] (cr [] wd2) rfl rfl fun _=>Mi rfl
 exact Ov rfl rfl rfl [] [(8,z2),(9,.int .i64 (x1))] [3,4] (cr [] wd2) rfl rfl (by decide +kernel) rfl fun _=>Ix sl22 (kB z6 hB) hx9 rfl rfl rfl
 exact Ov rfl rfl rfl [] [(10,.pointer (some (elA (z2) 1 (x1))))] [5] (cr [] wd2) rfl rfl (by decide +kernel) rfl fun _=>Ei na2 (kB z6 hB) hx9 rfl
 exact Oh rfl rfl rfl [(0,.pointer (some (p_x0)))] (cr [] wd2) rfl rfl fun _=>Mp rfl
 exact Ov rfl rfl rfl [] [(12,.pointer (some (p_x0)))] [7] (cr [] wd2) rfl rfl (by decide +kernel) rfl fun _=>Nk rfl
 exact Ov rfl rfl rfl [] [(13,.pointer (some (p_x0)))] [8] (cr [] wd2) rfl rfl (by decide +kernel) rfl fun _=>Fp fa32_2 rfl
 exact Ov rfl rfl rfl [] [(14,.pointer (some (p_x0.add 2)))] [9] (cr [] wd2) rfl rfl (by decide +kernel) rfl fun _=>La na22 (At.keep0 a_x0 hB) rfl rfl
 exact Oh rfl rfl rfl [(1,.int .i64 (x1))] (cr [] wd2) rfl rfl fun _=>Mi rfl
 exact Ov rfl rfl rfl [] [(15,z1),(16,.int .i64 (x1))] [10,11] (cr [] wd2) rfl rfl (by decide +kernel) rfl fun _=>Ix sl22 (kB za hB) hx11 rfl rfl rfl
 exact Ov rfl rfl rfl [] [(17,.pointer (some (elA (z1) 1 (x1))))] [12] (cr [] wd2) rfl rfl (by decide +kernel) rfl fun _=>Ei na2 (kB za hB) hx11 rfl
 rintro g r p4v ⟨k7,hdone,hot,hfresh,hdis⟩
 have hdd:=hdis
 obtain ⟨F,rfl⟩:=fw hdone hot [(4,.pointer (some (⟨b1,0,none⟩)))] [(11,.int .i64 (e8)),(18,.int .i64 (e10))] [6,13] rfl rfl rfl rfl (z:=[]) trivial
 replace hr4:=kr hr4 k7
 replace hB:=(hB.trans k7)
 refine Wb (Bu (bld238_0_1 rfl rfl)) <| WL.storeAll (us:=[.int .i64 (e8),.int .i64 (e10)]) info238 (by rw [sz238]; rfl) hr4 rfl rfl rfl (by intro u hu; simp only [List.mem_cons,List.mem_nil_iff,or_false] at hu; rcases hu with rfl | rfl <;> first | exact rfl) fun k0 q7 ny=>?_
 replace ny:Row k0 b1 [.int .i64 (e8),.int .i64 (e10)] 238:=ny
 replace hB:=hB.then q7 (one_then lo6)
 refine anz <| ?_
 cases ho
 exact W_ret ⟨_,res_c Tryz.results212 Tryz.underlying238 rfl info238 (by rw [sz238]; rfl) rfl ny.at,rfl,hB⟩

abbrev impl_Category_isShape_post (w:World) (x:(Bool)) (e:Ending) (w':World):Prop:=e = .returned (.bool x)∧Chg [] w w'
abbrev impl_Category_isShape_T (w:World):=Tm Tryz.prog Tryz.f162 167 (impl_Category_isShape_post w)
theorem impl_Category_isShape_calls {w:World} {x0:MCategory} {p_x0:Addr} {z2:Value} {zd:List Nat} {z1:Value} {ze:List Nat} {z8:Value} {zf:List Nat} {z7:Value} {zg:List Nat} (z6:(sImm (sInt .i64)).rep w.heap [z2] x0.From zd) (za:(sImm (sInt .i64)).rep w.heap [z1] x0.To ze) (zc:(sImm (sInt .i64)).rep w.heap [z8] x0.Identity zf) (zb:(sImm (sImm (sInt .i64))).rep w.heap [z7] x0.Composites zg) (a_x0:At w p_x0 [.int .i64 (x0.Objects),z2,z1,z8,z7]) {y:(Bool)} (hm:impl_Category_isShape x0=some y) :
  Calls Tryz.prog 162 #[.pointer (some (p_x0))] w (impl_Category_isShape_post w y):=by
 refine Cm (S:=Unit) Tryz.func162 rfl Tryz.ntmps162 rfl hm fun o ho hB=>?_
 clear hm
 refine wq <| Wq rfl (cr [] w) <| Qa (Ab rfl) <| fun wd1 hC2=>anz <| wq <| Wq rfl hC2 <| Qa (Mp rfl) <| ?_
 obtain ⟨y3,hy4,ho⟩:=bs ho
 refine Qc Tryz.func105 rfl rfl (fun _ hC=>impl_Category_arrows_calls (kp _ z6 (hB.trans hC)) (kp _ za (hB.trans hC)) (kp _ zc (hB.trans hC)) (kp _ zb (hB.trans hC)) (At.keep0 a_x0 (hB.trans hC)) hy4) <| Qa (Ai rfl) <| fun wd5 hC6=>anz <| wq <| wq <| Wqd rfl (by kernel_rfl) hC6 <| ?_
 obtain ⟨g7,hm8,ho⟩:=bs ho
 refine QL.meet (fun r=>∃ F,r=updL F [(0,.pointer (some (p_x0))),(3,.int .i64 (y3)),(54,.bool (g7))]) ?_ ?_
 skip
 refine Qa (Mp rfl) <| Qa (Nk rfl) <| Qa (F0 fa32_0 rfl) <| Qa (Lb na2 (At.keep0 a_x0 hB) rfl rfl) <| ?_
 obtain ⟨y9,p4w,hm8⟩:=bs hm8
 refine Qc Tryz.func81 rfl rfl (fun _ hC=>impl_inRange_calls  p4w) <| Qa (Nt rfl) <| Qa (Mb rfl) <| ?_
 rcases Bool.eq_false_or_eq_true (!(y9)) with qk | qk
 rw [qk] at hm8
 refine Sk rfl qk rfl <| Sk rfl qk rfl <| Qa (PTb rfl qk rfl) <| Qa (Mb rfl) <| Sk rfl rfl rfl <| Sk rfl rfl rfl <| Sk rfl rfl rfl <| Sk rfl rfl rfl <| Sk rfl rfl rfl <| Sk rfl rfl rfl <| Sk rfl rfl rfl <| Qa (PTb rfl rfl rfl) <| Qa (Mb rfl) <| Sk rfl rfl rfl <| Sk rfl rfl rfl <| Sk rfl rfl rfl <| ?_
 refine Sk rfl rfl rfl <| Sk rfl rfl rfl <| Sk rfl rfl rfl <| Sk rfl rfl rfl <| Sk rfl rfl rfl <| Sk rfl rfl rfl <| Sk rfl rfl rfl <| Qa (PTb rfl rfl rfl) <| Qa (Mb rfl) <| Sk rfl rfl rfl <| Sk rfl rfl rfl <| Sk rfl rfl rfl <| Sk rfl rfl rfl <| Sk rfl rfl rfl <| Sk rfl rfl rfl <| Sk rfl rfl rfl <| ?_
 refine Sk rfl rfl rfl <| Sk rfl rfl rfl <| Sk rfl rfl rfl <| Qa (PTb rfl rfl rfl) <| ?_
 cases hm8
 exact fe rfl
 rw [qk] at hm8
 refine Qg rfl qk (Mi rfl) <| Qg rfl qk (Bg rfl rfl) <| Qa (PFb rfl qk rfl) <| Qa (Mb rfl) <| ?_
 rcases Bool.eq_false_or_eq_true (decide (y3 > (40:Int))) with po | po
 rw [po] at hm8
 refine Sk rfl po rfl <| Sk rfl po rfl <| Sk rfl po rfl <| Sk rfl po rfl <| Sk rfl po rfl <| Sk rfl po rfl <| Sk rfl po rfl <| Qa (PTb rfl po rfl) <| Qa (Mb rfl) <| Sk rfl rfl rfl <| Sk rfl rfl rfl <| Sk rfl rfl rfl <| Sk rfl rfl rfl <| Sk rfl rfl rfl <| Sk rfl rfl rfl <| Sk rfl rfl rfl <| ?_
 refine Sk rfl rfl rfl <| Sk rfl rfl rfl <| Sk rfl rfl rfl <| Qa (PTb rfl rfl rfl) <| Qa (Mb rfl) <| Sk rfl rfl rfl <| Sk rfl rfl rfl <| Sk rfl rfl rfl <| Sk rfl rfl rfl <| Sk rfl rfl rfl <| Sk rfl rfl rfl <| Sk rfl rfl rfl <| Sk rfl rfl rfl <| Sk rfl rfl rfl <| Sk rfl rfl rfl <| Qa (PTb rfl rfl rfl) <| ?_
 cases hm8
 exact fe rfl
 rw [po] at hm8
 refine Qg rfl po (Mp rfl) <| Qg rfl po (Nk rfl) <| Qg rfl po (Fp fa32_2 rfl) <| Qg rfl po (La na22 (At.keep0 a_x0 hB) rfl rfl) <| Qg rfl po (Ln sl22 (kB za hB) rfl) <| Qg rfl po (Mi rfl) <| Qg rfl po (Bn rfl rfl) <| Qa (PFb rfl po rfl) <| Qa (Mb rfl) <| ?_
 rcases Bool.eq_false_or_eq_true (((x0.To.length:Int)) != y3) with pb | pb
 rw [pb] at hm8
 refine Sk rfl pb rfl <| Sk rfl pb rfl <| Sk rfl pb rfl <| Sk rfl pb rfl <| Sk rfl pb rfl <| Sk rfl pb rfl <| Sk rfl pb rfl <| Sk rfl pb rfl <| Sk rfl pb rfl <| Sk rfl pb rfl <| Qa (PTb rfl pb rfl) <| Qa (Mb rfl) <| Sk rfl rfl rfl <| Sk rfl rfl rfl <| Sk rfl rfl rfl <| Sk rfl rfl rfl <| ?_
 refine Sk rfl rfl rfl <| Sk rfl rfl rfl <| Sk rfl rfl rfl <| Sk rfl rfl rfl <| Sk rfl rfl rfl <| Sk rfl rfl rfl <| Qa (PTb rfl rfl rfl) <| ?_
 cases hm8
 exact fe rfl
 rw [pb] at hm8
 refine Qg rfl pb (Mp rfl) <| Qg rfl pb (Nk rfl) <| Qg rfl pb (Fp fa32_1 rfl) <| Qg rfl pb (La na22 (At.keep0 a_x0 hB) rfl rfl) <| Qg rfl pb (Mp rfl) <| Qg rfl pb (Nk rfl) <| Qg rfl pb (F0 fa32_0 rfl) <| Qg rfl pb (Lb na2 (At.keep0 a_x0 hB) rfl rfl) <| ?_
 obtain ⟨y14,p4x,hm8⟩:=bs hm8
 refine Qcg rfl pb Tryz.func147 rfl rfl (fun _ hC=>impl_within_calls (kp _ z6 (hB.trans hC)) p4x) <| Qg rfl pb (Nt rfl) <| Qa (PFb rfl pb rfl) <| Qa (Mb rfl) <| ?_
 rcases Bool.eq_false_or_eq_true (!(y14)) with pc | pc
 rw [pc] at hm8
 refine Sk rfl pc rfl <| Sk rfl pc rfl <| Sk rfl pc rfl <| Sk rfl pc rfl <| Sk rfl pc rfl <| Sk rfl pc rfl <| Sk rfl pc rfl <| Sk rfl pc rfl <| Sk rfl pc rfl <| Sk rfl pc rfl <| Qa (PTb rfl pc rfl) <| ?_
 cases hm8
 exact fe rfl
 rw [pc] at hm8
 refine Qg rfl pc (Mp rfl) <| Qg rfl pc (Nk rfl) <| Qg rfl pc (Fp fa32_2 rfl) <| Qg rfl pc (La na22 (At.keep0 a_x0 hB) rfl rfl) <| Qg rfl pc (Mp rfl) <| Qg rfl pc (Nk rfl) <| Qg rfl pc (F0 fa32_0 rfl) <| Qg rfl pc (Lb na2 (At.keep0 a_x0 hB) rfl rfl) <| ?_
 obtain ⟨y17,p4y,hm8⟩:=bs hm8
 refine Qcg rfl pc Tryz.func147 rfl rfl (fun _ hC=>impl_within_calls (kp _ za (hB.trans hC)) p4y) <| Qg rfl pc (Nt rfl) <| Qa (PFb rfl pc rfl) <| ?_
 cases hm8
 exact fe rfl
 rintro _ ⟨F,rfl⟩
 refine fun p0g p0z=>anz <| W_cond (b:=g7) rfl ?_ ?_
 intro nz
 rw [nz] at ho
 refine wq <| Wq rfl p0z <| Qa (Ab rfl) <| fun jh pd=>anz <| ?_
 cases ho
 exact W_ret ⟨_,res_1 Tryz.results162,rfl,(hB.trans pd)⟩
 intro nz
 rw [nz] at ho
 refine W_skip <| anz <| wq <| wq <| Wqd rfl (by kernel_rfl) p0z <| ?_
 obtain ⟨g24,hm25,ho⟩:=bs ho
 refine QL.meet (fun r=>∃ F,r=updL F [(0,.pointer (some (p_x0))),(3,.int .i64 (y3)),(82,.bool (g24))]) ?_ ?_
 skip
 refine Qa (Mp rfl) <| Qa (Nk rfl) <| Qa (Fp fa32_3 rfl) <| Qa (La na22 (At.keep0 a_x0 hB) rfl rfl) <| Qa (Ln sl22 (kB zc hB) rfl) <| Qa (Mp rfl) <| Qa (Nk rfl) <| Qa (F0 fa32_0 rfl) <| Qa (Lb na2 (At.keep0 a_x0 hB) rfl rfl) <| Qa (Bn rfl rfl) <| Qa (Mb rfl) <| ?_
 rcases Bool.eq_false_or_eq_true (((x0.Identity.length:Int)) != (x0.Objects)) with pp | pp
 rw [pp] at hm25
 refine Sk rfl pp rfl <| Sk rfl pp rfl <| Sk rfl pp rfl <| Sk rfl pp rfl <| Sk rfl pp rfl <| Sk rfl pp rfl <| Sk rfl pp rfl <| Qa (PTb rfl pp rfl) <| Qa (Mb rfl) <| Sk rfl rfl rfl <| Sk rfl rfl rfl <| Sk rfl rfl rfl <| Sk rfl rfl rfl <| Sk rfl rfl rfl <| Sk rfl rfl rfl <| Sk rfl rfl rfl <| ?_
 refine Qa (PTb rfl rfl rfl) <| ?_
 cases hm25
 exact fe rfl
 rw [pp] at hm25
 refine Qg rfl pp (Mp rfl) <| Qg rfl pp (Nk rfl) <| Qg rfl pp (Fp fa32_3 rfl) <| Qg rfl pp (La na22 (At.keep0 a_x0 hB) rfl rfl) <| Qg rfl pp (Mi rfl) <| ?_
 obtain ⟨y27,p4z,hm25⟩:=bs hm25
 refine Qcg rfl pp Tryz.func147 rfl rfl (fun _ hC=>impl_within_calls (kp _ zc (hB.trans hC)) p4z) <| Qg rfl pp (Nt rfl) <| Qa (PFb rfl pp rfl) <| Qa (Mb rfl) <| ?_
 rcases Bool.eq_false_or_eq_true (!(y27)) with pe | pe
 rw [pe] at hm25
 refine Sk rfl pe rfl <| Sk rfl pe rfl <| Sk rfl pe rfl <| Sk rfl pe rfl <| Sk rfl pe rfl <| Sk rfl pe rfl <| Sk rfl pe rfl <| Qa (PTb rfl pe rfl) <| ?_
 cases hm25
 exact fe rfl
 rw [pe] at hm25
 refine Qg rfl pe (Mp rfl) <| Qg rfl pe (Nk rfl) <| Qg rfl pe (Fp fa32_4 rfl) <| Qg rfl pe (La na23 (At.keep0 a_x0 hB) rfl rfl) <| Qg rfl pe (Ln sl23 (kB zb hB) rfl) <| Qg rfl pe (Mi rfl) <| Qg rfl pe (Bn rfl rfl) <| Qa (PFb rfl pe rfl) <| ?_
 cases hm25
 exact fe rfl
 rintro _ ⟨F,rfl⟩
 refine fun p6w p10=>anz <| W_cond (b:=g24) rfl ?_ ?_
 intro g0
 rw [g0] at ho
 refine wq <| Wq rfl p10 <| Qa (Ab rfl) <| fun p6x p50=>anz <| ?_
 cases ho
 exact W_ret ⟨_,res_1 Tryz.results162,rfl,(hB.trans p50)⟩
 intro g0
 rw [g0] at ho
 refine W_skip <| anz <| wq <| wq <| Wq rfl p10 <| Qa (Mp rfl) <| Qa (Nk rfl) <| Qa (Fp fa32_3 rfl) <| Qa (La na22 (At.keep0 a_x0 hB) rfl rfl) <| Qa (Ln sl22 (kB zc hB) rfl) <| Qa (Mi rfl) <| fun gk p51=>anz <| Wf (S1:=Int) (fun (s0_88:Int) r w'=>Chg [] w w'∧∃ F,r=updL F [(0,.pointer (some (p_x0))),(3,.int .i64 (y3)),(86,z8),(87,.int .i64 ((x0.Identity.length:Int))),(88,.int .i64 (s0_88))]) (impl_Category_isShape_T w) ho ⟨(hB.trans p51),fe rfl⟩ ?_ ?_
 rintro s0_88 _ gs ⟨hB,F,rfl⟩ o ho
 replace ho:impl_Category_isShape_L0 x0 s0_88=some o:=ho
 unfold impl_Category_isShape_L0 at ho
 refine wq <| Wq rfl (cr [] gs) <| Qa (Bl rfl rfl) <| fun p6y p11=>anz <| wq <| W_cond (b:=decide (s0_88 < (x0.Identity.length:Int))) rfl ?_ ?_
 intro g1
 rw [g1] at ho
 refine W_skip <| anz <| wq <| W_block <| wq <| Wq rfl p11 <| Qa (Mi rfl) <| ?_
 obtain ⟨e41,hx42e,ho⟩:=bs ho
 have hx42:=idx_some hx42e
 refine Qa (Ix sl22 (kB zc hB) hx42 rfl rfl rfl) <| Qa (Ei na2 (kB zc hB) hx42 rfl) <| Qa (Ai rfl) <| Qa (Ai rfl) <| fun p6z p52=>anz <| wq <| Wq rfl p52 <| Qa (Mp rfl) <| Qa (Mi rfl) <| ?_
 obtain ⟨y45,p53,ho⟩:=bs ho
 refine Qc Tryz.func212 rfl rfl (fun _ hC=>impl_Category_ends_calls (kp _ z6 (hB.trans hC)) (kp _ za (hB.trans hC)) (kp _ zc (hB.trans hC)) (kp _ zb (hB.trans hC)) (At.keep0 a_x0 (hB.trans hC)) p53) <| Qa (Mi rfl) <| Qa (Mi rfl) <| Qa (Bu (bld238_0_1 rfl rfl)) <| qv (v:=.bool (!((y45.From) == (s0_88) && (y45.To) == (s0_88)))) rfl (fun _ _=>op_neqS2 eqs238.1 eqs238.2.1 eqs238.2.2.1 (by kernel_rfl) (by kernel_rfl) rfl rfl eqs238.2.2.2.1 eqs238.2.2.2.2 rfl rfl) <| fun gl p12=>anz <| W_cond (b:=!((y45.From) == (s0_88) && (y45.To) == (s0_88))) rfl ?_ ?_
 intro g2
 rw [g2] at ho
 refine wq <| Wq rfl p12 <| Qa (Ab rfl) <| fun p70 p54=>anz <| ?_
 cases ho
 exact W_ret ⟨_,res_1 Tryz.results162,rfl,(hB.trans p54)⟩
 intro g2
 rw [g2] at ho
 refine W_skip <| inBlk_n <| anz <| Wq rfl p12 <| Qa (Ba rfl rfl) <| Qa (Mi rfl) <| fun p0u jd=>?_
 cases ho
 exact ⟨(hB.trans jd),fe rfl⟩
 intro g1
 rw [g1] at ho
 refine W_exit <| andThen_x <| ?_
 cases ho
 exact ⟨rfl,⟨(hB.trans p11),fe rfl⟩⟩
 rintro s0_88 _ p0a ⟨hB,F,rfl⟩ ho
 refine anz <| wq <| wq <| Wq rfl (cr [] p0a) <| Qa (Mp rfl) <| Qa (Nk rfl) <| Qa (Fp fa32_4 rfl) <| Qa (La na23 (At.keep0 a_x0 hB) rfl rfl) <| Qa (Ln sl23 (kB zb hB) rfl) <| Qa (Mi rfl) <| fun p1w pj=>anz <| Wf (S1:=Int) (fun (s1_106:Int) r w'=>Chg [] w w'∧∃ F,r=updL F [(0,.pointer (some (p_x0))),(3,.int .i64 (y3)),(104,z7),(105,.int .i64 ((x0.Composites.length:Int))),(106,.int .i64 (s1_106))]) (impl_Category_isShape_T w) ho ⟨(hB.trans pj),fe rfl⟩ ?_ ?_
 rintro s1_106 _ p0c ⟨hB,F,rfl⟩ o ho
 replace ho:impl_Category_isShape_L1 x0 y3 s1_106=some o:=ho
 unfold impl_Category_isShape_L1 at ho
 refine wq <| Wq rfl (cr [] p0c) <| Qa (Bl rfl rfl) <| fun p71 p13=>anz <| wq <| W_cond (b:=decide (s1_106 < (x0.Composites.length:Int))) rfl ?_ ?_
 intro g4
 rw [g4] at ho
 refine W_skip <| anz <| wq <| W_block <| wq <| Wq rfl p13 <| Qa (Mi rfl) <| ?_
 obtain ⟨e61,hx62e,ho⟩:=bs ho
 have hx62:=idx_some hx62e
 refine Qa (Ix sl23 (kB zb hB) hx62 rfl rfl rfl) <| ?_
 obtain ⟨u63,fu64,hu65,k8,hs67⟩:=one_get rfl zb hx62.1 hx62.2
 refine Qa (Ld na22 (hB.cell0 hu65) rfl) <| Qa (Ai rfl) <| Qa (Av u63 rfl) <| fun qu kb=>anz <| wq <| wq <| Wq rfl kb <| Qa (Mv u63 rfl) <| Qa (Ln sl22 (kB k8 hB) rfl) <| Qa (Mi rfl) <| Qa (Bn rfl rfl) <| fun p72 p14=>anz <| W_cond (b:=((e61.length:Int)) != (y3)) rfl ?_ ?_
 intro g5
 rw [g5] at ho
 refine wq <| Wq rfl p14 <| Qa (Ab rfl) <| fun p4k jw=>anz <| ?_
 cases ho
 exact W_ret ⟨_,res_1 Tryz.results162,rfl,(hB.trans jw)⟩
 intro g5
 rw [g5] at ho
 refine W_skip <| anz <| wq <| Wq rfl p14 <| Qa (Mv u63 rfl) <| Qa (Ln sl22 (kB k8 hB) rfl) <| Qa (Mi rfl) <| fun p0v p55=>anz <| Wf (S1:=Int) (fun (s2_117:Int) r w'=>Chg [] w w'∧∃ F,r=updL F [(0,.pointer (some (p_x0))),(3,.int .i64 (y3)),(6,.int .i64 (s1_106)),(104,z7),(105,.int .i64 ((x0.Composites.length:Int))),(106,.int .i64 (s1_106)),(115,u63),(116,.int .i64 ((e61.length:Int))),(117,.int .i64 (s2_117))]) (impl_Category_isShape_T w) ho ⟨(hB.trans p55),fe rfl⟩ ?_ ?_
 rintro s2_117 _ p0j ⟨hB,F,rfl⟩ o ho
 replace ho:impl_Category_isShape_L2 x0 y3 s1_106 e61 s2_117=some o:=ho
 unfold impl_Category_isShape_L2 at ho
 refine wq <| Wq rfl (cr [] p0j) <| Qa (Bl rfl rfl) <| fun p4m jx=>anz <| wq <| W_cond (b:=decide (s2_117 < (e61.length:Int))) rfl ?_ ?_
 intro g6
 rw [g6] at ho
 refine W_skip <| anz <| wq <| W_block <| wq <| Wq rfl jx <| Qa (Mi rfl) <| ?_
 obtain ⟨e81,hx82e,ho⟩:=bs ho
 have hx82:=idx_some hx82e
 refine Qa (Ix sl22 (kB k8 hB) hx82 rfl rfl rfl) <| Qa (Ei na2 (kB k8 hB) hx82 rfl) <| Qa (Ai rfl) <| Qa (Ai rfl) <| fun p73 p56=>anz <| wq <| wq <| Wqd rfl (by kernel_rfl) p56 <| Qa (Mp rfl) <| Qa (Nk rfl) <| Qa (Fp fa32_2 rfl) <| Qa (La na22 (At.keep0 a_x0 hB) rfl rfl) <| Qa (Mi rfl) <| ?_
 obtain ⟨e85,hx86e,ho⟩:=bs ho
 have hx86:=idx_some hx86e
 refine Qa (Ix sl22 (kB za hB) hx86 rfl rfl rfl) <| Qa (Ei na2 (kB za hB) hx86 rfl) <| Qa (Mp rfl) <| Qa (Nk rfl) <| Qa (Fp fa32_1 rfl) <| Qa (La na22 (At.keep0 a_x0 hB) rfl rfl) <| Qa (Mi rfl) <| ?_
 obtain ⟨e87,hx88e,ho⟩:=bs ho
 have hx88:=idx_some hx88e
 refine Qa (Ix sl22 (kB z6 hB) hx88 rfl rfl rfl) <| Qa (Ei na2 (kB z6 hB) hx88 rfl) <| Qa (Bn rfl rfl) <| fun nb pz=>anz <| W_cond (b:=(e85) != (e87)) rfl ?_ ?_
 intro qz
 rw [qz] at ho
 refine wq <| wq <| Wq rfl pz <| Qa (Mi rfl) <| Qa (Bn rfl rfl) <| fun gn qa=>anz <| W_cond (b:=(e81) != ((-1:Int))) rfl ?_ ?_
 intro g8
 rw [g8] at ho
 refine wq <| Wq rfl qa <| Qa (Ab rfl) <| fun p74 p57=>anz <| ?_
 cases ho
 exact W_ret ⟨_,res_1 Tryz.results162,rfl,(hB.trans p57)⟩
 intro g8
 rw [g8] at ho
 refine W_skip <| anz <| W_exit <| andThen_x <| inBlk_x <| anz <| Wq rfl qa <| Qa (Ba rfl rfl) <| Qa (Mi rfl) <| fun p0l p58=>?_
 cases ho
 exact ⟨(hB.trans p58),fe rfl⟩
 intro qz
 rw [qz] at ho
 refine W_skip <| anz <| wq <| Wqd rfl (by kernel_rfl) pz <| ?_
 obtain ⟨g99,hm100,ho⟩:=bs ho
 refine QL.meet (fun r=>∃ F,r=updL F [(0,.pointer (some (p_x0))),(3,.int .i64 (y3)),(6,.int .i64 (s1_106)),(104,z7),(105,.int .i64 ((x0.Composites.length:Int))),(106,.int .i64 (s1_106)),(115,u63),(116,.int .i64 ((e61.length:Int))),(117,.int .i64 (s2_117)),(164,.bool (g99))]) ?_ ?_
 skip
 refine Qa (Mi rfl) <| Qa (Mi rfl) <| Qa (Bs rfl rfl) <| ?_
 obtain ⟨y101,p59,hm100⟩:=bs hm100
 refine Qc Tryz.func81 rfl rfl (fun _ hC=>impl_inRange_calls  p59) <| Qa (Nt rfl) <| Qa (Mb rfl) <| ?_
 rcases Bool.eq_false_or_eq_true (!(y101)) with p3 | p3
 rw [p3] at hm100
 refine Sk rfl p3 rfl <| Sk rfl p3 rfl <| Sk rfl p3 rfl <| Sk rfl p3 rfl <| Sk rfl p3 rfl <| Sk rfl p3 rfl <| Sk rfl p3 rfl <| Sk rfl p3 rfl <| Sk rfl p3 rfl <| Sk rfl p3 rfl <| Sk rfl p3 rfl <| Sk rfl p3 rfl <| Sk rfl p3 rfl <| Sk rfl p3 rfl <| Sk rfl p3 rfl <| Sk rfl p3 rfl <| ?_
 refine Sk rfl p3 rfl <| Sk rfl p3 rfl <| Sk rfl p3 rfl <| Qa (PTb rfl p3 rfl) <| ?_
 cases hm100
 exact fe rfl
 rw [p3] at hm100
 refine Qg rfl p3 (Mp rfl) <| Qg rfl p3 (Mi rfl) <| ?_
 obtain ⟨y104,p5a,hm100⟩:=bs hm100
 refine Qcg rfl p3 Tryz.func212 rfl rfl (fun _ hC=>impl_Category_ends_calls (kp _ z6 (hB.trans hC)) (kp _ za (hB.trans hC)) (kp _ zc (hB.trans hC)) (kp _ zb (hB.trans hC)) (At.keep0 a_x0 (hB.trans hC)) p5a) <| Qg rfl p3 (Mp rfl) <| Qg rfl p3 (Nk rfl) <| Qg rfl p3 (Fp fa32_1 rfl) <| Qg rfl p3 (La na22 (At.keep0 a_x0 hB) rfl rfl) <| Qg rfl p3 (Mi rfl) <| ?_
 obtain ⟨e106,hx107e,hm100⟩:=bs hm100
 have hx107:=idx_some hx107e
 refine Qg rfl p3 (Ix sl22 (kB z6 hB) hx107 rfl rfl rfl) <| Qg rfl p3 (Ei na2 (kB z6 hB) hx107 rfl) <| Qg rfl p3 (Mp rfl) <| Qg rfl p3 (Nk rfl) <| Qg rfl p3 (Fp fa32_2 rfl) <| Qg rfl p3 (La na22 (At.keep0 a_x0 hB) rfl rfl) <| Qg rfl p3 (Mi rfl) <| ?_
 obtain ⟨e108,hx109e,hm100⟩:=bs hm100
 have hx109:=idx_some hx109e
 refine Qg rfl p3 (Ix sl22 (kB za hB) hx109 rfl rfl rfl) <| Qg rfl p3 (Ei na2 (kB za hB) hx109 rfl) <| Qg rfl p3 (Bu (bld238_0_1 rfl rfl)) <| QL.valG (v:=.bool (!((y104.From) == (e106) && (y104.To) == (e108)))) rfl (congrArg some p3) (fun _ _=>op_neqS2 eqs238.1 eqs238.2.1 eqs238.2.2.1 (by kernel_rfl) (by kernel_rfl) rfl rfl eqs238.2.2.2.1 eqs238.2.2.2.2 rfl rfl) <| Qa (PFb rfl p3 rfl) <| ?_
 cases hm100
 exact fe rfl
 rintro _ ⟨F,rfl⟩
 refine fun p75 p15=>anz <| W_cond (b:=g99) rfl ?_ ?_
 intro g9
 rw [g9] at ho
 refine wq <| Wq rfl p15 <| Qa (Ab rfl) <| fun p76 p5b=>anz <| ?_
 cases ho
 exact W_ret ⟨_,res_1 Tryz.results162,rfl,(hB.trans p5b)⟩
 intro g9
 rw [g9] at ho
 refine W_skip <| inBlk_n <| anz <| Wq rfl p15 <| Qa (Ba rfl rfl) <| Qa (Mi rfl) <| fun p4s nw=>?_
 cases ho
 exact ⟨(hB.trans nw),fe rfl⟩
 intro g6
 rw [g6] at ho
 refine W_exit <| andThen_x <| ?_
 cases ho
 exact ⟨rfl,⟨(hB.trans jx),fe rfl⟩⟩
 rintro s2_117 _ go ⟨hB,F,rfl⟩ ho
 refine inBlk_n <| anz <| Wq rfl (cr [] go) <| Qa (Ba rfl rfl) <| Qa (Mi rfl) <| fun p77 p5c=>?_
 cases ho
 exact ⟨(hB.trans p5c),fe rfl⟩
 intro g4
 rw [g4] at ho
 refine W_exit <| andThen_x <| ?_
 cases ho
 exact ⟨rfl,⟨(hB.trans p13),fe rfl⟩⟩
 rintro s1_106 _ gp ⟨hB,F,rfl⟩ ho
 refine anz <| wq <| Wq rfl (cr [] gp) <| Qa (Ab rfl) <| fun p78 p5d=>anz <| ?_
 cases ho
 exact W_ret ⟨_,res_1 Tryz.results162,rfl,(hB.trans p5d)⟩

abbrev impl_Category_then_post (w:World) (x:(Int)) (e:Ending) (w':World):Prop:=e = .returned (.int .i64 x)∧Chg [] w w'
abbrev impl_Category_then_T (w:World):=Tm Tryz.prog Tryz.f150 17 (impl_Category_then_post w)
theorem impl_Category_then_calls {w:World} {x0:MCategory} {p_x0:Addr} {z2:Value} {zd:List Nat} {z1:Value} {ze:List Nat} {z8:Value} {zf:List Nat} {z7:Value} {zg:List Nat} {x1:Int} {x2:Int} (z6:(sImm (sInt .i64)).rep w.heap [z2] x0.From zd) (za:(sImm (sInt .i64)).rep w.heap [z1] x0.To ze) (zc:(sImm (sInt .i64)).rep w.heap [z8] x0.Identity zf) (zb:(sImm (sImm (sInt .i64))).rep w.heap [z7] x0.Composites zg) (a_x0:At w p_x0 [.int .i64 (x0.Objects),z2,z1,z8,z7]) {y:(Int)} (hm:impl_Category_then x0 x1 x2=some y) :
  Calls Tryz.prog 150 #[.pointer (some (p_x0)),.int .i64 (x1),.int .i64 (x2)] w (impl_Category_then_post w y):=by
 refine Cm (S:=Unit) Tryz.func150 rfl Tryz.ntmps150 rfl hm fun o ho hB=>?_
 clear hm
 refine wq <| Wq rfl (cr [] w) <| Qa (Ai rfl) <| fun wd1 hC2=>anz <| wq <| Wq rfl hC2 <| Qa (Mp rfl) <| Qa (Nk rfl) <| Qa (Fp fa32_4 rfl) <| Qa (La na23 (At.keep0 a_x0 hB) rfl rfl) <| Qa (Mi rfl) <| ?_
 obtain ⟨e3,hx4e,ho⟩:=bs ho
 have hx4:=idx_some hx4e
 refine Qa (Ix sl23 (kB zb hB) hx4 rfl rfl rfl) <| ?_
 obtain ⟨u5,fu6,hu7,hr8,hs9⟩:=one_get rfl zb hx4.1 hx4.2
 refine Qa (Ld na22 (hB.cell0 hu7) rfl) <| Qa (Mi rfl) <| ?_
 obtain ⟨e10,hx11e,ho⟩:=bs ho
 have hx11:=idx_some hx11e
 refine Qa (Ix sl22 (kB hr8 hB) hx11 rfl rfl rfl) <| Qa (Ei na2 (kB hr8 hB) hx11 rfl) <| Qa (Ai rfl) <| fun p4v k7=>anz <| ?_
 cases ho
 exact W_ret ⟨_,res_1 Tryz.results150,rfl,(hB.trans k7)⟩
end Go.Proofs.YtcmckiiafgcmjaaGreat
