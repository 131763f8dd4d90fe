/- Walks, printed by a program: that a call of each function computes what its model says. No condition beside those that each theorem names. -/
import Derived.Test.YtcmckiiafgcmjaaGreatTy
import Derived.Test.YtcmckiiafgcmjaaGreatMo
import Derived.Test.YtcmckiiafgcmjaaGreatZ00
namespace Go.Proofs.YtcmckiiafgcmjaaGreat
open Go Go.Li
set_option linter.unusedVariables false
set_option maxHeartbeats 4000000
set_option maxRecDepth 100000
abbrev spec_l25Close_post (w:World) (x:((List Int))) (e:Ending) (w':World):Prop:=∃ (v0:Value) (f0:List Nat),e = .returned (v0)∧Chg [] w w'∧OE [] w.heap.size w' (sOwn 2 (sInt .i64)) [v0] x f0
abbrev spec_l25Close_T (w:World):=Tm Tryz.prog Tryz.f255 66 (spec_l25Close_post w)
theorem spec_l25Close_calls {w:World} {x0:MCategory} {z2:Value} {zf:List Nat} {z1:Value} {zg:List Nat} {z7:Value} {zh:List Nat} {z6:Value} {zi:List Nat} {x1:(List Int)} {v_x1:Value} {f_x1:List Nat} (za:(sImm (sInt .i64)).rep w.heap [z2] x0.From zf) (zb:(sImm (sInt .i64)).rep w.heap [z1] x0.To zg) (zd:(sImm (sInt .i64)).rep w.heap [z7] x0.Identity zh) (zc:(sImm (sImm (sInt .i64))).rep w.heap [z6] x0.Composites zi) (h_x1:(sImm (sInt .i64)).rep w.heap [v_x1] x1 f_x1) {y:((List Int))} (hm:spec_l25Close x0 x1=some y) :
  Calls Tryz.prog 255 #[.agg #[.int .i64 (x0.Objects),z2,z1,z7,z6],v_x1] w (spec_l25Close_post w y):=by
 refine Cm (S:=Unit) Tryz.func255 rfl Tryz.ntmps255 rfl hm fun o ho hB=>?_
 clear hm
 refine wq <| W_region rfl <| WL.box fun b1 wd2 hC3 hr4 hl5=>?_
 replace hr4:Row wd2 b1 [.int .i64 (x0.Objects),z2,z1,z7,z6] 32:=hr4
 replace hB:=(hB.trans hC3)
 refine Wb (As rfl) <| anz <| wq <| W_region rfl <| Wb (Fr fa32_1 rfl) <| Wb (Lr na22 hr4 rfl rfl) <| Wb (Ln sl22 (kB za hB) rfl) <| ?_
 obtain ⟨n8,hn9,ho⟩:=bs ho
 obtain ⟨hn9a,hn9b,hn9c⟩:=mk_some hn9
 refine WL.make (z0:=false) sBool Tryz.underlying138 info4 zr4 sz4 rfl rfl (fun _=>⟨rfl,rfl⟩) (congrArg (Value.int .i64) hn9a) (congrArg (Value.int .i64) hn9a) (by rw [by4]; exact hn9b) hn9c fun v10 p0y q3 kq p3=>?_
 have d15:=dl (ofr p3) (one_lt (Row.lt hr4))
 replace p3:=OE.low (G:=[]) p3 hB.size
 replace hr4:=kr hr4 kq
 replace hB:=(hB.trans kq)
 refine Wb (Av v10 rfl) <| anz <| wq <| wq <| Wq rfl (cr [] p0y) <| Qa (Ai rfl) <| fun p8k p10=>anz <| Wf (S1:=Int×(List Bool)) (fun s r w'=>match s with | (s0_6,s0_o14)=>Chg [] w w'∧Row w' b1 [.int .i64 (x0.Objects),z2,z1,z7,z6] 32∧OE [] w.heap.size w' (sOwn 4 sBool) [v10] (s0_o14) q3∧Dis [b1] q3∧∃ F,r=updL F [(1,v_x1),(2,.pointer (some (⟨b1,0,none⟩))),(5,v10),(6,.int .i64 (s0_6))]) (spec_l25Close_T w) ho ⟨(hB.trans p10),(kr hr4 p10),(ko p3 p10),((d15).symm),fe rfl⟩ ?_ ?_
 rintro ⟨s0_6,s0_o14⟩ _ p4d ⟨hB,hr4,p3,k8,F,rfl⟩ o ho
 replace ho:spec_l25Close_L0 x0 x1 s0_6 s0_o14=some o:=ho
 unfold spec_l25Close_L0 at ho
 refine wq <| wq <| Wq rfl (cr [] p4d) <| Qa (Mi rfl) <| Qa (Mv v_x1 rfl) <| Qa (Ln sl22 (kB h_x1 hB) rfl) <| Qa (Bl rfl rfl) <| fun g8 g9=>anz <| W_cond (b:=decide (s0_6 < (x1.length:Int))) rfl ?_ ?_
 intro p11
 rw [p11] at ho
 refine W_skip <| anz <| wq <| W_block <| wq <| Wq rfl g9 <| Qa (Ai rfl) <| fun p4e k9=>anz <| Wf (S1:=Int×(List Bool)) (fun s r w'=>match s with | (s1_7,s1_o14)=>Chg [] w w'∧Row w' b1 [.int .i64 (x0.Objects),z2,z1,z7,z6] 32∧OE [] w.heap.size w' (sOwn 4 sBool) [v10] (s1_o14) q3∧Dis [b1] q3∧∃ F,r=updL F [(1,v_x1),(2,.pointer (some (⟨b1,0,none⟩))),(5,v10),(6,.int .i64 (s0_6)),(7,.int .i64 (s1_7))]) (spec_l25Close_T w) ho ⟨(hB.trans k9),(kr hr4 k9),(ko p3 k9),(k8),fe rfl⟩ ?_ ?_
 rintro ⟨s1_7,s1_o14⟩ _ p12 ⟨hB,hr4,p3,j8,F,rfl⟩ o ho
 replace ho:spec_l25Close_L1 x0 x1 s0_6 s1_7 s1_o14=some o:=ho
 unfold spec_l25Close_L1 at ho
 refine wq <| wq <| Wq rfl (cr [] p12) <| Qa (Mi rfl) <| Qa (Fr fa32_1 rfl) <| Qa (Lr na22 hr4 rfl rfl) <| Qa (Ln sl22 (kB za hB) rfl) <| Qa (Bl rfl rfl) <| fun p8l ga=>anz <| W_cond (b:=decide (s1_7 < (x0.From.length:Int))) rfl ?_ ?_
 intro p13
 rw [p13] at ho
 refine W_skip <| anz <| wq <| W_block <| wq <| Wqd rfl (by kernel_rfl) ga <| Qa (Fr fa32_2 rfl) <| Qa (Lr na22 hr4 rfl rfl) <| Qa (Mv v_x1 rfl) <| Qa (Mi rfl) <| ?_
 obtain ⟨e31,hx32e,ho⟩:=bs ho
 have hx32:=idx_some hx32e
 refine Qa (Ix sl22 (kB h_x1 hB) hx32 rfl rfl rfl) <| Qa (Ei na2 (kB h_x1 hB) hx32 rfl) <| ?_
 obtain ⟨e33,hx34e,ho⟩:=bs ho
 have hx34:=idx_some hx34e
 refine Qa (Ix sl22 (kB zb hB) hx34 rfl rfl rfl) <| Qa (Ei na2 (kB zb hB) hx34 rfl) <| Qa (Fr fa32_1 rfl) <| Qa (Lr na22 hr4 rfl rfl) <| Qa (Mi rfl) <| ?_
 obtain ⟨e35,hx36e,ho⟩:=bs ho
 have hx36:=idx_some hx36e
 refine Qa (Ix sl22 (kB za hB) hx36 rfl rfl rfl) <| Qa (Ei na2 (kB za hB) hx36 rfl) <| Qa (Be rfl rfl) <| fun p8m j9=>anz <| W_cond (b:=(e33) == (e35)) rfl ?_ ?_
 intro p14
 rw [p14] at ho
 obtain ⟨e40,hx41e,ho⟩:=bs ho
 have hx41:=idx_some hx41e
 refine W_any (m:=7) (U:=.replicate 7 []) (S:=[sV (v10),sV (.agg #[.int .i64 (x0.Objects),z2,z1,z7,z6]),sV (v_x1),sV (.int .i64 (s0_6)),sV (.pointer (some (elA (v_x1) 1 (s0_6)))),sV (.int .i64 (e40)),sV (.int .i64 (s1_7))]) (Z:=[0]) hmix rfl (by decide) (by decide +kernel) (fun _ _ _ h=>np_out h) (by decide) rfl (by decide +kernel) (stable_all (by repeat first | exact stable_nil | refine stable_cons stable_val ?_ | refine stable_cons stable_own ?_)) ?_ ?_
 refine owes_cons ?_ <| owes_cons ?_ <| owes_cons ?_ <| owes_cons ?_ <| owes_cons ?_ <| owes_cons ?_ <| owes_cons ?_ <| owes_nil
 exact Oh rfl rfl rfl [(5,v10)] j9 rfl rfl fun _=>Mv v10 rfl
 exact Oh rfl rfl rfl [(2,.pointer (some (⟨b1,0,none⟩)))] j9 rfl rfl fun _=>Lg ag32 hr4.at rfl rfl
 exact Oh rfl rfl rfl [(1,v_x1)] j9 rfl rfl fun _=>Mv v_x1 rfl
 exact Oh rfl rfl rfl [(6,.int .i64 (s0_6))] j9 rfl rfl fun _=>Mi rfl
 exact Ov rfl rfl rfl [] [(43,v_x1),(44,.int .i64 (s0_6))] [2,3] j9 rfl rfl (by decide +kernel) rfl fun _=>Ix sl22 (kB h_x1 hB) hx41 rfl rfl rfl
 exact Ov rfl rfl rfl [] [(45,.pointer (some (elA (v_x1) 1 (s0_6))))] [4] j9 rfl rfl (by decide +kernel) rfl fun _=>Ei na2 (kB h_x1 hB) hx41 rfl
 exact Oh rfl rfl rfl [(7,.int .i64 (s1_7))] j9 rfl rfl fun _=>Mi rfl
 rintro g r p3b ⟨p15,hdone,hot,hfresh,hdis⟩
 have hdd:=hdis
 obtain ⟨F,rfl⟩:=fw hdone hot [(1,v_x1),(2,.pointer (some (⟨b1,0,none⟩))),(5,v10),(6,.int .i64 (s0_6)),(7,.int .i64 (s1_7))] [(41,v10),(42,.agg #[.int .i64 (x0.Objects),z2,z1,z7,z6]),(46,.int .i64 (e40)),(47,.int .i64 (s1_7))] [0,1,5,6] rfl rfl rfl rfl (z:=[]) trivial
 have p16:=(j9.trans p15)
 replace hr4:=kr hr4 p16
 replace p3:=ko p3 p16
 replace hB:=(hB.trans p16)
 obtain ⟨y45,p17,ho⟩:=bs ho
 refine WL.call rfl (op_callF Tryz.func142 rfl rfl) (spec_l02Then_calls (kp _ za hB) (kp _ zb hB) (kp _ zd hB) (kp _ zc hB) p17) <| ?_
 rintro _ p18 ⟨rfl,qh⟩
 refine ⟨_,rfl,?_⟩
 obtain ⟨e49,hx50e,ho⟩:=bs ho
 have hx50:=idx_some hx50e
 refine Wa qh (Ix sl138 ((Le.own (Le.refl _) 4).le p3.1) hx50 rfl rfl rfl) <| WL.storeEl (z':=true) _ _ sBool_nofp rfl info4 sz4 (ko p3 (qh)) hx50.2 rfl rfl ⟨rfl,rfl⟩ fun p4f p4g o53=>?_
 have p3c:=((qh).nil (G:=q3)).trans p4g
 replace hr4:=Row.keep hr4 p3c (j8 _ (ms rfl))
 replace hB:=hB.then p3c p3.2.2
 refine inBlk_n <| anz <| Wq rfl (cr [] p4f) <| Qa (Mi rfl) <| Qa (Ba rfl rfl) <| Qa (Ai rfl) <| fun p8n p19=>?_
 cases ho
 exact ⟨(hB.trans p19),(kr hr4 p19),(ko o53 p19),j8,fe rfl⟩
 intro p14
 rw [p14] at ho
 refine W_skip <| inBlk_n <| anz <| Wq rfl j9 <| Qa (Mi rfl) <| Qa (Ba rfl rfl) <| Qa (Ai rfl) <| fun p4i ka=>?_
 cases ho
 exact ⟨(hB.trans ka),(kr hr4 ka),(ko p3 ka),j8,fe rfl⟩
 intro p13
 rw [p13] at ho
 refine W_exit <| andThen_x <| ?_
 cases ho
 exact ⟨rfl,⟨(hB.trans ga),(kr hr4 ga),(ko p3 ga),j8,fe rfl⟩⟩
 rintro ⟨s1_7,s1_o14⟩ _ p3d ⟨hB,hr4,p3,j8,F,rfl⟩ ho
 dsimp only at ho
 refine inBlk_n <| anz <| Wq rfl (cr [] p3d) <| Qa (Mi rfl) <| Qa (Ba rfl rfl) <| Qa (Ai rfl) <| fun gb pv=>?_
 cases ho
 exact ⟨(hB.trans pv),(kr hr4 pv),(ko p3 pv),j8,fe rfl⟩
 intro p11
 rw [p11] at ho
 refine W_exit <| andThen_x <| ?_
 cases ho
 exact ⟨rfl,⟨(hB.trans g9),(kr hr4 g9),(ko p3 g9),k8,fe rfl⟩⟩
 rintro ⟨s0_6,s0_o14⟩ _ p8o ⟨hB,hr4,p3,k8,F,rfl⟩ ho
 dsimp only at ho
 refine anz <| wq <| W_region rfl <| WL.lit0 (sInt .i64) u22z info2 fun v63 p1a f65 p3e gc=>?_
 have d68:=dl (ofr gc) (sl _ p3.1)
 replace gc:=OE.low (G:=[]) gc hB.size
 replace p3:=ko p3 p3e
 replace hB:=(hB.trans p3e)
 refine Wb (Av v63 rfl) <| anz <| wq <| wq <| Wq rfl (cr [] p1a) <| Qa (Ai rfl) <| fun p4k px=>anz <| Wf (S1:=(List Int)×Int) (fun s r w'=>match s with | (s2_8,s2_9)=>∃ (v72:Value) (gd:List Nat),Chg [] w w'∧OE [] w.heap.size w' (sOwn 4 sBool) [v10] (s0_o14) q3∧OE [] w.heap.size w' (sOwn 2 (sInt .i64)) [v72] (s2_8) gd∧Dis q3 gd∧∃ F,r=updL F [(5,v10),(8,v72),(9,.int .i64 (s2_9))]) (spec_l25Close_T w) ho ⟨_,_,(hB.trans px),(ko p3 px),(ko gc px),((d68).symm),fe rfl⟩ ?_ ?_
 rintro ⟨s2_8,s2_9⟩ _ p3f ⟨v72,gd,hB,p3,pk,qi,F,rfl⟩ o ho
 replace ho:spec_l25Close_L2 s0_o14 s2_8 s2_9=some o:=ho
 unfold spec_l25Close_L2 at ho
 refine wq <| wq <| Wq rfl (cr [] p3f) <| Qa (Mi rfl) <| Qa (Mv v10 rfl) <| Qa (Ln sl138 ((Le.own (Le.refl _) 4).le p3.1) rfl) <| Qa (Bl rfl rfl) <| fun p8q ge=>anz <| W_cond (b:=decide (s2_9 < (s0_o14.length:Int))) rfl ?_ ?_
 intro p1b
 rw [p1b] at ho
 refine W_skip <| anz <| wq <| W_block <| wq <| Wq rfl ge <| Qa (Mv v10 rfl) <| Qa (Mi rfl) <| ?_
 obtain ⟨e80,hx81e,ho⟩:=bs ho
 have hx81:=idx_some hx81e
 refine Qa (Ix sl138 ((Le.own (Le.refl _) 4).le p3.1) hx81 rfl rfl rfl) <| Qa (Eb na4 ((Le.own (Le.refl _) 4).le p3.1) hx81 rfl) <| fun p8r p1c=>anz <| W_cond (b:=e80) rfl ?_ ?_
 intro p1d
 rw [p1d] at ho
 refine W_region rfl <| Wb (Mv v72 rfl) <| Wb (Mi rfl) <| WL.lit1 u22z info2 zr2 sz2 rfl fun b85 p4m p4n ks p4o=>?_
 replace ks:Row p4m b85 [.int .i64 (s2_9)] 2:=ks
 have ju:=dl (onw p4o) (sl _ (kp _ pk.1 p1c))
 have p1e:=p1c.trans p4n
 replace p3:=ko p3 p1e
 replace pk:=ko pk p1e
 replace hB:=(hB.trans p1e)
 obtain ⟨n100,hn101,ho⟩:=bs ho
 have hn101a:=fits_some hn101
 refine WL.append1 (E:=(sInt .i64)) _ _ u22z info2 zr2 sz2 rfl rfl rfl pk rfl ks ⟨rfl,rfl⟩ List.nodup_nil (fun _ h=>nomatch h) (fun _ h=>nomatch h) (by rw [by2]; exact hn101a.1) hn101a.2 hB.size fun v94 p1f f96 p1g o98 hs99=>?_
 have p1h:=dis_upd hs99 (qi).symm (fun _ h=>nomatch h) (sl _ p3.1)
 replace p3:=okp p3 p1g qi
 replace ks:=Row.keep ks p1g (ju _ (ms rfl))
 replace hB:=hB.then p1g pk.2.2
 refine Wb (Av v94 rfl) <| inBlk_n <| anz <| Wq rfl (cr [] p1f) <| Qa (Mi rfl) <| Qa (Ba rfl rfl) <| Qa (Ai rfl) <| fun p4q kb=>?_
 cases ho
 exact ⟨_,_,(hB.trans kb),(ko p3 kb),(ko o98 kb),((p1h).symm),fe rfl⟩
 intro p1d
 rw [p1d] at ho
 refine W_skip <| inBlk_n <| anz <| Wq rfl p1c <| Qa (Mi rfl) <| Qa (Ba rfl rfl) <| Qa (Ai rfl) <| fun p3g p1i=>?_
 cases ho
 exact ⟨_,_,(hB.trans p1i),(ko p3 p1i),(ko pk p1i),qi,fe rfl⟩
 intro p1b
 rw [p1b] at ho
 refine W_exit <| andThen_x <| ?_
 cases ho
 exact ⟨rfl,⟨_,_,(hB.trans ge),(ko p3 ge),(ko pk ge),qi,fe rfl⟩⟩
 rintro ⟨s2_8,s2_9⟩ _ p4r ⟨v72,gd,hB,p3,pk,qi,F,rfl⟩ ho
 dsimp only at ho
 refine anz <| wq <| Wq rfl (cr [] p4r) <| Qa (Mv v72 rfl) <| Qa (Av v72 rfl) <| fun p3h p3i=>anz <| ?_
 cases ho
 exact W_ret ⟨_,res_1 Tryz.results255,_,_,rfl,(hB.trans p3i),(ko pk p3i)⟩

abbrev spec_l25Grow_post (f_x3:List Nat) (g_x3:List Nat) (f_x2:List Nat) (w:World) (x:((List (List Int)))) (e:Ending) (w':World):Prop:=∃ (v0:Value) (f0 g0:List Nat),e = .returned v0∧Chg f_x3 w w'∧OM f_x3 w.heap.size w' 22 (sImm (sInt .i64)) v0 x f0 g0∧Dis g0 f0∧∀ b∈g0,b∈(g_x3++f_x2) ∨ w.heap.size≤b
abbrev spec_l25Grow_T (f_x3:List Nat) (g_x3:List Nat) (f_x2:List Nat) (w:World):=Tm Tryz.prog Tryz.f246 52 (spec_l25Grow_post f_x3 g_x3 f_x2 w)
theorem spec_l25Grow_step {rc:MCategory→(List Int)→(List Int)→(List (List Int))→Option ((List (List Int)))}
  (ih : ∀ {w:World} {x0:MCategory} {z2:Value} {zf:List Nat} {z1:Value} {zg:List Nat} {z7:Value} {zh:List Nat} {z6:Value} {zi:List Nat} {x1:(List Int)} {v_x1:Value} {f_x1:List Nat} {x2:(List Int)} {v_x2:Value} {f_x2:List Nat} {x3:(List (List Int))} {v_x3:Value} {f_x3:List Nat} {g_x3:List Nat} (za:(sImm (sInt .i64)).rep w.heap [z2] x0.From zf) (zb:(sImm (sInt .i64)).rep w.heap [z1] x0.To zg) (zd:(sImm (sInt .i64)).rep w.heap [z7] x0.Identity zh) (zc:(sImm (sImm (sInt .i64))).rep w.heap [z6] x0.Composites zi) (h_x1:(sImm (sInt .i64)).rep w.heap [v_x1] x1 f_x1) (h_x2:(sImm (sInt .i64)).rep w.heap [v_x2] x2 f_x2) (o_x3:OM f_x3 w.heap.size w 22 (sImm (sInt .i64)) v_x3 x3 f_x3 g_x3) (dg_x3:Dis g_x3 f_x3) (n_h_x0_From:Dis zf f_x3) (n_h_x0_To:Dis zg f_x3) (n_h_x0_Identity:Dis zh f_x3) (n_h_x0_Composites:Dis zi f_x3) (n_h_x1:Dis f_x1 f_x3) (n_h_x2:Dis f_x2 f_x3) {y:((List (List Int)))} (hm:rc x0 x1 x2 x3=some y),Calls Tryz.prog 246 #[.agg #[.int .i64 (x0.Objects),z2,z1,z7,z6],v_x1,v_x2,v_x3] w (spec_l25Grow_post f_x3 g_x3 f_x2 w y))
  {w:World} {x0:MCategory} {z2:Value} {zf:List Nat} {z1:Value} {zg:List Nat} {z7:Value} {zh:List Nat} {z6:Value} {zi:List Nat} {x1:(List Int)} {v_x1:Value} {f_x1:List Nat} {x2:(List Int)} {v_x2:Value} {f_x2:List Nat} {x3:(List (List Int))} {v_x3:Value} {f_x3:List Nat} {g_x3:List Nat} (za:(sImm (sInt .i64)).rep w.heap [z2] x0.From zf) (zb:(sImm (sInt .i64)).rep w.heap [z1] x0.To zg) (zd:(sImm (sInt .i64)).rep w.heap [z7] x0.Identity zh) (zc:(sImm (sImm (sInt .i64))).rep w.heap [z6] x0.Composites zi) (h_x1:(sImm (sInt .i64)).rep w.heap [v_x1] x1 f_x1) (h_x2:(sImm (sInt .i64)).rep w.heap [v_x2] x2 f_x2) (o_x3:OM f_x3 w.heap.size w 22 (sImm (sInt .i64)) v_x3 x3 f_x3 g_x3) (dg_x3:Dis g_x3 f_x3) (n_h_x0_From:Dis zf f_x3) (n_h_x0_To:Dis zg f_x3) (n_h_x0_Identity:Dis zh f_x3) (n_h_x0_Composites:Dis zi f_x3) (n_h_x1:Dis f_x1 f_x3) (n_h_x2:Dis f_x2 f_x3) {y:((List (List Int)))} (hm:spec_l25Grow_S rc x0 x1 x2 x3=some y) :
  Calls Tryz.prog 246 #[.agg #[.int .i64 (x0.Objects),z2,z1,z7,z6],v_x1,v_x2,v_x3] w (spec_l25Grow_post f_x3 g_x3 f_x2 w y):=by
 refine Cm (S:=Unit) Tryz.func246 rfl Tryz.ntmps246 rfl hm fun o ho hB=>?_
 clear hm
 have hB:Chg f_x3 w w:=cr _ _
 have d1:Dis zf f_x3:=fun b hb hm=>n_h_x0_From b hb (by first | exact hm | simp [hm])
 have d2:Dis zg f_x3:=fun b hb hm=>n_h_x0_To b hb (by first | exact hm | simp [hm])
 have d3:Dis zh f_x3:=fun b hb hm=>n_h_x0_Identity b hb (by first | exact hm | simp [hm])
 have d4:Dis zi f_x3:=fun b hb hm=>n_h_x0_Composites b hb (by first | exact hm | simp [hm])
 have d5:Dis f_x1 f_x3:=fun b hb hm=>n_h_x1 b hb (by first | exact hm | simp [hm])
 have d6:Dis f_x2 f_x3:=fun b hb hm=>n_h_x2 b hb (by first | exact hm | simp [hm])
 refine wq <| W_region rfl <| WL.box fun b7 wd8 hC9 pm jo=>?_
 replace pm:Row wd8 b7 [.int .i64 (x0.Objects),z2,z1,z7,z6] 32:=pm
 have jv:=dl (onw jo) (sl _ za)
 have kt:=dl (onw jo) (sl _ zb)
 have d15:=dl (onw jo) (sl _ zd)
 have d16:=dl (onw jo) (sl _ zc)
 have d17:=dl (onw jo) (sl _ h_x1)
 have d18:=dl (onw jo) (sl _ h_x2)
 have k8:=dl (onw jo) (OM.lt1 o_x3)
 have q7:=dl (onw jo) (OM.lt2 o_x3)
 replace za:=kp _ za hC9
 replace zb:=kp _ zb hC9
 replace zd:=kp _ zd hC9
 replace zc:=kp _ zc hC9
 replace h_x1:=kp _ h_x1 hC9
 replace h_x2:=kp _ h_x2 hC9
 replace o_x3:=OM.keep0 o_x3 hC9
 replace hB:=(hB.trans (Chg.nil hC9))
 refine Wb (As rfl) <| anz <| wq <| wq <| Wq rfl (cr [] wd8) <| ?_
 obtain ⟨g22,hm23,ho⟩:=bs ho
 refine QL.meet (fun r=>∃ F,r=updL F [(1,v_x1),(2,v_x2),(3,v_x3),(4,.pointer (some (⟨b7,0,none⟩))),(18,.bool (g22))]) ?_ ?_
 skip
 refine Qa (Mv v_x3 rfl) <| Qa (Mv v_x2 rfl) <| ?_
 obtain ⟨y24,p4u,hm23⟩:=bs hm23
 refine Qc Tryz.func172 rfl rfl (fun _ hC=>spec_l05Place_calls (OM.read (OM.keep0 o_x3 hC)) (kp _ h_x2 hC) p4u) <| Qa (Bh rfl rfl) <| Qa (Mb rfl) <| ?_
 rcases Bool.eq_false_or_eq_true (decide (y24 ≥ (0:Int))) with qj | qj
 rw [qj] at hm23
 refine Sk rfl qj rfl <| Sk rfl qj rfl <| Sk rfl qj rfl <| Qa (PTb rfl qj rfl) <| ?_
 cases hm23
 exact fe rfl
 rw [qj] at hm23
 refine Qg rfl qj (Mv v_x3 rfl) <| Qg rfl qj (Ln sl23 (OM.read o_x3) rfl) <| Qg rfl qj (Bg rfl rfl) <| Qa (PFb rfl qj rfl) <| ?_
 cases hm23
 exact fe rfl
 rintro _ ⟨F,rfl⟩
 refine fun p12 ku=>anz <| W_cond (b:=g22) rfl ?_ ?_
 intro p1j
 rw [p1j] at ho
 refine wq <| Wq rfl ku <| Qa (Mv v_x3 rfl) <| Qa (Av v_x3 rfl) <| fun p1k jw=>anz <| ?_
 cases ho
 exact W_ret ⟨_,res_1 Tryz.results246,_,_,_,rfl,(hB.trans (Chg.nil jw)),(OM.keep0 o_x3 jw),dg_x3,(fun b hb=>.inl (by simp [hb]))⟩
 intro p1j
 rw [p1j] at ho
 refine W_skip <| anz <| wq <| W_region rfl <| Wb (Mv v_x3 rfl) <| Wb (Mv v_x2 rfl) <| WL.lit1 u23z info22 zr22 sz22 (STy.one _ h_x2 _ (ms rfl)) fun b32 p4w p4x kv p4y=>?_
 replace kv:Row p4w b32 [v_x2] 22:=kv
 have kw:=dl (onw p4y) (OM.lt1 (OM.keep0 o_x3 ku))
 have q4:=ku.trans p4x
 replace za:=kp _ za q4
 replace zb:=kp _ zb q4
 replace zd:=kp _ zd q4
 replace zc:=kp _ zc q4
 replace h_x1:=kp _ h_x1 q4
 replace h_x2:=kp _ h_x2 q4
 replace o_x3:=OM.keep0 o_x3 q4
 replace pm:=kr pm q4
 replace hB:=(hB.trans (Chg.nil q4))
 obtain ⟨n54,hn55,ho⟩:=bs ho
 have hn55a:=fits_some hn55
 refine WLM.append1 u23z info22 zr22 sz22 rfl rfl o_x3 rfl kv h_x2 d6 dg_x3 (by rw [by22]; exact hn55a.1) hn55a.2 hB.size fun v48 p1l gf q5 o52 hs53=>?_
 have kc:=dis_upd (k:=[]) hs53 (d1).symm (fun _ h=>nomatch h) (sl _ za)
 have gg:=dis_upd (k:=[]) hs53 (d2).symm (fun _ h=>nomatch h) (sl _ zb)
 have gh:=dis_upd (k:=[]) hs53 (d3).symm (fun _ h=>nomatch h) (sl _ zd)
 have d59:=dis_upd (k:=[]) hs53 (d4).symm (fun _ h=>nomatch h) (sl _ zc)
 have d60:=dis_upd (k:=[]) hs53 (d5).symm (fun _ h=>nomatch h) (sl _ h_x1)
 have d61:=dis_upd (k:=[]) hs53 (d6).symm (fun _ h=>nomatch h) (sl _ h_x2)
 have d62:=dis_upd (k:=[]) hs53 (k8).symm (fun _ h=>nomatch h) (one_lt (Row.lt pm))
 have d63:Dis (g_x3++f_x2) [b7]:=dis_or (fun b hb=>List.mem_append.1 hb) (q7).symm (d18).symm
 have d66:Dis (g_x3++f_x2) gf:=dis_or (fun b hb=>List.mem_append.1 hb) (Dis.symm (dis_upd (k:=[]) hs53 (Dis.symm dg_x3) (fun _ h=>nomatch h) (OM.lt2 o_x3))) (Dis.symm (dis_upd (k:=[]) hs53 (Dis.symm d6) (fun _ h=>nomatch h) (sl _ h_x2)))
 have p53 : ∀ b∈(g_x3++f_x2),b∈(g_x3++f_x2) ∨ w.heap.size≤b:=low_or (fun b hb=>List.mem_append.1 hb) (fun b hb=>.inl (by simp [hb])) (fun b hb=>.inl (by simp [hb]))
 replace za:=STy.keep _ za q5 d1
 replace zb:=STy.keep _ zb q5 d2
 replace zd:=STy.keep _ zd q5 d3
 replace zc:=STy.keep _ zc q5 d4
 replace h_x1:=STy.keep _ h_x1 q5 d5
 replace h_x2:=STy.keep _ h_x2 q5 d6
 replace pm:=Row.keep pm q5 (k8 _ (ms rfl))
 replace kv:=Row.keep kv q5 (kw _ (ms rfl))
 replace hB:=hB.then q5 (OM.low o_x3)
 refine Wb (Av v48 rfl) <| anz <| wq <| wq <| Wq rfl (cr [] p1l) <| Qa (Ai rfl) <| fun p8t ja=>anz <| Wf (S1:=(List (List Int))×Int) (fun s r w'=>match s with | (s0_3,s0_9)=>∃ (v71:Value) (qk:List Nat) (g73:List Nat),Chg f_x3 w w'∧(sImm (sInt .i64)).rep w'.heap [z2] (x0.From) zf∧(sImm (sInt .i64)).rep w'.heap [z1] (x0.To) zg∧(sImm (sInt .i64)).rep w'.heap [z7] (x0.Identity) zh∧(sImm (sImm (sInt .i64))).rep w'.heap [z6] (x0.Composites) zi∧(sImm (sInt .i64)).rep w'.heap [v_x1] (x1) f_x1∧(sImm (sInt .i64)).rep w'.heap [v_x2] (x2) f_x2∧Row w' b7 [.int .i64 (x0.Objects),z2,z1,z7,z6] 32∧OM f_x3 w.heap.size w' 22 (sImm (sInt .i64)) v71 (s0_3) qk g73∧(∀ b∈g73,b∈(g_x3++f_x2) ∨ w.heap.size≤b)∧Dis zf [b7]∧Dis zf qk∧Dis zg [b7]∧Dis zg qk∧Dis zh [b7]∧Dis zh qk∧Dis zi [b7]∧Dis zi qk∧Dis f_x1 [b7]∧Dis f_x1 qk∧Dis f_x2 [b7]∧Dis f_x2 qk∧Dis [b7] qk∧Dis [b7] g73∧Dis qk g73∧∃ F,r=updL F [(1,v_x1),(2,v_x2),(3,v71),(4,.pointer (some (⟨b7,0,none⟩))),(9,.int .i64 (s0_9))]) (spec_l25Grow_T f_x3 g_x3 f_x2 w) ho ⟨_,_,_,(hB.trans (Chg.nil ja)),(kp _ za ja),(kp _ zb ja),(kp _ zd ja),(kp _ zc ja),(kp _ h_x1 ja),(kp _ h_x2 ja),(kr pm ja),(OM.keep0 o52 ja),p53,((jv).symm),((kc).symm),((kt).symm),((gg).symm),((d15).symm),((gh).symm),((d16).symm),((d59).symm),((d17).symm),((d60).symm),((d18).symm),((d61).symm),((d62).symm),((d63).symm),((d66).symm),fe rfl⟩ ?_ ?_
 rintro ⟨s0_3,s0_9⟩ _ p54 ⟨v71,qk,g73,hB,za,zb,zd,zc,h_x1,h_x2,pm,pk,kx,jb,ql,jc,qm,qx,q8,jd,qn,je,q9,q6,py,pz,qa,q0,F,rfl⟩ o ho
 replace ho:spec_l25Grow_L0 rc x0 x1 x2 s0_3 s0_9=some o:=ho
 unfold spec_l25Grow_L0 at ho
 refine wq <| wq <| Wq rfl (cr [] p54) <| Qa (Mi rfl) <| Qa (Mv v_x1 rfl) <| Qa (Ln sl22 h_x1 rfl) <| Qa (Bl rfl rfl) <| fun p8u qy=>anz <| W_cond (b:=decide (s0_9 < (x1.length:Int))) rfl ?_ ?_
 intro p1p
 rw [p1p] at ho
 refine W_skip <| anz <| wq <| W_block <| wq <| Wq rfl qy <| Qa (Mv v_x2 rfl) <| Qa (Mv v_x1 rfl) <| Qa (Mi rfl) <| ?_
 obtain ⟨e95,hx96e,ho⟩:=bs ho
 have hx96:=idx_some hx96e
 refine Qa (Ix sl22 h_x1 hx96 rfl rfl rfl) <| Qa (Ei na2 h_x1 hx96 rfl) <| ?_
 obtain ⟨y97,p55,ho⟩:=bs ho
 refine Qc Tryz.func141 rfl rfl (fun _ hC=>spec_l01Has_calls (kp _ h_x2 hC) p55) <| Qa (Nt rfl) <| fun p56 pn=>anz <| W_cond (b:=!(y97)) rfl ?_ ?_
 intro p1q
 rw [p1q] at ho
 obtain ⟨y102,p57,ho⟩:=bs ho
 obtain ⟨e107,hx108e,ho⟩:=bs ho
 have hx108:=idx_some hx108e
 obtain ⟨n112,hn113,ho⟩:=bs ho
 have hn113a:=fits_some hn113
 obtain ⟨y117,p58,ho⟩:=bs ho
 refine W_any (m:=13) (U:=[[],[],[],[],[],[],[],[],[],[],[4],[],[]]) (S:=[sV (.agg #[.int .i64 (x0.Objects),z2,z1,z7,z6]),sV (v_x1),sV (.agg #[.int .i64 (x0.Objects),z2,z1,z7,z6]),sV (v_x2),sO (sOwn 2 (sInt .i64)) (y102),sV (v_x1),sV (.int .i64 (s0_9)),sV (.pointer (some (elA (v_x1) 1 (s0_9)))),sV (.int .i64 (e107)),⟨true,pl <| LitV [.int .i64 (e107)] 2 1⟩,sO (sOwn 2 (sInt .i64)) (y102++[e107]),sO (sOwn 2 (sInt .i64)) (y117),sV (v71)]) (Z:=[]) hmix rfl (by decide) (by decide +kernel) (fun _ _ _ h=>np_out h) (by decide) rfl (by decide +kernel) (stable_all <| stable_cons stable_val (stable_cons stable_val (stable_cons stable_val (stable_cons stable_val (stable_cons stable_own (stable_cons stable_val (stable_cons stable_val (stable_cons stable_val (stable_cons stable_val (stable_cons stable_lit (stable_cons stable_own (stable_cons stable_own (stable_cons stable_val ( stable_nil)))))))))))))) ?_ ?_
 refine owes_cons ?_ <| owes_cons ?_ <| owes_cons ?_ <| owes_cons ?_ <| owes_cons ?_ <| owes_cons ?_ <| owes_cons ?_ <| owes_cons ?_ <| owes_cons ?_ <| owes_cons ?_ <| owes_cons ?_ <| owes_cons ?_ <| owes_cons ?_ <| owes_nil
 exact Oh rfl rfl rfl [(4,.pointer (some (⟨b7,0,none⟩)))] pn rfl rfl fun _=>Lg ag32 pm.at rfl rfl
 exact Oh rfl rfl rfl [(1,v_x1)] pn rfl rfl fun _=>Mv v_x1 rfl
 exact Oh rfl rfl rfl [(4,.pointer (some (⟨b7,0,none⟩)))] pn rfl rfl fun _=>Lg ag32 pm.at rfl rfl
 exact Oh rfl rfl rfl [(2,v_x2)] pn rfl rfl fun _=>Mv v_x2 rfl
 refine Owes.mem rfl rfl rfl <| fun g r wr hCr H hot=>?_
 have hC:=pn.trans hCr
 obtain ⟨F,rfl⟩:=fr (r:=r) (l:=[(40,v_x2)]) ⟨(H 3 (by decide +kernel) 40 rfl),trivial⟩
 exact OpW.own (op_callF Tryz.func89 rfl rfl) (spec_l01Own_calls (kp _ h_x2 hC) p57)
 exact Oh rfl rfl rfl [(1,v_x1)] pn rfl rfl fun _=>Mv v_x1 rfl
 exact Oh rfl rfl rfl [(9,.int .i64 (s0_9))] pn rfl rfl fun _=>Mi rfl
 exact Ov rfl rfl rfl [] [(42,v_x1),(43,.int .i64 (s0_9))] [5,6] pn rfl rfl (by decide +kernel) rfl fun _=>Ix sl22 h_x1 hx108 rfl rfl rfl
 exact Ov rfl rfl rfl [] [(44,.pointer (some (elA (v_x1) 1 (s0_9))))] [7] pn rfl rfl (by decide +kernel) rfl fun _=>Ei na2 h_x1 hx108 rfl
 refine Owes.mem rfl rfl rfl <| fun g r wr hCr H hot=>?_
 have hC:=pn.trans hCr
 obtain ⟨F,rfl⟩:=fr (r:=r) (l:=[(45,.int .i64 (e107))]) ⟨(H 8 (by decide +kernel) 45 rfl),trivial⟩
 exact OpW.lit1 u22z info2 zr2 sz2 rfl rfl
 refine Owes.use rfl rfl rfl <| fun g r wr hCr H hot=>?_
 have hC:=pn.trans hCr
 have p3k:OwnV (sOwn 2 (sInt .i64)) (y102) _ _ _:=H 4 (by decide +kernel) 41 rfl
 generalize hvv104:r 41=v104 at p3k
 obtain ⟨ky,hbb109,hvb109,gi⟩ : LitV [.int .i64 (e107)] 2 1 _ _ _:=H 9 (by decide +kernel) 46 rfl
 obtain ⟨F,rfl⟩:=fr (r:=r) (l:=[(41,v104),(46,.slice (some ⟨ky,0,none⟩) 1 1)]) ⟨hvv104,hvb109,trivial⟩
 exact OpW.append1 u22z info2 zr2 sz2 rfl rfl rfl p3k (fun b hb=>List.mem_flatMap.2 ⟨4,by decide,hb⟩) rfl gi ⟨rfl,rfl⟩ (by rw [by2]; exact hn113a.1) hn113a.2
 refine Owes.mem rfl rfl rfl <| fun g r wr hCr H hot=>?_
 have hC:=pn.trans hCr
 have qz:OwnV (sOwn 2 (sInt .i64)) (y102++[e107]) _ _ _:=H 10 (by decide +kernel) 47 rfl
 generalize hvv114:r 47=v114 at qz
 obtain ⟨F,rfl⟩:=fr (r:=r) (l:=[(39,.agg #[.int .i64 (x0.Objects),z2,z1,z7,z6]),(47,v114)]) ⟨(H 2 (by decide +kernel) 39 rfl),hvv114,trivial⟩
 exact OpW.own (op_callF Tryz.func255 rfl rfl) (spec_l25Close_calls (kp _ za hC) (kp _ zb hC) (kp _ zd hC) (kp _ zc hC) ((Le.own (Le.refl _) 2).le qz.1) p58)
 exact Oh rfl rfl rfl [(3,v71)] pn rfl rfl fun _=>Mv v71 rfl
 rintro g r p3l ⟨p59,hdone,hot,hfresh,hdis⟩
 obtain ⟨ky,hbb109,hvb109,gi⟩ : LitV [.int .i64 (e107)] 2 1 _ _ _:=hdone 9 (by decide) (by decide) 46 rfl
 have hlb109:p56.heap.size≤ky:=(hfresh 9 (by decide) ky (by rw [hbb109]; exact ms rfl)).1
 have qz:OwnV (sOwn 2 (sInt .i64)) (y102++[e107]) _ _ _:=hdone 10 (by decide) (by decide) 47 rfl
 generalize hvv114:r 47=v114 at qz
 have hfo116:=hfresh 10 (by decide)
 have jp:OwnV (sOwn 2 (sInt .i64)) (y117) _ _ _:=hdone 11 (by decide) (by decide) 48 rfl
 generalize hvv119:r 48=v119 at jp
 have hfo121:=hfresh 11 (by decide)
 have hdd:=hdis
 obtain ⟨F,rfl⟩:=fw hdone hot [(1,v_x1),(2,v_x2),(4,.pointer (some (⟨b7,0,none⟩))),(9,.int .i64 (s0_9))] [(37,.agg #[.int .i64 (x0.Objects),z2,z1,z7,z6]),(38,v_x1),(49,v71)] [0,1,12] rfl rfl rfl rfl (z:=[(46,.slice (some ⟨ky,0,none⟩) 1 1),(47,v114),(48,v119)]) ⟨hvb109,hvv114,hvv119,trivial⟩
 have p1r:=dl (onw hlb109) (OM.lt1 (OM.keep0 pk pn))
 obtain ⟨p5a,hgf115⟩ : ∃ k,k=g 10:=⟨_,rfl⟩
 rw [← hgf115] at qz hfo116
 replace qz:OE f_x3 w.heap.size p3l (sOwn 2 (sInt .i64)) [v114] (y102++[e107]) p5a:=⟨qz.1,qz.2,fun b hb=>.inr (Nat.le_trans (hB.trans (Chg.nil pn)).size (hfo116 b hb).1)⟩
 have p5b:=dl (fun b hb=>(hfo116 b hb).1) (OM.lt1 (OM.keep0 pk pn))
 obtain ⟨p3m,hgf120⟩ : ∃ k,k=g 11:=⟨_,rfl⟩
 rw [← hgf120] at jp hfo121
 replace jp:OE f_x3 w.heap.size p3l (sOwn 2 (sInt .i64)) [v119] (y117) p3m:=⟨jp.1,jp.2,fun b hb=>.inr (Nat.le_trans (hB.trans (Chg.nil pn)).size (hfo121 b hb).1)⟩
 have fr145 : ∀ b∈p3m,w.heap.size≤b:=fun b hb=>Nat.le_trans (hB.trans (Chg.nil pn)).size (hfo121 b hb).1
 have kz:=dl (fun b hb=>(hfo121 b hb).1) (one_lt (Row.lt (kr pm pn)))
 have kd:=dl (fun b hb=>(hfo121 b hb).1) (OM.lt1 (OM.keep0 pk pn))
 have jf:=(pn.trans p59)
 replace za:=kp _ za jf
 replace zb:=kp _ zb jf
 replace zd:=kp _ zd jf
 replace zc:=kp _ zc jf
 replace h_x1:=kp _ h_x1 jf
 replace h_x2:=kp _ h_x2 jf
 replace pm:=kr pm jf
 replace pk:=OM.keep0 pk jf
 replace hB:=(hB.trans (Chg.nil jf))
 obtain ⟨y158,p5c,ho⟩:=bs ho
 refine WL.call rfl (op_callF Tryz.func246 rfl rfl) (ih za zb zd zc h_x1 ((Le.own (Le.refl _) 2).le jp.1) (OM.give pk fun _ h=>h) (q0).symm ql qm q8 qn q9 kd p5c) <| ?_
 rintro _ p5d ⟨v162,jx,g164,rfl,qo,j0,ke,p3n⟩
 refine ⟨_,rfl,?_⟩
 have kf:Dis jx zf:=dis_out (OM.low j0) (ql).symm (sl _ za)
 have kg:Dis jx zg:=dis_out (OM.low j0) (qm).symm (sl _ zb)
 have n0:Dis jx zh:=dis_out (OM.low j0) (q8).symm (sl _ zd)
 have kh:Dis jx zi:=dis_out (OM.low j0) (qn).symm (sl _ zc)
 have ki:Dis jx f_x1:=dis_out (OM.low j0) (q9).symm (sl _ h_x1)
 have kj:Dis jx f_x2:=dis_out (OM.low j0) (py).symm (sl _ h_x2)
 have kk:Dis jx [b7]:=dis_out (OM.low j0) (pz).symm (one_lt (Row.lt pm))
 have n1:Dis g164 [b7]:=dis_out p3n (da (qa).symm kz) (one_lt (Row.lt pm))
 have p5e : ∀ b∈g164,b∈(g_x3++f_x2) ∨ w.heap.size≤b:=low_out p3n (low_app kx (fun b hb=>.inr (fr145 b hb))) hB.size
 replace j0:=OM.back (G:=f_x3) j0 (OM.low pk) hB.size
 replace za:=STy.keep _ za qo ql
 replace zb:=STy.keep _ zb qo qm
 replace zd:=STy.keep _ zd qo q8
 replace zc:=STy.keep _ zc qo qn
 replace h_x1:=STy.keep _ h_x1 qo q9
 replace h_x2:=STy.keep _ h_x2 qo py
 replace pm:=Row.keep pm qo (pz _ (ms rfl))
 replace gi:=Row.keep gi qo (p1r _ (ms rfl))
 replace qz:=okp qz qo p5b
 replace jp:=okp jp qo kd
 replace hB:=hB.then qo (OM.low pk)
 refine Wb (Av v162 rfl) <| inBlk_n <| anz <| Wq rfl (cr [] p5d) <| Qa (Mi rfl) <| Qa (Ba rfl rfl) <| Qa (Ai rfl) <| fun p8v jg=>?_
 cases ho
 exact ⟨_,_,_,(hB.trans (Chg.nil jg)),(kp _ za jg),(kp _ zb jg),(kp _ zd jg),(kp _ zc jg),(kp _ h_x1 jg),(kp _ h_x2 jg),(kr pm jg),(OM.keep0 j0 jg),p5e,jb,((kf).symm),jc,((kg).symm),qx,((n0).symm),jd,((kh).symm),je,((ki).symm),q6,((kj).symm),((kk).symm),((n1).symm),((ke).symm),fe rfl⟩
 intro p1q
 rw [p1q] at ho
 refine W_skip <| inBlk_n <| anz <| Wq rfl pn <| Qa (Mi rfl) <| Qa (Ba rfl rfl) <| Qa (Ai rfl) <| fun p8w jh=>?_
 cases ho
 exact ⟨_,_,_,(hB.trans (Chg.nil jh)),(kp _ za jh),(kp _ zb jh),(kp _ zd jh),(kp _ zc jh),(kp _ h_x1 jh),(kp _ h_x2 jh),(kr pm jh),(OM.keep0 pk jh),kx,jb,ql,jc,qm,qx,q8,jd,qn,je,q9,q6,py,pz,qa,q0,fe rfl⟩
 intro p1p
 rw [p1p] at ho
 refine W_exit <| andThen_x <| ?_
 cases ho
 exact ⟨rfl,⟨_,_,_,(hB.trans (Chg.nil qy)),(kp _ za qy),(kp _ zb qy),(kp _ zd qy),(kp _ zc qy),(kp _ h_x1 qy),(kp _ h_x2 qy),(kr pm qy),(OM.keep0 pk qy),kx,jb,ql,jc,qm,qx,q8,jd,qn,je,q9,q6,py,pz,qa,q0,fe rfl⟩⟩
 rintro ⟨s0_3,s0_9⟩ _ p5f ⟨v71,qk,g73,hB,za,zb,zd,zc,h_x1,h_x2,pm,pk,kx,jb,ql,jc,qm,qx,q8,jd,qn,je,q9,q6,py,pz,qa,q0,F,rfl⟩ ho
 dsimp only at ho
 refine anz <| wq <| Wq rfl (cr [] p5f) <| Qa (Mv v71 rfl) <| Qa (Av v71 rfl) <| fun p3o p3p=>anz <| ?_
 cases ho
 exact W_ret ⟨_,res_1 Tryz.results246,_,_,_,rfl,(hB.trans (Chg.nil p3p)),(OM.keep0 pk p3p),(q0).symm,kx⟩
theorem spec_l25Grow_calls (n:Nat) : ∀ {w:World} {x0:MCategory} {z2:Value} {zf:List Nat} {z1:Value} {zg:List Nat} {z7:Value} {zh:List Nat} {z6:Value} {zi:List Nat} {x1:(List Int)} {v_x1:Value} {f_x1:List Nat} {x2:(List Int)} {v_x2:Value} {f_x2:List Nat} {x3:(List (List Int))} {v_x3:Value} {f_x3:List Nat} {g_x3:List Nat} (za:(sImm (sInt .i64)).rep w.heap [z2] x0.From zf) (zb:(sImm (sInt .i64)).rep w.heap [z1] x0.To zg) (zd:(sImm (sInt .i64)).rep w.heap [z7] x0.Identity zh) (zc:(sImm (sImm (sInt .i64))).rep w.heap [z6] x0.Composites zi) (h_x1:(sImm (sInt .i64)).rep w.heap [v_x1] x1 f_x1) (h_x2:(sImm (sInt .i64)).rep w.heap [v_x2] x2 f_x2) (o_x3:OM f_x3 w.heap.size w 22 (sImm (sInt .i64)) v_x3 x3 f_x3 g_x3) (dg_x3:Dis g_x3 f_x3) (n_h_x0_From:Dis zf f_x3) (n_h_x0_To:Dis zg f_x3) (n_h_x0_Identity:Dis zh f_x3) (n_h_x0_Composites:Dis zi f_x3) (n_h_x1:Dis f_x1 f_x3) (n_h_x2:Dis f_x2 f_x3) {y:((List (List Int)))} (hm:spec_l25Grow n x0 x1 x2 x3=some y),Calls Tryz.prog 246 #[.agg #[.int .i64 (x0.Objects),z2,z1,z7,z6],v_x1,v_x2,v_x3] w (spec_l25Grow_post f_x3 g_x3 f_x2 w y):=by
 induction n with
 | zero=>intros; rename_i hm; exact nomatch (show none=some _ from hm)
 | succ n ih=>exact spec_l25Grow_step ih

abbrev spec_l25Sorted_post (f_x0:List Nat) (w:World) (x:((List (List Int)))) (e:Ending) (w':World):Prop:=∃ (v0:Value) (f0:List Nat),e = .returned (v0)∧Chg [] w w'∧(sImm (sImm (sInt .i64))).rep w'.heap [v0] x f0∧(∀ b∈f0,b∈f_x0 ∨ w.heap.size≤b)
abbrev spec_l25Sorted_T (f_x0:List Nat) (w:World):=Tm Tryz.prog Tryz.f247 51 (spec_l25Sorted_post f_x0 w)
theorem spec_l25Sorted_calls {w:World} {x0:(List (List Int))} {v_x0:Value} {f_x0:List Nat} (h_x0:(sImm (sImm (sInt .i64))).rep w.heap [v_x0] x0 f_x0) {y:((List (List Int)))} (hm:spec_l25Sorted x0=some y) :
  Calls Tryz.prog 247 #[v_x0] w (spec_l25Sorted_post f_x0 w y):=by
 refine Cm (S:=Unit) Tryz.func247 rfl Tryz.ntmps247 rfl hm fun o ho hB=>?_
 clear hm
 refine wq <| Wq rfl (cr [] w) <| Qa (As rfl) <| fun wd1 hC2=>anz <| wq <| W_region rfl <| WL.lit0 (sOwn 2 (sInt .i64)) u23z info22 fun v3 wd4 f5 hC6 o7=>?_
 have d8:=dl (ofr o7) (sl _ (kp _ h_x0 hC2))
 replace o7:=OE.low (G:=[]) o7 (hB.trans hC2).size
 have hT9:=hC2.trans hC6
 replace h_x0:=kp _ h_x0 hT9
 replace hB:=(hB.trans hT9)
 replace o7:=OM.of_nil (E:=(sImm (sInt .i64))) rfl rfl o7
 refine Wb (Mv v_x0 rfl) <| ?_
 obtain ⟨n16,hn17,ho⟩:=bs ho
 have hn17a:=fits_some hn17
 refine WLM.appendS u23z info22 zr22 sz22 rfl rfl o7 rfl h_x0 (d8).symm (fun _ h=>nomatch h) (by rw [by22]; exact hn17a.1) hn17a.2 hB.size fun v10 p0y q3 g18 kq p3 hs15 hg19=>?_
 have d21:Dis g18 q3:=dis_or hg19 (Dis.symm (dis_upd (k:=[]) hs15 (Dis.symm (fun _ h=>nomatch h)) (fun _ h=>nomatch h) (OM.lt2 o7))) (Dis.symm (dis_upd (k:=[]) hs15 (Dis.symm (d8).symm) (fun _ h=>nomatch h) (sl _ h_x0)))
 have p5h : ∀ b∈g18,b∈f_x0 ∨ w.heap.size≤b:=low_or hg19 (fun _ h=>nomatch h) (fun b hb=>.inl (by simp [hb]))
 replace h_x0:=STy.keep _ h_x0 kq (d8).symm
 replace hB:=hB.then kq (OM.low o7)
 refine Wb (Av v10 rfl) <| anz <| wq <| wq <| Wq rfl (cr [] p0y) <| Qa (Ai rfl) <| fun p4e k9=>anz <| Wf (S1:=Int×(List (List Int))) (fun s r w'=>match s with | (s0_4,s0_o14)=>∃ (gj:List Nat) (g27:List Nat),Chg [] w w'∧OM [] w.heap.size w' 22 (sImm (sInt .i64)) v10 (s0_o14) gj g27∧(∀ b∈g27,b∈f_x0 ∨ w.heap.size≤b)∧Dis gj g27∧∃ F,r=updL F [(3,v10),(4,.int .i64 (s0_4))]) (spec_l25Sorted_T f_x0 w) ho ⟨_,_,(hB.trans k9),(OM.keep0 p3 k9),p5h,((d21).symm),fe rfl⟩ ?_ ?_
 rintro ⟨s0_4,s0_o14⟩ _ p1k ⟨gj,g27,hB,p3,gk,d29,F,rfl⟩ o ho
 replace ho:spec_l25Sorted_L0 s0_4 s0_o14=some o:=ho
 unfold spec_l25Sorted_L0 at ho
 refine wq <| wq <| Wq rfl (cr [] p1k) <| Qa (Mi rfl) <| Qa (Mv v10 rfl) <| Qa (Ln sl23 (OM.read p3) rfl) <| Qa (Bl rfl rfl) <| fun p3q n2=>anz <| W_cond (b:=decide (s0_4 < (s0_o14.length:Int))) rfl ?_ ?_
 intro p1t
 rw [p1t] at ho
 refine W_skip <| anz <| wq <| W_block <| wq <| Wq rfl n2 <| Qa (Mi rfl) <| Qa (Ai rfl) <| fun p8x p3r=>anz <| Wf (S1:=Int×(List (List Int))) (fun s r w'=>match s with | (s1_5,s1_o14)=>∃ (ji:List Nat) (g37:List Nat),Chg [] w w'∧OM [] w.heap.size w' 22 (sImm (sInt .i64)) v10 (s1_o14) ji g37∧(∀ b∈g37,b∈f_x0 ∨ w.heap.size≤b)∧Dis ji g37∧∃ F,r=updL F [(3,v10),(4,.int .i64 (s0_4)),(5,.int .i64 (s1_5))]) (spec_l25Sorted_T f_x0 w) ho ⟨_,_,(hB.trans p3r),(OM.keep0 p3 p3r),gk,(d29),fe rfl⟩ ?_ ?_
 rintro ⟨s1_5,s1_o14⟩ _ p1u ⟨ji,g37,hB,p3,kl,qb,F,rfl⟩ o ho
 replace ho:spec_l25Sorted_L1 s1_5 s1_o14=some o:=ho
 unfold spec_l25Sorted_L1 at ho
 refine wq <| wq <| Wqd rfl (by kernel_rfl) (cr [] p1u) <| ?_
 obtain ⟨g41,hm42,ho⟩:=bs ho
 refine QL.meet (fun r=>∃ F,r=updL F [(3,v10),(4,.int .i64 (s0_4)),(5,.int .i64 (s1_5)),(30,.bool (g41))]) ?_ ?_
 skip
 refine Qa (Mi rfl) <| Qa (Bg rfl rfl) <| Qa (Mb rfl) <| ?_
 rcases Bool.eq_false_or_eq_true (decide (s1_5 > (0:Int))) with pb | pb
 rw [pb] at hm42
 refine Qg rfl pb (Mv v10 rfl) <| Qg rfl pb (Mi rfl) <| ?_
 obtain ⟨e44,hx45e,hm42⟩:=bs hm42
 have hx45:=idx_some hx45e
 refine Qg rfl pb (Ix sl23 (OM.read p3) hx45 rfl rfl rfl) <| ?_
 obtain ⟨u46,fu47,hu48,jy,hs50⟩:=OM.get p3 hx45.1 hx45.2
 refine Qg rfl pb (Ld na22 hu48 rfl) <| Qg rfl pb (Mv v10 rfl) <| Qg rfl pb (Mi rfl) <| Qg rfl pb (Bs rfl rfl) <| ?_
 obtain ⟨e51,hx52e,hm42⟩:=bs hm42
 have hx52:=idx_some hx52e
 refine Qg rfl pb (Ix sl23 (OM.read p3) hx52 rfl rfl rfl) <| ?_
 obtain ⟨u53,fu54,hu55,p5i,hs57⟩:=OM.get p3 hx52.1 hx52.2
 refine Qg rfl pb (Ld na22 hu55 rfl) <| ?_
 obtain ⟨y58,p5j,hm42⟩:=bs hm42
 refine Qcg rfl pb Tryz.func138 rfl rfl (fun _ hC=>spec_l01Less_calls (kp _ jy hC) (kp _ p5i hC) p5j) <| Qa (PTb rfl pb rfl) <| ?_
 cases hm42
 exact fe rfl
 rw [pb] at hm42
 refine Sk rfl pb rfl <| Sk rfl pb rfl <| Sk rfl pb rfl <| Sk rfl pb rfl <| Sk rfl pb rfl <| Sk rfl pb rfl <| Sk rfl pb rfl <| Sk rfl pb rfl <| Sk rfl pb rfl <| Sk rfl pb rfl <| Qa (PFb rfl pb rfl) <| ?_
 cases hm42
 exact fe rfl
 rintro _ ⟨F,rfl⟩
 refine fun gb pv=>anz <| W_cond (b:=g41) rfl ?_ ?_
 intro p1v
 rw [p1v] at ho
 refine W_skip <| anz <| wq <| W_block <| wq <| Wq rfl pv <| Qa (Mv v10 rfl) <| Qa (Mi rfl) <| ?_
 obtain ⟨e63,hx64e,ho⟩:=bs ho
 have hx64:=idx_some hx64e
 refine Qa (Ix sl23 (OM.read p3) hx64 rfl rfl rfl) <| ?_
 obtain ⟨u65,fu66,hu67,jz,hs69⟩:=OM.get p3 hx64.1 hx64.2
 refine Qa (Ld na22 hu67 rfl) <| Qa (Av u65 rfl) <| fun p4k px=>anz <| wq <| W_region rfl <| Wb (Mv v10 rfl) <| Wb (Mi rfl) <| Wb (Mv v10 rfl) <| Wb (Mi rfl) <| Wb (Bs rfl rfl) <| ?_
 obtain ⟨e72,hx73e,ho⟩:=bs ho
 have hx73:=idx_some hx73e
 refine Wa px (Ix sl23 (OM.read p3) hx73 rfl rfl rfl) <| ?_
 obtain ⟨u74,fu75,hu76,k0,hs78⟩:=OM.get p3 hx73.1 hx73.2
 refine Wa px (Ld na22 hu76 rfl) <| ?_
 obtain ⟨e79,hx80e,ho⟩:=bs ho
 have hx80:=idx_some hx80e
 refine Wa px (Ix sl23 (OM.read p3) hx80 rfl rfl rfl) <| WLM.store info22 sz22 (OM.keep0 p3 px) hx80.2 rfl rfl (kp _ k0 px) (fun b hb=>(qb).symm b (hs78 b hb)) (qb).symm fun p8y g84 p5k gl hg85=>?_
 have q6:Dis fu66 ji:=(fun b hb=>(qb).symm b (hs69 b hb))
 have py:Dis fu75 ji:=(fun b hb=>(qb).symm b (hs78 b hb))
 have pz:=dis_upd (k:=[]) (fun b hb=>.inl hb) (q6).symm (fun _ h=>nomatch h) (sl _ (kp _ jz px))
 have qa:=dis_upd (k:=[]) (fun b hb=>.inl hb) (py).symm (fun _ h=>nomatch h) (sl _ (kp _ k0 px))
 have q0:Dis g84 ji:=dis_or hg85 (Dis.symm (dis_upd (k:=[]) (fun b hb=>.inl hb) (Dis.symm (qb).symm) (fun _ h=>nomatch h) (OM.lt2 (OM.keep0 p3 px)))) (Dis.symm (dis_upd (k:=[]) (fun b hb=>.inl hb) (Dis.symm py) (fun _ h=>nomatch h) (sl _ (kp _ k0 px))))
 have p5l : ∀ b∈g84,b∈f_x0 ∨ w.heap.size≤b:=low_or hg85 kl (fun b hb=>kl b (hs78 b hb))
 have p1w:=(px.nil (G:=ji)).trans p5k
 replace jz:=STy.keep _ jz p1w q6
 replace k0:=STy.keep _ k0 p1w py
 replace hB:=hB.then p1w (OM.low p3)
 refine anz <| W_region rfl <| Wb (Mv v10 rfl) <| Wb (Mi rfl) <| Wb (Bs rfl rfl) <| Wb (Mv u65 rfl) <| ?_
 obtain ⟨e93,hx94e,ho⟩:=bs ho
 have hx94:=idx_some hx94e
 refine Wb (Ix sl23 (OM.read gl) hx94 rfl rfl rfl) <| WLM.store info22 sz22 gl hx94.2 rfl rfl jz (pz).symm q0 fun p1f g98 p1x o97 hg99=>?_
 have p1h:Dis g98 ji:=dis_or hg99 (Dis.symm (dis_upd (k:=[]) (fun b hb=>.inl hb) (Dis.symm q0) (fun _ h=>nomatch h) (OM.lt2 gl))) (Dis.symm (dis_upd (k:=[]) (fun b hb=>.inl hb) (Dis.symm (pz).symm) (fun _ h=>nomatch h) (sl _ jz)))
 have p5n : ∀ b∈g98,b∈f_x0 ∨ w.heap.size≤b:=low_or hg99 p5l (fun b hb=>kl b (hs69 b hb))
 replace jz:=STy.keep _ jz p1x (pz).symm
 replace k0:=STy.keep _ k0 p1x (qa).symm
 replace hB:=hB.then p1x (OM.low gl)
 refine inBlk_n <| anz <| Wq rfl (cr [] p1f) <| Qa (Mi rfl) <| Qa (Bs rfl rfl) <| Qa (Ai rfl) <| fun p4q kb=>?_
 cases ho
 exact ⟨_,_,(hB.trans kb),(OM.keep0 o97 kb),p5n,((p1h).symm),fe rfl⟩
 intro p1v
 rw [p1v] at ho
 refine W_exit <| andThen_x <| ?_
 cases ho
 exact ⟨rfl,⟨_,_,(hB.trans pv),(OM.keep0 p3 pv),kl,qb,fe rfl⟩⟩
 rintro ⟨s1_5,s1_o14⟩ _ p3g ⟨ji,g37,hB,p3,kl,qb,F,rfl⟩ ho
 dsimp only at ho
 refine inBlk_n <| anz <| Wq rfl (cr [] p3g) <| Qa (Mi rfl) <| Qa (Ba rfl rfl) <| Qa (Ai rfl) <| fun p8z p3s=>?_
 cases ho
 exact ⟨_,_,(hB.trans p3s),(OM.keep0 p3 p3s),kl,qb,fe rfl⟩
 intro p1t
 rw [p1t] at ho
 refine W_exit <| andThen_x <| ?_
 cases ho
 exact ⟨rfl,⟨_,_,(hB.trans n2),(OM.keep0 p3 n2),gk,d29,fe rfl⟩⟩
 rintro ⟨s0_4,s0_o14⟩ _ p3h ⟨gj,g27,hB,p3,gk,d29,F,rfl⟩ ho
 dsimp only at ho
 refine anz <| wq <| Wq rfl (cr [] p3h) <| Qa (Mv v10 rfl) <| Qa (Av v10 rfl) <| fun p5o gm=>anz <| ?_
 cases ho
 exact W_ret ⟨_,res_1 Tryz.results247,_,_,rfl,(hB.trans gm),(OM.read (OM.keep0 p3 gm)),(low_app (low_wk (OM.low p3)) gk)⟩

abbrev spec_l25All_post (w:World) (x:((List (List Int))×Bool)) (e:Ending) (w':World):Prop:=∃ (v0:Value) (f0:List Nat),e = .returned (.tuple #[v0,.bool x.2])∧Chg [] w w'∧(sImm (sImm (sInt .i64))).rep w'.heap [v0] x.1 f0∧(∀ b∈f0,w.heap.size≤b)
abbrev spec_l25All_T (w:World):=Tm Tryz.prog Tryz.f226 19 (spec_l25All_post w)
theorem spec_l25All_calls {w:World} {x0:MCategory} {z2:Value} {zf:List Nat} {z1:Value} {zg:List Nat} {z7:Value} {zh:List Nat} {z6:Value} {zi:List Nat} {x1:Int} (za:(sImm (sInt .i64)).rep w.heap [z2] x0.From zf) (zb:(sImm (sInt .i64)).rep w.heap [z1] x0.To zg) (zd:(sImm (sInt .i64)).rep w.heap [z7] x0.Identity zh) (zc:(sImm (sImm (sInt .i64))).rep w.heap [z6] x0.Composites zi) {y:((List (List Int))×Bool)} (hm:spec_l25All x0 x1=some y) :
  Calls Tryz.prog 226 #[.agg #[.int .i64 (x0.Objects),z2,z1,z7,z6],.int .i64 (x1)] w (spec_l25All_post w y):=by
 refine Cm (S:=Unit) Tryz.func226 rfl Tryz.ntmps226 rfl hm fun o ho hB=>?_
 clear hm
 refine wq <| W_region rfl <| WL.box fun b1 wd2 hC3 hr4 hl5=>?_
 replace hr4:Row wd2 b1 [.int .i64 (x0.Objects),z2,z1,z7,z6] 32:=hr4
 replace hB:=(hB.trans hC3)
 refine Wb (As rfl) <| Wb (Ab rfl) <| anz <| wq <| ?_
 obtain ⟨y8,hy9,ho⟩:=bs ho
 refine W_any (m:=6) (U:=.replicate 6 []) (S:=[sV (.agg #[.int .i64 (x0.Objects),z2,z1,z7,z6]),sV (.agg #[.int .i64 (x0.Objects),z2,z1,z7,z6]),sV (.int .i64 (x1)),sO (sOwn 2 (sInt .i64)) (y8),sO (sOwn 2 (sInt .i64)) (([]:(List Int))),sO (sOwn 22 (sOwn 2 (sInt .i64))) (([]:(List (List Int))))]) (Z:=[]) hmix rfl (by decide) (by decide +kernel) (fun _ _ _ h=>np_out h) (by decide) rfl (by decide +kernel) (stable_all (by repeat first | exact stable_nil | refine stable_cons stable_val ?_ | refine stable_cons stable_own ?_)) ?_ ?_
 refine owes_cons ?_ <| owes_cons ?_ <| owes_cons ?_ <| owes_cons ?_ <| owes_cons ?_ <| owes_cons ?_ <| owes_nil
 exact Oh rfl rfl rfl [(2,.pointer (some (⟨b1,0,none⟩)))] (cr [] wd2) rfl rfl fun _=>Lg ag32 hr4.at rfl rfl
 exact Oh rfl rfl rfl [(2,.pointer (some (⟨b1,0,none⟩)))] (cr [] wd2) rfl rfl fun _=>Lg ag32 hr4.at rfl rfl
 exact Oh rfl rfl rfl [(1,.int .i64 (x1))] (cr [] wd2) rfl rfl fun _=>Mi rfl
 refine Owes.mem rfl rfl rfl <| fun g r wr hCr H hot=>?_
 have hC:=hCr
 obtain ⟨F,rfl⟩:=fr (r:=r) (l:=[(8,.agg #[.int .i64 (x0.Objects),z2,z1,z7,z6]),(9,.int .i64 (x1))]) ⟨(H 1 (by decide +kernel) 8 rfl),(H 2 (by decide +kernel) 9 rfl),trivial⟩
 exact OpW.own (op_callF Tryz.func143 rfl rfl) (spec_l25Out_calls (kp _ za (hB.trans hC)) (kp _ zb (hB.trans hC)) (kp _ zd (hB.trans hC)) (kp _ zc (hB.trans hC)) hy9)
 refine Owes.mem rfl rfl rfl <| fun g r wr hCr H hot=>?_
 have hC:=hCr
 obtain ⟨F,rfl⟩:=fr (r:=r) (l:=[]) trivial
 exact OpW.made (own_lit0 u22z info2)
 refine Owes.mem rfl rfl rfl <| fun g r wr hCr H hot=>?_
 have hC:=hCr
 obtain ⟨F,rfl⟩:=fr (r:=r) (l:=[]) trivial
 exact OpW.made (own_lit0 u23z info22)
 rintro g r p1y ⟨p3t,hdone,hot,hfresh,hdis⟩
 have pe:OwnV (sOwn 2 (sInt .i64)) (y8) _ _ _:=hdone 3 (by decide) (by decide) 10 rfl
 generalize hvv10:r 10=v10 at pe
 have hfo12:=hfresh 3 (by decide)
 have qp:OwnV (sOwn 2 (sInt .i64)) (([]:(List Int))) _ _ _:=hdone 4 (by decide) (by decide) 11 rfl
 generalize hvv13:r 11=v13 at qp
 have hfo15:=hfresh 4 (by decide)
 have q1:OwnV (sOwn 22 (sOwn 2 (sInt .i64))) (([]:(List (List Int)))) _ _ _:=hdone 5 (by decide) (by decide) 12 rfl
 generalize hvv16:r 12=v16 at q1
 have hfo18:=hfresh 5 (by decide)
 have hdd:=hdis
 obtain ⟨F,rfl⟩:=fw hdone hot [] [(7,.agg #[.int .i64 (x0.Objects),z2,z1,z7,z6])] [0] rfl rfl rfl rfl (z:=[(10,v10),(11,v13),(12,v16)]) ⟨hvv10,hvv13,hvv16,trivial⟩
 obtain ⟨f11,hgf11⟩ : ∃ k,k=g 3:=⟨_,rfl⟩
 rw [← hgf11] at pe hfo12
 replace pe:OE [] w.heap.size p1y (sOwn 2 (sInt .i64)) [v10] (y8) f11:=⟨pe.1,pe.2,fun b hb=>.inr (Nat.le_trans hB.size (hfo12 b hb).1)⟩
 obtain ⟨f14,hgf14⟩ : ∃ k,k=g 4:=⟨_,rfl⟩
 rw [← hgf14] at qp hfo15
 replace qp:OE [] w.heap.size p1y (sOwn 2 (sInt .i64)) [v13] (([]:(List Int))) f14:=⟨qp.1,qp.2,fun b hb=>.inr (Nat.le_trans hB.size (hfo15 b hb).1)⟩
 obtain ⟨n3,hgf17⟩ : ∃ k,k=g 5:=⟨_,rfl⟩
 rw [← hgf17] at q1 hfo18
 replace q1:OE [] w.heap.size p1y (sOwn 22 (sOwn 2 (sInt .i64))) [v16] (([]:(List (List Int)))) n3:=⟨q1.1,q1.2,fun b hb=>.inr (Nat.le_trans hB.size (hfo18 b hb).1)⟩
 have km:=dl (fun b hb=>(hfo18 b hb).1) (one_lt (Row.lt hr4))
 have d25:Dis n3 f11:=fun b hb hm=>hdd 5 3 (by decide) (by decide) (by decide) b ((show ∀ b∈n3,b∈g 5 from (fun b hb=>(by rw [← hgf17]; exact hb))) b hb) ((show ∀ b∈f11,b∈g 3 from (fun b hb=>(by rw [← hgf11]; exact hb))) b hm)
 have j8:Dis n3 f14:=fun b hb hm=>hdd 5 4 (by decide) (by decide) (by decide) b ((show ∀ b∈n3,b∈g 5 from (fun b hb=>(by rw [← hgf17]; exact hb))) b hb) ((show ∀ b∈f14,b∈g 4 from (fun b hb=>(by rw [← hgf14]; exact hb))) b hm)
 replace hr4:=kr hr4 p3t
 replace hB:=(hB.trans p3t)
 replace q1:=OM.of_nil (E:=(sImm (sInt .i64))) rfl rfl q1
 obtain ⟨y28,p5p,ho⟩:=bs ho
 refine WL.call rfl (op_callF Tryz.func246 rfl rfl) ((spec_l25Grow_calls 32) (kp _ za hB) (kp _ zb hB) (kp _ zd hB) (kp _ zc hB) ((Le.own (Le.refl _) 2).le pe.1) ((Le.own (Le.refl _) 2).le qp.1) (OM.give q1 fun _ h=>h) (fun _ h=>nomatch h) (dis_par (sl _ za) (OM.low q1)) (dis_par (sl _ zb) (OM.low q1)) (dis_par (sl _ zd) (OM.low q1)) (dis_par (sl _ zc) (OM.low q1)) (d25).symm (j8).symm p5p) <| ?_
 rintro _ p1k ⟨v32,f33,g34,rfl,jw,ph,d36,p5q⟩
 refine ⟨_,rfl,?_⟩
 have p5r : ∀ b∈g34,b∈[] ∨ w.heap.size≤b:=low_out p5q (low_app (fun _ h=>nomatch h) (low_wk qp.2.2)) hB.size
 replace ph:=OM.back (G:=[]) ph (OM.low q1) hB.size
 replace hr4:=Row.keep hr4 jw ((km).symm _ (ms rfl))
 replace pe:=okp pe jw (d25).symm
 replace qp:=okp qp jw (j8).symm
 replace hB:=hB.then jw (OM.low q1)
 refine Wb (Av v32 rfl) <| anz <| wq <| W_region rfl <| Wb (Mv v32 rfl) <| ?_
 obtain ⟨y45,p17,ho⟩:=bs ho
 refine WL.call rfl (op_callF Tryz.func247 rfl rfl) (spec_l25Sorted_calls (OM.read ph) p17) <| ?_
 rintro _ p18 ⟨v49,gf,rfl,qh,o51,n4⟩
 refine ⟨_,rfl,?_⟩
 have p5t : ∀ b∈gf,b∈[] ∨ w.heap.size≤b:=low_out n4 (low_app (low_wk (OM.low ph)) p5r) hB.size
 replace hr4:=kr hr4 qh
 replace pe:=ko pe qh
 replace qp:=ko qp qh
 replace ph:=OM.keep0 ph qh
 replace hB:=(hB.trans qh)
 refine Wb (Mv v32 rfl) <| Wb (Ln sl23 (OM.read ph) rfl) <| Wb (Bk rfl rfl) <| Wb (Av v49 rfl) <| Wb (Ab rfl) <| anz <| ?_
 cases ho
 exact W_ret ⟨_,res_2 Tryz.results226,_,_,rfl,hB,o51,(fun b hb=>low_in p5t b hb)⟩

abbrev spec_l25Lists_post (w:World) (x:((List (List (List Int)))×Bool)) (e:Ending) (w':World):Prop:=∃ (v0:Value) (f0:List Nat),e = .returned (.tuple #[v0,.bool x.2])∧Chg [] w w'∧(sImm (sImm (sImm (sInt .i64)))).rep w'.heap [v0] x.1 f0∧(∀ b∈f0,w.heap.size≤b)
abbrev spec_l25Lists_T (w:World):=Tm Tryz.prog Tryz.f205 28 (spec_l25Lists_post w)
theorem spec_l25Lists_calls {w:World} {x0:MCategory} {z2:Value} {zf:List Nat} {z1:Value} {zg:List Nat} {z7:Value} {zh:List Nat} {z6:Value} {zi:List Nat} (za:(sImm (sInt .i64)).rep w.heap [z2] x0.From zf) (zb:(sImm (sInt .i64)).rep w.heap [z1] x0.To zg) (zd:(sImm (sInt .i64)).rep w.heap [z7] x0.Identity zh) (zc:(sImm (sImm (sInt .i64))).rep w.heap [z6] x0.Composites zi) {y:((List (List (List Int)))×Bool)} (hm:spec_l25Lists x0=some y) :
  Calls Tryz.prog 205 #[.agg #[.int .i64 (x0.Objects),z2,z1,z7,z6]] w (spec_l25Lists_post w y):=by
 refine Cm (S:=Unit) Tryz.func205 rfl Tryz.ntmps205 rfl hm fun o ho hB=>?_
 clear hm
 refine wq <| W_region rfl <| WL.box fun b1 wd2 hC3 hr4 hl5=>?_
 replace hr4:Row wd2 b1 [.int .i64 (x0.Objects),z2,z1,z7,z6] 32:=hr4
 replace hB:=(hB.trans hC3)
 refine Wb (As rfl) <| Wb (Ab rfl) <| anz <| wq <| W_region rfl <| WL.lit0 (sOwn 22 (sOwn 2 (sInt .i64))) u26z info23 fun v8 wd9 f10 jq pe=>?_
 have jv:=dl (ofr pe) (one_lt (Row.lt hr4))
 replace pe:=OE.low (G:=[]) pe hB.size
 replace hr4:=kr hr4 jq
 replace hB:=(hB.trans jq)
 replace pe:=OM.of_nil (E:=(sImm (sImm (sInt .i64)))) rfl rfl pe
 refine Wb (Av v8 rfl) <| anz <| wq <| wq <| Wq rfl (cr [] wd9) <| Qa (Ai rfl) <| fun p21 pr=>anz <| Wf (S1:=(List (List (List Int)))×Int) (fun s r w'=>match s with | (s0_4,s0_5)=>∃ (v17:Value) (pw:List Nat) (g19:List Nat),Chg [] w w'∧Row w' b1 [.int .i64 (x0.Objects),z2,z1,z7,z6] 32∧OM [] w.heap.size w' 23 (sImm (sImm (sInt .i64))) v17 (s0_4) pw g19∧(∀ b∈g19,b∈[] ∨ w.heap.size≤b)∧Dis [b1] pw∧Dis [b1] g19∧Dis pw g19∧∃ F,r=updL F [(1,.pointer (some (⟨b1,0,none⟩))),(4,v17),(5,.int .i64 (s0_5))]) (spec_l25Lists_T w) ho ⟨_,_,_,(hB.trans pr),(kr hr4 pr),(OM.keep0 pe pr),(fun _ h=>nomatch h),((jv).symm),((fun _ _ h=>nomatch h)),((fun _ _ h=>nomatch h)),fe rfl⟩ ?_ ?_
 rintro ⟨s0_4,s0_5⟩ _ p5u ⟨v17,pw,g19,hB,hr4,pi,gn,go,d23,km,F,rfl⟩ o ho
 replace ho:spec_l25Lists_L0 x0 s0_4 s0_5=some o:=ho
 unfold spec_l25Lists_L0 at ho
 refine wq <| wq <| Wq rfl (cr [] p5u) <| Qa (Mi rfl) <| Qa (Fr fa32_0 rfl) <| Qa (Lr na2 hr4 rfl rfl) <| Qa (Bl rfl rfl) <| fun p91 qc=>anz <| W_cond (b:=decide (s0_5 < x0.Objects)) rfl ?_ ?_
 intro p23
 rw [p23] at ho
 refine W_skip <| anz <| wq <| W_block <| wq <| W_region rfl <| Wa qc (Lg ag32 hr4.at rfl rfl) <| Wb (Mi rfl) <| ?_
 obtain ⟨y29,p5v,ho⟩:=bs ho
 refine WL.call rfl (op_callF Tryz.func226 rfl rfl) (spec_l25All_calls (kp _ za (hB.trans qc)) (kp _ zb (hB.trans qc)) (kp _ zd (hB.trans qc)) (kp _ zc (hB.trans qc)) p5v) <| ?_
 rintro _ p3q ⟨v33,qd,rfl,n2,ph,p24⟩
 refine ⟨_,rfl,?_⟩
 have d37:=dl p24 (one_lt (Row.lt (kr hr4 qc)))
 have n5:=dl p24 (OM.lt1 (OM.keep0 pi qc))
 have p5w : ∀ b∈qd,b∈[] ∨ w.heap.size≤b:=fun b hb=>.inr (Nat.le_trans (hB.trans qc).size (p24 b hb))
 have p26:=qc.trans n2
 replace hr4:=kr hr4 p26
 replace pi:=OM.keep0 pi p26
 replace hB:=(hB.trans p26)
 refine Wb (Mt rfl) <| Wb (Ex v33 rfl rfl) <| Wb (Exb rfl rfl) <| Wb (Av v33 rfl) <| Wb (Ab rfl) <| anz <| wq <| wq <| Wq rfl (cr [] p3q) <| Qa (Mb rfl) <| Qa (Nt rfl) <| fun p92 p27=>anz <| W_cond (b:=!(y29.2)) rfl ?_ ?_
 intro pb
 rw [pb] at ho
 refine wq <| Wq rfl p27 <| Qa (As rfl) <| Qa (Ab rfl) <| fun p3x p5x=>anz <| ?_
 cases ho
 exact W_ret ⟨_,res_2 Tryz.results205,_,_,rfl,(hB.trans p5x),nil_imm,(fun _ h=>nomatch h)⟩
 intro pb
 rw [pb] at ho
 refine W_skip <| anz <| W_region rfl <| Wb (Mv v17 rfl) <| Wb (Mv v33 rfl) <| WL.lit1 u26z info23 zr23 sz23 (STy.one _ ph _ (ms rfl)) fun b46 p18 qh jy p5z=>?_
 replace jy:Row p18 b46 [v33] 23:=jy
 have gp:=dl (onw p5z) (OM.lt1 (OM.keep0 pi p27))
 have gq:=p27.trans qh
 replace ph:=kp _ ph gq
 replace hr4:=kr hr4 gq
 replace pi:=OM.keep0 pi gq
 replace hB:=(hB.trans gq)
 obtain ⟨n63,hn64,ho⟩:=bs ho
 have hn64a:=fits_some hn64
 refine WLM.append1 u26z info23 zr23 sz23 rfl rfl pi rfl jy ph n5 (km).symm (by rw [by23]; exact hn64a.1) hn64a.2 hB.size fun v57 p60 f59 jr o61 hs62=>?_
 have d65:=dis_upd (k:=[]) hs62 (go).symm (fun _ h=>nomatch h) (one_lt (Row.lt hr4))
 have d66:Dis (g19++qd) [b1]:=dis_or (fun b hb=>List.mem_append.1 hb) (d23).symm d37
 have kn:Dis (g19++qd) f59:=dis_or (fun b hb=>List.mem_append.1 hb) (Dis.symm (dis_upd (k:=[]) hs62 (Dis.symm (km).symm) (fun _ h=>nomatch h) (OM.lt2 pi))) (Dis.symm (dis_upd (k:=[]) hs62 (Dis.symm n5) (fun _ h=>nomatch h) (sl _ ph)))
 have p64 : ∀ b∈(g19++qd),b∈[] ∨ w.heap.size≤b:=low_or (fun b hb=>List.mem_append.1 hb) gn p5w
 replace ph:=STy.keep _ ph jr n5
 replace hr4:=Row.keep hr4 jr (go _ (ms rfl))
 replace jy:=Row.keep jy jr (gp _ (ms rfl))
 replace hB:=hB.then jr (OM.low pi)
 refine Wb (Av v57 rfl) <| inBlk_n <| anz <| Wq rfl (cr [] p60) <| Qa (Mi rfl) <| Qa (Ba rfl rfl) <| Qa (Ai rfl) <| fun p93 p28=>?_
 cases ho
 exact ⟨_,_,_,(hB.trans p28),(kr hr4 p28),(OM.keep0 o61 p28),p64,((d65).symm),((d66).symm),((kn).symm),fe rfl⟩
 intro p23
 rw [p23] at ho
 refine W_exit <| andThen_x <| ?_
 cases ho
 exact ⟨rfl,⟨_,_,_,(hB.trans qc),(kr hr4 qc),(OM.keep0 pi qc),gn,go,d23,km,fe rfl⟩⟩
 rintro ⟨s0_4,s0_5⟩ _ p65 ⟨v17,pw,g19,hB,hr4,pi,gn,go,d23,km,F,rfl⟩ ho
 dsimp only at ho
 refine anz <| wq <| Wq rfl (cr [] p65) <| Qa (Mv v17 rfl) <| Qa (Av v17 rfl) <| Qa (Ab rfl) <| fun p3f p3y=>anz <| ?_
 cases ho
 exact W_ret ⟨_,res_2 Tryz.results205,_,_,rfl,(hB.trans p3y),(OM.read (OM.keep0 pi p3y)),(fun b hb=>low_in (low_app (low_wk (OM.low pi)) gn) b hb)⟩

abbrev spec_l01Own2_post (w:World) (x:((List (List Int)))) (e:Ending) (w':World):Prop:=∃ (v0:Value) (f0:List Nat),e = .returned (v0)∧Chg [] w w'∧OE [] w.heap.size w' (sOwn 22 (sOwn 2 (sInt .i64))) [v0] x f0
abbrev spec_l01Own2_T (w:World):=Tm Tryz.prog Tryz.f174 21 (spec_l01Own2_post w)
theorem spec_l01Own2_calls {w:World} {x0:(List (List Int))} {v_x0:Value} {f_x0:List Nat} (h_x0:(sImm (sImm (sInt .i64))).rep w.heap [v_x0] x0 f_x0) {y:((List (List Int)))} (hm:spec_l01Own2 x0=some y) :
  Calls Tryz.prog 174 #[v_x0] w (spec_l01Own2_post w y):=by
 refine Cm (S:=Unit) Tryz.func174 rfl Tryz.ntmps174 rfl hm fun o ho hB=>?_
 clear hm
 refine wq <| Wq rfl (cr [] w) <| Qa (As rfl) <| fun wd1 hC2=>anz <| wq <| W_region rfl <| WL.lit0 (sOwn 2 (sInt .i64)) u23z info22 fun v3 wd4 f5 hC6 o7=>?_
 replace o7:=OE.low (G:=[]) o7 (hB.trans hC2).size
 have hT8:=hC2.trans hC6
 replace hB:=(hB.trans hT8)
 refine Wb (Av v3 rfl) <| anz <| wq <| wq <| Wq rfl (cr [] wd4) <| Qa (Ai rfl) <| fun wd9 js=>anz <| Wf (S1:=(List (List Int))×Int) (fun s r w'=>match s with | (s0_3,s0_4)=>∃ (v11:Value) (q3:List Nat),Chg [] w w'∧OE [] w.heap.size w' (sOwn 22 (sOwn 2 (sInt .i64))) [v11] (s0_3) q3∧∃ F,r=updL F [(0,v_x0),(3,v11),(4,.int .i64 (s0_4))]) (spec_l01Own2_T w) ho ⟨_,_,(hB.trans js),(ko o7 js),fe rfl⟩ ?_ ?_
 rintro ⟨s0_3,s0_4⟩ _ p66 ⟨v11,q3,hB,qq,F,rfl⟩ o ho
 replace ho:spec_l01Own2_L0 x0 s0_3 s0_4=some o:=ho
 unfold spec_l01Own2_L0 at ho
 refine wq <| wq <| Wq rfl (cr [] p66) <| Qa (Mi rfl) <| Qa (Mv v_x0 rfl) <| Qa (Ln sl23 (kB h_x0 hB) rfl) <| Qa (Bl rfl rfl) <| fun p21 pr=>anz <| W_cond (b:=decide (s0_4 < (x0.length:Int))) rfl ?_ ?_
 intro p29
 rw [p29] at ho
 refine W_skip <| anz <| wq <| W_block <| W_region rfl <| Wb (Mv v11 rfl) <| Wb (Mv v_x0 rfl) <| Wb (Mi rfl) <| ?_
 obtain ⟨e18,hx19e,ho⟩:=bs ho
 have hx19:=idx_some hx19e
 refine Wa pr (Ix sl23 (kB h_x0 hB) hx19 rfl rfl rfl) <| ?_
 obtain ⟨u20,fu21,hu22,p67,hs24⟩:=one_get rfl h_x0 hx19.1 hx19.2
 refine Wa pr (Ld na22 (hB.cell0 hu22) rfl) <| ?_
 obtain ⟨y25,p68,ho⟩:=bs ho
 refine WL.call rfl (op_callF Tryz.func89 rfl rfl) (spec_l01Own_calls (kp _ p67 (hB.trans pr)) p68) <| ?_
 rintro _ p12 ⟨v29,pd,rfl,ku,p1⟩
 refine ⟨_,rfl,?_⟩
 have d32:=dl (ofr p1) (sl _ (kp _ qq.1 pr))
 replace p1:=OE.low (G:=[]) p1 (hB.trans pr).size
 have p3z:=pr.trans ku
 replace qq:=ko qq p3z
 replace hB:=(hB.trans p3z)
 refine WL.lit1 u23z info22 zr22 sz22 (STy.one _ p1.1 _ (ms rfl)) fun b34 p6a p2b n6 p6b=>?_
 replace n6:Row p6a b34 [v29] 22:=n6
 have d40:=dl (onw p6b) (sl _ qq.1)
 replace qq:=ko qq p2b
 replace p1:=ko p1 p2b
 replace hB:=(hB.trans p2b)
 obtain ⟨n49,hn50,ho⟩:=bs ho
 have hn50a:=fits_some hn50
 refine WL.append1 (E:=(sOwn 2 (sInt .i64))) _ _ u23z info22 zr22 sz22 rfl rfl rfl qq rfl n6 p1.1 p1.2.1 p1.2.2 d32 (by rw [by22]; exact hn50a.1) hn50a.2 hB.size fun v43 p3x f45 p40 o47 hs48=>?_
 replace n6:=Row.keep n6 p40 (d40 _ (ms rfl))
 replace hB:=hB.then p40 qq.2.2
 refine Wb (Av v43 rfl) <| inBlk_n <| anz <| Wq rfl (cr [] p3x) <| Qa (Mi rfl) <| Qa (Ba rfl rfl) <| Qa (Ai rfl) <| fun p95 p41=>?_
 cases ho
 exact ⟨_,_,(hB.trans p41),(ko o47 p41),fe rfl⟩
 intro p29
 rw [p29] at ho
 refine W_exit <| andThen_x <| ?_
 cases ho
 exact ⟨rfl,⟨_,_,(hB.trans pr),(ko qq pr),fe rfl⟩⟩
 rintro ⟨s0_3,s0_4⟩ _ p6d ⟨v11,q3,hB,qq,F,rfl⟩ ho
 dsimp only at ho
 refine anz <| wq <| Wq rfl (cr [] p6d) <| Qa (Mv v11 rfl) <| Qa (Av v11 rfl) <| fun p4i ka=>anz <| ?_
 cases ho
 exact W_ret ⟨_,res_1 Tryz.results174,_,_,rfl,(hB.trans ka),(ko qq ka)⟩

abbrev spec_l02Own_post (w:World) (x:(MCategory)) (e:Ending) (w':World):Prop:=∃ (v0:Value) (f0:List Nat) (v1:Value) (f1:List Nat) (v2:Value) (f2:List Nat) (v3:Value) (f3:List Nat),e = .returned (.agg #[.int .i64 x.Objects,v0,v1,v2,v3])∧Chg [] w w'∧OE [] w.heap.size w' (sOwn 2 (sInt .i64)) [v0] x.From f0∧OE [] w.heap.size w' (sOwn 2 (sInt .i64)) [v1] x.To f1∧OE [] w.heap.size w' (sOwn 2 (sInt .i64)) [v2] x.Identity f2∧OE [] w.heap.size w' (sOwn 22 (sOwn 2 (sInt .i64))) [v3] x.Composites f3∧Dis f0 f1∧Dis f0 f2∧Dis f0 f3∧Dis f1 f2∧Dis f1 f3∧Dis f2 f3
abbrev spec_l02Own_T (w:World):=Tm Tryz.prog Tryz.f155 18 (spec_l02Own_post w)
theorem spec_l02Own_calls {w:World} {x0:MCategory} {z2:Value} {zf:List Nat} {z1:Value} {zg:List Nat} {z7:Value} {zh:List Nat} {z6:Value} {zi:List Nat} (za:(sImm (sInt .i64)).rep w.heap [z2] x0.From zf) (zb:(sImm (sInt .i64)).rep w.heap [z1] x0.To zg) (zd:(sImm (sInt .i64)).rep w.heap [z7] x0.Identity zh) (zc:(sImm (sImm (sInt .i64))).rep w.heap [z6] x0.Composites zi) {y:(MCategory)} (hm:spec_l02Own x0=some y) :
  Calls Tryz.prog 155 #[.agg #[.int .i64 (x0.Objects),z2,z1,z7,z6]] w (spec_l02Own_post w y):=by
 refine Cm (S:=Unit) Tryz.func155 rfl Tryz.ntmps155 rfl hm fun o ho hB=>?_
 clear hm
 refine wq <| W_region rfl <| WL.box fun b1 wd2 hC3 hr4 hl5=>?_
 replace hr4:Row wd2 b1 [.int .i64 (x0.Objects),z2,z1,z7,z6] 32:=hr4
 replace hB:=(hB.trans hC3)
 refine WL.alloc info32 zr32 fun b8 wd9 js p2 n7=>?_
 replace p2:Row wd9 b8 [.int .i64 ((0:Int)),.slice none 0 0,.slice none 0 0,.slice none 0 0,.slice none 0 0] 32:=p2
 have p2d:w.heap.size≤b8:=Nat.le_trans hB.size n7
 have kt:=dl (onw n7) (one_lt (Row.lt hr4))
 replace hr4:=kr hr4 js
 replace hB:=(hB.trans js)
 refine anz <| wq <| ?_
 obtain ⟨y16,p2e,ho⟩:=bs ho
 obtain ⟨y21,p6e,ho⟩:=bs ho
 obtain ⟨y26,p6f,ho⟩:=bs ho
 obtain ⟨y31,p6g,ho⟩:=bs ho
 refine W_any (m:=14) (U:=.replicate 14 []) (S:=[sV (.pointer (some (⟨b1,0,none⟩))),sV (.int .i64 (x0.Objects)),sV (.pointer (some (⟨b1,1,none⟩))),sV (z2),sO (sOwn 2 (sInt .i64)) (y16),sV (.pointer (some (⟨b1,2,none⟩))),sV (z1),sO (sOwn 2 (sInt .i64)) (y21),sV (.pointer (some (⟨b1,3,none⟩))),sV (z7),sO (sOwn 2 (sInt .i64)) (y26),sV (.pointer (some (⟨b1,4,none⟩))),sV (z6),sO (sOwn 22 (sOwn 2 (sInt .i64))) (y31)]) (Z:=[]) hmix rfl (by decide) (by decide +kernel) (fun _ _ _ h=>np_out h) (by decide) rfl (by decide +kernel) (stable_all (by repeat first | exact stable_nil | refine stable_cons stable_val ?_ | refine stable_cons stable_own ?_)) ?_ ?_
 refine owes_cons ?_ <| owes_cons ?_ <| owes_cons ?_ <| owes_cons ?_ <| owes_cons ?_ <| owes_cons ?_ <| owes_cons ?_ <| owes_cons ?_ <| owes_cons ?_ <| owes_cons ?_ <| owes_cons ?_ <| owes_cons ?_ <| owes_cons ?_ <| owes_cons ?_ <| owes_nil
 exact Oh rfl rfl rfl [(1,.pointer (some (⟨b1,0,none⟩)))] (cr [] wd9) rfl rfl fun _=>Fr fa32_0 rfl
 exact Ov rfl rfl rfl [] [(3,.pointer (some (⟨b1,0,none⟩)))] [0] (cr [] wd9) rfl rfl (by decide +kernel) rfl fun _=>Lr na2 hr4 rfl rfl
 exact Oh rfl rfl rfl [(1,.pointer (some (⟨b1,0,none⟩)))] (cr [] wd9) rfl rfl fun _=>Fr fa32_1 rfl
 exact Ov rfl rfl rfl [] [(5,.pointer (some (⟨b1,1,none⟩)))] [2] (cr [] wd9) rfl rfl (by decide +kernel) rfl fun _=>Lr na22 hr4 rfl rfl
 refine Owes.mem rfl rfl rfl <| fun g r wr hCr H hot=>?_
 have hC:=hCr
 obtain ⟨F,rfl⟩:=fr (r:=r) (l:=[(6,z2)]) ⟨(H 3 (by decide +kernel) 6 rfl),trivial⟩
 exact OpW.own (op_callF Tryz.func89 rfl rfl) (spec_l01Own_calls (kp _ za (hB.trans hC)) p2e)
 exact Oh rfl rfl rfl [(1,.pointer (some (⟨b1,0,none⟩)))] (cr [] wd9) rfl rfl fun _=>Fr fa32_2 rfl
 exact Ov rfl rfl rfl [] [(8,.pointer (some (⟨b1,2,none⟩)))] [5] (cr [] wd9) rfl rfl (by decide +kernel) rfl fun _=>Lr na22 hr4 rfl rfl
 refine Owes.mem rfl rfl rfl <| fun g r wr hCr H hot=>?_
 have hC:=hCr
 obtain ⟨F,rfl⟩:=fr (r:=r) (l:=[(9,z1)]) ⟨(H 6 (by decide +kernel) 9 rfl),trivial⟩
 exact OpW.own (op_callF Tryz.func89 rfl rfl) (spec_l01Own_calls (kp _ zb (hB.trans hC)) p6e)
 exact Oh rfl rfl rfl [(1,.pointer (some (⟨b1,0,none⟩)))] (cr [] wd9) rfl rfl fun _=>Fr fa32_3 rfl
 exact Ov rfl rfl rfl [] [(11,.pointer (some (⟨b1,3,none⟩)))] [8] (cr [] wd9) rfl rfl (by decide +kernel) rfl fun _=>Lr na22 hr4 rfl rfl
 refine Owes.mem rfl rfl rfl <| fun g r wr hCr H hot=>?_
 have hC:=hCr
 obtain ⟨F,rfl⟩:=fr (r:=r) (l:=[(12,z7)]) ⟨(H 9 (by decide +kernel) 12 rfl),trivial⟩
 exact OpW.own (op_callF Tryz.func89 rfl rfl) (spec_l01Own_calls (kp _ zd (hB.trans hC)) p6f)
 exact Oh rfl rfl rfl [(1,.pointer (some (⟨b1,0,none⟩)))] (cr [] wd9) rfl rfl fun _=>Fr fa32_4 rfl
 exact Ov rfl rfl rfl [] [(14,.pointer (some (⟨b1,4,none⟩)))] [11] (cr [] wd9) rfl rfl (by decide +kernel) rfl fun _=>Lr na23 hr4 rfl rfl
 refine Owes.mem rfl rfl rfl <| fun g r wr hCr H hot=>?_
 have hC:=hCr
 obtain ⟨F,rfl⟩:=fr (r:=r) (l:=[(15,z6)]) ⟨(H 12 (by decide +kernel) 15 rfl),trivial⟩
 exact OpW.own (op_callF Tryz.func174 rfl rfl) (spec_l01Own2_calls (kp _ zc (hB.trans hC)) p6g)
 rintro g r n9 ⟨k1,hdone,hot,hfresh,hdis⟩
 have pi:OwnV (sOwn 2 (sInt .i64)) (y16) _ _ _:=hdone 4 (by decide) (by decide) 7 rfl
 generalize hvv18:r 7=v18 at pi
 have hfo20:=hfresh 4 (by decide)
 have p0:OwnV (sOwn 2 (sInt .i64)) (y21) _ _ _:=hdone 7 (by decide) (by decide) 10 rfl
 generalize hvv23:r 10=v23 at p0
 have hfo25:=hfresh 7 (by decide)
 have j1:OwnV (sOwn 2 (sInt .i64)) (y26) _ _ _:=hdone 10 (by decide) (by decide) 13 rfl
 generalize hvv28:r 13=v28 at j1
 have hfo30:=hfresh 10 (by decide)
 have ph:OwnV (sOwn 22 (sOwn 2 (sInt .i64))) (y31) _ _ _:=hdone 13 (by decide) (by decide) 16 rfl
 generalize hvv33:r 16=v33 at ph
 have hfo35:=hfresh 13 (by decide)
 have hdd:=hdis
 obtain ⟨F,rfl⟩:=fw hdone hot [(2,.pointer (some (⟨b8,0,none⟩)))] [(4,.int .i64 (x0.Objects))] [1] rfl rfl rfl rfl (z:=[(7,v18),(10,v23),(13,v28),(16,v33)]) ⟨hvv18,hvv23,hvv28,hvv33,trivial⟩
 obtain ⟨k2,hgf19⟩ : ∃ k,k=g 4:=⟨_,rfl⟩
 rw [← hgf19] at pi hfo20
 replace pi:OE [] w.heap.size n9 (sOwn 2 (sInt .i64)) [v18] (y16) k2:=⟨pi.1,pi.2,fun b hb=>.inr (Nat.le_trans hB.size (hfo20 b hb).1)⟩
 have qb:=dl (fun b hb=>(hfo20 b hb).1) (one_lt (Row.lt p2))
 obtain ⟨pa,hgf24⟩ : ∃ k,k=g 7:=⟨_,rfl⟩
 rw [← hgf24] at p0 hfo25
 replace p0:OE [] w.heap.size n9 (sOwn 2 (sInt .i64)) [v23] (y21) pa:=⟨p0.1,p0.2,fun b hb=>.inr (Nat.le_trans hB.size (hfo25 b hb).1)⟩
 have d41:=dl (fun b hb=>(hfo25 b hb).1) (one_lt (Row.lt p2))
 have d42:Dis pa k2:=fun b hb hm=>hdd 7 4 (by decide) (by decide) (by decide) b ((show ∀ b∈pa,b∈g 7 from (fun b hb=>(by rw [← hgf24]; exact hb))) b hb) ((show ∀ b∈k2,b∈g 4 from (fun b hb=>(by rw [← hgf19]; exact hb))) b hm)
 obtain ⟨k3,hgf29⟩ : ∃ k,k=g 10:=⟨_,rfl⟩
 rw [← hgf29] at j1 hfo30
 replace j1:OE [] w.heap.size n9 (sOwn 2 (sInt .i64)) [v28] (y26) k3:=⟨j1.1,j1.2,fun b hb=>.inr (Nat.le_trans hB.size (hfo30 b hb).1)⟩
 have kw:=dl (fun b hb=>(hfo30 b hb).1) (one_lt (Row.lt p2))
 have na:Dis k3 k2:=fun b hb hm=>hdd 10 4 (by decide) (by decide) (by decide) b ((show ∀ b∈k3,b∈g 10 from (fun b hb=>(by rw [← hgf29]; exact hb))) b hb) ((show ∀ b∈k2,b∈g 4 from (fun b hb=>(by rw [← hgf19]; exact hb))) b hm)
 have d46:Dis k3 pa:=fun b hb hm=>hdd 10 7 (by decide) (by decide) (by decide) b ((show ∀ b∈k3,b∈g 10 from (fun b hb=>(by rw [← hgf29]; exact hb))) b hb) ((show ∀ b∈pa,b∈g 7 from (fun b hb=>(by rw [← hgf24]; exact hb))) b hm)
 obtain ⟨qd,hgf34⟩ : ∃ k,k=g 13:=⟨_,rfl⟩
 rw [← hgf34] at ph hfo35
 replace ph:OE [] w.heap.size n9 (sOwn 22 (sOwn 2 (sInt .i64))) [v33] (y31) qd:=⟨ph.1,ph.2,fun b hb=>.inr (Nat.le_trans hB.size (hfo35 b hb).1)⟩
 have d48:=dl (fun b hb=>(hfo35 b hb).1) (one_lt (Row.lt p2))
 have d49:Dis qd k2:=fun b hb hm=>hdd 13 4 (by decide) (by decide) (by decide) b ((show ∀ b∈qd,b∈g 13 from (fun b hb=>(by rw [← hgf34]; exact hb))) b hb) ((show ∀ b∈k2,b∈g 4 from (fun b hb=>(by rw [← hgf19]; exact hb))) b hm)
 have d50:Dis qd pa:=fun b hb hm=>hdd 13 7 (by decide) (by decide) (by decide) b ((show ∀ b∈qd,b∈g 13 from (fun b hb=>(by rw [← hgf34]; exact hb))) b hb) ((show ∀ b∈pa,b∈g 7 from (fun b hb=>(by rw [← hgf24]; exact hb))) b hm)
 have d51:Dis qd k3:=fun b hb hm=>hdd 13 10 (by decide) (by decide) (by decide) b ((show ∀ b∈qd,b∈g 13 from (fun b hb=>(by rw [← hgf34]; exact hb))) b hb) ((show ∀ b∈k3,b∈g 10 from (fun b hb=>(by rw [← hgf29]; exact hb))) b hm)
 replace hr4:=kr hr4 k1
 replace p2:=kr p2 k1
 replace hB:=(hB.trans k1)
 refine Wb (Bu (bld32_0_1_2_3_4 rfl (STy.one _ pi.1 _ (ms rfl)) (STy.one _ p0.1 _ (ms rfl)) (STy.one _ j1.1 _ (ms rfl)) (STy.one _ ph.1 _ (ms rfl)))) <| WL.storeAll (us:=[.int .i64 (x0.Objects),v18,v23,v28,v33]) info32 (by rw [sz32]; rfl) p2 rfl rfl rfl (by intro u hu; simp only [List.mem_cons,List.mem_nil_iff,or_false] at hu; rcases hu with rfl | rfl | rfl | rfl | rfl <;> first | exact rfl | exact (STy.one _ pi.1 _ (ms rfl)) | exact (STy.one _ p0.1 _ (ms rfl)) | exact (STy.one _ j1.1 _ (ms rfl)) | exact (STy.one _ ph.1 _ (ms rfl))) fun p6k qr p2j=>?_
 replace p2j:Row p6k b8 [.int .i64 (x0.Objects),v18,v23,v28,v33] 32:=p2j
 replace hr4:=Row.keep hr4 qr ((kt).symm _ (ms rfl))
 replace pi:=okp pi qr qb
 replace p0:=okp p0 qr d41
 replace j1:=okp j1 qr kw
 replace ph:=okp ph qr d48
 replace hB:=hB.then qr (one_then p2d)
 refine anz <| ?_
 cases ho
 exact W_ret ⟨_,res_c Tryz.results155 u32 rfl info32 (by rw [sz32]; rfl) rfl p2j.at,_,_,_,_,_,_,_,_,rfl,hB,pi,p0,j1,ph,((d42).symm),((na).symm),((d49).symm),((d46).symm),((d50).symm),((d51).symm)⟩

abbrev spec_l25Pull_post (w:World) (x:((List Int))) (e:Ending) (w':World):Prop:=∃ (v0:Value) (f0:List Nat),e = .returned (v0)∧Chg [] w w'∧OE [] w.heap.size w' (sOwn 2 (sInt .i64)) [v0] x f0
abbrev spec_l25Pull_T (w:World):=Tm Tryz.prog Tryz.f144 41 (spec_l25Pull_post w)
theorem spec_l25Pull_calls {w:World} {x0:MCategory} {z2:Value} {zf:List Nat} {z1:Value} {zg:List Nat} {z7:Value} {zh:List Nat} {z6:Value} {zi:List Nat} {x1:Int} {x2:(List Int)} {v_x2:Value} {f_x2:List Nat} (za:(sImm (sInt .i64)).rep w.heap [z2] x0.From zf) (zb:(sImm (sInt .i64)).rep w.heap [z1] x0.To zg) (zd:(sImm (sInt .i64)).rep w.heap [z7] x0.Identity zh) (zc:(sImm (sImm (sInt .i64))).rep w.heap [z6] x0.Composites zi) (h_x2:(sImm (sInt .i64)).rep w.heap [v_x2] x2 f_x2) {y:((List Int))} (hm:spec_l25Pull x0 x1 x2=some y) :
  Calls Tryz.prog 144 #[.agg #[.int .i64 (x0.Objects),z2,z1,z7,z6],.int .i64 (x1),v_x2] w (spec_l25Pull_post w y):=by
 refine Cm (S:=Unit) Tryz.func144 rfl Tryz.ntmps144 rfl hm fun o ho hB=>?_
 clear hm
 refine wq <| W_region rfl <| WL.box fun b1 wd2 hC3 hr4 hl5=>?_
 replace hr4:Row wd2 b1 [.int .i64 (x0.Objects),z2,z1,z7,z6] 32:=hr4
 replace hB:=(hB.trans hC3)
 refine Wb (As rfl) <| anz <| wq <| W_region rfl <| WL.lit0 (sInt .i64) u22z info2 fun v8 wd9 f10 jq pe=>?_
 have jv:=dl (ofr pe) (one_lt (Row.lt hr4))
 replace pe:=OE.low (G:=[]) pe hB.size
 replace hr4:=kr hr4 jq
 replace hB:=(hB.trans jq)
 refine Wb (Av v8 rfl) <| anz <| wq <| wq <| Wq rfl (cr [] wd9) <| Qa (Ai rfl) <| fun p21 pr=>anz <| Wf (S1:=(List Int)×Int) (fun s r w'=>match s with | (s0_7,s0_8)=>∃ (v17:Value) (pw:List Nat),Chg [] w w'∧Row w' b1 [.int .i64 (x0.Objects),z2,z1,z7,z6] 32∧OE [] w.heap.size w' (sOwn 2 (sInt .i64)) [v17] (s0_7) pw∧Dis [b1] pw∧∃ F,r=updL F [(1,.int .i64 (x1)),(2,v_x2),(3,.pointer (some (⟨b1,0,none⟩))),(7,v17),(8,.int .i64 (s0_8))]) (spec_l25Pull_T w) ho ⟨_,_,(hB.trans pr),(kr hr4 pr),(ko pe pr),((jv).symm),fe rfl⟩ ?_ ?_
 rintro ⟨s0_7,s0_8⟩ _ g8 ⟨v17,pw,hB,hr4,ps,q7,F,rfl⟩ o ho
 replace ho:spec_l25Pull_L0 x0 x1 x2 s0_7 s0_8=some o:=ho
 unfold spec_l25Pull_L0 at ho
 refine wq <| wq <| Wq rfl (cr [] g8) <| Qa (Mi rfl) <| Qa (Fr fa32_1 rfl) <| Qa (Lr na22 hr4 rfl rfl) <| Qa (Ln sl22 (kB za hB) rfl) <| Qa (Bl rfl rfl) <| fun p42 po=>anz <| W_cond (b:=decide (s0_8 < (x0.From.length:Int))) rfl ?_ ?_
 intro k4
 rw [k4] at ho
 refine W_skip <| anz <| wq <| W_block <| wq <| Wqd rfl (by kernel_rfl) po <| ?_
 obtain ⟨g25,hm26,ho⟩:=bs ho
 refine QL.meet (fun r=>∃ F,r=updL F [(1,.int .i64 (x1)),(2,v_x2),(3,.pointer (some (⟨b1,0,none⟩))),(7,v17),(8,.int .i64 (s0_8)),(35,.bool (g25))]) ?_ ?_
 skip
 refine Qa (Fr fa32_2 rfl) <| Qa (Lr na22 hr4 rfl rfl) <| Qa (Mi rfl) <| ?_
 obtain ⟨e27,hx28e,hm26⟩:=bs hm26
 have hx28:=idx_some hx28e
 refine Qa (Ix sl22 (kB zb hB) hx28 rfl rfl rfl) <| Qa (Ei na2 (kB zb hB) hx28 rfl) <| Qa (Fr fa32_1 rfl) <| Qa (Lr na22 hr4 rfl rfl) <| Qa (Mi rfl) <| ?_
 obtain ⟨e29,hx30e,hm26⟩:=bs hm26
 have hx30:=idx_some hx30e
 refine Qa (Ix sl22 (kB za hB) hx30 rfl rfl rfl) <| Qa (Ei na2 (kB za hB) hx30 rfl) <| Qa (Be rfl rfl) <| Qa (Mb rfl) <| ?_
 rcases Bool.eq_false_or_eq_true (e27 == e29) with pu | pu
 rw [pu] at hm26
 refine Qg rfl pu (Mv v_x2 rfl) <| Qg rfl pu (Lg ag32 hr4.at rfl rfl) <| Qg rfl pu (Mi rfl) <| Qg rfl pu (Mi rfl) <| ?_
 obtain ⟨y32,p2k,hm26⟩:=bs hm26
 refine Qcg rfl pu Tryz.func142 rfl rfl (fun _ hC=>spec_l02Then_calls (kp _ za (hB.trans hC)) (kp _ zb (hB.trans hC)) (kp _ zd (hB.trans hC)) (kp _ zc (hB.trans hC)) p2k) <| ?_
 obtain ⟨y34,p6l,hm26⟩:=bs hm26
 refine Qcg rfl pu Tryz.func141 rfl rfl (fun _ hC=>spec_l01Has_calls (kp _ h_x2 (hB.trans hC)) p6l) <| Qa (PTb rfl pu rfl) <| ?_
 cases hm26
 exact fe rfl
 rw [pu] at hm26
 refine Sk rfl pu rfl <| Sk rfl pu rfl <| Sk rfl pu rfl <| Sk rfl pu rfl <| Sk rfl pu rfl <| Sk rfl pu rfl <| Qa (PFb rfl pu rfl) <| ?_
 cases hm26
 exact fe rfl
 rintro _ ⟨F,rfl⟩
 refine fun n9 k1=>anz <| W_cond (b:=g25) rfl ?_ ?_
 intro p2l
 rw [p2l] at ho
 refine W_region rfl <| Wb (Mv v17 rfl) <| Wb (Mi rfl) <| WL.lit1 u22z info2 zr2 sz2 rfl fun nb p1u p6m nc p6n=>?_
 replace nc:Row p1u nb [.int .i64 (s0_8)] 2:=nc
 have d46:=dl (onw p6n) (sl _ (kp _ ps.1 k1))
 have q4:=k1.trans p6m
 replace hr4:=kr hr4 q4
 replace ps:=ko ps q4
 replace hB:=(hB.trans q4)
 obtain ⟨n54,hn55,ho⟩:=bs ho
 have hn55a:=fits_some hn55
 refine WL.append1 (E:=(sInt .i64)) _ _ u22z info2 zr2 sz2 rfl rfl rfl ps rfl nc ⟨rfl,rfl⟩ List.nodup_nil (fun _ h=>nomatch h) (fun _ h=>nomatch h) (by rw [by2]; exact hn55a.1) hn55a.2 hB.size fun v48 p1l gf q5 o52 hs53=>?_
 have kc:=dis_upd hs53 (q7).symm (fun _ h=>nomatch h) (one_lt (Row.lt hr4))
 replace hr4:=Row.keep hr4 q5 (q7 _ (ms rfl))
 replace nc:=Row.keep nc q5 (d46 _ (ms rfl))
 replace hB:=hB.then q5 ps.2.2
 refine Wb (Av v48 rfl) <| inBlk_n <| anz <| Wq rfl (cr [] p1l) <| Qa (Mi rfl) <| Qa (Ba rfl rfl) <| Qa (Ai rfl) <| fun p3d jr=>?_
 cases ho
 exact ⟨_,_,(hB.trans jr),(kr hr4 jr),(ko o52 jr),((kc).symm),fe rfl⟩
 intro p2l
 rw [p2l] at ho
 refine W_skip <| inBlk_n <| anz <| Wq rfl k1 <| Qa (Mi rfl) <| Qa (Ba rfl rfl) <| Qa (Ai rfl) <| fun p96 p2m=>?_
 cases ho
 exact ⟨_,_,(hB.trans p2m),(kr hr4 p2m),(ko ps p2m),q7,fe rfl⟩
 intro k4
 rw [k4] at ho
 refine W_exit <| andThen_x <| ?_
 cases ho
 exact ⟨rfl,⟨_,_,(hB.trans po),(kr hr4 po),(ko ps po),q7,fe rfl⟩⟩
 rintro ⟨s0_7,s0_8⟩ _ p43 ⟨v17,pw,hB,hr4,ps,q7,F,rfl⟩ ho
 dsimp only at ho
 refine anz <| wq <| Wq rfl (cr [] p43) <| Qa (Mv v17 rfl) <| Qa (Av v17 rfl) <| fun p1a qs=>anz <| ?_
 cases ho
 exact W_ret ⟨_,res_1 Tryz.results144,_,_,rfl,(hB.trans qs),(ko ps qs)⟩

abbrev spec_l25Make_post (w:World) (x:(MSetFunctor)) (e:Ending) (w':World):Prop:=∃ (v0:Value) (f0:List Nat) (v1:Value) (f1:List Nat) (v2:Value) (f2:List Nat) (v3:Value) (f3:List Nat) (v4:Value) (f4:List Nat) (v5:Value) (f5:List Nat),e = .returned (.agg #[.int .i64 x.Shape.Objects,v0,v1,v2,v3,v4,v5])∧Chg [] w w'∧OE [] w.heap.size w' (sOwn 2 (sInt .i64)) [v0] x.Shape.From f0∧OE [] w.heap.size w' (sOwn 2 (sInt .i64)) [v1] x.Shape.To f1∧OE [] w.heap.size w' (sOwn 2 (sInt .i64)) [v2] x.Shape.Identity f2∧OE [] w.heap.size w' (sOwn 22 (sOwn 2 (sInt .i64))) [v3] x.Shape.Composites f3∧OE [] w.heap.size w' (sOwn 2 (sInt .i64)) [v4] x.Sizes f4∧OE [] w.heap.size w' (sOwn 22 (sOwn 2 (sInt .i64))) [v5] x.Actions f5∧Dis f0 f1∧Dis f0 f2∧Dis f0 f3∧Dis f0 f4∧Dis f0 f5∧Dis f1 f2∧Dis f1 f3∧Dis f1 f4∧Dis f1 f5∧Dis f2 f3∧Dis f2 f4∧Dis f2 f5∧Dis f3 f4∧Dis f3 f5∧Dis f4 f5
abbrev spec_l25Make_T (w:World):=Tm Tryz.prog Tryz.f110 83 (spec_l25Make_post w)
theorem spec_l25Make_calls {w:World} {x0:MCategory} {z2:Value} {zf:List Nat} {z1:Value} {zg:List Nat} {z7:Value} {zh:List Nat} {z6:Value} {zi:List Nat} {x1:(List (List (List Int)))} {v_x1:Value} {f_x1:List Nat} (za:(sImm (sInt .i64)).rep w.heap [z2] x0.From zf) (zb:(sImm (sInt .i64)).rep w.heap [z1] x0.To zg) (zd:(sImm (sInt .i64)).rep w.heap [z7] x0.Identity zh) (zc:(sImm (sImm (sInt .i64))).rep w.heap [z6] x0.Composites zi) (h_x1:(sImm (sImm (sImm (sInt .i64)))).rep w.heap [v_x1] x1 f_x1) {y:(MSetFunctor)} (hm:spec_l25Make x0 x1=some y) :
  Calls Tryz.prog 110 #[.agg #[.int .i64 (x0.Objects),z2,z1,z7,z6],v_x1] w (spec_l25Make_post w y):=by
 refine Cm (S:=Unit) Tryz.func110 rfl Tryz.ntmps110 rfl hm fun o ho hB=>?_
 clear hm
 refine wq <| W_region rfl <| WL.box fun b1 wd2 hC3 hr4 hl5=>?_
 replace hr4:Row wd2 b1 [.int .i64 (x0.Objects),z2,z1,z7,z6] 32:=hr4
 replace hB:=(hB.trans hC3)
 refine WL.alloc info66 zr66 fun b8 wd9 js p2 n7=>?_
 replace p2:Row wd9 b8 [.int .i64 ((0:Int)),.slice none 0 0,.slice none 0 0,.slice none 0 0,.slice none 0 0,.slice none 0 0,.slice none 0 0] 66:=p2
 have p2d:w.heap.size≤b8:=Nat.le_trans hB.size n7
 have kt:=dl (onw n7) (one_lt (Row.lt hr4))
 replace hr4:=kr hr4 js
 replace hB:=(hB.trans js)
 refine anz <| wq <| W_region rfl <| Wb (Lg ag32 hr4.at rfl rfl) <| ?_
 obtain ⟨y16,p2e,ho⟩:=bs ho
 refine WL.call rfl (op_callF Tryz.func155 rfl rfl) (spec_l02Own_calls (kp _ za hB) (kp _ zb hB) (kp _ zd hB) (kp _ zc hB) p2e) <| ?_
 rintro _ p97 ⟨v20,pf,v23,pa,v26,pg,v29,pd,rfl,p2n,p4,p0,p5,p1,d32,d33,d34,d35,d36,d37⟩
 refine ⟨_,rfl,?_⟩
 have n5:=dl (ofr p4) (one_lt (Row.lt hr4))
 have qb:=dl (ofr p4) (one_lt (Row.lt p2))
 replace p4:=OE.low (G:=[]) p4 hB.size
 have d40:=dl (ofr p0) (one_lt (Row.lt hr4))
 have d41:=dl (ofr p0) (one_lt (Row.lt p2))
 replace p0:=OE.low (G:=[]) p0 hB.size
 have d42:=dl (ofr p5) (one_lt (Row.lt hr4))
 have d43:=dl (ofr p5) (one_lt (Row.lt p2))
 replace p5:=OE.low (G:=[]) p5 hB.size
 have kw:=dl (ofr p1) (one_lt (Row.lt hr4))
 have na:=dl (ofr p1) (one_lt (Row.lt p2))
 replace p1:=OE.low (G:=[]) p1 hB.size
 replace hr4:=kr hr4 p2n
 replace p2:=kr p2 p2n
 replace hB:=(hB.trans p2n)
 refine Wb (Bu (bld66_0 rfl (STy.one _ p4.1 _ (ms rfl)) (STy.one _ p0.1 _ (ms rfl)) (STy.one _ p5.1 _ (ms rfl)) (STy.one _ p1.1 _ (ms rfl)))) <| WL.alloc info66 zr66 fun p7 p6s k5 p2o k6=>?_
 replace p2o:Row p6s p7 [.int .i64 ((0:Int)),.slice none 0 0,.slice none 0 0,.slice none 0 0,.slice none 0 0,.slice none 0 0,.slice none 0 0] 66:=p2o
 have n4:w.heap.size≤p7:=Nat.le_trans hB.size k6
 have gp:=dl (onw k6) (one_lt (Row.lt hr4))
 have d54:=dl (onw k6) (one_lt (Row.lt p2))
 have d55:=dl (onw k6) (sl _ p4.1)
 have kc:=dl (onw k6) (sl _ p0.1)
 have gg:=dl (onw k6) (sl _ p5.1)
 have gh:=dl (onw k6) (sl _ p1.1)
 replace hr4:=kr hr4 k5
 replace p2:=kr p2 k5
 replace p4:=ko p4 k5
 replace p0:=ko p0 k5
 replace p5:=ko p5 k5
 replace p1:=ko p1 k5
 replace hB:=(hB.trans k5)
 refine WL.storeAll (us:=[.int .i64 (y16.Objects),v20,v23,v26,v29,.slice none 0 0,.slice none 0 0]) info66 (by rw [sz66]; rfl) p2o rfl rfl rfl (by intro u hu; simp only [List.mem_cons,List.mem_nil_iff,or_false] at hu; rcases hu with rfl | rfl | rfl | rfl | rfl | rfl | rfl <;> first | exact rfl | exact (STy.one _ p4.1 _ (ms rfl)) | exact (STy.one _ p0.1 _ (ms rfl)) | exact (STy.one _ p5.1 _ (ms rfl)) | exact (STy.one _ p1.1 _ (ms rfl))) fun gb pv p6=>?_
 replace p6:Row gb p7 [.int .i64 (y16.Objects),v20,v23,v26,v29,.slice none 0 0,.slice none 0 0] 66:=p6
 replace hr4:=Row.keep hr4 pv ((gp).symm _ (ms rfl))
 replace p2:=Row.keep p2 pv ((d54).symm _ (ms rfl))
 replace p4:=okp p4 pv (d55).symm
 replace p0:=okp p0 pv (kc).symm
 replace p5:=okp p5 pv (gg).symm
 replace p1:=okp p1 pv (gh).symm
 replace hB:=hB.then pv (one_then n4)
 refine anz <| wq <| wq <| Wq rfl (cr [] gb) <| Qa (Ai rfl) <| fun p1a qs=>anz <| Wf (S1:=Int×(List Int)) (fun s r w'=>match s with | (s0_6,s0_b47_5)=>∃ (v66:Value) (pc:List Nat),Chg [] w w'∧Row w' b1 [.int .i64 (x0.Objects),z2,z1,z7,z6] 32∧Row w' b8 [.int .i64 ((0:Int)),.slice none 0 0,.slice none 0 0,.slice none 0 0,.slice none 0 0,.slice none 0 0,.slice none 0 0] 66∧OE [] w.heap.size w' (sOwn 2 (sInt .i64)) [v20] (y16.From) pf∧OE [] w.heap.size w' (sOwn 2 (sInt .i64)) [v23] (y16.To) pa∧OE [] w.heap.size w' (sOwn 2 (sInt .i64)) [v26] (y16.Identity) pg∧OE [] w.heap.size w' (sOwn 22 (sOwn 2 (sInt .i64))) [v29] (y16.Composites) pd∧Row w' p7 [.int .i64 (y16.Objects),v20,v23,v26,v29,v66,.slice none 0 0] 66∧OE [] w.heap.size w' (sOwn 2 (sInt .i64)) [v66] (s0_b47_5) pc∧Dis [b1] [b8]∧Dis [b1] pf∧Dis [b1] pa∧Dis [b1] pg∧Dis [b1] pd∧Dis [b1] [p7]∧Dis [b1] pc∧Dis [b8] pf∧Dis [b8] pa∧Dis [b8] pg∧Dis [b8] pd∧Dis [b8] [p7]∧Dis [b8] pc∧Dis pf pa∧Dis pf pg∧Dis pf pd∧Dis pf [p7]∧Dis pf pc∧Dis pa pg∧Dis pa pd∧Dis pa [p7]∧Dis pa pc∧Dis pg pd∧Dis pg [p7]∧Dis pg pc∧Dis pd [p7]∧Dis pd pc∧Dis [p7] pc∧∃ F,r=updL F [(1,v_x1),(2,.pointer (some (⟨b1,0,none⟩))),(4,.pointer (some (⟨b8,0,none⟩))),(5,.pointer (some (⟨p7,0,none⟩))),(6,.int .i64 (s0_6))]) (spec_l25Make_T w) ho ⟨_,_,(hB.trans qs),(kr hr4 qs),(kr p2 qs),(ko p4 qs),(ko p0 qs),(ko p5 qs),(ko p1 qs),(kr p6 qs),nil_OE,((kt).symm),((n5).symm),((d40).symm),((d42).symm),((kw).symm),((gp).symm),(fun _ _ h=>nomatch h),((qb).symm),((d41).symm),((d43).symm),((na).symm),((d54).symm),(fun _ _ h=>nomatch h),(d32),(d33),(d34),((d55).symm),(fun _ _ h=>nomatch h),(d35),(d36),((kc).symm),(fun _ _ h=>nomatch h),(d37),((gg).symm),(fun _ _ h=>nomatch h),((gh).symm),(fun _ _ h=>nomatch h),(fun _ _ h=>nomatch h),fe rfl⟩ ?_ ?_
 rintro ⟨s0_6,s0_b47_5⟩ _ p6t ⟨v66,pc,hB,hr4,p2,p4,p0,p5,p1,p6,p9,gr,kn,gs,gt,gu,nd,qi,jb,ql,jc,qm,qx,q8,jd,qn,je,q9,q6,py,pz,qa,q0,gv,ju,ne,nf,ng,nh,F,rfl⟩ o ho
 replace ho:spec_l25Make_L0 x1 s0_6 s0_b47_5=some o:=ho
 unfold spec_l25Make_L0 at ho
 refine wq <| wq <| Wq rfl (cr [] p6t) <| Qa (Mi rfl) <| Qa (Mv v_x1 rfl) <| Qa (Ln sl26 (kB h_x1 hB) rfl) <| Qa (Bl rfl rfl) <| fun p6u pt=>anz <| W_cond (b:=decide (s0_6 < (x1.length:Int))) rfl ?_ ?_
 intro p2p
 rw [p2p] at ho
 refine W_skip <| anz <| wq <| W_block <| ?_
 obtain ⟨e101,hx102e,ho⟩:=bs ho
 have hx102:=idx_some hx102e
 obtain ⟨u103,fu104,hu105,p6v,hs107⟩:=one_get rfl h_x1 hx102.1 hx102.2
 refine W_any (m:=8) (U:=.replicate 8 []) (S:=[sV (.pointer (some (⟨p7,5,none⟩))),sV (v66),sV (v_x1),sV (.int .i64 (s0_6)),sV (.pointer (some (elA (v_x1) 1 (s0_6)))),sV (u103),sV (.int .i64 ((e101.length:Int))),⟨true,pl <| LitV [.int .i64 ((e101.length:Int))] 2 1⟩]) (Z:=[]) hmix rfl (by decide) (by decide +kernel) (fun _ _ _ h=>np_out h) (by decide) rfl (by decide +kernel) (stable_all <| stable_cons stable_val (stable_cons stable_val (stable_cons stable_val (stable_cons stable_val (stable_cons stable_val (stable_cons stable_val (stable_cons stable_val (stable_cons stable_lit ( stable_nil))))))))) ?_ ?_
 refine owes_cons ?_ <| owes_cons ?_ <| owes_cons ?_ <| owes_cons ?_ <| owes_cons ?_ <| owes_cons ?_ <| owes_cons ?_ <| owes_cons ?_ <| owes_nil
 exact Oh rfl rfl rfl [(5,.pointer (some (⟨p7,0,none⟩)))] pt rfl rfl fun _=>Fr fa66_1 rfl
 exact Ov rfl rfl rfl [] [(19,.pointer (some (⟨p7,5,none⟩)))] [0] pt rfl rfl (by decide +kernel) rfl fun _=>Lr na22 p6 rfl rfl
 exact Oh rfl rfl rfl [(1,v_x1)] pt rfl rfl fun _=>Mv v_x1 rfl
 exact Oh rfl rfl rfl [(6,.int .i64 (s0_6))] pt rfl rfl fun _=>Mi rfl
 exact Ov rfl rfl rfl [] [(21,v_x1),(22,.int .i64 (s0_6))] [2,3] pt rfl rfl (by decide +kernel) rfl fun _=>Ix sl26 (kB h_x1 hB) hx102 rfl rfl rfl
 exact Ov rfl rfl rfl [] [(23,.pointer (some (elA (v_x1) 1 (s0_6))))] [4] pt rfl rfl (by decide +kernel) rfl fun _=>Ld na23 (hB.cell0 hu105) rfl
 exact Ov rfl rfl rfl [] [(24,u103)] [5] pt rfl rfl (by decide +kernel) rfl fun _=>Ln sl23 (kB p6v hB) rfl
 refine Owes.mem rfl rfl rfl <| fun g r wr hCr H hot=>?_
 have hC:=pt.trans hCr
 obtain ⟨F,rfl⟩:=fr (r:=r) (l:=[(25,.int .i64 ((e101.length:Int)))]) ⟨(H 6 (by decide +kernel) 25 rfl),trivial⟩
 exact OpW.lit1 u22z info2 zr2 sz2 rfl rfl
 rintro g r p5o ⟨gm,hdone,hot,hfresh,hdis⟩
 obtain ⟨p2q,hbb108,hvb108,ni⟩ : LitV [.int .i64 ((e101.length:Int))] 2 1 _ _ _:=hdone 7 (by decide) (by decide) 26 rfl
 have hlb108:p6u.heap.size≤p2q:=(hfresh 7 (by decide) p2q (by rw [hbb108]; exact ms rfl)).1
 have hdd:=hdis
 obtain ⟨F,rfl⟩:=fw hdone hot [(1,v_x1),(2,.pointer (some (⟨b1,0,none⟩))),(4,.pointer (some (⟨b8,0,none⟩))),(5,.pointer (some (⟨p7,0,none⟩))),(6,.int .i64 (s0_6))] [(20,v66)] [1] rfl rfl rfl rfl (z:=[(26,.slice (some ⟨p2q,0,none⟩) 1 1)]) ⟨hvb108,trivial⟩
 have p6w:=dl (onw hlb108) (one_lt (Row.lt (kr p6 pt)))
 have p6x:=dl (onw hlb108) (sl _ (kp _ p9.1 pt))
 have jj:=(pt.trans gm)
 replace hr4:=kr hr4 jj
 replace p2:=kr p2 jj
 replace p4:=ko p4 jj
 replace p0:=ko p0 jj
 replace p5:=ko p5 jj
 replace p1:=ko p1 jj
 replace p6:=kr p6 jj
 replace p9:=ko p9 jj
 replace hB:=(hB.trans jj)
 obtain ⟨n129,hn130,ho⟩:=bs ho
 have hn130a:=fits_some hn130
 refine WL.append1 (E:=(sInt .i64)) _ _ u22z info2 zr2 sz2 rfl rfl rfl p9 rfl ni ⟨rfl,rfl⟩ List.nodup_nil (fun _ h=>nomatch h) (fun _ h=>nomatch h) (by rw [by2]; exact hn130a.1) hn130a.2 hB.size fun v123 p98 p99 jk gw hs128=>?_
 have p6y:=dis_upd hs128 (qi).symm (fun _ h=>nomatch h) (one_lt (Row.lt hr4))
 have p1r:=dis_upd hs128 (q8).symm (fun _ h=>nomatch h) (one_lt (Row.lt p2))
 have p6z:=dis_upd hs128 (q6).symm (fun _ h=>nomatch h) (sl _ p4.1)
 have p70:=dis_upd hs128 (q0).symm (fun _ h=>nomatch h) (sl _ p0.1)
 have p71:=dis_upd hs128 (ne).symm (fun _ h=>nomatch h) (sl _ p5.1)
 have p72:=dis_upd hs128 (ng).symm (fun _ h=>nomatch h) (sl _ p1.1)
 have p46:=dis_upd hs128 (nh).symm (fun _ h=>nomatch h) (one_lt (Row.lt p6))
 replace hr4:=Row.keep hr4 jk (qi _ (ms rfl))
 replace p2:=Row.keep p2 jk (q8 _ (ms rfl))
 replace p4:=okp p4 jk q6
 replace p0:=okp p0 jk q0
 replace p5:=okp p5 jk ne
 replace p1:=okp p1 jk ng
 replace p6:=Row.keep p6 jk (nh _ (ms rfl))
 replace ni:=Row.keep ni jk (p6x _ (ms rfl))
 replace hB:=hB.then jk p9.2.2
 refine Wb (Fr fa66_1 rfl) <| WL.storeRow (j:=5) info22 sz22 p6 (Nat.le_of_ble_eq_true rfl) rfl rfl (STy.one _ gw.1 _ (ms rfl)) fun p47 jl p2r=>?_
 replace p2r:Row p47 p7 [.int .i64 (y16.Objects),v20,v23,v26,v29,v123,.slice none 0 0] 66:=p2r
 replace hr4:=Row.keep hr4 jl (nd _ (ms rfl))
 replace p2:=Row.keep p2 jl (qx _ (ms rfl))
 replace p4:=okp p4 jl q9
 replace p0:=okp p0 jl qa
 replace p5:=okp p5 jl ju
 replace p1:=okp p1 jl nf
 replace ni:=Row.keep ni jl (p6w _ (ms rfl))
 replace gw:=okp gw jl p46
 replace hB:=hB.then jl (one_then n4)
 refine inBlk_n <| anz <| Wq rfl (cr [] p47) <| Qa (Mi rfl) <| Qa (Ba rfl rfl) <| Qa (Ai rfl) <| fun p9a jm=>?_
 cases ho
 exact ⟨_,_,(hB.trans jm),(kr hr4 jm),(kr p2 jm),(ko p4 jm),(ko p0 jm),(ko p5 jm),(ko p1 jm),(kr p2r jm),(ko gw jm),gr,kn,gs,gt,gu,nd,((p6y).symm),jb,ql,jc,qm,qx,((p1r).symm),jd,qn,je,q9,((p6z).symm),py,pz,qa,((p70).symm),gv,ju,((p71).symm),nf,((p72).symm),((p46).symm),fe rfl⟩
 intro p2p
 rw [p2p] at ho
 refine W_exit <| andThen_x <| ?_
 cases ho
 exact ⟨rfl,⟨_,_,(hB.trans pt),(kr hr4 pt),(kr p2 pt),(ko p4 pt),(ko p0 pt),(ko p5 pt),(ko p1 pt),(kr p6 pt),(ko p9 pt),gr,kn,gs,gt,gu,nd,qi,jb,ql,jc,qm,qx,q8,jd,qn,je,q9,q6,py,pz,qa,q0,gv,ju,ne,nf,ng,nh,fe rfl⟩⟩
 rintro ⟨s0_6,s0_b47_5⟩ _ p73 ⟨v66,pc,hB,hr4,p2,p4,p0,p5,p1,p6,p9,gr,kn,gs,gt,gu,nd,qi,jb,ql,jc,qm,qx,q8,jd,qn,je,q9,q6,py,pz,qa,q0,gv,ju,ne,nf,ng,nh,F,rfl⟩ ho
 dsimp only at ho
 refine anz <| wq <| wq <| Wq rfl (cr [] p73) <| Qa (Ai rfl) <| fun p9b jn=>anz <| Wf (S1:=Int×(List (List Int))) (fun s r w'=>match s with | (s1_7,s1_b47_6)=>∃ (v149:Value) (pp:List Nat),Chg [] w w'∧Row w' b1 [.int .i64 (x0.Objects),z2,z1,z7,z6] 32∧Row w' b8 [.int .i64 ((0:Int)),.slice none 0 0,.slice none 0 0,.slice none 0 0,.slice none 0 0,.slice none 0 0,.slice none 0 0] 66∧OE [] w.heap.size w' (sOwn 2 (sInt .i64)) [v20] (y16.From) pf∧OE [] w.heap.size w' (sOwn 2 (sInt .i64)) [v23] (y16.To) pa∧OE [] w.heap.size w' (sOwn 2 (sInt .i64)) [v26] (y16.Identity) pg∧OE [] w.heap.size w' (sOwn 22 (sOwn 2 (sInt .i64))) [v29] (y16.Composites) pd∧Row w' p7 [.int .i64 (y16.Objects),v20,v23,v26,v29,v66,v149] 66∧OE [] w.heap.size w' (sOwn 2 (sInt .i64)) [v66] (s0_b47_5) pc∧OE [] w.heap.size w' (sOwn 22 (sOwn 2 (sInt .i64))) [v149] (s1_b47_6) pp∧Dis [b1] [b8]∧Dis [b1] pf∧Dis [b1] pa∧Dis [b1] pg∧Dis [b1] pd∧Dis [b1] [p7]∧Dis [b1] pc∧Dis [b1] pp∧Dis [b8] pf∧Dis [b8] pa∧Dis [b8] pg∧Dis [b8] pd∧Dis [b8] [p7]∧Dis [b8] pc∧Dis [b8] pp∧Dis pf pa∧Dis pf pg∧Dis pf pd∧Dis pf [p7]∧Dis pf pc∧Dis pf pp∧Dis pa pg∧Dis pa pd∧Dis pa [p7]∧Dis pa pc∧Dis pa pp∧Dis pg pd∧Dis pg [p7]∧Dis pg pc∧Dis pg pp∧Dis pd [p7]∧Dis pd pc∧Dis pd pp∧Dis [p7] pc∧Dis [p7] pp∧Dis pc pp∧∃ F,r=updL F [(1,v_x1),(2,.pointer (some (⟨b1,0,none⟩))),(4,.pointer (some (⟨b8,0,none⟩))),(5,.pointer (some (⟨p7,0,none⟩))),(7,.int .i64 (s1_7))]) (spec_l25Make_T w) ho ⟨_,_,(hB.trans jn),(kr hr4 jn),(kr p2 jn),(ko p4 jn),(ko p0 jn),(ko p5 jn),(ko p1 jn),(kr p6 jn),(ko p9 jn),nil_OE,(gr),(kn),(gs),(gt),(gu),(nd),(qi),(fun _ _ h=>nomatch h),(jb),(ql),(jc),(qm),(qx),(q8),(fun _ _ h=>nomatch h),(jd),(qn),(je),(q9),(q6),(fun _ _ h=>nomatch h),(py),(pz),(qa),(q0),(fun _ _ h=>nomatch h),(gv),(ju),(ne),(fun _ _ h=>nomatch h),(nf),(ng),(fun _ _ h=>nomatch h),(nh),(fun _ _ h=>nomatch h),(fun _ _ h=>nomatch h),fe rfl⟩ ?_ ?_
 rintro ⟨s1_7,s1_b47_6⟩ _ p3o ⟨v149,pp,hB,hr4,p2,p4,p0,p5,p1,p6,p9,pj,kz,kd,p2s,p2t,p2u,p2v,p2w,p2x,gx,gy,gz,p00,p01,p02,ke,p03,kf,kg,n0,kh,ki,kj,kk,n1,p04,p05,p06,p2y,p07,p08,p2z,p09,p0a,p30,p31,p0b,F,rfl⟩ o ho
 replace ho:spec_l25Make_L1 x0 x1 s1_7 s1_b47_6=some o:=ho
 unfold spec_l25Make_L1 at ho
 refine wq <| wq <| Wq rfl (cr [] p3o) <| Qa (Mi rfl) <| Qa (Fr fa32_1 rfl) <| Qa (Lr na22 hr4 rfl rfl) <| Qa (Ln sl22 (kB za hB) rfl) <| Qa (Bl rfl rfl) <| fun p9c pq=>anz <| W_cond (b:=decide (s1_7 < (x0.From.length:Int))) rfl ?_ ?_
 intro p32
 rw [p32] at ho
 refine W_skip <| anz <| wq <| W_block <| wq <| W_region rfl <| WL.lit0 (sInt .i64) u22z info2 fun v192 p74 p9d p75 qe=>?_
 have p76:=dl (ofr qe) (one_lt (Row.lt (kr hr4 pq)))
 have p77:=dl (ofr qe) (one_lt (Row.lt (kr p2 pq)))
 have p78:=dl (ofr qe) (sl _ (kp _ p4.1 pq))
 have p79:=dl (ofr qe) (sl _ (kp _ p0.1 pq))
 have p7a:=dl (ofr qe) (sl _ (kp _ p5.1 pq))
 have p7b:=dl (ofr qe) (sl _ (kp _ p1.1 pq))
 have p7c:=dl (ofr qe) (one_lt (Row.lt (kr p6 pq)))
 have p7d:=dl (ofr qe) (sl _ (kp _ p9.1 pq))
 have p7e:=dl (ofr qe) (sl _ (kp _ pj.1 pq))
 replace qe:=OE.low (G:=[]) qe (hB.trans pq).size
 have j2:=pq.trans p75
 replace hr4:=kr hr4 j2
 replace p2:=kr p2 j2
 replace p4:=ko p4 j2
 replace p0:=ko p0 j2
 replace p5:=ko p5 j2
 replace p1:=ko p1 j2
 replace p6:=kr p6 j2
 replace p9:=ko p9 j2
 replace pj:=ko pj j2
 replace hB:=(hB.trans j2)
 refine Wb (Av v192 rfl) <| anz <| wq <| wq <| Wq rfl (cr [] p74) <| Qa (Ai rfl) <| fun p9e qt=>anz <| Wf (S1:=(List Int)×Int) (fun s r w'=>match s with | (s2_8,s2_9)=>∃ (v209:Value) (qf:List Nat),Chg [] w w'∧Row w' b1 [.int .i64 (x0.Objects),z2,z1,z7,z6] 32∧Row w' b8 [.int .i64 ((0:Int)),.slice none 0 0,.slice none 0 0,.slice none 0 0,.slice none 0 0,.slice none 0 0,.slice none 0 0] 66∧OE [] w.heap.size w' (sOwn 2 (sInt .i64)) [v20] (y16.From) pf∧OE [] w.heap.size w' (sOwn 2 (sInt .i64)) [v23] (y16.To) pa∧OE [] w.heap.size w' (sOwn 2 (sInt .i64)) [v26] (y16.Identity) pg∧OE [] w.heap.size w' (sOwn 22 (sOwn 2 (sInt .i64))) [v29] (y16.Composites) pd∧Row w' p7 [.int .i64 (y16.Objects),v20,v23,v26,v29,v66,v149] 66∧OE [] w.heap.size w' (sOwn 2 (sInt .i64)) [v66] (s0_b47_5) pc∧OE [] w.heap.size w' (sOwn 22 (sOwn 2 (sInt .i64))) [v149] (s1_b47_6) pp∧OE [] w.heap.size w' (sOwn 2 (sInt .i64)) [v209] (s2_8) qf∧Dis [b1] [b8]∧Dis [b1] pf∧Dis [b1] pa∧Dis [b1] pg∧Dis [b1] pd∧Dis [b1] [p7]∧Dis [b1] pc∧Dis [b1] pp∧Dis [b1] qf∧Dis [b8] pf∧Dis [b8] pa∧Dis [b8] pg∧Dis [b8] pd∧Dis [b8] [p7]∧Dis [b8] pc∧Dis [b8] pp∧Dis [b8] qf∧Dis pf pa∧Dis pf pg∧Dis pf pd∧Dis pf [p7]∧Dis pf pc∧Dis pf pp∧Dis pf qf∧Dis pa pg∧Dis pa pd∧Dis pa [p7]∧Dis pa pc∧Dis pa pp∧Dis pa qf∧Dis pg pd∧Dis pg [p7]∧Dis pg pc∧Dis pg pp∧Dis pg qf∧Dis pd [p7]∧Dis pd pc∧Dis pd pp∧Dis pd qf∧Dis [p7] pc∧Dis [p7] pp∧Dis [p7] qf∧Dis pc pp∧Dis pc qf∧Dis pp qf∧∃ F,r=updL F [(1,v_x1),(2,.pointer (some (⟨b1,0,none⟩))),(4,.pointer (some (⟨b8,0,none⟩))),(5,.pointer (some (⟨p7,0,none⟩))),(7,.int .i64 (s1_7)),(8,v209),(9,.int .i64 (s2_9))]) (spec_l25Make_T w) ho ⟨_,_,(hB.trans qt),(kr hr4 qt),(kr p2 qt),(ko p4 qt),(ko p0 qt),(ko p5 qt),(ko p1 qt),(kr p6 qt),(ko p9 qt),(ko pj qt),(ko qe qt),(kz),(kd),(p2s),(p2t),(p2u),(p2v),(p2w),(p2x),((p76).symm),(gx),(gy),(gz),(p00),(p01),(p02),(ke),((p77).symm),(p03),(kf),(kg),(n0),(kh),(ki),((p78).symm),(kj),(kk),(n1),(p04),(p05),((p79).symm),(p06),(p2y),(p07),(p08),((p7a).symm),(p2z),(p09),(p0a),((p7b).symm),(p30),(p31),((p7c).symm),(p0b),((p7d).symm),((p7e).symm),fe rfl⟩ ?_ ?_
 rintro ⟨s2_8,s2_9⟩ _ p7f ⟨v209,qf,hB,hr4,p2,p4,p0,p5,p1,p6,p9,pj,q2,p0c,p0d,p0e,p0f,p0g,nj,p0h,nk,nl,p0i,p0j,p0k,p0l,nm,p0m,nn,no,p0n,p0o,p0p,np,p0q,nq,nr,p0r,p0s,ns,p0t,nt,nu,p0u,nv,p0v,nw,nx,ny,p0w,nz,g1,g2,g3,g4,g5,g6,g7,F,rfl⟩ o ho
 replace ho:spec_l25Make_L2 x0 x1 s1_7 s2_8 s2_9=some o:=ho
 unfold spec_l25Make_L2 at ho
 refine wq <| wq <| Wq rfl (cr [] p7f) <| Qa (Mi rfl) <| Qa (Mv v_x1 rfl) <| Qa (Fr fa32_1 rfl) <| Qa (Lr na22 hr4 rfl rfl) <| Qa (Mi rfl) <| ?_
 obtain ⟨e258,hx259e,ho⟩:=bs ho
 have hx259:=idx_some hx259e
 refine Qa (Ix sl22 (kB za hB) hx259 rfl rfl rfl) <| Qa (Ei na2 (kB za hB) hx259 rfl) <| ?_
 obtain ⟨e260,hx261e,ho⟩:=bs ho
 have hx261:=idx_some hx261e
 refine Qa (Ix sl26 (kB h_x1 hB) hx261 rfl rfl rfl) <| ?_
 obtain ⟨u262,fu263,hu264,p7g,hs266⟩:=one_get rfl h_x1 hx261.1 hx261.2
 refine Qa (Ld na23 (hB.cell0 hu264) rfl) <| Qa (Ln sl23 (kB p7g hB) rfl) <| Qa (Bl rfl rfl) <| fun p7h p8=>anz <| W_cond (b:=decide (s2_9 < (e260.length:Int))) rfl ?_ ?_
 intro p33
 rw [p33] at ho
 refine W_skip <| anz <| wq <| W_block <| ?_
 obtain ⟨e270,hx271e,ho⟩:=bs ho
 have hx271:=idx_some hx271e
 obtain ⟨e272,hx273e,ho⟩:=bs ho
 have hx273:=idx_some hx273e
 obtain ⟨u274,fu275,hu276,p7i,hs278⟩:=one_get rfl h_x1 hx273.1 hx273.2
 obtain ⟨e279,hx280e,ho⟩:=bs ho
 have hx280:=idx_some hx280e
 obtain ⟨e281,hx282e,ho⟩:=bs ho
 have hx282:=idx_some hx282e
 obtain ⟨u283,fu284,hu285,p48,hs287⟩:=one_get rfl h_x1 hx282.1 hx282.2
 obtain ⟨e288,hx289e,ho⟩:=bs ho
 have hx289:=idx_some hx289e
 obtain ⟨u290,fu291,hu292,p7j,hs294⟩:=one_get rfl p48 hx289.1 hx289.2
 obtain ⟨y295,p7k,ho⟩:=bs ho
 obtain ⟨y300,p7l,ho⟩:=bs ho
 refine W_any (m:=25) (U:=.replicate 25 []) (S:=[sV (v209),sV (v_x1),sV (.pointer (some (⟨b1,2,none⟩))),sV (z1),sV (.int .i64 (s1_7)),sV (.pointer (some (elA (z1) 1 (s1_7)))),sV (.int .i64 (e270)),sV (.pointer (some (elA (v_x1) 1 (e270)))),sV (u274),sV (.agg #[.int .i64 (x0.Objects),z2,z1,z7,z6]),sV (.int .i64 (s1_7)),sV (v_x1),sV (.pointer (some (⟨b1,1,none⟩))),sV (z2),sV (.int .i64 (s1_7)),sV (.pointer (some (elA (z2) 1 (s1_7)))),sV (.int .i64 (e279)),sV (.pointer (some (elA (v_x1) 1 (e279)))),sV (u283),sV (.int .i64 (s2_9)),sV (.pointer (some (elA (u283) 1 (s2_9)))),sV (u290),sO (sOwn 2 (sInt .i64)) (y295),sV (.int .i64 (y300)),⟨true,pl <| LitV [.int .i64 (y300)] 2 1⟩]) (Z:=[]) hmix rfl (by decide) (by decide +kernel) (fun _ _ _ h=>np_out h) (by decide) rfl (by decide +kernel) (stable_all <| stable_cons stable_val (stable_cons stable_val (stable_cons stable_val (stable_cons stable_val (stable_cons stable_val (stable_cons stable_val (stable_cons stable_val (stable_cons stable_val (stable_cons stable_val (stable_cons stable_val (stable_cons stable_val (stable_cons stable_val (stable_cons stable_val (stable_cons stable_val (stable_cons stable_val (stable_cons stable_val (stable_cons stable_val (stable_cons stable_val (stable_cons stable_val (stable_cons stable_val (stable_cons stable_val (stable_cons stable_val (stable_cons stable_own (stable_cons stable_val (stable_cons stable_lit ( stable_nil)))))))))))))))))))))))))) ?_ ?_
 refine owes_cons ?_ <| owes_cons ?_ <| owes_cons ?_ <| owes_cons ?_ <| owes_cons ?_ <| owes_cons ?_ <| owes_cons ?_ <| owes_cons ?_ <| owes_cons ?_ <| owes_cons ?_ <| owes_cons ?_ <| owes_cons ?_ <| owes_cons ?_ <| owes_cons ?_ <| owes_cons ?_ <| owes_cons ?_ <| owes_cons ?_ <| owes_cons ?_ <| owes_cons ?_ <| owes_cons ?_ <| owes_cons ?_ <| owes_cons ?_ <| owes_cons ?_ <| owes_cons ?_ <| owes_cons ?_ <| owes_nil
 exact Oh rfl rfl rfl [(8,v209)] p8 rfl rfl fun _=>Mv v209 rfl
 exact Oh rfl rfl rfl [(1,v_x1)] p8 rfl rfl fun _=>Mv v_x1 rfl
 exact Oh rfl rfl rfl [(2,.pointer (some (⟨b1,0,none⟩)))] p8 rfl rfl fun _=>Fr fa32_2 rfl
 exact Ov rfl rfl rfl [] [(52,.pointer (some (⟨b1,2,none⟩)))] [2] p8 rfl rfl (by decide +kernel) rfl fun _=>Lr na22 hr4 rfl rfl
 exact Oh rfl rfl rfl [(7,.int .i64 (s1_7))] p8 rfl rfl fun _=>Mi rfl
 exact Ov rfl rfl rfl [] [(53,z1),(54,.int .i64 (s1_7))] [3,4] p8 rfl rfl (by decide +kernel) rfl fun _=>Ix sl22 (kB zb hB) hx271 rfl rfl rfl
 exact Ov rfl rfl rfl [] [(55,.pointer (some (elA (z1) 1 (s1_7))))] [5] p8 rfl rfl (by decide +kernel) rfl fun _=>Ei na2 (kB zb hB) hx271 rfl
 exact Ov rfl rfl rfl [] [(51,v_x1),(56,.int .i64 (e270))] [1,6] p8 rfl rfl (by decide +kernel) rfl fun _=>Ix sl26 (kB h_x1 hB) hx273 rfl rfl rfl
 exact Ov rfl rfl rfl [] [(57,.pointer (some (elA (v_x1) 1 (e270))))] [7] p8 rfl rfl (by decide +kernel) rfl fun _=>Ld na23 (hB.cell0 hu276) rfl
 exact Oh rfl rfl rfl [(2,.pointer (some (⟨b1,0,none⟩)))] p8 rfl rfl fun _=>Lg ag32 hr4.at rfl rfl
 exact Oh rfl rfl rfl [(7,.int .i64 (s1_7))] p8 rfl rfl fun _=>Mi rfl
 exact Oh rfl rfl rfl [(1,v_x1)] p8 rfl rfl fun _=>Mv v_x1 rfl
 exact Oh rfl rfl rfl [(2,.pointer (some (⟨b1,0,none⟩)))] p8 rfl rfl fun _=>Fr fa32_1 rfl
 exact Ov rfl rfl rfl [] [(62,.pointer (some (⟨b1,1,none⟩)))] [12] p8 rfl rfl (by decide +kernel) rfl fun _=>Lr na22 hr4 rfl rfl
 exact Oh rfl rfl rfl [(7,.int .i64 (s1_7))] p8 rfl rfl fun _=>Mi rfl
 exact Ov rfl rfl rfl [] [(63,z2),(64,.int .i64 (s1_7))] [13,14] p8 rfl rfl (by decide +kernel) rfl fun _=>Ix sl22 (kB za hB) hx280 rfl rfl rfl
 exact Ov rfl rfl rfl [] [(65,.pointer (some (elA (z2) 1 (s1_7))))] [15] p8 rfl rfl (by decide +kernel) rfl fun _=>Ei na2 (kB za hB) hx280 rfl
 exact Ov rfl rfl rfl [] [(61,v_x1),(66,.int .i64 (e279))] [11,16] p8 rfl rfl (by decide +kernel) rfl fun _=>Ix sl26 (kB h_x1 hB) hx282 rfl rfl rfl
 exact Ov rfl rfl rfl [] [(67,.pointer (some (elA (v_x1) 1 (e279))))] [17] p8 rfl rfl (by decide +kernel) rfl fun _=>Ld na23 (hB.cell0 hu285) rfl
 exact Oh rfl rfl rfl [(9,.int .i64 (s2_9))] p8 rfl rfl fun _=>Mi rfl
 exact Ov rfl rfl rfl [] [(68,u283),(69,.int .i64 (s2_9))] [18,19] p8 rfl rfl (by decide +kernel) rfl fun _=>Ix sl23 (kB p48 hB) hx289 rfl rfl rfl
 exact Ov rfl rfl rfl [] [(70,.pointer (some (elA (u283) 1 (s2_9))))] [20] p8 rfl rfl (by decide +kernel) rfl fun _=>Ld na22 (hB.cell0 hu292) rfl
 refine Owes.mem rfl rfl rfl <| fun g r wr hCr H hot=>?_
 have hC:=p8.trans hCr
 obtain ⟨F,rfl⟩:=fr (r:=r) (l:=[(59,.agg #[.int .i64 (x0.Objects),z2,z1,z7,z6]),(60,.int .i64 (s1_7)),(71,u290)]) ⟨(H 9 (by decide +kernel) 59 rfl),(H 10 (by decide +kernel) 60 rfl),(H 21 (by decide +kernel) 71 rfl),trivial⟩
 exact OpW.own (op_callF Tryz.func144 rfl rfl) (spec_l25Pull_calls (kp _ za (hB.trans hC)) (kp _ zb (hB.trans hC)) (kp _ zd (hB.trans hC)) (kp _ zc (hB.trans hC)) (kp _ p7j (hB.trans hC)) p7k)
 refine Owes.call (f:=172) rfl rfl rfl <| fun g r wr hCr H hot=>?_
 have hC:=p8.trans hCr
 have j3:OwnV (sOwn 2 (sInt .i64)) (y295) _ _ _:=H 22 (by decide +kernel) 72 rfl
 generalize hvv297:r 72=v297 at j3
 obtain ⟨F,rfl⟩:=fr (r:=r) (l:=[(58,u274),(72,v297)]) ⟨(H 8 (by decide +kernel) 58 rfl),hvv297,trivial⟩
 exact ⟨_,op_callF Tryz.func172 rfl rfl,spec_l05Place_calls (kp _ p7i (hB.trans hC)) ((Le.own (Le.refl _) 2).le j3.1) p7l⟩
 refine Owes.mem rfl rfl rfl <| fun g r wr hCr H hot=>?_
 have hC:=p8.trans hCr
 obtain ⟨F,rfl⟩:=fr (r:=r) (l:=[(73,.int .i64 (y300))]) ⟨(H 23 (by decide +kernel) 73 rfl),trivial⟩
 exact OpW.lit1 u22z info2 zr2 sz2 rfl rfl
 rintro g r p7m ⟨p7n,hdone,hot,hfresh,hdis⟩
 have j3:OwnV (sOwn 2 (sInt .i64)) (y295) _ _ _:=hdone 22 (by decide) (by decide) 72 rfl
 generalize hvv297:r 72=v297 at j3
 have hfo299:=hfresh 22 (by decide)
 obtain ⟨p34,hbb302,hvb302,p35⟩ : LitV [.int .i64 (y300)] 2 1 _ _ _:=hdone 24 (by decide) (by decide) 74 rfl
 have hlb302:p7h.heap.size≤p34:=(hfresh 24 (by decide) p34 (by rw [hbb302]; exact ms rfl)).1
 have hdd:=hdis
 obtain ⟨F,rfl⟩:=fw hdone hot [(1,v_x1),(2,.pointer (some (⟨b1,0,none⟩))),(4,.pointer (some (⟨b8,0,none⟩))),(5,.pointer (some (⟨p7,0,none⟩))),(7,.int .i64 (s1_7)),(9,.int .i64 (s2_9))] [(50,v209)] [0] rfl rfl rfl rfl (z:=[(72,v297),(74,.slice (some ⟨p34,0,none⟩) 1 1)]) ⟨hvv297,hvb302,trivial⟩
 obtain ⟨p7o,hgf298⟩ : ∃ k,k=g 22:=⟨_,rfl⟩
 rw [← hgf298] at j3 hfo299
 replace j3:OE [] w.heap.size p7m (sOwn 2 (sInt .i64)) [v297] (y295) p7o:=⟨j3.1,j3.2,fun b hb=>.inr (Nat.le_trans (hB.trans p8).size (hfo299 b hb).1)⟩
 have p7p:=dl (fun b hb=>(hfo299 b hb).1) (sl _ (kp _ q2.1 p8))
 have p7q:=dl (onw hlb302) (sl _ (kp _ q2.1 p8))
 have qu:=(p8.trans p7n)
 replace hr4:=kr hr4 qu
 replace p2:=kr p2 qu
 replace p4:=ko p4 qu
 replace p0:=ko p0 qu
 replace p5:=ko p5 qu
 replace p1:=ko p1 qu
 replace p6:=kr p6 qu
 replace p9:=ko p9 qu
 replace pj:=ko pj qu
 replace q2:=ko q2 qu
 replace hB:=(hB.trans qu)
 obtain ⟨n336,hn337,ho⟩:=bs ho
 have hn337a:=fits_some hn337
 refine WL.append1 (E:=(sInt .i64)) _ _ u22z info2 zr2 sz2 rfl rfl rfl q2 rfl p35 ⟨rfl,rfl⟩ List.nodup_nil (fun _ h=>nomatch h) (fun _ h=>nomatch h) (by rw [by2]; exact hn337a.1) hn337a.2 hB.size fun v330 p7r p9f qg p7s hs335=>?_
 have p7t:=dis_upd hs335 (nl).symm (fun _ h=>nomatch h) (one_lt (Row.lt hr4))
 have p7u:=dis_upd hs335 (no).symm (fun _ h=>nomatch h) (one_lt (Row.lt p2))
 have p7v:=dis_upd hs335 (nr).symm (fun _ h=>nomatch h) (sl _ p4.1)
 have p7w:=dis_upd hs335 (nu).symm (fun _ h=>nomatch h) (sl _ p0.1)
 have p7x:=dis_upd hs335 (nx).symm (fun _ h=>nomatch h) (sl _ p5.1)
 have p7y:=dis_upd hs335 (g1).symm (fun _ h=>nomatch h) (sl _ p1.1)
 have p7z:=dis_upd hs335 (g4).symm (fun _ h=>nomatch h) (one_lt (Row.lt p6))
 have p80:=dis_upd hs335 (g6).symm (fun _ h=>nomatch h) (sl _ p9.1)
 have p81:=dis_upd hs335 (g7).symm (fun _ h=>nomatch h) (sl _ pj.1)
 replace hr4:=Row.keep hr4 qg (nl _ (ms rfl))
 replace p2:=Row.keep p2 qg (no _ (ms rfl))
 replace p4:=okp p4 qg nr
 replace p0:=okp p0 qg nu
 replace p5:=okp p5 qg nx
 replace p1:=okp p1 qg g1
 replace p6:=Row.keep p6 qg (g4 _ (ms rfl))
 replace p9:=okp p9 qg g6
 replace pj:=okp pj qg g7
 replace j3:=okp j3 qg p7p
 replace p35:=Row.keep p35 qg (p7q _ (ms rfl))
 replace hB:=hB.then qg q2.2.2
 refine Wb (Av v330 rfl) <| inBlk_n <| anz <| Wq rfl (cr [] p7r) <| Qa (Mi rfl) <| Qa (Ba rfl rfl) <| Qa (Ai rfl) <| fun p9g qv=>?_
 cases ho
 exact ⟨_,_,(hB.trans qv),(kr hr4 qv),(kr p2 qv),(ko p4 qv),(ko p0 qv),(ko p5 qv),(ko p1 qv),(kr p6 qv),(ko p9 qv),(ko pj qv),(ko p7s qv),p0c,p0d,p0e,p0f,p0g,nj,p0h,nk,((p7t).symm),p0i,p0j,p0k,p0l,nm,p0m,nn,((p7u).symm),p0n,p0o,p0p,np,p0q,nq,((p7v).symm),p0r,p0s,ns,p0t,nt,((p7w).symm),p0u,nv,p0v,nw,((p7x).symm),ny,p0w,nz,((p7y).symm),g2,g3,((p7z).symm),g5,((p80).symm),((p81).symm),fe rfl⟩
 intro p33
 rw [p33] at ho
 refine W_exit <| andThen_x <| ?_
 cases ho
 exact ⟨rfl,⟨_,_,(hB.trans p8),(kr hr4 p8),(kr p2 p8),(ko p4 p8),(ko p0 p8),(ko p5 p8),(ko p1 p8),(kr p6 p8),(ko p9 p8),(ko pj p8),(ko q2 p8),p0c,p0d,p0e,p0f,p0g,nj,p0h,nk,nl,p0i,p0j,p0k,p0l,nm,p0m,nn,no,p0n,p0o,p0p,np,p0q,nq,nr,p0r,p0s,ns,p0t,nt,nu,p0u,nv,p0v,nw,nx,ny,p0w,nz,g1,g2,g3,g4,g5,g6,g7,fe rfl⟩⟩
 rintro ⟨s2_8,s2_9⟩ _ p9h ⟨v209,qf,hB,hr4,p2,p4,p0,p5,p1,p6,p9,pj,q2,p0c,p0d,p0e,p0f,p0g,nj,p0h,nk,nl,p0i,p0j,p0k,p0l,nm,p0m,nn,no,p0n,p0o,p0p,np,p0q,nq,nr,p0r,p0s,ns,p0t,nt,nu,p0u,nv,p0v,nw,nx,ny,p0w,nz,g1,g2,g3,g4,g5,g6,g7,F,rfl⟩ ho
 dsimp only at ho
 refine anz <| W_region rfl <| Wb (Fr fa66_2 rfl) <| Wb (Lr na23 p6 rfl rfl) <| Wb (Mv v209 rfl) <| WL.lit1 u23z info22 zr22 sz22 (STy.one _ q2.1 _ (ms rfl)) fun p82 p83 qw k7 p49=>?_
 replace k7:Row p83 p82 [v209] 22:=k7
 have p84:=dl (onw p49) (one_lt (Row.lt p6))
 have p85:=dl (onw p49) (sl _ pj.1)
 replace hr4:=kr hr4 qw
 replace p2:=kr p2 qw
 replace p4:=ko p4 qw
 replace p0:=ko p0 qw
 replace p5:=ko p5 qw
 replace p1:=ko p1 qw
 replace p6:=kr p6 qw
 replace p9:=ko p9 qw
 replace pj:=ko pj qw
 replace q2:=ko q2 qw
 replace hB:=(hB.trans qw)
 obtain ⟨n376,hn377,ho⟩:=bs ho
 have hn377a:=fits_some hn377
 refine WL.append1 (E:=(sOwn 2 (sInt .i64))) _ _ u23z info22 zr22 sz22 rfl rfl rfl pj rfl k7 q2.1 q2.2.1 q2.2.2 (g7).symm (by rw [by22]; exact hn377a.1) hn377a.2 hB.size fun v370 p9i p9j j4 p0x hs375=>?_
 have p86:=dis_upd hs375 (nk).symm (nl).symm (one_lt (Row.lt hr4))
 have p87:=dis_upd hs375 (nn).symm (no).symm (one_lt (Row.lt p2))
 have p88:=dis_upd hs375 (nq).symm (nr).symm (sl _ p4.1)
 have p89:=dis_upd hs375 (nt).symm (nu).symm (sl _ p0.1)
 have p8a:=dis_upd hs375 (nw).symm (nx).symm (sl _ p5.1)
 have p8b:=dis_upd hs375 (nz).symm (g1).symm (sl _ p1.1)
 have p4a:=dis_upd hs375 (g3).symm (g4).symm (one_lt (Row.lt p6))
 have p8c:=dis_upd hs375 (g5).symm (g6).symm (sl _ p9.1)
 replace hr4:=Row.keep hr4 j4 (nk _ (ms rfl))
 replace p2:=Row.keep p2 j4 (nn _ (ms rfl))
 replace p4:=okp p4 j4 nq
 replace p0:=okp p0 j4 nt
 replace p5:=okp p5 j4 nw
 replace p1:=okp p1 j4 nz
 replace p6:=Row.keep p6 j4 (g3 _ (ms rfl))
 replace p9:=okp p9 j4 g5
 replace k7:=Row.keep k7 j4 (p85 _ (ms rfl))
 replace hB:=hB.then j4 pj.2.2
 refine Wb (Fr fa66_2 rfl) <| WL.storeRow (j:=6) info23 sz23 p6 (Nat.le_of_ble_eq_true rfl) rfl rfl (STy.one _ p0x.1 _ (ms rfl)) fun p4b j5 p36=>?_
 replace p36:Row p4b p7 [.int .i64 (y16.Objects),v20,v23,v26,v29,v66,v370] 66:=p36
 replace hr4:=Row.keep hr4 j5 (nj _ (ms rfl))
 replace p2:=Row.keep p2 j5 (nm _ (ms rfl))
 replace p4:=okp p4 j5 np
 replace p0:=okp p0 j5 ns
 replace p5:=okp p5 j5 nv
 replace p1:=okp p1 j5 ny
 replace p9:=okp p9 j5 (g2).symm
 replace k7:=Row.keep k7 j5 (p84 _ (ms rfl))
 replace p0x:=okp p0x j5 p4a
 replace hB:=hB.then j5 (one_then n4)
 refine inBlk_n <| anz <| Wq rfl (cr [] p4b) <| Qa (Mi rfl) <| Qa (Ba rfl rfl) <| Qa (Ai rfl) <| fun p9k j6=>?_
 cases ho
 exact ⟨_,_,(hB.trans j6),(kr hr4 j6),(kr p2 j6),(ko p4 j6),(ko p0 j6),(ko p5 j6),(ko p1 j6),(kr p36 j6),(ko p9 j6),(ko p0x j6),p0c,p0d,p0e,p0f,p0g,nj,p0h,((p86).symm),p0i,p0j,p0k,p0l,nm,p0m,((p87).symm),p0n,p0o,p0p,np,p0q,((p88).symm),p0r,p0s,ns,p0t,((p89).symm),p0u,nv,p0v,((p8a).symm),ny,p0w,((p8b).symm),g2,((p4a).symm),((p8c).symm),fe rfl⟩
 intro p32
 rw [p32] at ho
 refine W_exit <| andThen_x <| ?_
 cases ho
 exact ⟨rfl,⟨_,_,(hB.trans pq),(kr hr4 pq),(kr p2 pq),(ko p4 pq),(ko p0 pq),(ko p5 pq),(ko p1 pq),(kr p6 pq),(ko p9 pq),(ko pj pq),kz,kd,p2s,p2t,p2u,p2v,p2w,p2x,gx,gy,gz,p00,p01,p02,ke,p03,kf,kg,n0,kh,ki,kj,kk,n1,p04,p05,p06,p2y,p07,p08,p2z,p09,p0a,p30,p31,p0b,fe rfl⟩⟩
 rintro ⟨s1_7,s1_b47_6⟩ _ p9l ⟨v149,pp,hB,hr4,p2,p4,p0,p5,p1,p6,p9,pj,kz,kd,p2s,p2t,p2u,p2v,p2w,p2x,gx,gy,gz,p00,p01,p02,ke,p03,kf,kg,n0,kh,ki,kj,kk,n1,p04,p05,p06,p2y,p07,p08,p2z,p09,p0a,p30,p31,p0b,F,rfl⟩ ho
 dsimp only at ho
 refine anz <| wq <| W_region rfl <| Wb (Lg ag66 p6.at rfl rfl) <| WL.storeAll (us:=[.int .i64 (y16.Objects),v20,v23,v26,v29,v66,v149]) info66 (by rw [sz66]; rfl) p2 rfl rfl rfl (by intro u hu; simp only [List.mem_cons,List.mem_nil_iff,or_false] at hu; rcases hu with rfl | rfl | rfl | rfl | rfl | rfl | rfl <;> first | exact rfl | exact (STy.one _ p4.1 _ (ms rfl)) | exact (STy.one _ p0.1 _ (ms rfl)) | exact (STy.one _ p5.1 _ (ms rfl)) | exact (STy.one _ p1.1 _ (ms rfl)) | exact (STy.one _ p9.1 _ (ms rfl)) | exact (STy.one _ pj.1 _ (ms rfl))) fun p8d jt p37=>?_
 replace p37:Row p8d b8 [.int .i64 (y16.Objects),v20,v23,v26,v29,v66,v149] 66:=p37
 replace p4:=okp p4 jt (gx).symm
 replace p0:=okp p0 jt (gy).symm
 replace p5:=okp p5 jt (gz).symm
 replace p1:=okp p1 jt (p00).symm
 replace p6:=Row.keep p6 jt ((p01).symm _ (ms rfl))
 replace p9:=okp p9 jt (p02).symm
 replace pj:=okp pj jt (ke).symm
 replace hB:=hB.then jt (one_then p2d)
 refine anz <| ?_
 cases ho
 exact W_ret ⟨_,res_c Tryz.results110 Tryz.underlying66 rfl info66 (by rw [sz66]; rfl) rfl p37.at,_,_,_,_,_,_,_,_,_,_,_,_,rfl,hB,p4,p0,p5,p1,p9,pj,(p03),(kf),(kg),(kh),(ki),(kj),(kk),(p04),(p05),(p06),(p07),(p08),(p09),(p0a),(p0b)⟩

abbrev spec_l25Tops_post (w:World) (x:((List Int))) (e:Ending) (w':World):Prop:=∃ (v0:Value) (f0:List Nat),e = .returned (v0)∧Chg [] w w'∧(sImm (sInt .i64)).rep w'.heap [v0] x f0∧(∀ b∈f0,w.heap.size≤b)
abbrev spec_l25Tops_T (w:World):=Tm Tryz.prog Tryz.f206 26 (spec_l25Tops_post w)
theorem spec_l25Tops_calls {w:World} {x0:MCategory} {z2:Value} {zf:List Nat} {z1:Value} {zg:List Nat} {z7:Value} {zh:List Nat} {z6:Value} {zi:List Nat} {x1:(List (List (List Int)))} {v_x1:Value} {f_x1:List Nat} (za:(sImm (sInt .i64)).rep w.heap [z2] x0.From zf) (zb:(sImm (sInt .i64)).rep w.heap [z1] x0.To zg) (zd:(sImm (sInt .i64)).rep w.heap [z7] x0.Identity zh) (zc:(sImm (sImm (sInt .i64))).rep w.heap [z6] x0.Composites zi) (h_x1:(sImm (sImm (sImm (sInt .i64)))).rep w.heap [v_x1] x1 f_x1) {y:((List Int))} (hm:spec_l25Tops x0 x1=some y) :
  Calls Tryz.prog 206 #[.agg #[.int .i64 (x0.Objects),z2,z1,z7,z6],v_x1] w (spec_l25Tops_post w y):=by
 refine Cm (S:=Unit) Tryz.func206 rfl Tryz.ntmps206 rfl hm fun o ho hB=>?_
 clear hm
 refine wq <| W_region rfl <| WL.box fun b1 wd2 hC3 hr4 hl5=>?_
 replace hr4:Row wd2 b1 [.int .i64 (x0.Objects),z2,z1,z7,z6] 32:=hr4
 replace hB:=(hB.trans hC3)
 refine Wb (As rfl) <| anz <| wq <| W_region rfl <| WL.lit0 (sInt .i64) u22z info2 fun v8 wd9 f10 jq pe=>?_
 have jv:=dl (ofr pe) (one_lt (Row.lt hr4))
 replace pe:=OE.low (G:=[]) pe hB.size
 replace hr4:=kr hr4 jq
 replace hB:=(hB.trans jq)
 refine Wb (Av v8 rfl) <| anz <| wq <| wq <| Wq rfl (cr [] wd9) <| Qa (Ai rfl) <| fun p21 pr=>anz <| Wf (S1:=(List Int)×Int) (fun s r w'=>match s with | (s0_5,s0_6)=>∃ (v17:Value) (pw:List Nat),Chg [] w w'∧Row w' b1 [.int .i64 (x0.Objects),z2,z1,z7,z6] 32∧OE [] w.heap.size w' (sOwn 2 (sInt .i64)) [v17] (s0_5) pw∧Dis [b1] pw∧∃ F,r=updL F [(1,v_x1),(2,.pointer (some (⟨b1,0,none⟩))),(5,v17),(6,.int .i64 (s0_6))]) (spec_l25Tops_T w) ho ⟨_,_,(hB.trans pr),(kr hr4 pr),(ko pe pr),((jv).symm),fe rfl⟩ ?_ ?_
 rintro ⟨s0_5,s0_6⟩ _ g8 ⟨v17,pw,hB,hr4,ps,q7,F,rfl⟩ o ho
 replace ho:spec_l25Tops_L0 x0 x1 s0_5 s0_6=some o:=ho
 unfold spec_l25Tops_L0 at ho
 refine wq <| wq <| Wq rfl (cr [] g8) <| Qa (Mi rfl) <| Qa (Mv v_x1 rfl) <| Qa (Ln sl26 (kB h_x1 hB) rfl) <| Qa (Bl rfl rfl) <| fun p42 po=>anz <| W_cond (b:=decide (s0_6 < (x1.length:Int))) rfl ?_ ?_
 intro k4
 rw [k4] at ho
 refine W_skip <| anz <| wq <| W_block <| ?_
 obtain ⟨e25,hx26e,ho⟩:=bs ho
 have hx26:=idx_some hx26e
 obtain ⟨u27,fu28,hu29,p8e,hs31⟩:=one_get rfl h_x1 hx26.1 hx26.2
 obtain ⟨y32,p2k,ho⟩:=bs ho
 obtain ⟨y37,p8f,ho⟩:=bs ho
 refine W_any (m:=10) (U:=.replicate 10 []) (S:=[sV (v17),sV (v_x1),sV (.int .i64 (s0_6)),sV (.pointer (some (elA (v_x1) 1 (s0_6)))),sV (u27),sV (.agg #[.int .i64 (x0.Objects),z2,z1,z7,z6]),sV (.int .i64 (s0_6)),sO (sOwn 2 (sInt .i64)) (y32),sV (.int .i64 (y37)),⟨true,pl <| LitV [.int .i64 (y37)] 2 1⟩]) (Z:=[]) hmix rfl (by decide) (by decide +kernel) (fun _ _ _ h=>np_out h) (by decide) rfl (by decide +kernel) (stable_all <| stable_cons stable_val (stable_cons stable_val (stable_cons stable_val (stable_cons stable_val (stable_cons stable_val (stable_cons stable_val (stable_cons stable_val (stable_cons stable_own (stable_cons stable_val (stable_cons stable_lit ( stable_nil))))))))))) ?_ ?_
 refine owes_cons ?_ <| owes_cons ?_ <| owes_cons ?_ <| owes_cons ?_ <| owes_cons ?_ <| owes_cons ?_ <| owes_cons ?_ <| owes_cons ?_ <| owes_cons ?_ <| owes_cons ?_ <| owes_nil
 exact Oh rfl rfl rfl [(5,v17)] po rfl rfl fun _=>Mv v17 rfl
 exact Oh rfl rfl rfl [(1,v_x1)] po rfl rfl fun _=>Mv v_x1 rfl
 exact Oh rfl rfl rfl [(6,.int .i64 (s0_6))] po rfl rfl fun _=>Mi rfl
 exact Ov rfl rfl rfl [] [(15,v_x1),(16,.int .i64 (s0_6))] [1,2] po rfl rfl (by decide +kernel) rfl fun _=>Ix sl26 (kB h_x1 hB) hx26 rfl rfl rfl
 exact Ov rfl rfl rfl [] [(17,.pointer (some (elA (v_x1) 1 (s0_6))))] [3] po rfl rfl (by decide +kernel) rfl fun _=>Ld na23 (hB.cell0 hu29) rfl
 exact Oh rfl rfl rfl [(2,.pointer (some (⟨b1,0,none⟩)))] po rfl rfl fun _=>Lg ag32 hr4.at rfl rfl
 exact Oh rfl rfl rfl [(6,.int .i64 (s0_6))] po rfl rfl fun _=>Mi rfl
 refine Owes.mem rfl rfl rfl <| fun g r wr hCr H hot=>?_
 have hC:=po.trans hCr
 obtain ⟨F,rfl⟩:=fr (r:=r) (l:=[(19,.agg #[.int .i64 (x0.Objects),z2,z1,z7,z6]),(20,.int .i64 (s0_6))]) ⟨(H 5 (by decide +kernel) 19 rfl),(H 6 (by decide +kernel) 20 rfl),trivial⟩
 exact OpW.own (op_callF Tryz.func143 rfl rfl) (spec_l25Out_calls (kp _ za (hB.trans hC)) (kp _ zb (hB.trans hC)) (kp _ zd (hB.trans hC)) (kp _ zc (hB.trans hC)) p2k)
 refine Owes.call (f:=172) rfl rfl rfl <| fun g r wr hCr H hot=>?_
 have hC:=po.trans hCr
 have j7:OwnV (sOwn 2 (sInt .i64)) (y32) _ _ _:=H 7 (by decide +kernel) 21 rfl
 generalize hvv34:r 21=v34 at j7
 obtain ⟨F,rfl⟩:=fr (r:=r) (l:=[(18,u27),(21,v34)]) ⟨(H 4 (by decide +kernel) 18 rfl),hvv34,trivial⟩
 exact ⟨_,op_callF Tryz.func172 rfl rfl,spec_l05Place_calls (kp _ p8e (hB.trans hC)) ((Le.own (Le.refl _) 2).le j7.1) p8f⟩
 refine Owes.mem rfl rfl rfl <| fun g r wr hCr H hot=>?_
 have hC:=po.trans hCr
 obtain ⟨F,rfl⟩:=fr (r:=r) (l:=[(22,.int .i64 (y37))]) ⟨(H 8 (by decide +kernel) 22 rfl),trivial⟩
 exact OpW.lit1 u22z info2 zr2 sz2 rfl rfl
 rintro g r p3b ⟨p15,hdone,hot,hfresh,hdis⟩
 have j7:OwnV (sOwn 2 (sInt .i64)) (y32) _ _ _:=hdone 7 (by decide) (by decide) 21 rfl
 generalize hvv34:r 21=v34 at j7
 have hfo36:=hfresh 7 (by decide)
 obtain ⟨nb,hbb39,hvb39,p38⟩ : LitV [.int .i64 (y37)] 2 1 _ _ _:=hdone 9 (by decide) (by decide) 23 rfl
 have hlb39:p42.heap.size≤nb:=(hfresh 9 (by decide) nb (by rw [hbb39]; exact ms rfl)).1
 have hdd:=hdis
 obtain ⟨F,rfl⟩:=fw hdone hot [(1,v_x1),(2,.pointer (some (⟨b1,0,none⟩))),(6,.int .i64 (s0_6))] [(14,v17)] [0] rfl rfl rfl rfl (z:=[(21,v34),(23,.slice (some ⟨nb,0,none⟩) 1 1)]) ⟨hvv34,hvb39,trivial⟩
 obtain ⟨f35,hgf35⟩ : ∃ k,k=g 7:=⟨_,rfl⟩
 rw [← hgf35] at j7 hfo36
 replace j7:OE [] w.heap.size p3b (sOwn 2 (sInt .i64)) [v34] (y32) f35:=⟨j7.1,j7.2,fun b hb=>.inr (Nat.le_trans (hB.trans po).size (hfo36 b hb).1)⟩
 have na:=dl (fun b hb=>(hfo36 b hb).1) (sl _ (kp _ ps.1 po))
 have d48:=dl (onw hlb39) (sl _ (kp _ ps.1 po))
 have p39:=(po.trans p15)
 replace hr4:=kr hr4 p39
 replace ps:=ko ps p39
 replace hB:=(hB.trans p39)
 obtain ⟨n57,hn58,ho⟩:=bs ho
 have hn58a:=fits_some hn58
 refine WL.append1 (E:=(sInt .i64)) _ _ u22z info2 zr2 sz2 rfl rfl rfl ps rfl p38 ⟨rfl,rfl⟩ List.nodup_nil (fun _ h=>nomatch h) (fun _ h=>nomatch h) (by rw [by2]; exact hn58a.1) hn58a.2 hB.size fun v51 p8h f53 qr o55 hs56=>?_
 have d59:=dis_upd hs56 (q7).symm (fun _ h=>nomatch h) (one_lt (Row.lt hr4))
 replace hr4:=Row.keep hr4 qr (q7 _ (ms rfl))
 replace j7:=okp j7 qr na
 replace p38:=Row.keep p38 qr (d48 _ (ms rfl))
 replace hB:=hB.then qr ps.2.2
 refine Wb (Av v51 rfl) <| inBlk_n <| anz <| Wq rfl (cr [] p8h) <| Qa (Mi rfl) <| Qa (Ba rfl rfl) <| Qa (Ai rfl) <| fun p43 p3a=>?_
 cases ho
 exact ⟨_,_,(hB.trans p3a),(kr hr4 p3a),(ko o55 p3a),((d59).symm),fe rfl⟩
 intro k4
 rw [k4] at ho
 refine W_exit <| andThen_x <| ?_
 cases ho
 exact ⟨rfl,⟨_,_,(hB.trans po),(kr hr4 po),(ko ps po),q7,fe rfl⟩⟩
 rintro ⟨s0_5,s0_6⟩ _ p8j ⟨v17,pw,hB,hr4,ps,q7,F,rfl⟩ ho
 dsimp only at ho
 refine anz <| wq <| Wq rfl (cr [] p8j) <| Qa (Mv v17 rfl) <| Qa (Av v17 rfl) <| fun p9n p4c=>anz <| ?_
 cases ho
 exact W_ret ⟨_,res_1 Tryz.results206,_,_,rfl,(hB.trans p4c),((Le.own (Le.refl _) 2).le (kp _ ps.1 p4c)),(fun b hb=>low_in (low_wk ps.2.2) b hb)⟩
end Go.Proofs.YtcmckiiafgcmjaaGreat
