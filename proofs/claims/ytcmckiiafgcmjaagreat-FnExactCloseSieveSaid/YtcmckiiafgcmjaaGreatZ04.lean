/- Walks, printed by a program: that a call of each function computes what its model says. No condition beside those that each theorem names. -/
import Derived.Test.YtcmckiiafgcmjaaGreatTy
import Derived.Test.YtcmckiiafgcmjaaGreatMo
import Derived.Test.YtcmckiiafgcmjaaGreatZ03
namespace Go.Proofs.YtcmckiiafgcmjaaGreat
open Go Go.Li
set_option linter.unusedVariables false
set_option maxHeartbeats 4000000
set_option maxRecDepth 100000
abbrev impl_Category_classifier_post (w:World) (x:((Option MClassifier)×Bool)) (e:Ending) (w':World):Prop:=∃ (v0:Value),e = .returned (.tuple #[v0,.bool x.2])∧Chg [] w w'∧(match x.1 with | none=>(v0 = .pointer none) | some m0=>∃ (b101:Nat) (v101:Value) (f101:List Nat) (v102:Value) (f102:List Nat) (v103:Value) (f103:List Nat) (v104:Value) (f104:List Nat) (v105:Value) (f105:List Nat) (v106:Value) (f106:List Nat) (v107:Value) (f107:List Nat),v0 = .pointer (some (⟨b101,0,none⟩))∧OE [] w.heap.size w' (sOwn 2 (sInt .i64)) [v101] m0.Sets.Shape.From f101∧OE [] w.heap.size w' (sOwn 2 (sInt .i64)) [v102] m0.Sets.Shape.To f102∧OE [] w.heap.size w' (sOwn 2 (sInt .i64)) [v103] m0.Sets.Shape.Identity f103∧OE [] w.heap.size w' (sOwn 22 (sOwn 2 (sInt .i64))) [v104] m0.Sets.Shape.Composites f104∧OE [] w.heap.size w' (sOwn 2 (sInt .i64)) [v105] m0.Sets.Sizes f105∧OE [] w.heap.size w' (sOwn 22 (sOwn 2 (sInt .i64))) [v106] m0.Sets.Actions f106∧OE [] w.heap.size w' (sOwn 118 (sOwn 114 (sOwn 2 (sInt .i64)))) [v107] m0.Sieves f107∧Row w' b101 [.int .i64 (m0.Sets.Shape.Objects),v101,v102,v103,v104,v105,v106,v107] 151∧w.heap.size≤b101∧Dis f101 f102∧Dis f101 f103∧Dis f101 f104∧Dis f101 f105∧Dis f101 f106∧Dis f101 f107∧Dis f101 [b101]∧Dis f102 f103∧Dis f102 f104∧Dis f102 f105∧Dis f102 f106∧Dis f102 f107∧Dis f102 [b101]∧Dis f103 f104∧Dis f103 f105∧Dis f103 f106∧Dis f103 f107∧Dis f103 [b101]∧Dis f104 f105∧Dis f104 f106∧Dis f104 f107∧Dis f104 [b101]∧Dis f105 f106∧Dis f105 f107∧Dis f105 [b101]∧Dis f106 f107∧Dis f106 [b101]∧Dis f107 [b101])
abbrev impl_Category_classifier_T (w:World):=Tm Tryz.prog Tryz.f164 114 (impl_Category_classifier_post w)
theorem impl_Category_classifier_calls {w:World} {x0:MCategory} {p_x0:Addr} {z2:Value} {ze:List Nat} {z1:Value} {zf:List Nat} {z7:Value} {zg:List Nat} {z6:Value} {zh:List Nat} (z8:(sImm (sInt .i64)).rep w.heap [z2] x0.From ze) (za:(sImm (sInt .i64)).rep w.heap [z1] x0.To zf) (zc:(sImm (sInt .i64)).rep w.heap [z7] x0.Identity zg) (zb:(sImm (sImm (sInt .i64))).rep w.heap [z6] x0.Composites zh) (a_x0:At w p_x0 [.int .i64 (x0.Objects),z2,z1,z7,z6]) {y:((Option MClassifier)×Bool)} (hm:impl_Category_classifier x0=some y) :
  Calls Tryz.prog 164 #[.pointer (some (p_x0))] w (impl_Category_classifier_post w y):=by
 refine Cm (S:=Unit) Tryz.func164 rfl Tryz.ntmps164 rfl hm fun o ho hB=>?_
 clear hm
 refine wq <| Wq rfl (cr [] w) <| Qa (Av (.pointer none) rfl) <| Qa (Ab rfl) <| fun wd1 hC2=>anz <| wq <| W_region rfl <| Wb (Mp rfl) <| ?_
 obtain ⟨y3,hy4,ho⟩:=bs ho
 refine WL.call rfl (op_callF Tryz.func158 rfl rfl) (impl_Category_copy_calls (kp _ z8 (hB.trans hC2)) (kp _ za (hB.trans hC2)) (kp _ zc (hB.trans hC2)) (kp _ zb (hB.trans hC2)) (At.keep0 a_x0 (hB.trans hC2)) hy4) <| ?_
 rintro _ wd5 ⟨v7,f8,v10,pd,v13,ph,v16,pi,rfl,hC6,o9,p0,p1,p2,d19,d20,d21,d22,d23,d24⟩
 refine ⟨_,rfl,?_⟩
 replace o9:=OE.low (G:=[]) o9 (hB.trans hC2).size
 replace p0:=OE.low (G:=[]) p0 (hB.trans hC2).size
 replace p1:=OE.low (G:=[]) p1 (hB.trans hC2).size
 replace p2:=OE.low (G:=[]) p2 (hB.trans hC2).size
 have p59:=hC2.trans hC6
 replace hB:=(hB.trans p59)
 refine Wb (Bu (bld66_0 rfl (STy.one _ o9.1 _ (ms rfl)) (STy.one _ p0.1 _ (ms rfl)) (STy.one _ p1.1 _ (ms rfl)) (STy.one _ p2.1 _ (ms rfl)))) <| Wb (Bu (bld151_0 rfl (STy.one _ o9.1 _ (ms rfl)) (STy.one _ p0.1 _ (ms rfl)) (STy.one _ p1.1 _ (ms rfl)) (STy.one _ p2.1 _ (ms rfl)) rfl rfl)) <| WL.box fun p6 p15 ki p3 p16=>?_
 replace p3:Row p15 p6 [.int .i64 (y3.Objects),v7,v10,v13,v16,.slice none 0 0,.slice none 0 0,.slice none 0 0] 151:=p3
 have p1r:w.heap.size≤p6:=Nat.le_trans hB.size p16
 have d32:=dl (onw p16) (sl _ o9.1)
 have d33:=dl (onw p16) (sl _ p0.1)
 have d34:=dl (onw p16) (sl _ p1.1)
 have d35:=dl (onw p16) (sl _ p2.1)
 replace o9:=ko o9 ki
 replace p0:=ko p0 ki
 replace p1:=ko p1 ki
 replace p2:=ko p2 ki
 replace hB:=(hB.trans ki)
 refine Wb (Ap rfl) <| anz <| wq <| wq <| Wq rfl (cr [] p15) <| Qa (Ai rfl) <| fun p9g p0c=>anz <| Wf (S1:=Int×(List Int)×(List (List (List Int)))) (fun s r w'=>match s with | (s0_5,s0_b26_5,s0_b26_7)=>∃ (v39:Value) (p8:List Nat) (v42:Value) (p9:List Nat),Chg [] w w'∧OE [] w.heap.size w' (sOwn 2 (sInt .i64)) [v7] (y3.From) f8∧OE [] w.heap.size w' (sOwn 2 (sInt .i64)) [v10] (y3.To) pd∧OE [] w.heap.size w' (sOwn 2 (sInt .i64)) [v13] (y3.Identity) ph∧OE [] w.heap.size w' (sOwn 22 (sOwn 2 (sInt .i64))) [v16] (y3.Composites) pi∧Row w' p6 [.int .i64 (y3.Objects),v7,v10,v13,v16,v39,.slice none 0 0,v42] 151∧OE [] w.heap.size w' (sOwn 2 (sInt .i64)) [v39] (s0_b26_5) p8∧OE [] w.heap.size w' (sOwn 118 (sOwn 114 (sOwn 2 (sInt .i64)))) [v42] (s0_b26_7) p9∧Dis f8 pd∧Dis f8 ph∧Dis f8 pi∧Dis f8 [p6]∧Dis f8 p8∧Dis f8 p9∧Dis pd ph∧Dis pd pi∧Dis pd [p6]∧Dis pd p8∧Dis pd p9∧Dis ph pi∧Dis ph [p6]∧Dis ph p8∧Dis ph p9∧Dis pi [p6]∧Dis pi p8∧Dis pi p9∧Dis [p6] p8∧Dis [p6] p9∧Dis p8 p9∧∃ F,r=updL F [(0,.pointer (some (p_x0))),(4,.pointer (some (⟨p6,0,none⟩))),(5,.int .i64 (s0_5))]) (impl_Category_classifier_T w) ho ⟨_,_,_,_,(hB.trans p0c),(ko o9 p0c),(ko p0 p0c),(ko p1 p0c),(ko p2 p0c),(kr p3 p0c),nil_OE,nil_OE,(d19),(d20),(d21),((d32).symm),(fun _ _ h=>nomatch h),(fun _ _ h=>nomatch h),(d22),(d23),((d33).symm),(fun _ _ h=>nomatch h),(fun _ _ h=>nomatch h),(d24),((d34).symm),(fun _ _ h=>nomatch h),(fun _ _ h=>nomatch h),((d35).symm),(fun _ _ h=>nomatch h),(fun _ _ h=>nomatch h),(fun _ _ h=>nomatch h),(fun _ _ h=>nomatch h),(fun _ h=>nomatch h),fe rfl⟩ ?_ ?_
 rintro ⟨s0_5,s0_b26_5,s0_b26_7⟩ _ p5e ⟨v39,p8,v42,p9,hB,o9,p0,p1,p2,p3,p4,p5,d45,d46,d47,d48,gv,d50,d51,d52,d53,d54,d55,n6,gg,n7,gw,gh,gx,gy,gi,gz,d65,F,rfl⟩ o ho
 replace ho:impl_Category_classifier_L0 x0 s0_5 s0_b26_5 s0_b26_7=some o:=ho
 unfold impl_Category_classifier_L0 at ho
 refine wq <| wq <| Wq rfl (cr [] p5e) <| Qa (Mi rfl) <| Qa (Mp rfl) <| Qa (Nk rfl) <| Qa (F0 fa32_0 rfl) <| Qa (Lb na2 (At.keep0 a_x0 hB) rfl rfl) <| Qa (Bl rfl rfl) <| fun p9h pn=>anz <| W_cond (b:=decide (s0_5 < x0.Objects)) rfl ?_ ?_
 intro p2q
 rw [p2q] at ho
 refine W_skip <| anz <| wq <| W_block <| wq <| W_region rfl <| Wb (Mp rfl) <| Wb (Mi rfl) <| ?_
 obtain ⟨y70,p5f,ho⟩:=bs ho
 refine WL.call rfl (op_callF Tryz.func213 rfl rfl) (impl_Category_sieves_calls (kp _ z8 (hB.trans pn)) (kp _ za (hB.trans pn)) (kp _ zc (hB.trans pn)) (kp _ zb (hB.trans pn)) (At.keep0 a_x0 (hB.trans pn)) p5f) <| ?_
 rintro _ p49 ⟨v74,f75,rfl,p1x,qi⟩
 refine ⟨_,rfl,?_⟩
 have d77:=dl (ofr qi) (sl _ (kp _ o9.1 pn))
 have d78:=dl (ofr qi) (sl _ (kp _ p0.1 pn))
 have d79:=dl (ofr qi) (sl _ (kp _ p1.1 pn))
 have d80:=dl (ofr qi) (sl _ (kp _ p2.1 pn))
 have d81:=dl (ofr qi) (one_lt (Row.lt (kr p3 pn)))
 have d82:=dl (ofr qi) (sl _ (kp _ p4.1 pn))
 have d83:=dl (ofr qi) (sl _ (kp _ p5.1 pn))
 replace qi:=OE.low (G:=[]) qi (hB.trans pn).size
 have gj:=pn.trans p1x
 replace o9:=ko o9 gj
 replace p0:=ko p0 gj
 replace p1:=ko p1 gj
 replace p2:=ko p2 gj
 replace p3:=kr p3 gj
 replace p4:=ko p4 gj
 replace p5:=ko p5 gj
 replace hB:=(hB.trans gj)
 refine Wb (Mt rfl) <| Wb (Ex v74 rfl rfl) <| Wb (Exb rfl rfl) <| Wb (Av v74 rfl) <| Wb (Ab rfl) <| anz <| wq <| wq <| Wq rfl (cr [] p49) <| Qa (Mb rfl) <| Qa (Nt rfl) <| fun p9j p1a=>anz <| W_cond (b:=!(y70.2)) rfl ?_ ?_
 intro p2y
 rw [p2y] at ho
 refine wq <| Wq rfl p1a <| Qa (Av (.pointer none) rfl) <| Qa (Ab rfl) <| fun p9k p5g=>anz <| ?_
 cases ho
 exact W_ret ⟨_,res_2 Tryz.results164,_,rfl,(hB.trans p5g),rfl⟩
 intro p2y
 rw [p2y] at ho
 refine W_skip <| anz <| wq <| W_region rfl <| Wb (Mp rfl) <| Wb (Mp rfl) <| Wb (Nk rfl) <| Wb (Fr fa151_1 rfl) <| Wa p1a (Lr na149 p3 rfl rfl) <| Wb (Mv v74 rfl) <| WL.lit1 Tryz.underlying149 info118 zr118 sz118 (STy.one _ qi.1 _ (ms rfl)) fun b90 p5i p5j p01 p4a=>?_
 replace p01:Row p5i b90 [v74] 118:=p01
 have p1b:=dl (onw p4a) (one_lt (Row.lt (kr p3 p1a)))
 have p1c:=dl (onw p4a) (sl _ (kp _ p5.1 p1a))
 have n8:=p1a.trans p5j
 replace o9:=ko o9 n8
 replace p0:=ko p0 n8
 replace p1:=ko p1 n8
 replace p2:=ko p2 n8
 replace p3:=kr p3 n8
 replace p4:=ko p4 n8
 replace p5:=ko p5 n8
 replace qi:=ko qi n8
 replace hB:=(hB.trans n8)
 obtain ⟨n111,hn112,ho⟩:=bs ho
 have hn112a:=fits_some hn112
 refine WL.append1 (E:=(sOwn 114 (sOwn 2 (sInt .i64)))) _ _ Tryz.underlying149 info118 zr118 sz118 rfl rfl rfl p5 rfl p01 qi.1 qi.2.1 qi.2.2 d83 (by rw [by118]; exact hn112a.1) hn112a.2 hB.size fun v105 p9l p9m qb k1 hs110=>?_
 have p1d:=dis_upd hs110 (d50).symm d77 (sl _ o9.1)
 have p1e:=dis_upd hs110 (d55).symm d78 (sl _ p0.1)
 have p1f:=dis_upd hs110 (gw).symm d79 (sl _ p1.1)
 have p1g:=dis_upd hs110 (gy).symm d80 (sl _ p2.1)
 have p02:=dis_upd hs110 (gz).symm d81 (one_lt (Row.lt p3))
 have p0f:=dis_upd hs110 (d65).symm d82 (sl _ p4.1)
 have p5k:=imm_len ((Le.own (Le.own (Le.refl _) 2) 114).le qi.1)
 replace o9:=okp o9 qb d50
 replace p0:=okp p0 qb d55
 replace p1:=okp p1 qb gw
 replace p2:=okp p2 qb gy
 replace p3:=Row.keep p3 qb (gz _ (ms rfl))
 replace p4:=okp p4 qb d65
 replace p01:=Row.keep p01 qb (p1c _ (ms rfl))
 replace hB:=hB.then qb p5.2.2
 refine Wb (Nk rfl) <| Wb (Fr fa151_1 rfl) <| WL.storeRow (j:=7) info149 sz149 p3 (Nat.le_of_ble_eq_true rfl) rfl rfl (STy.one _ k1.1 _ (ms rfl)) fun p4b q3 kj=>?_
 replace kj:Row p4b p6 [.int .i64 (y3.Objects),v7,v10,v13,v16,v39,.slice none 0 0,v105] 151:=kj
 replace o9:=okp o9 q3 d48
 replace p0:=okp p0 q3 d53
 replace p1:=okp p1 q3 gg
 replace p2:=okp p2 q3 gh
 replace p4:=okp p4 q3 (gi).symm
 replace p01:=Row.keep p01 q3 (p1b _ (ms rfl))
 replace k1:=okp k1 q3 p02
 replace hB:=hB.then q3 (one_then p1r)
 refine anz <| W_region rfl <| Wb (Mp rfl) <| Wb (Mp rfl) <| Wb (Nk rfl) <| Wb (Fr fa151_0 rfl) <| Wb (Fr fa66_1 rfl) <| Wb (Lr na22 kj rfl rfl) <| Wb (Mv v74 rfl) <| WL.val (v:=.int .i64 ((y70.1.length:Int))) rfl (op_lenV Tryz.underlying118 p5k) <| WL.lit1 u22z info2 zr2 sz2 rfl fun p5l p5m gk p03 p4c=>?_
 replace p03:Row p5m p5l [.int .i64 ((y70.1.length:Int))] 2:=p03
 have n9:=dl (onw p4c) (sl _ p4.1)
 have gl:=dl (onw p4c) (one_lt (Row.lt kj))
 replace o9:=ko o9 gk
 replace p0:=ko p0 gk
 replace p1:=ko p1 gk
 replace p2:=ko p2 gk
 replace p4:=ko p4 gk
 replace k1:=ko k1 gk
 replace kj:=kr kj gk
 replace hB:=(hB.trans gk)
 obtain ⟨n146,hn147,ho⟩:=bs ho
 have hn147a:=fits_some hn147
 refine WL.append1 (E:=(sInt .i64)) _ _ u22z info2 zr2 sz2 rfl rfl rfl p4 rfl p03 ⟨rfl,rfl⟩ List.nodup_nil (fun _ h=>nomatch h) (fun _ h=>nomatch h) (by rw [by2]; exact hn147a.1) hn147a.2 hB.size fun v140 p9n p9o gm p1y hs145=>?_
 have p0g:=dis_upd hs145 (gv).symm (fun _ h=>nomatch h) (sl _ o9.1)
 have p0h:=dis_upd hs145 (d54).symm (fun _ h=>nomatch h) (sl _ p0.1)
 have p0i:=dis_upd hs145 (n7).symm (fun _ h=>nomatch h) (sl _ p1.1)
 have p0j:=dis_upd hs145 (gx).symm (fun _ h=>nomatch h) (sl _ p2.1)
 have p04:=dis_upd hs145 (p0f).symm (fun _ h=>nomatch h) (sl _ k1.1)
 have gn:=dis_upd hs145 (gi).symm (fun _ h=>nomatch h) (one_lt (Row.lt kj))
 replace o9:=okp o9 gm gv
 replace p0:=okp p0 gm d54
 replace p1:=okp p1 gm n7
 replace p2:=okp p2 gm gx
 replace k1:=okp k1 gm p0f
 replace kj:=Row.keep kj gm (gi _ (ms rfl))
 replace p03:=Row.keep p03 gm (n9 _ (ms rfl))
 replace hB:=hB.then gm p4.2.2
 refine Wb (Nk rfl) <| Wb (Fr fa151_0 rfl) <| Wb (Fr fa66_1 rfl) <| WL.storeRow (j:=5) info22 sz22 kj (Nat.le_of_ble_eq_true rfl) rfl rfl (STy.one _ p1y.1 _ (ms rfl)) fun p4d go p2z=>?_
 replace p2z:Row p4d p6 [.int .i64 (y3.Objects),v7,v10,v13,v16,v140,.slice none 0 0,v105] 151:=p2z
 replace o9:=okp o9 go d48
 replace p0:=okp p0 go d53
 replace p1:=okp p1 go gg
 replace p2:=okp p2 go gh
 replace k1:=okp k1 go p02
 replace p03:=Row.keep p03 go (gl _ (ms rfl))
 replace p1y:=okp p1y go gn
 replace hB:=hB.then go (one_then p1r)
 refine inBlk_n <| anz <| Wq rfl (cr [] p4d) <| Qa (Mi rfl) <| Qa (Ba rfl rfl) <| Qa (Ai rfl) <| fun p9p gp=>?_
 cases ho
 exact ⟨_,_,_,_,(hB.trans gp),(ko o9 gp),(ko p0 gp),(ko p1 gp),(ko p2 gp),(kr p2z gp),(ko p1y gp),(ko k1 gp),d45,d46,d47,d48,((p0g).symm),((p1d).symm),d51,d52,d53,((p0h).symm),((p1e).symm),n6,gg,((p0i).symm),((p1f).symm),gh,((p0j).symm),((p1g).symm),((gn).symm),((p02).symm),p04,fe rfl⟩
 intro p2q
 rw [p2q] at ho
 refine W_exit <| andThen_x <| ?_
 cases ho
 exact ⟨rfl,⟨_,_,_,_,(hB.trans pn),(ko o9 pn),(ko p0 pn),(ko p1 pn),(ko p2 pn),(kr p3 pn),(ko p4 pn),(ko p5 pn),d45,d46,d47,d48,gv,d50,d51,d52,d53,d54,d55,n6,gg,n7,gw,gh,gx,gy,gi,gz,d65,fe rfl⟩⟩
 rintro ⟨s0_5,s0_b26_5,s0_b26_7⟩ _ p5n ⟨v39,p8,v42,p9,hB,o9,p0,p1,p2,p3,p4,p5,d45,d46,d47,d48,gv,d50,d51,d52,d53,d54,d55,n6,gg,n7,gw,gh,gx,gy,gi,gz,d65,F,rfl⟩ ho
 dsimp only at ho
 refine anz <| wq <| wq <| Wq rfl (cr [] p5n) <| Qa (Mp rfl) <| Qa (Nk rfl) <| Qa (Fp fa32_1 rfl) <| Qa (La na22 (At.keep0 a_x0 hB) rfl rfl) <| Qa (Ln sl22 (kB z8 hB) rfl) <| Qa (Mi rfl) <| fun p9q gq=>anz <| Wf (S1:=Int×(List (List Int))) (fun s r w'=>match s with | (s1_61,s1_b26_6)=>∃ (v165:Value) (qc:List Nat),Chg [] w w'∧OE [] w.heap.size w' (sOwn 2 (sInt .i64)) [v7] (y3.From) f8∧OE [] w.heap.size w' (sOwn 2 (sInt .i64)) [v10] (y3.To) pd∧OE [] w.heap.size w' (sOwn 2 (sInt .i64)) [v13] (y3.Identity) ph∧OE [] w.heap.size w' (sOwn 22 (sOwn 2 (sInt .i64))) [v16] (y3.Composites) pi∧Row w' p6 [.int .i64 (y3.Objects),v7,v10,v13,v16,v39,v165,v42] 151∧OE [] w.heap.size w' (sOwn 2 (sInt .i64)) [v39] (s0_b26_5) p8∧OE [] w.heap.size w' (sOwn 118 (sOwn 114 (sOwn 2 (sInt .i64)))) [v42] (s0_b26_7) p9∧OE [] w.heap.size w' (sOwn 22 (sOwn 2 (sInt .i64))) [v165] (s1_b26_6) qc∧Dis f8 pd∧Dis f8 ph∧Dis f8 pi∧Dis f8 [p6]∧Dis f8 p8∧Dis f8 p9∧Dis f8 qc∧Dis pd ph∧Dis pd pi∧Dis pd [p6]∧Dis pd p8∧Dis pd p9∧Dis pd qc∧Dis ph pi∧Dis ph [p6]∧Dis ph p8∧Dis ph p9∧Dis ph qc∧Dis pi [p6]∧Dis pi p8∧Dis pi p9∧Dis pi qc∧Dis [p6] p8∧Dis [p6] p9∧Dis [p6] qc∧Dis p8 p9∧Dis p8 qc∧Dis p9 qc∧∃ F,r=updL F [(0,.pointer (some (p_x0))),(4,.pointer (some (⟨p6,0,none⟩))),(60,.int .i64 ((x0.From.length:Int))),(61,.int .i64 (s1_61))]) (impl_Category_classifier_T w) ho ⟨_,_,(hB.trans gq),(ko o9 gq),(ko p0 gq),(ko p1 gq),(ko p2 gq),(kr p3 gq),(ko p4 gq),(ko p5 gq),nil_OE,(d45),(d46),(d47),(d48),(gv),(d50),(fun _ _ h=>nomatch h),(d51),(d52),(d53),(d54),(d55),(fun _ _ h=>nomatch h),(n6),(gg),(n7),(gw),(fun _ _ h=>nomatch h),(gh),(gx),(gy),(fun _ _ h=>nomatch h),(gi),(gz),(fun _ _ h=>nomatch h),(d65),(fun _ _ h=>nomatch h),(fun _ _ h=>nomatch h),fe rfl⟩ ?_ ?_
 rintro ⟨s1_61,s1_b26_6⟩ _ p5o ⟨v165,qc,hB,o9,p0,p1,p2,p3,p4,p5,po,qt,qu,qm,qn,qv,qw,qg,qh,qx,qo,qp,qq,qr,qs,na,nb,nc,nd,ne,nf,ng,nh,ni,nj,nk,nl,nm,nn,F,rfl⟩ o ho
 replace ho:impl_Category_classifier_L1 x0 y3 s0_b26_5 s0_b26_7 s1_61 s1_b26_6=some o:=ho
 unfold impl_Category_classifier_L1 at ho
 refine wq <| Wq rfl (cr [] p5o) <| Qa (Bl rfl rfl) <| fun p9r kk=>anz <| wq <| W_cond (b:=decide (s1_61 < (x0.From.length:Int))) rfl ?_ ?_
 intro p30
 rw [p30] at ho
 refine W_skip <| anz <| wq <| W_block <| wq <| Wq rfl kk <| Qa (Mi rfl) <| Qa (Ai rfl) <| fun p9s kl=>anz <| wq <| W_region rfl <| WL.lit0 (sInt .i64) u22z info2 fun v202 p1h p9t p5p k2=>?_
 have gr:=dl (ofr k2) (sl _ (kp _ o9.1 kl))
 have gs:=dl (ofr k2) (sl _ (kp _ p0.1 kl))
 have p31:=dl (ofr k2) (sl _ (kp _ p1.1 kl))
 have p32:=dl (ofr k2) (sl _ (kp _ p2.1 kl))
 have p33:=dl (ofr k2) (one_lt (Row.lt (kr p3 kl)))
 have p34:=dl (ofr k2) (sl _ (kp _ p4.1 kl))
 have p35:=dl (ofr k2) (sl _ (kp _ p5.1 kl))
 have p36:=dl (ofr k2) (sl _ (kp _ po.1 kl))
 replace k2:=OE.low (G:=[]) k2 (hB.trans kl).size
 have no:=kl.trans p5p
 replace o9:=ko o9 no
 replace p0:=ko p0 no
 replace p1:=ko p1 no
 replace p2:=ko p2 no
 replace p3:=kr p3 no
 replace p4:=ko p4 no
 replace p5:=ko p5 no
 replace po:=ko po no
 replace hB:=(hB.trans no)
 refine Wb (Av v202 rfl) <| anz <| wq <| wq <| Wqd rfl (by kernel_rfl) (cr [] p1h) <| Qa (Mp rfl) <| Qa (Nk rfl) <| Qa (Fr fa151_1 rfl) <| Qa (Lr na149 p3 rfl rfl) <| Qa (Mp rfl) <| Qa (Nk rfl) <| Qa (Fp fa32_1 rfl) <| Qa (La na22 (At.keep0 a_x0 hB) rfl rfl) <| Qa (Mi rfl) <| ?_
 obtain ⟨e216,hx217e,ho⟩:=bs ho
 have hx217:=idx_some hx217e
 refine Qa (Ix sl22 (kB z8 hB) hx217 rfl rfl rfl) <| Qa (Ei na2 (kB z8 hB) hx217 rfl) <| ?_
 obtain ⟨e218,hx219e,ho⟩:=bs ho
 have hx219:=idx_some hx219e
 refine Qa (Ix sl149 ((Le.own (Le.own (Le.own (Le.refl _) 2) 114) 118).le p5.1) hx219 rfl rfl rfl) <| ?_
 obtain ⟨u220,fu221,hu222,jh,hs224⟩:=one_get rfl ((Le.own (Le.own (Le.own (Le.refl _) 2) 114) 118).le p5.1) hx219.1 hx219.2
 refine Qa (Ld na118 hu222 rfl) <| Qa (Ln sl118 jh rfl) <| Qa (Mi rfl) <| fun p9u k3=>anz <| Wf (S1:=(List Int)×Int) (fun s r w'=>match s with | (s2_9,s2_79)=>∃ (v227:Value) (k4:List Nat),Chg [] w w'∧OE [] w.heap.size w' (sOwn 2 (sInt .i64)) [v7] (y3.From) f8∧OE [] w.heap.size w' (sOwn 2 (sInt .i64)) [v10] (y3.To) pd∧OE [] w.heap.size w' (sOwn 2 (sInt .i64)) [v13] (y3.Identity) ph∧OE [] w.heap.size w' (sOwn 22 (sOwn 2 (sInt .i64))) [v16] (y3.Composites) pi∧Row w' p6 [.int .i64 (y3.Objects),v7,v10,v13,v16,v39,v165,v42] 151∧OE [] w.heap.size w' (sOwn 2 (sInt .i64)) [v39] (s0_b26_5) p8∧OE [] w.heap.size w' (sOwn 118 (sOwn 114 (sOwn 2 (sInt .i64)))) [v42] (s0_b26_7) p9∧OE [] w.heap.size w' (sOwn 22 (sOwn 2 (sInt .i64))) [v165] (s1_b26_6) qc∧(sImm (sImm (sInt .i64))).rep w'.heap [u220] (e218) fu221∧OE [] w.heap.size w' (sOwn 2 (sInt .i64)) [v227] (s2_9) k4∧Dis f8 pd∧Dis f8 ph∧Dis f8 pi∧Dis f8 [p6]∧Dis f8 p8∧Dis f8 p9∧Dis f8 qc∧Dis f8 k4∧Dis pd ph∧Dis pd pi∧Dis pd [p6]∧Dis pd p8∧Dis pd p9∧Dis pd qc∧Dis pd k4∧Dis ph pi∧Dis ph [p6]∧Dis ph p8∧Dis ph p9∧Dis ph qc∧Dis ph k4∧Dis pi [p6]∧Dis pi p8∧Dis pi p9∧Dis pi qc∧Dis pi k4∧Dis [p6] p8∧Dis [p6] p9∧Dis [p6] qc∧Dis [p6] k4∧Dis p8 p9∧Dis p8 qc∧Dis p8 k4∧Dis p9 qc∧Dis p9 k4∧Dis qc k4∧∃ F,r=updL F [(0,.pointer (some (p_x0))),(4,.pointer (some (⟨p6,0,none⟩))),(8,.int .i64 (s1_61)),(9,v227),(60,.int .i64 ((x0.From.length:Int))),(61,.int .i64 (s1_61)),(77,u220),(78,.int .i64 ((e218.length:Int))),(79,.int .i64 (s2_79))]) (impl_Category_classifier_T w) ho ⟨_,_,(hB.trans k3),(ko o9 k3),(ko p0 k3),(ko p1 k3),(ko p2 k3),(kr p3 k3),(ko p4 k3),(ko p5 k3),(ko po k3),(kp _ jh k3),(ko k2 k3),(qt),(qu),(qm),(qn),(qv),(qw),(qg),((gr).symm),(qh),(qx),(qo),(qp),(qq),(qr),((gs).symm),(qs),(na),(nb),(nc),(nd),((p31).symm),(ne),(nf),(ng),(nh),((p32).symm),(ni),(nj),(nk),((p33).symm),(nl),(nm),((p34).symm),(nn),((p35).symm),((p36).symm),fe rfl⟩ ?_ ?_
 rintro ⟨s2_9,s2_79⟩ _ p5q ⟨v227,k4,hB,o9,p0,p1,p2,p3,p4,p5,po,jh,qy,np,nq,k5,j3,nr,ns,km,kn,k6,k7,ji,j4,qz,jj,jk,k8,jl,jm,nt,jn,j5,kq,nu,nv,ks,kt,jo,j6,ku,kv,nw,kw,jp,j7,jq,kx,F,rfl⟩ o ho
 replace ho:impl_Category_classifier_L2 x0 y3 s0_b26_5 s0_b26_7 s1_61 s1_b26_6 e218 s2_9 s2_79=some o:=ho
 unfold impl_Category_classifier_L2 at ho
 refine wq <| Wq rfl (cr [] p5q) <| Qa (Bl rfl rfl) <| fun p9v jr=>anz <| wq <| W_cond (b:=decide (s2_79 < (e218.length:Int))) rfl ?_ ?_
 intro p37
 rw [p37] at ho
 refine W_skip <| anz <| wq <| W_block <| wq <| Wq rfl jr <| ?_
 obtain ⟨e270,hx271e,ho⟩:=bs ho
 have hx271:=idx_some hx271e
 refine Qa (Ix sl118 jh hx271 rfl rfl rfl) <| ?_
 obtain ⟨u272,fu273,hu274,p1i,hs276⟩:=one_get rfl jh hx271.1 hx271.2
 refine Qa (Ld na114 hu274 rfl) <| Qa (Av u272 rfl) <| fun p5r qd=>anz <| ?_
 obtain ⟨e279,hx280e,ho⟩:=bs ho
 have hx280:=idx_some hx280e
 obtain ⟨y281,p5s,ho⟩:=bs ho
 obtain ⟨y286,p5t,ho⟩:=bs ho
 refine W_any (m:=15) (U:=.replicate 15 []) (S:=[sV (v227),sV (.pointer (some (⟨p6,0,none⟩))),sV (.pointer (some (p_x0))),sV (.pointer (some (p_x0))),sV (.pointer (some (p_x0.add 2))),sV (z1),sV (.int .i64 (s1_61)),sV (.pointer (some (elA (z1) 1 (s1_61)))),sV (.int .i64 (e279)),sV (.pointer (some (p_x0))),sV (.int .i64 (s1_61)),sV (u272),sO (sOwn 2 (sInt .i64)) (y281),sV (.int .i64 (y286)),⟨true,pl <| LitV [.int .i64 (y286)] 2 1⟩]) (Z:=[]) hmix rfl (by decide) (by decide +kernel) (fun _ _ _ h=>np_out h) (by decide) rfl (by decide +kernel) (stable_all <| stable_cons stable_val (stable_cons stable_val (stable_cons stable_val (stable_cons stable_val (stable_cons stable_val (stable_cons stable_val (stable_cons stable_val (stable_cons stable_val (stable_cons stable_val (stable_cons stable_val (stable_cons stable_val (stable_cons stable_val (stable_cons stable_own (stable_cons stable_val (stable_cons stable_lit ( stable_nil)))))))))))))))) ?_ ?_
 refine owes_cons ?_ <| owes_cons ?_ <| owes_cons ?_ <| owes_cons ?_ <| owes_cons ?_ <| owes_cons ?_ <| owes_cons ?_ <| owes_cons ?_ <| owes_cons ?_ <| owes_cons ?_ <| owes_cons ?_ <| owes_cons ?_ <| owes_cons ?_ <| owes_cons ?_ <| owes_cons ?_ <| owes_nil
 exact Oh rfl rfl rfl [(9,v227)] qd rfl rfl fun _=>Mv v227 rfl
 exact Oh rfl rfl rfl [(4,.pointer (some (⟨p6,0,none⟩)))] qd rfl rfl fun _=>Mp rfl
 exact Oh rfl rfl rfl [(0,.pointer (some (p_x0)))] qd rfl rfl fun _=>Mp rfl
 exact Ov rfl rfl rfl [] [(85,.pointer (some (p_x0)))] [2] qd rfl rfl (by decide +kernel) rfl fun _=>Nk rfl
 exact Ov rfl rfl rfl [] [(86,.pointer (some (p_x0)))] [3] qd rfl rfl (by decide +kernel) rfl fun _=>Fp fa32_2 rfl
 exact Ov rfl rfl rfl [] [(87,.pointer (some (p_x0.add 2)))] [4] qd rfl rfl (by decide +kernel) rfl fun _=>La na22 (At.keep0 a_x0 hB) rfl rfl
 exact Oh rfl rfl rfl [(8,.int .i64 (s1_61))] qd rfl rfl fun _=>Mi rfl
 exact Ov rfl rfl rfl [] [(88,z1),(89,.int .i64 (s1_61))] [5,6] qd rfl rfl (by decide +kernel) rfl fun _=>Ix sl22 (kB za hB) hx280 rfl rfl rfl
 exact Ov rfl rfl rfl [] [(90,.pointer (some (elA (z1) 1 (s1_61))))] [7] qd rfl rfl (by decide +kernel) rfl fun _=>Ei na2 (kB za hB) hx280 rfl
 exact Oh rfl rfl rfl [(0,.pointer (some (p_x0)))] qd rfl rfl fun _=>Mp rfl
 exact Oh rfl rfl rfl [(8,.int .i64 (s1_61))] qd rfl rfl fun _=>Mi rfl
 exact Oh rfl rfl rfl [(11,u272)] qd rfl rfl fun _=>Mv u272 rfl
 refine Owes.mem rfl rfl rfl <| fun g r wr hCr H hot=>?_
 have hC:=qd.trans hCr
 obtain ⟨F,rfl⟩:=fr (r:=r) (l:=[(92,.pointer (some (p_x0))),(93,.int .i64 (s1_61)),(94,u272)]) ⟨(H 9 (by decide +kernel) 92 rfl),(H 10 (by decide +kernel) 93 rfl),(H 11 (by decide +kernel) 94 rfl),trivial⟩
 exact OpW.own (op_callF Tryz.func153 rfl rfl) (impl_Category_pull_calls (kp _ z8 (hB.trans hC)) (kp _ za (hB.trans hC)) (kp _ zc (hB.trans hC)) (kp _ zb (hB.trans hC)) (At.keep0 a_x0 (hB.trans hC)) (kp _ p1i hC) p5s)
 refine Owes.call (f:=113) rfl rfl rfl <| fun g r wr hCr H hot=>?_
 have hC:=qd.trans hCr
 have ky:OwnV (sOwn 2 (sInt .i64)) (y281) _ _ _:=H 12 (by decide +kernel) 95 rfl
 generalize hvv283:r 95=v283 at ky
 obtain ⟨F,rfl⟩:=fr (r:=r) (l:=[(84,.pointer (some (⟨p6,0,none⟩))),(91,.int .i64 (e279)),(95,v283)]) ⟨(H 1 (by decide +kernel) 84 rfl),(H 8 (by decide +kernel) 91 rfl),hvv283,trivial⟩
 exact ⟨_,op_callF Tryz.func113 rfl rfl,impl_classifier_number_calls (x0:=(MClassifier.mk (MSetFunctor.mk y3 s0_b26_5 s1_b26_6) s0_b26_7)) ((Le.own (Le.refl _) 2).le (kp _ o9.1 hC)) ((Le.own (Le.refl _) 2).le (kp _ p0.1 hC)) ((Le.own (Le.refl _) 2).le (kp _ p1.1 hC)) ((Le.own (Le.own (Le.refl _) 2) 22).le (kp _ p2.1 hC)) ((Le.own (Le.refl _) 2).le (kp _ p4.1 hC)) ((Le.own (Le.own (Le.refl _) 2) 22).le (kp _ po.1 hC)) ((Le.own (Le.own (Le.own (Le.refl _) 2) 114) 118).le (kp _ p5.1 hC)) (kr p3 hC).at ((Le.own (Le.refl _) 2).le ky.1) p5t⟩
 refine Owes.mem rfl rfl rfl <| fun g r wr hCr H hot=>?_
 have hC:=qd.trans hCr
 obtain ⟨F,rfl⟩:=fr (r:=r) (l:=[(96,.int .i64 (y286))]) ⟨(H 13 (by decide +kernel) 96 rfl),trivial⟩
 exact OpW.lit1 u22z info2 zr2 sz2 rfl rfl
 rintro g r p4e ⟨j8,hdone,hot,hfresh,hdis⟩
 have ky:OwnV (sOwn 2 (sInt .i64)) (y281) _ _ _:=hdone 12 (by decide) (by decide) 95 rfl
 generalize hvv283:r 95=v283 at ky
 have hfo285:=hfresh 12 (by decide)
 obtain ⟨p38,hbb288,hvb288,p1j⟩ : LitV [.int .i64 (y286)] 2 1 _ _ _:=hdone 14 (by decide) (by decide) 97 rfl
 have hlb288:p5r.heap.size≤p38:=(hfresh 14 (by decide) p38 (by rw [hbb288]; exact ms rfl)).1
 have hdd:=hdis
 obtain ⟨F,rfl⟩:=fw hdone hot [(0,.pointer (some (p_x0))),(4,.pointer (some (⟨p6,0,none⟩))),(8,.int .i64 (s1_61)),(60,.int .i64 ((x0.From.length:Int))),(61,.int .i64 (s1_61)),(77,u220),(78,.int .i64 ((e218.length:Int))),(79,.int .i64 (s2_79))] [(83,v227)] [0] rfl rfl rfl rfl (z:=[(95,v283),(97,.slice (some ⟨p38,0,none⟩) 1 1)]) ⟨hvv283,hvb288,trivial⟩
 obtain ⟨p5u,hgf284⟩ : ∃ k,k=g 12:=⟨_,rfl⟩
 rw [← hgf284] at ky hfo285
 replace ky:OE [] w.heap.size p4e (sOwn 2 (sInt .i64)) [v283] (y281) p5u:=⟨ky.1,ky.2,fun b hb=>.inr (Nat.le_trans (hB.trans qd).size (hfo285 b hb).1)⟩
 have p5v:=dl (fun b hb=>(hfo285 b hb).1) (sl _ (kp _ qy.1 qd))
 have p39:=dl (onw hlb288) (sl _ (kp _ qy.1 qd))
 have j9:=(qd.trans j8)
 replace o9:=ko o9 j9
 replace p0:=ko p0 j9
 replace p1:=ko p1 j9
 replace p2:=ko p2 j9
 replace p3:=kr p3 j9
 replace p4:=ko p4 j9
 replace p5:=ko p5 j9
 replace po:=ko po j9
 replace jh:=kp _ jh j9
 replace qy:=ko qy j9
 replace hu274:=j9.cell0 hu274
 replace p1i:=kp _ p1i j9
 replace hB:=(hB.trans j9)
 obtain ⟨n320,hn321,ho⟩:=bs ho
 have hn321a:=fits_some hn321
 refine WL.append1 (E:=(sInt .i64)) _ _ u22z info2 zr2 sz2 rfl rfl rfl qy rfl p1j ⟨rfl,rfl⟩ List.nodup_nil (fun _ h=>nomatch h) (fun _ h=>nomatch h) (by rw [by2]; exact hn321a.1) hn321a.2 hB.size fun v314 p5w p9w pa p5x hs319=>?_
 have p5y:=dis_upd hs319 (kn).symm (fun _ h=>nomatch h) (sl _ o9.1)
 have p5z:=dis_upd hs319 (jk).symm (fun _ h=>nomatch h) (sl _ p0.1)
 have p60:=dis_upd hs319 (j5).symm (fun _ h=>nomatch h) (sl _ p1.1)
 have p61:=dis_upd hs319 (kt).symm (fun _ h=>nomatch h) (sl _ p2.1)
 have p62:=dis_upd hs319 (kv).symm (fun _ h=>nomatch h) (one_lt (Row.lt p3))
 have p63:=dis_upd hs319 (jp).symm (fun _ h=>nomatch h) (sl _ p4.1)
 have p64:=dis_upd hs319 (jq).symm (fun _ h=>nomatch h) (sl _ p5.1)
 have p65:=dis_upd hs319 (kx).symm (fun _ h=>nomatch h) (sl _ po.1)
 replace jh:=STy.keep _ jh pa (fun b hb=>jq b (hs224 b hb))
 replace p1i:=STy.keep _ p1i pa (fun b hb=>(fun b hb=>jq b (hs224 b hb)) b (hs276 b hb))
 replace o9:=okp o9 pa kn
 replace p0:=okp p0 pa jk
 replace p1:=okp p1 pa j5
 replace p2:=okp p2 pa kt
 replace p3:=Row.keep p3 pa (kv _ (ms rfl))
 replace p4:=okp p4 pa jp
 replace p5:=okp p5 pa jq
 replace po:=okp po pa kx
 replace ky:=okp ky pa p5v
 replace p1j:=Row.keep p1j pa (p39 _ (ms rfl))
 replace hB:=hB.then pa qy.2.2
 refine Wb (Av v314 rfl) <| inBlk_n <| anz <| Wq rfl (cr [] p5w) <| Qa (Ba rfl rfl) <| Qa (Mi rfl) <| fun p9x k9=>?_
 cases ho
 exact ⟨_,_,(hB.trans k9),(ko o9 k9),(ko p0 k9),(ko p1 k9),(ko p2 k9),(kr p3 k9),(ko p4 k9),(ko p5 k9),(ko po k9),(kp _ jh k9),(ko p5x k9),np,nq,k5,j3,nr,ns,km,((p5y).symm),k6,k7,ji,j4,qz,jj,((p5z).symm),k8,jl,jm,nt,jn,((p60).symm),kq,nu,nv,ks,((p61).symm),jo,j6,ku,((p62).symm),nw,kw,((p63).symm),j7,((p64).symm),((p65).symm),fe rfl⟩
 intro p37
 rw [p37] at ho
 refine W_exit <| andThen_x <| ?_
 cases ho
 exact ⟨rfl,⟨_,_,(hB.trans jr),(ko o9 jr),(ko p0 jr),(ko p1 jr),(ko p2 jr),(kr p3 jr),(ko p4 jr),(ko p5 jr),(ko po jr),(kp _ jh jr),(ko qy jr),np,nq,k5,j3,nr,ns,km,kn,k6,k7,ji,j4,qz,jj,jk,k8,jl,jm,nt,jn,j5,kq,nu,nv,ks,kt,jo,j6,ku,kv,nw,kw,jp,j7,jq,kx,fe rfl⟩⟩
 rintro ⟨s2_9,s2_79⟩ _ p9y ⟨v227,k4,hB,o9,p0,p1,p2,p3,p4,p5,po,jh,qy,np,nq,k5,j3,nr,ns,km,kn,k6,k7,ji,j4,qz,jj,jk,k8,jl,jm,nt,jn,j5,kq,nu,nv,ks,kt,jo,j6,ku,kv,nw,kw,jp,j7,jq,kx,F,rfl⟩ ho
 dsimp only at ho
 refine anz <| W_region rfl <| Wb (Mp rfl) <| Wb (Mp rfl) <| Wb (Nk rfl) <| Wb (Fr fa151_0 rfl) <| Wb (Fr fa66_2 rfl) <| Wb (Lr na23 p3 rfl rfl) <| Wb (Mv v227 rfl) <| WL.lit1 u23z info22 zr22 sz22 (STy.one _ qy.1 _ (ms rfl)) fun p66 p67 kz p05 p4f=>?_
 replace p05:Row p67 p66 [v227] 22:=p05
 have p68:=dl (onw p4f) (one_lt (Row.lt p3))
 have p69:=dl (onw p4f) (sl _ po.1)
 replace o9:=ko o9 kz
 replace p0:=ko p0 kz
 replace p1:=ko p1 kz
 replace p2:=ko p2 kz
 replace p3:=kr p3 kz
 replace p4:=ko p4 kz
 replace p5:=ko p5 kz
 replace po:=ko po kz
 replace qy:=ko qy kz
 replace hB:=(hB.trans kz)
 obtain ⟨n358,hn359,ho⟩:=bs ho
 have hn359a:=fits_some hn359
 refine WL.append1 (E:=(sOwn 2 (sInt .i64))) _ _ u23z info22 zr22 sz22 rfl rfl rfl po rfl p05 qy.1 qy.2.1 qy.2.2 (kx).symm (by rw [by22]; exact hn359a.1) hn359a.2 hB.size fun v352 p9z pa0 nx p1z hs357=>?_
 have p6a:=dis_upd hs357 (km).symm (kn).symm (sl _ o9.1)
 have p6b:=dis_upd hs357 (jj).symm (jk).symm (sl _ p0.1)
 have p6c:=dis_upd hs357 (jn).symm (j5).symm (sl _ p1.1)
 have p6d:=dis_upd hs357 (ks).symm (kt).symm (sl _ p2.1)
 have p4g:=dis_upd hs357 (ku).symm (kv).symm (one_lt (Row.lt p3))
 have p6e:=dis_upd hs357 (kw).symm (jp).symm (sl _ p4.1)
 have p6f:=dis_upd hs357 (j7).symm (jq).symm (sl _ p5.1)
 replace o9:=okp o9 nx km
 replace p0:=okp p0 nx jj
 replace p1:=okp p1 nx jn
 replace p2:=okp p2 nx ks
 replace p3:=Row.keep p3 nx (ku _ (ms rfl))
 replace p4:=okp p4 nx kw
 replace p5:=okp p5 nx j7
 replace p05:=Row.keep p05 nx (p69 _ (ms rfl))
 replace hB:=hB.then nx po.2.2
 refine Wb (Nk rfl) <| Wb (Fr fa151_0 rfl) <| Wb (Fr fa66_2 rfl) <| WL.storeRow (j:=6) info23 sz23 p3 (Nat.le_of_ble_eq_true rfl) rfl rfl (STy.one _ p1z.1 _ (ms rfl)) fun p4h ny p3a=>?_
 replace p3a:Row p4h p6 [.int .i64 (y3.Objects),v7,v10,v13,v16,v39,v352,v42] 151:=p3a
 replace o9:=okp o9 ny j3
 replace p0:=okp p0 ny ji
 replace p1:=okp p1 ny jl
 replace p2:=okp p2 ny kq
 replace p4:=okp p4 ny (jo).symm
 replace p5:=okp p5 ny (j6).symm
 replace p05:=Row.keep p05 ny (p68 _ (ms rfl))
 replace p1z:=okp p1z ny p4g
 replace hB:=hB.then ny (one_then p1r)
 refine inBlk_n <| anz <| Wq rfl (cr [] p4h) <| Qa (Ba rfl rfl) <| Qa (Mi rfl) <| fun pa1 nz=>?_
 cases ho
 exact ⟨_,_,(hB.trans nz),(ko o9 nz),(ko p0 nz),(ko p1 nz),(ko p2 nz),(kr p3a nz),(ko p4 nz),(ko p5 nz),(ko p1z nz),np,nq,k5,j3,nr,ns,((p6a).symm),k6,k7,ji,j4,qz,((p6b).symm),k8,jl,jm,nt,((p6c).symm),kq,nu,nv,((p6d).symm),jo,j6,((p4g).symm),nw,((p6e).symm),((p6f).symm),fe rfl⟩
 intro p30
 rw [p30] at ho
 refine W_exit <| andThen_x <| ?_
 cases ho
 exact ⟨rfl,⟨_,_,(hB.trans kk),(ko o9 kk),(ko p0 kk),(ko p1 kk),(ko p2 kk),(kr p3 kk),(ko p4 kk),(ko p5 kk),(ko po kk),qt,qu,qm,qn,qv,qw,qg,qh,qx,qo,qp,qq,qr,qs,na,nb,nc,nd,ne,nf,ng,nh,ni,nj,nk,nl,nm,nn,fe rfl⟩⟩
 rintro ⟨s1_61,s1_b26_6⟩ _ p6g ⟨v165,qc,hB,o9,p0,p1,p2,p3,p4,p5,po,qt,qu,qm,qn,qv,qw,qg,qh,qx,qo,qp,qq,qr,qs,na,nb,nc,nd,ne,nf,ng,nh,ni,nj,nk,nl,nm,nn,F,rfl⟩ ho
 dsimp only at ho
 refine anz <| wq <| Wq rfl (cr [] p6g) <| Qa (Mp rfl) <| Qa (Ap rfl) <| Qa (Ab rfl) <| fun pa2 g0=>anz <| ?_
 cases ho
 exact W_ret ⟨_,res_2 Tryz.results164,_,rfl,(hB.trans g0),_,_,_,_,_,_,_,_,_,_,_,_,_,_,_,rfl,(ko o9 g0),(ko p0 g0),(ko p1 g0),(ko p2 g0),(ko p4 g0),(ko po g0),(ko p5 g0),(kr p3 g0),p1r,qt,qu,qm,qv,qg,qw,qn,qh,qx,qp,qr,qq,qo,qs,nb,nd,nc,na,nf,nh,ng,ne,nm,nl,(ni).symm,(nn).symm,(nk).symm,(nj).symm⟩

abbrev impl_coverageOf_post (p_x0:Addr) (w:World) (x:((Option MCoverage)×Bool)) (e:Ending) (w':World):Prop:=∃ (v0:Value),e = .returned (.tuple #[v0,.bool x.2])∧Chg [] w w'∧(match x.1 with | none=>(v0 = .pointer none) | some m0=>∃ (b101:Nat) (b102:Nat) (v101:Value) (f101:List Nat) (v102:Value) (f102:List Nat) (v103:Value) (f103:List Nat) (v104:Value) (f104:List Nat) (v105:Value) (f105:List Nat) (v106:Value) (f106:List Nat) (v107:Value) (f107:List Nat) (v108:Value) (f108:List Nat) (b103:Nat),v0 = .pointer (some (⟨b101,0,none⟩))∧OE [] w.heap.size w' (sOwn 2 (sInt .i64)) [v101] m0.Classifier.Sets.Shape.From f101∧OE [] w.heap.size w' (sOwn 2 (sInt .i64)) [v102] m0.Classifier.Sets.Shape.To f102∧OE [] w.heap.size w' (sOwn 2 (sInt .i64)) [v103] m0.Classifier.Sets.Shape.Identity f103∧OE [] w.heap.size w' (sOwn 22 (sOwn 2 (sInt .i64))) [v104] m0.Classifier.Sets.Shape.Composites f104∧OE [] w.heap.size w' (sOwn 2 (sInt .i64)) [v105] m0.Classifier.Sets.Sizes f105∧OE [] w.heap.size w' (sOwn 22 (sOwn 2 (sInt .i64))) [v106] m0.Classifier.Sets.Actions f106∧OE [] w.heap.size w' (sOwn 118 (sOwn 114 (sOwn 2 (sInt .i64)))) [v107] m0.Classifier.Sieves f107∧Row w' b102 [.int .i64 (m0.Classifier.Sets.Shape.Objects),v101,v102,v103,v104,v105,v106,v107] 151∧w.heap.size≤b102∧OE [] w.heap.size w' (sOwn 138 (sOwn 4 sBool)) [v108] m0.Covers f108∧Row w' b103 [.int .i64 (m0.Count)] 197∧w.heap.size≤b103∧Row w' b101 [.pointer (some (⟨b102,0,none⟩)),.pointer (some (p_x0)),v108,.pointer (some (⟨b103,0,none⟩))] 144∧w.heap.size≤b101∧Dis f101 f102∧Dis f101 f103∧Dis f101 f104∧Dis f101 f105∧Dis f101 f106∧Dis f101 f107∧Dis f101 [b102]∧Dis f101 f108∧Dis f101 [b103]∧Dis f101 [b101]∧Dis f102 f103∧Dis f102 f104∧Dis f102 f105∧Dis f102 f106∧Dis f102 f107∧Dis f102 [b102]∧Dis f102 f108∧Dis f102 [b103]∧Dis f102 [b101]∧Dis f103 f104∧Dis f103 f105∧Dis f103 f106∧Dis f103 f107∧Dis f103 [b102]∧Dis f103 f108∧Dis f103 [b103]∧Dis f103 [b101]∧Dis f104 f105∧Dis f104 f106∧Dis f104 f107∧Dis f104 [b102]∧Dis f104 f108∧Dis f104 [b103]∧Dis f104 [b101]∧Dis f105 f106∧Dis f105 f107∧Dis f105 [b102]∧Dis f105 f108∧Dis f105 [b103]∧Dis f105 [b101]∧Dis f106 f107∧Dis f106 [b102]∧Dis f106 f108∧Dis f106 [b103]∧Dis f106 [b101]∧Dis f107 [b102]∧Dis f107 f108∧Dis f107 [b103]∧Dis f107 [b101]∧Dis [b102] f108∧Dis [b102] [b103]∧Dis [b102] [b101]∧Dis f108 [b103]∧Dis f108 [b101]∧Dis [b103] [b101])
abbrev impl_coverageOf_T (p_x0:Addr) (w:World):=Tm Tryz.prog Tryz.f104 44 (impl_coverageOf_post p_x0 w)
theorem impl_coverageOf_calls {w:World} {x0:MCategory} {p_x0:Addr} {z2:Value} {ze:List Nat} {z1:Value} {zf:List Nat} {z7:Value} {zg:List Nat} {z6:Value} {zh:List Nat} (z8:(sImm (sInt .i64)).rep w.heap [z2] x0.From ze) (za:(sImm (sInt .i64)).rep w.heap [z1] x0.To zf) (zc:(sImm (sInt .i64)).rep w.heap [z7] x0.Identity zg) (zb:(sImm (sImm (sInt .i64))).rep w.heap [z6] x0.Composites zh) (a_x0:At w p_x0 [.int .i64 (x0.Objects),z2,z1,z7,z6]) {y:((Option MCoverage)×Bool)} (hm:impl_coverageOf x0=some y) :
  Calls Tryz.prog 104 #[.pointer (some (p_x0))] w (impl_coverageOf_post p_x0 w y):=by
 refine Cm (S:=Unit) Tryz.func104 rfl Tryz.ntmps104 rfl hm fun o ho hB=>?_
 clear hm
 refine wq <| Wq rfl (cr [] w) <| Qa (Av (.pointer none) rfl) <| Qa (Ab rfl) <| fun wd1 hC2=>anz <| wq <| W_region rfl <| Wb (Mp rfl) <| ?_
 obtain ⟨y3,hy4,ho⟩:=bs ho
 refine WL.call rfl (op_callF Tryz.func164 rfl rfl) (impl_Category_classifier_calls (kp _ z8 (hB.trans hC2)) (kp _ za (hB.trans hC2)) (kp _ zc (hB.trans hC2)) (kp _ zb (hB.trans hC2)) (At.keep0 a_x0 (hB.trans hC2)) hy4) <| ?_
 rintro _ wd5 ⟨v8,rfl,hC6,hp7⟩
 refine ⟨_,rfl,?_⟩
 rcases hq9:y3.1 with _ | m10
 rw [hq9] at hp7 ho
 try dsimp only at hp7
 try dsimp only at ho
 obtain rfl:=hp7
 have p6h:=hC2.trans hC6
 replace hB:=(hB.trans p6h)
 refine Wb (Mt rfl) <| Wb (Ex (.pointer none) rfl rfl) <| Wb (Exb rfl rfl) <| Wb (Av (.pointer none) rfl) <| Wb (Ab rfl) <| anz <| wq <| wq <| Wq rfl (cr [] wd5) <| Qa (Mb rfl) <| Qa (Nt rfl) <| fun pa3 p4i=>anz <| W_cond (b:=!(y3.2)) rfl ?_ ?_
 intro p3b
 rw [p3b] at ho
 refine wq <| Wq rfl p4i <| Qa (Av (.pointer none) rfl) <| Qa (Ab rfl) <| fun p6i p1k=>anz <| ?_
 cases ho
 exact W_ret ⟨_,res_2 Tryz.results104,_,rfl,(hB.trans p1k),rfl⟩
 intro p3b
 rw [p3b] at ho
 refine W_skip <| anz <| wq <| W_region rfl <| Wb (Mv (.pointer none) rfl) <| Wb (Mp rfl) <| WL.alloc info197 zr197 fun b17 p4k p3c p20 pa4=>?_
 replace p20:Row p4k b17 [.int .i64 ((0:Int))] 197:=p20
 have p6j:=p4i.trans p3c
 replace hB:=(hB.trans p6j)
 refine Wb (Bu (bld144_0_1_3 rfl rfl rfl)) <| WL.box fun b24 p3d p21 p4l pa5=>?_
 replace p4l:Row p3d b24 [.pointer none,.pointer (some (p_x0)),.slice none 0 0,.pointer (some (⟨b17,0,none⟩))] 144:=p4l
 replace p20:=kr p20 p21
 replace hB:=(hB.trans p21)
 refine Wb (Ap rfl) <| anz <| wq <| wq <| Wq rfl (cr [] p3d) <| Qa (Mv (.pointer none) rfl) <| ?_
 cases ho
 rw [hq9] at hp7 ho
 try dsimp only at hp7
 try dsimp only at ho
 obtain ⟨qj,v34,ka,v37,kb,v40,kc,v43,kd,v46,ke,v49,kf,v52,js,rfl,pp,pq,pr,ps,pt,pu,p7,q2,p6l,n6,gg,n7,gw,gh,gx,gy,gi,gz,d65,d66,d67,d68,d69,d70,d71,d72,d73,d74,d75,d76,d77,d78,d79,d80,d81,d82,d83⟩:=hp7
 replace pp:=OE.low (G:=[]) pp (hB.trans hC2).size
 replace pq:=OE.low (G:=[]) pq (hB.trans hC2).size
 replace pr:=OE.low (G:=[]) pr (hB.trans hC2).size
 replace ps:=OE.low (G:=[]) ps (hB.trans hC2).size
 replace pt:=OE.low (G:=[]) pt (hB.trans hC2).size
 replace pu:=OE.low (G:=[]) pu (hB.trans hC2).size
 replace p7:=OE.low (G:=[]) p7 (hB.trans hC2).size
 have p6x:w.heap.size≤qj:=Nat.le_trans (hB.trans hC2).size p6l
 have p6y:=hC2.trans hC6
 replace hB:=(hB.trans p6y)
 refine Wb (Mt rfl) <| Wb (Ex (.pointer (some (⟨qj,0,none⟩))) rfl rfl) <| Wb (Exb rfl rfl) <| Wb (Ap rfl) <| Wb (Ab rfl) <| anz <| wq <| wq <| Wq rfl (cr [] wd5) <| Qa (Mb rfl) <| Qa (Nt rfl) <| fun pa6 kg=>anz <| W_cond (b:=!(y3.2)) rfl ?_ ?_
 intro p3e
 rw [p3e] at ho
 refine wq <| Wq rfl kg <| Qa (Av (.pointer none) rfl) <| Qa (Ab rfl) <| fun pa7 p6z=>anz <| ?_
 cases ho
 exact W_ret ⟨_,res_2 Tryz.results104,_,rfl,(hB.trans p6z),rfl⟩
 intro p3e
 rw [p3e] at ho
 refine W_skip <| anz <| wq <| W_region rfl <| Wb (Mp rfl) <| Wb (Mp rfl) <| WL.alloc info197 zr197 fun qk p70 p71 qe g1=>?_
 replace qe:Row p70 qk [.int .i64 ((0:Int))] 197:=qe
 have p72:w.heap.size≤qk:=Nat.le_trans (hB.trans kg).size g1
 have d97:=dl (onw g1) (sl _ (kp _ pp.1 kg))
 have d98:=dl (onw g1) (sl _ (kp _ pq.1 kg))
 have d99:=dl (onw g1) (sl _ (kp _ pr.1 kg))
 have p1b:=dl (onw g1) (sl _ (kp _ ps.1 kg))
 have p3i:=dl (onw g1) (sl _ (kp _ pt.1 kg))
 have p1c:=dl (onw g1) (sl _ (kp _ pu.1 kg))
 have p3j:=dl (onw g1) (sl _ (kp _ p7.1 kg))
 have p3k:=dl (onw g1) (one_lt (Row.lt (kr q2 kg)))
 have g2:=kg.trans p71
 replace pp:=ko pp g2
 replace pq:=ko pq g2
 replace pr:=ko pr g2
 replace ps:=ko ps g2
 replace pt:=ko pt g2
 replace pu:=ko pu g2
 replace p7:=ko p7 g2
 replace q2:=kr q2 g2
 replace hB:=(hB.trans g2)
 refine Wb (Bu (bld144_0_1_3 rfl rfl rfl)) <| WL.box fun pb p4m qb ql n0=>?_
 replace ql:Row p4m pb [.pointer (some (⟨qj,0,none⟩)),.pointer (some (p_x0)),.slice none 0 0,.pointer (some (⟨qk,0,none⟩))] 144:=ql
 have p4n:w.heap.size≤pb:=Nat.le_trans hB.size n0
 have p3l:=dl (onw n0) (sl _ pp.1)
 have p1d:=dl (onw n0) (sl _ pq.1)
 have p1e:=dl (onw n0) (sl _ pr.1)
 have p1f:=dl (onw n0) (sl _ ps.1)
 have p1g:=dl (onw n0) (sl _ pt.1)
 have p02:=dl (onw n0) (sl _ pu.1)
 have p0f:=dl (onw n0) (sl _ p7.1)
 have p3m:=dl (onw n0) (one_lt (Row.lt q2))
 have p3n:=dl (onw n0) (one_lt (Row.lt qe))
 replace pp:=ko pp qb
 replace pq:=ko pq qb
 replace pr:=ko pr qb
 replace ps:=ko ps qb
 replace pt:=ko pt qb
 replace pu:=ko pu qb
 replace p7:=ko p7 qb
 replace q2:=kr q2 qb
 replace qe:=kr qe qb
 replace hB:=(hB.trans qb)
 refine Wb (Ap rfl) <| anz <| wq <| wq <| Wq rfl (cr [] p4m) <| Qa (Mp rfl) <| Qa (Nk rfl) <| Qa (Fr fa151_1 rfl) <| Qa (Lr na149 q2 rfl rfl) <| Qa (Ln sl149 ((Le.own (Le.own (Le.own (Le.refl _) 2) 114) 118).le p7.1) rfl) <| Qa (Mi rfl) <| fun p4b q3=>anz <| Wf (S1:=Int×(List (List Bool))) (fun s r w'=>match s with | (s0_26,s0_b106_2)=>∃ (v124:Value) (ja:List Nat),Chg [] w w'∧OE [] w.heap.size w' (sOwn 2 (sInt .i64)) [v34] (m10.Sets.Shape.From) ka∧OE [] w.heap.size w' (sOwn 2 (sInt .i64)) [v37] (m10.Sets.Shape.To) kb∧OE [] w.heap.size w' (sOwn 2 (sInt .i64)) [v40] (m10.Sets.Shape.Identity) kc∧OE [] w.heap.size w' (sOwn 22 (sOwn 2 (sInt .i64))) [v43] (m10.Sets.Shape.Composites) kd∧OE [] w.heap.size w' (sOwn 2 (sInt .i64)) [v46] (m10.Sets.Sizes) ke∧OE [] w.heap.size w' (sOwn 22 (sOwn 2 (sInt .i64))) [v49] (m10.Sets.Actions) kf∧OE [] w.heap.size w' (sOwn 118 (sOwn 114 (sOwn 2 (sInt .i64)))) [v52] (m10.Sieves) js∧Row w' qj [.int .i64 (m10.Sets.Shape.Objects),v34,v37,v40,v43,v46,v49,v52] 151∧Row w' qk [.int .i64 ((0:Int))] 197∧Row w' pb [.pointer (some (⟨qj,0,none⟩)),.pointer (some (p_x0)),v124,.pointer (some (⟨qk,0,none⟩))] 144∧OE [] w.heap.size w' (sOwn 138 (sOwn 4 sBool)) [v124] (s0_b106_2) ja∧Dis ka kb∧Dis ka kc∧Dis ka kd∧Dis ka ke∧Dis ka kf∧Dis ka js∧Dis ka [qj]∧Dis ka [qk]∧Dis ka [pb]∧Dis ka ja∧Dis kb kc∧Dis kb kd∧Dis kb ke∧Dis kb kf∧Dis kb js∧Dis kb [qj]∧Dis kb [qk]∧Dis kb [pb]∧Dis kb ja∧Dis kc kd∧Dis kc ke∧Dis kc kf∧Dis kc js∧Dis kc [qj]∧Dis kc [qk]∧Dis kc [pb]∧Dis kc ja∧Dis kd ke∧Dis kd kf∧Dis kd js∧Dis kd [qj]∧Dis kd [qk]∧Dis kd [pb]∧Dis kd ja∧Dis ke kf∧Dis ke js∧Dis ke [qj]∧Dis ke [qk]∧Dis ke [pb]∧Dis ke ja∧Dis kf js∧Dis kf [qj]∧Dis kf [qk]∧Dis kf [pb]∧Dis kf ja∧Dis js [qj]∧Dis js [qk]∧Dis js [pb]∧Dis js ja∧Dis [qj] [qk]∧Dis [qj] [pb]∧Dis [qj] ja∧Dis [qk] [pb]∧Dis [qk] ja∧Dis [pb] ja∧∃ F,r=updL F [(6,.pointer (some (⟨pb,0,none⟩))),(24,v52),(25,.int .i64 ((m10.Sieves.length:Int))),(26,.int .i64 (s0_26))]) (impl_coverageOf_T p_x0 w) ho ⟨_,_,(hB.trans q3),(ko pp q3),(ko pq q3),(ko pr q3),(ko ps q3),(ko pt q3),(ko pu q3),(ko p7 q3),(kr q2 q3),(kr qe q3),(kr ql q3),nil_OE,(n6),(gg),(n7),(gw),(gh),(gx),(gy),((d97).symm),((p3l).symm),(fun _ _ h=>nomatch h),(gi),(gz),(d65),(d66),(d67),(d68),((d98).symm),((p1d).symm),(fun _ _ h=>nomatch h),(d69),(d70),(d71),(d72),(d73),((d99).symm),((p1e).symm),(fun _ _ h=>nomatch h),(d74),(d75),(d76),(d77),((p1b).symm),((p1f).symm),(fun _ _ h=>nomatch h),(d78),(d79),(d80),((p3i).symm),((p1g).symm),(fun _ _ h=>nomatch h),(d81),(d82),((p1c).symm),((p02).symm),(fun _ _ h=>nomatch h),(d83),((p3j).symm),((p0f).symm),(fun _ _ h=>nomatch h),((p3k).symm),((p3m).symm),(fun _ _ h=>nomatch h),((p3n).symm),(fun _ _ h=>nomatch h),(fun _ _ h=>nomatch h),fe rfl⟩ ?_ ?_
 rintro ⟨s0_26,s0_b106_2⟩ _ p73 ⟨v124,ja,hB,pp,pq,pr,ps,pt,pu,p7,q2,qe,ql,g3,p0k,p0l,p0m,p0n,p0o,p0p,p0q,p0r,p06,n9,p0s,gl,p0t,p0u,p0v,p22,p23,p1l,p1m,p24,p25,p0g,p0h,p0i,p0j,p04,gn,g4,g6,g7,g8,g9,n1,n2,ga,gb,gc,gd,n3,n4,ge,qt,qu,qm,qn,qv,qw,qg,qh,qx,qo,qp,qq,qr,qs,F,rfl⟩ o ho
 replace ho:impl_coverageOf_L0 m10 s0_26 s0_b106_2=some o:=ho
 unfold impl_coverageOf_L0 at ho
 refine wq <| Wq rfl (cr [] p73) <| Qa (Bl rfl rfl) <| fun pa8 jb=>anz <| wq <| W_cond (b:=decide (s0_26 < (m10.Sieves.length:Int))) rfl ?_ ?_
 intro p3o
 rw [p3o] at ho
 refine W_skip <| anz <| wq <| W_block <| wq <| Wq rfl jb <| ?_
 obtain ⟨e186,hx187e,ho⟩:=bs ho
 have hx187:=idx_some hx187e
 refine Qa (Ix sl149 ((Le.own (Le.own (Le.own (Le.refl _) 2) 114) 118).le p7.1) hx187 rfl rfl rfl) <| ?_
 obtain ⟨u188,fu189,hu190,p07,hs192⟩:=one_get rfl ((Le.own (Le.own (Le.own (Le.refl _) 2) 114) 118).le p7.1) hx187.1 hx187.2
 refine Qa (Ld na118 hu190 rfl) <| Qa (Av u188 rfl) <| fun p74 pj=>anz <| ?_
 obtain ⟨n195,hn196,ho⟩:=bs ho
 obtain ⟨hn196a,hn196b,hn196c⟩:=mk_some hn196
 refine W_any (m:=9) (U:=.replicate 9 []) (S:=[sV (.pointer (some (⟨pb,0,none⟩))),sV (.pointer (some (⟨pb,0,none⟩))),sV (.pointer (some (⟨pb,0,none⟩))),sV (.pointer (some (⟨pb,2,none⟩))),sV (v124),sV (u188),sV (.int .i64 ((e186.length:Int))),sO (sOwn 4 sBool) (List.replicate n195 false),⟨true,fun f w r u=>LitV [r 37] 138 1 f w u⟩]) (Z:=[0]) hmix rfl (by decide) (by decide +kernel) (fun _ _ _ h=>np_out h) (by decide) rfl (by decide +kernel) (stable_all <| stable_cons stable_val (stable_cons stable_val (stable_cons stable_val (stable_cons stable_val (stable_cons stable_val (stable_cons stable_val (stable_cons stable_val (stable_cons stable_own (stable_cons (stable_litx fun r r' h=>h 7 (by decide +kernel) 37 rfl) ( stable_nil)))))))))) ?_ ?_
 refine owes_cons ?_ <| owes_cons ?_ <| owes_cons ?_ <| owes_cons ?_ <| owes_cons ?_ <| owes_cons ?_ <| owes_cons ?_ <| owes_cons ?_ <| owes_cons ?_ <| owes_nil
 exact Oh rfl rfl rfl [(6,.pointer (some (⟨pb,0,none⟩)))] pj rfl rfl fun _=>Mp rfl
 exact Oh rfl rfl rfl [(6,.pointer (some (⟨pb,0,none⟩)))] pj rfl rfl fun _=>Mp rfl
 exact Ov rfl rfl rfl [] [(31,.pointer (some (⟨pb,0,none⟩)))] [1] pj rfl rfl (by decide +kernel) rfl fun _=>Nk rfl
 exact Ov rfl rfl rfl [] [(32,.pointer (some (⟨pb,0,none⟩)))] [2] pj rfl rfl (by decide +kernel) rfl fun _=>Fr fa144_2 rfl
 exact Ov rfl rfl rfl [] [(33,.pointer (some (⟨pb,2,none⟩)))] [3] pj rfl rfl (by decide +kernel) rfl fun _=>Lr na97 ql rfl rfl
 exact Oh rfl rfl rfl [(8,u188)] pj rfl rfl fun _=>Mv u188 rfl
 exact Ov rfl rfl rfl [] [(35,u188)] [5] pj rfl rfl (by decide +kernel) rfl fun _=>Ln sl118 p07 rfl
 refine Owes.mem rfl rfl rfl <| fun g r wr hCr H hot=>?_
 have hC:=pj.trans hCr
 obtain ⟨F,rfl⟩:=fr (r:=r) (l:=[(36,.int .i64 ((e186.length:Int)))]) ⟨(H 6 (by decide +kernel) 36 rfl),trivial⟩
 exact OpW.made (own_make (E:=sBool) (z0:=false) u138 info4 zr4 sz4 rfl rfl (fun _=>⟨rfl,rfl⟩) (congrArg (Value.int .i64) hn196a) (congrArg (Value.int .i64) hn196a) (by rw [by4]; exact hn196b) hn196c)
 refine Owes.memX rfl rfl rfl <| fun g r wr hCr H hot=>?_
 have hC:=pj.trans hCr
 have kh:OwnV (sOwn 4 sBool) (List.replicate n195 false) _ _ _:=H 7 (by decide +kernel) 37 rfl
 generalize hvv197:r 37=v197 at kh
 obtain ⟨F,rfl⟩:=fr (r:=r) (l:=[(37,v197)]) ⟨hvv197,trivial⟩
 exact OpW.lit1 u97 info138 zr138 sz138 rfl (STy.one _ kh.1 _ (ms rfl))
 rintro g r p1h ⟨p75,hdone,hot,hfresh,hdis⟩
 have kh:OwnV (sOwn 4 sBool) (List.replicate n195 false) _ _ _:=hdone 7 (by decide) (by decide) 37 rfl
 generalize hvv197:r 37=v197 at kh
 have hfo199:=hfresh 7 (by decide)
 obtain ⟨p3p,hbb200,hvb200,p1n⟩ : LitV [v197] 138 1 (g 8) p1h (r 38):=by have h:LitV [r 37] 138 1 (g 8) p1h (r 38):=hdone 8 (by decide) (by decide) 38 rfl; rw [hvv197] at h; exact h
 have hlb200:p74.heap.size≤p3p:=(hfresh 8 (by decide) p3p (by rw [hbb200]; exact ms rfl)).1
 have hdd:=hdis
 obtain ⟨F,rfl⟩:=fw hdone hot [(6,.pointer (some (⟨pb,0,none⟩))),(24,v52),(25,.int .i64 ((m10.Sieves.length:Int))),(26,.int .i64 (s0_26))] [(30,.pointer (some (⟨pb,0,none⟩))),(34,v124)] [0,4] rfl rfl rfl rfl (z:=[(37,v197),(38,.slice (some ⟨p3p,0,none⟩) 1 1)]) ⟨hvv197,hvb200,trivial⟩
 obtain ⟨p76,hgf198⟩ : ∃ k,k=g 7:=⟨_,rfl⟩
 rw [← hgf198] at kh hfo199
 replace kh:OE [] w.heap.size p1h (sOwn 4 sBool) [v197] (List.replicate n195 false) p76:=⟨kh.1,kh.2,fun b hb=>.inr (Nat.le_trans (hB.trans pj).size (hfo199 b hb).1)⟩
 have p0w:=dl (fun b hb=>(hfo199 b hb).1) (sl _ (kp _ pp.1 pj))
 have p0x:=dl (fun b hb=>(hfo199 b hb).1) (sl _ (kp _ pq.1 pj))
 have gr:=dl (fun b hb=>(hfo199 b hb).1) (sl _ (kp _ pr.1 pj))
 have gs:=dl (fun b hb=>(hfo199 b hb).1) (sl _ (kp _ ps.1 pj))
 have p31:=dl (fun b hb=>(hfo199 b hb).1) (sl _ (kp _ pt.1 pj))
 have p32:=dl (fun b hb=>(hfo199 b hb).1) (sl _ (kp _ pu.1 pj))
 have p33:=dl (fun b hb=>(hfo199 b hb).1) (sl _ (kp _ p7.1 pj))
 have p34:=dl (fun b hb=>(hfo199 b hb).1) (one_lt (Row.lt (kr q2 pj)))
 have p35:=dl (fun b hb=>(hfo199 b hb).1) (one_lt (Row.lt (kr qe pj)))
 have p36:=dl (fun b hb=>(hfo199 b hb).1) (one_lt (Row.lt (kr ql pj)))
 have p77:=dl (fun b hb=>(hfo199 b hb).1) (sl _ (kp _ g3.1 pj))
 have p0y:=dl (onw hlb200) (one_lt (Row.lt (kr ql pj)))
 have p0z:=dl (onw hlb200) (sl _ (kp _ g3.1 pj))
 have j0:=(pj.trans p75)
 replace pp:=ko pp j0
 replace pq:=ko pq j0
 replace pr:=ko pr j0
 replace ps:=ko ps j0
 replace pt:=ko pt j0
 replace pu:=ko pu j0
 replace p7:=ko p7 j0
 replace q2:=kr q2 j0
 replace qe:=kr qe j0
 replace ql:=kr ql j0
 replace g3:=ko g3 j0
 replace hu190:=j0.cell0 hu190
 replace p07:=kp _ p07 j0
 replace hB:=(hB.trans j0)
 obtain ⟨n236,hn237,ho⟩:=bs ho
 have hn237a:=fits_some hn237
 refine WL.append1 (E:=(sOwn 4 sBool)) _ _ u97 info138 zr138 sz138 rfl rfl rfl g3 rfl p1n kh.1 kh.2.1 kh.2.2 p77 (by rw [by138]; exact hn237a.1) hn237a.2 hB.size fun v230 pa9 paa j1 p26 hs235=>?_
 have k6:=dis_upd hs235 (n9).symm p0w (sl _ pp.1)
 have k7:=dis_upd hs235 (p1m).symm p0x (sl _ pq.1)
 have ji:=dis_upd hs235 (gn).symm gr (sl _ pr.1)
 have j4:=dis_upd hs235 (n2).symm gs (sl _ ps.1)
 have qz:=dis_upd hs235 (n4).symm p31 (sl _ pt.1)
 have jj:=dis_upd hs235 (qn).symm p32 (sl _ pu.1)
 have jk:=dis_upd hs235 (qh).symm p33 (sl _ p7.1)
 have k8:=dis_upd hs235 (qp).symm p34 (one_lt (Row.lt q2))
 have jl:=dis_upd hs235 (qr).symm p35 (one_lt (Row.lt qe))
 have jm:=dis_upd hs235 (qs).symm p36 (one_lt (Row.lt ql))
 replace hu190:=j1.cell (fun hm=>qh _ (own_blk p7 hx187.2) hm) hu190
 replace p07:=STy.keep _ p07 j1 (fun b hb=>qh b (hs192 b hb))
 replace pp:=okp pp j1 n9
 replace pq:=okp pq j1 p1m
 replace pr:=okp pr j1 gn
 replace ps:=okp ps j1 n2
 replace pt:=okp pt j1 n4
 replace pu:=okp pu j1 qn
 replace p7:=okp p7 j1 qh
 replace q2:=Row.keep q2 j1 (qp _ (ms rfl))
 replace qe:=Row.keep qe j1 (qr _ (ms rfl))
 replace ql:=Row.keep ql j1 (qs _ (ms rfl))
 replace p1n:=Row.keep p1n j1 (p0z _ (ms rfl))
 replace hB:=hB.then j1 g3.2.2
 refine Wb (Nk rfl) <| Wb (Fr fa144_2 rfl) <| WL.storeRow (j:=2) info97 sz97 ql (Nat.le_of_ble_eq_true rfl) rfl rfl (STy.one _ p26.1 _ (ms rfl)) fun p4o j2 p3q=>?_
 replace p3q:Row p4o pb [.pointer (some (⟨qj,0,none⟩)),.pointer (some (p_x0)),v230,.pointer (some (⟨qk,0,none⟩))] 144:=p3q
 replace hu190:=j2.cell (fun hm=>qg _ (own_blk p7 hx187.2) hm) hu190
 replace p07:=STy.keep _ p07 j2 (fun b hb=>qg b (hs192 b hb))
 replace pp:=okp pp j2 p06
 replace pq:=okp pq j2 p1l
 replace pr:=okp pr j2 p04
 replace ps:=okp ps j2 n1
 replace pt:=okp pt j2 n3
 replace pu:=okp pu j2 qm
 replace p7:=okp p7 j2 qg
 replace q2:=Row.keep q2 j2 (qo _ (ms rfl))
 replace qe:=Row.keep qe j2 (qq _ (ms rfl))
 replace p1n:=Row.keep p1n j2 (p0y _ (ms rfl))
 replace p26:=okp p26 j2 jm
 replace hB:=hB.then j2 (one_then p4n)
 refine inBlk_n <| anz <| Wq rfl (cr [] p4o) <| Qa (Ba rfl rfl) <| Qa (Mi rfl) <| fun pab jt=>?_
 cases ho
 exact ⟨_,_,(hB.trans jt),(ko pp jt),(ko pq jt),(ko pr jt),(ko ps jt),(ko pt jt),(ko pu jt),(ko p7 jt),(kr q2 jt),(kr qe jt),(kr p3q jt),(ko p26 jt),p0k,p0l,p0m,p0n,p0o,p0p,p0q,p0r,p06,((k6).symm),p0s,gl,p0t,p0u,p0v,p22,p23,p1l,((k7).symm),p24,p25,p0g,p0h,p0i,p0j,p04,((ji).symm),g4,g6,g7,g8,g9,n1,((j4).symm),ga,gb,gc,gd,n3,((qz).symm),ge,qt,qu,qm,((jj).symm),qv,qw,qg,((jk).symm),qx,qo,((k8).symm),qq,((jl).symm),((jm).symm),fe rfl⟩
 intro p3o
 rw [p3o] at ho
 refine W_exit <| andThen_x <| ?_
 cases ho
 exact ⟨rfl,⟨_,_,(hB.trans jb),(ko pp jb),(ko pq jb),(ko pr jb),(ko ps jb),(ko pt jb),(ko pu jb),(ko p7 jb),(kr q2 jb),(kr qe jb),(kr ql jb),(ko g3 jb),p0k,p0l,p0m,p0n,p0o,p0p,p0q,p0r,p06,n9,p0s,gl,p0t,p0u,p0v,p22,p23,p1l,p1m,p24,p25,p0g,p0h,p0i,p0j,p04,gn,g4,g6,g7,g8,g9,n1,n2,ga,gb,gc,gd,n3,n4,ge,qt,qu,qm,qn,qv,qw,qg,qh,qx,qo,qp,qq,qr,qs,fe rfl⟩⟩
 rintro ⟨s0_26,s0_b106_2⟩ _ p78 ⟨v124,ja,hB,pp,pq,pr,ps,pt,pu,p7,q2,qe,ql,g3,p0k,p0l,p0m,p0n,p0o,p0p,p0q,p0r,p06,n9,p0s,gl,p0t,p0u,p0v,p22,p23,p1l,p1m,p24,p25,p0g,p0h,p0i,p0j,p04,gn,g4,g6,g7,g8,g9,n1,n2,ga,gb,gc,gd,n3,n4,ge,qt,qu,qm,qn,qv,qw,qg,qh,qx,qo,qp,qq,qr,qs,F,rfl⟩ ho
 dsimp only at ho
 refine anz <| wq <| Wq rfl (cr [] p78) <| Qa (Mp rfl) <| Qa (Ap rfl) <| Qa (Ab rfl) <| fun pac ju=>anz <| ?_
 cases ho
 exact W_ret ⟨_,res_2 Tryz.results104,_,rfl,(hB.trans ju),_,_,_,_,_,_,_,_,_,_,_,_,_,_,_,_,_,_,_,rfl,(ko pp ju),(ko pq ju),(ko pr ju),(ko ps ju),(ko pt ju),(ko pu ju),(ko p7 ju),(kr q2 ju),p6x,(ko g3 ju),(kr qe ju),p72,(kr ql ju),p4n,p0k,p0l,p0m,p0n,p0o,p0p,p0q,n9,p0r,p06,p0s,gl,p0t,p0u,p0v,p22,p1m,p23,p1l,p24,p25,p0g,p0h,p0i,gn,p0j,p04,g4,g6,g7,g8,n2,g9,n1,ga,gb,gc,n4,gd,n3,ge,qt,qn,qu,qm,qv,qh,qw,qg,qp,qx,qo,(qr).symm,(qs).symm,qq⟩

abbrev sync_atomic_Int64_Add_post (b_x0:Nat) (w:World) (x:(Int×Int)) (e:Ending) (w':World):Prop:=e = .returned (.int .i64 x.1)∧Chg [b_x0] w w'∧Row w' b_x0 [.int .i64 x.2] 197
abbrev sync_atomic_Int64_Add_T (b_x0:Nat) (w:World):=Tm Tryz.prog Tryz.f192 10 (sync_atomic_Int64_Add_post b_x0 w)
theorem sync_atomic_Int64_Add_calls {w:World} {x0:Int} {b_x0:Nat} {x1:Int} (r_x0:Row w b_x0 [.int .i64 (x0)] 197) {y:(Int×Int)} (hm:sync_atomic_Int64_Add x0 x1=some y) :
  Calls Tryz.prog 192 #[.pointer (some (⟨b_x0,0,none⟩)),.int .i64 (x1)] w (sync_atomic_Int64_Add_post b_x0 w y):=by
 refine Cm (S:=Unit) Tryz.func192 rfl Tryz.ntmps192 rfl hm fun o ho hB=>?_
 clear hm
 have hB:Chg [b_x0] w w:=cr _ _
 refine wq <| Wq rfl (cr [] w) <| Qa (Ai rfl) <| fun wd1 hC2=>anz <| wq <| W_region rfl <| Wb (Mp rfl) <| Wb (Nk rfl) <| Wb (Fr fa197_2 rfl) <| Wb (Mi rfl) <| WL.atAdd (n:=x0) Tryz.func220 (by kernel_rfl) (by kernel_rfl) (by kernel_rfl) (by kernel_rfl) (kr r_x0 hC2) rfl rfl rfl fun wd3 hC4 hr5=>?_
 replace hr5:Row wd3 b_x0 [.int .i64 (w64 (x0 + x1))] 197:=hr5
 have hT6:=(hC2.nil (G:=[b_x0])).trans hC4
 replace hB:=hB.then hT6 (fun i hi=>.inl (by simp [List.mem_singleton.1 hi]))
 refine Wb (Ai rfl) <| anz <| ?_
 cases ho
 exact W_ret ⟨_,res_1 Tryz.results192,rfl,hB,hr5⟩

abbrev impl_coverage_mark_post (zi:Value) (zd:List Nat) (b_x0_Count:Nat) (w:World) (x:((List (List Bool))×Int)) (e:Ending) (w':World):Prop:=∃ (f0:List Nat),e = .returned (.tuple #[])∧Chg (zd++[b_x0_Count]) w w'∧OE (zd++[b_x0_Count]) w.heap.size w' (sOwn 138 (sOwn 4 sBool)) [zi] x.1 f0∧Row w' b_x0_Count [.int .i64 x.2] 197∧Dis f0 [b_x0_Count]
abbrev impl_coverage_mark_T (zi:Value) (zd:List Nat) (b_x0_Count:Nat) (w:World):=Tm Tryz.prog Tryz.f124 31 (impl_coverage_mark_post zi zd b_x0_Count w)
theorem impl_coverage_mark_calls {w:World} {x0:MCoverage} {p_x0:Addr} {p_x0_Classifier:Addr} {z1h:Value} {z1t:List Nat} {z1i:Value} {z1u:List Nat} {z1j:Value} {z1v:List Nat} {z1k:Value} {z1w:List Nat} {z1l:Value} {z1x:List Nat} {z1d:Value} {z1y:List Nat} {z1e:Value} {z20:List Nat} {p_x0_C:Addr} {zy:Value} {z19:List Nat} {zx:Value} {z1a:List Nat} {z10:Value} {z1b:List Nat} {z11:Value} {z1c:List Nat} {zi:Value} {zd:List Nat} {b_x0_Count:Nat} {x1:Int} {x2:Int} (z1m:(sImm (sInt .i64)).rep w.heap [z1h] x0.Classifier.Sets.Shape.From z1t) (z1n:(sImm (sInt .i64)).rep w.heap [z1i] x0.Classifier.Sets.Shape.To z1u) (z1o:(sImm (sInt .i64)).rep w.heap [z1j] x0.Classifier.Sets.Shape.Identity z1v) (z1p:(sImm (sImm (sInt .i64))).rep w.heap [z1k] x0.Classifier.Sets.Shape.Composites z1w) (z1q:(sImm (sInt .i64)).rep w.heap [z1l] x0.Classifier.Sets.Sizes z1x) (z1g:(sImm (sImm (sInt .i64))).rep w.heap [z1d] x0.Classifier.Sets.Actions z1y) (z1f:(sImm (sImm (sImm (sInt .i64)))).rep w.heap [z1e] x0.Classifier.Sieves z20) (a_x0_Classifier:At w p_x0_Classifier [.int .i64 (x0.Classifier.Sets.Shape.Objects),z1h,z1i,z1j,z1k,z1l,z1d,z1e]) (z13:(sImm (sInt .i64)).rep w.heap [zy] x0.C.From z19) (z12:(sImm (sInt .i64)).rep w.heap [zx] x0.C.To z1a) (z17:(sImm (sInt .i64)).rep w.heap [z10] x0.C.Identity z1b) (z18:(sImm (sImm (sInt .i64))).rep w.heap [z11] x0.C.Composites z1c) (a_x0_C:At w p_x0_C [.int .i64 (x0.C.Objects),zy,zx,z10,z11]) (o_x0_Covers:OE zd w.heap.size w (sOwn 138 (sOwn 4 sBool)) [zi] x0.Covers zd) (r_x0_Count:Row w b_x0_Count [.int .i64 (x0.Count)] 197) (a_x0:At w p_x0 [.pointer (some (p_x0_Classifier)),.pointer (some (p_x0_C)),zi,.pointer (some (⟨b_x0_Count,0,none⟩))]) (d_0_1:Dis zd [b_x0_Count]) (n_h_x0_Classifier_Sets_Shape_From:Dis z1t (zd++[b_x0_Count])) (n_h_x0_Classifier_Sets_Shape_To:Dis z1u (zd++[b_x0_Count])) (n_h_x0_Classifier_Sets_Shape_Identity:Dis z1v (zd++[b_x0_Count])) (n_h_x0_Classifier_Sets_Shape_Composites:Dis z1w (zd++[b_x0_Count])) (n_h_x0_Classifier_Sets_Sizes:Dis z1x (zd++[b_x0_Count])) (n_h_x0_Classifier_Sets_Actions:Dis z1y (zd++[b_x0_Count])) (n_h_x0_Classifier_Sieves:Dis z20 (zd++[b_x0_Count])) (n_x0_Classifier:p_x0_Classifier.block ∉ (zd++[b_x0_Count])) (n_h_x0_C_From:Dis z19 (zd++[b_x0_Count])) (n_h_x0_C_To:Dis z1a (zd++[b_x0_Count])) (n_h_x0_C_Identity:Dis z1b (zd++[b_x0_Count])) (n_h_x0_C_Composites:Dis z1c (zd++[b_x0_Count])) (n_x0_C:p_x0_C.block ∉ (zd++[b_x0_Count])) (n_x0:p_x0.block ∉ (zd++[b_x0_Count])) {y:((List (List Bool))×Int)} (hm:impl_coverage_mark x0 x1 x2=some y) :
  Calls Tryz.prog 124 #[.pointer (some (p_x0)),.int .i64 (x1),.int .i64 (x2)] w (impl_coverage_mark_post zi zd b_x0_Count w y):=by
 refine Cv (R:=((List (List Bool))×Int)) Tryz.func124 rfl Tryz.ntmps124 rfl hm fun o ho hB=>?_
 clear hm
 have hB:Chg (zd++[b_x0_Count]) w w:=cr _ _
 replace o_x0_Covers:OE (zd++[b_x0_Count]) w.heap.size w (sOwn 138 (sOwn 4 sBool)) [zi] x0.Covers zd:=OE.give o_x0_Covers fun b hb=>by simp [hb]
 refine wq <| Wq rfl (cr [] w) <| Qa (Mp rfl) <| Qa (Nk rfl) <| Qa (Fp fa144_2 rfl) <| Qa (La na97 (At.keep a_x0 hB n_x0) rfl rfl) <| Qa (Mi rfl) <| ?_
 obtain ⟨e23,hx24e,ho⟩:=bs ho
 have hx24:=idx_some hx24e
 refine Qa (Ix sl97 ((Le.own (Le.own (Le.refl _) 4) 138).le o_x0_Covers.1) hx24 rfl rfl rfl) <| ?_
 obtain ⟨u25,fu26,hu27,p4p,hs29⟩:=one_get rfl ((Le.own (Le.own (Le.refl _) 4) 138).le o_x0_Covers.1) hx24.1 hx24.2
 refine Qa (Ld na138 hu27 rfl) <| Qa (Mi rfl) <| ?_
 obtain ⟨e30,hx31e,ho⟩:=bs ho
 have hx31:=idx_some hx31e
 refine Qa (Ix sl138 p4p hx31 rfl rfl rfl) <| Qa (Eb na4 p4p hx31 rfl) <| Qa (Nt rfl) <| fun p3r gt=>anz <| W_cond (b:=!(e30)) rfl ?_ ?_
 intro p3s
 rw [p3s] at ho
 refine wq <| W_region rfl <| Wb (Mp rfl) <| Wb (Nk rfl) <| Wb (Fp fa144_2 rfl) <| Wa gt (La na97 (At.keep a_x0 hB n_x0) rfl rfl) <| Wb (Mi rfl) <| ?_
 obtain ⟨e35,hx36e,ho⟩:=bs ho
 have hx36:=idx_some hx36e
 refine Wa gt (Ix sl97 ((Le.own (Le.own (Le.refl _) 4) 138).le o_x0_Covers.1) hx36 rfl rfl rfl) <| ?_
 obtain ⟨u37,fu38,hu39,p3t,hs41⟩:=one_get rfl ((Le.own (Le.own (Le.refl _) 4) 138).le o_x0_Covers.1) hx36.1 hx36.2
 refine Wa gt (Ld na138 hu39 rfl) <| Wb (Mi rfl) <| ?_
 obtain ⟨e42,hx43e,ho⟩:=bs ho
 have hx43:=idx_some hx43e
 refine Wa gt (Ix sl138 p3t hx43 rfl rfl rfl) <| ?_
 have p1o:=gt.trans (cr [] p3r)
 replace hu39:=p1o.cell0 hu39
 replace p3t:=kp _ p3t p1o
 replace o_x0_Covers:=ko o_x0_Covers p1o
 replace r_x0_Count:=kr r_x0_Count p1o
 replace hB:=(hB.trans (Chg.nil p1o))
 obtain ⟨k45,o46,hk47,hf48⟩:=own_focus rfl hB.size o_x0_Covers hx36.2 hu39
 have gv:Dis k45 [b_x0_Count]:=fun b hb=>d_0_1 b (hk47 b hb)
 refine WL.storeEl (z':=true) _ _ sBool_nofp rfl info4 sz4 o46 hx43.2 rfl rfl ⟨rfl,rfl⟩ fun pad p3u o52=>?_
 obtain ⟨js,p7,hs55⟩:=hf48 _ _ _ p3u o52
 have n6:=dis_upd (k:=[]) (fun b hb=>(hs55 b hb).elim .inl fun h=>.inr (.inr h)) d_0_1 (fun _ h=>nomatch h) (one_lt (Row.lt r_x0_Count))
 replace r_x0_Count:=Row.keep r_x0_Count p3u ((gv).symm _ (ms rfl))
 replace hB:=hB.then p3u (fun b hb=>o_x0_Covers.2.2 b (hk47 b hb))
 refine anz <| W_region rfl <| Wb (Mp rfl) <| Wb (Nk rfl) <| Wb (Fp fa144_3 rfl) <| Wb (La na142 (At.keep a_x0 hB n_x0) rfl rfl) <| ?_
 obtain ⟨y58,p7b,ho⟩:=bs ho
 refine WL.call rfl (op_callF Tryz.func192 rfl rfl) (sync_atomic_Int64_Add_calls r_x0_Count p7b) <| ?_
 rintro _ pae ⟨rfl,p4q,o62⟩
 refine ⟨_,rfl,?_⟩
 replace p7:=okp p7 p4q (Dis.symm (n6).symm)
 replace hB:=hB.then p4q (fun i hi=>.inl (by simp [List.mem_singleton.1 hi]))
 cases ho
 exact ⟨_,res_0 Tryz.results124,_,rfl,hB,p7,o62,n6⟩
 intro p3s
 rw [p3s] at ho
 refine W_skip <| ?_
 cases ho
 exact ⟨_,res_0 Tryz.results124,_,rfl,(hB.trans (Chg.nil gt)),(ko o_x0_Covers gt),(kr r_x0_Count gt),d_0_1⟩

abbrev impl_Topology_coverage_post (p_x0:Addr) (w:World) (x:((Option MCoverage)×Bool)) (e:Ending) (w':World):Prop:=∃ (v0:Value),e = .returned (.tuple #[v0,.bool x.2])∧Chg [] w w'∧(match x.1 with | none=>(v0 = .pointer none) | some m0=>∃ (b101:Nat) (b102:Nat) (v101:Value) (f101:List Nat) (v102:Value) (f102:List Nat) (v103:Value) (f103:List Nat) (v104:Value) (f104:List Nat) (v105:Value) (f105:List Nat) (v106:Value) (f106:List Nat) (v107:Value) (f107:List Nat) (v108:Value) (f108:List Nat) (b103:Nat),v0 = .pointer (some (⟨b101,0,none⟩))∧OE [] w.heap.size w' (sOwn 2 (sInt .i64)) [v101] m0.Classifier.Sets.Shape.From f101∧OE [] w.heap.size w' (sOwn 2 (sInt .i64)) [v102] m0.Classifier.Sets.Shape.To f102∧OE [] w.heap.size w' (sOwn 2 (sInt .i64)) [v103] m0.Classifier.Sets.Shape.Identity f103∧OE [] w.heap.size w' (sOwn 22 (sOwn 2 (sInt .i64))) [v104] m0.Classifier.Sets.Shape.Composites f104∧OE [] w.heap.size w' (sOwn 2 (sInt .i64)) [v105] m0.Classifier.Sets.Sizes f105∧OE [] w.heap.size w' (sOwn 22 (sOwn 2 (sInt .i64))) [v106] m0.Classifier.Sets.Actions f106∧OE [] w.heap.size w' (sOwn 118 (sOwn 114 (sOwn 2 (sInt .i64)))) [v107] m0.Classifier.Sieves f107∧Row w' b102 [.int .i64 (m0.Classifier.Sets.Shape.Objects),v101,v102,v103,v104,v105,v106,v107] 151∧w.heap.size≤b102∧OE [] w.heap.size w' (sOwn 138 (sOwn 4 sBool)) [v108] m0.Covers f108∧Row w' b103 [.int .i64 (m0.Count)] 197∧w.heap.size≤b103∧Row w' b101 [.pointer (some (⟨b102,0,none⟩)),.pointer (some ((p_x0.add 0))),v108,.pointer (some (⟨b103,0,none⟩))] 144∧w.heap.size≤b101∧Dis f101 f102∧Dis f101 f103∧Dis f101 f104∧Dis f101 f105∧Dis f101 f106∧Dis f101 f107∧Dis f101 [b102]∧Dis f101 f108∧Dis f101 [b103]∧Dis f101 [b101]∧Dis f102 f103∧Dis f102 f104∧Dis f102 f105∧Dis f102 f106∧Dis f102 f107∧Dis f102 [b102]∧Dis f102 f108∧Dis f102 [b103]∧Dis f102 [b101]∧Dis f103 f104∧Dis f103 f105∧Dis f103 f106∧Dis f103 f107∧Dis f103 [b102]∧Dis f103 f108∧Dis f103 [b103]∧Dis f103 [b101]∧Dis f104 f105∧Dis f104 f106∧Dis f104 f107∧Dis f104 [b102]∧Dis f104 f108∧Dis f104 [b103]∧Dis f104 [b101]∧Dis f105 f106∧Dis f105 f107∧Dis f105 [b102]∧Dis f105 f108∧Dis f105 [b103]∧Dis f105 [b101]∧Dis f106 f107∧Dis f106 [b102]∧Dis f106 f108∧Dis f106 [b103]∧Dis f106 [b101]∧Dis f107 [b102]∧Dis f107 f108∧Dis f107 [b103]∧Dis f107 [b101]∧Dis [b102] f108∧Dis [b102] [b103]∧Dis [b102] [b101]∧Dis f108 [b103]∧Dis f108 [b101]∧Dis [b103] [b101])
abbrev impl_Topology_coverage_T (p_x0:Addr) (w:World):=Tm Tryz.prog Tryz.f93 48 (impl_Topology_coverage_post p_x0 w)
theorem impl_Topology_coverage_calls {w:World} {x0:MTopology} {p_x0:Addr} {zl:Value} {zo:List Nat} {zk:Value} {zp:List Nat} {zm:Value} {zq:List Nat} {zn:Value} {zr:List Nat} {zi:Value} {zd:List Nat} (zu:(sImm (sInt .i64)).rep w.heap [zl] x0.Shape.From zo) (zt:(sImm (sInt .i64)).rep w.heap [zk] x0.Shape.To zp) (zv:(sImm (sInt .i64)).rep w.heap [zm] x0.Shape.Identity zq) (zw:(sImm (sImm (sInt .i64))).rep w.heap [zn] x0.Shape.Composites zr) (zj:(sImm (sImm (sImm (sInt .i64)))).rep w.heap [zi] x0.Covers zd) (a_x0:At w p_x0 [.int .i64 (x0.Shape.Objects),zl,zk,zm,zn,zi]) {y:((Option MCoverage)×Bool)} (hm:impl_Topology_coverage x0=some y) :
  Calls Tryz.prog 93 #[.pointer (some (p_x0))] w (impl_Topology_coverage_post p_x0 w y):=by
 refine Cm (S:=Unit) Tryz.func93 rfl Tryz.ntmps93 rfl hm fun o ho hB=>?_
 clear hm
 refine wq <| Wq rfl (cr [] w) <| Qa (Av (.pointer none) rfl) <| Qa (Ab rfl) <| fun wd1 hC2=>anz <| wq <| W_region rfl <| Wb (Mp rfl) <| Wb (Nk rfl) <| ?_
 have at3:At w (p_x0.add 0) [.int .i64 (x0.Shape.Objects),zl,zk,zm,zn]:=At.sub a_x0 0 5
 refine Wb (Fp fa34_0 rfl) <| ?_
 obtain ⟨y4,hy5,ho⟩:=bs ho
 refine WL.call rfl (op_callF Tryz.func104 rfl rfl) (impl_coverageOf_calls (kp _ zu (hB.trans hC2)) (kp _ zt (hB.trans hC2)) (kp _ zv (hB.trans hC2)) (kp _ zw (hB.trans hC2)) (At.keep0 at3 (hB.trans hC2)) hy5) <| ?_
 rintro _ wd6 ⟨v9,rfl,hC7,hp8⟩
 refine ⟨_,rfl,?_⟩
 rcases hq10:y4.1 with _ | m11
 rw [hq10] at hp8 ho
 try dsimp only at hp8
 try dsimp only at ho
 obtain rfl:=hp8
 have p7d:=hC2.trans hC7
 replace hB:=(hB.trans p7d)
 refine Wb (Mt rfl) <| Wb (Ex (.pointer none) rfl rfl) <| Wb (Exb rfl rfl) <| Wb (Av (.pointer none) rfl) <| Wb (Ab rfl) <| anz <| wq <| wq <| Wq rfl (cr [] wd6) <| Qa (Mb rfl) <| Qa (Nt rfl) <| fun paf p4r=>anz <| W_cond (b:=!(y4.2)) rfl ?_ ?_
 intro p3v
 rw [p3v] at ho
 refine wq <| Wq rfl p4r <| Qa (Av (.pointer none) rfl) <| Qa (Ab rfl) <| fun pag p7e=>anz <| ?_
 cases ho
 exact W_ret ⟨_,res_2 Tryz.results93,_,rfl,(hB.trans p7e),rfl⟩
 intro p3v
 rw [p3v] at ho
 refine W_skip <| anz <| wq <| wq <| Wq rfl p4r <| Qa (Mp rfl) <| Qa (Nk rfl) <| Qa (Fp fa34_1 rfl) <| Qa (La na26 (At.keep0 a_x0 hB) rfl rfl) <| Qa (Ln sl26 (kB zj hB) rfl) <| Qa (Mi rfl) <| fun p4k p3c=>anz <| Wf (S1:=Int) (fun (s0_24:Int) r w'=>Chg [] w w'∧∃ F,r=updL F [(4,.pointer none),(22,zi),(23,.int .i64 ((x0.Covers.length:Int))),(24,.int .i64 (s0_24))]) (impl_Topology_coverage_T p_x0 w) ho ⟨(hB.trans p3c),fe rfl⟩ ?_ ?_
 rintro s0_24 _ p7f ⟨hB,F,rfl⟩ o ho
 replace ho:impl_Topology_coverage_L0 x0 s0_24=some o:=ho
 unfold impl_Topology_coverage_L0 at ho
 refine wq <| Wq rfl (cr [] p7f) <| Qa (Bl rfl rfl) <| fun pah p4s=>anz <| wq <| W_cond (b:=decide (s0_24 < (x0.Covers.length:Int))) rfl ?_ ?_
 intro p3w
 rw [p3w] at ho
 refine W_skip <| anz <| wq <| W_block <| wq <| Wq rfl p4s <| Qa (Mi rfl) <| ?_
 obtain ⟨e24,hx25e,ho⟩:=bs ho
 have hx25:=idx_some hx25e
 refine Qa (Ix sl26 (kB zj hB) hx25 rfl rfl rfl) <| ?_
 obtain ⟨u26,fu27,hu28,p3,hs30⟩:=one_get rfl zj hx25.1 hx25.2
 refine Qa (Ld na23 (hB.cell0 hu28) rfl) <| Qa (Ai rfl) <| Qa (Av u26 rfl) <| fun pai p7g=>anz <| wq <| Wq rfl p7g <| Qa (Mv u26 rfl) <| Qa (Ln sl23 (kB p3 hB) rfl) <| Qa (Mi rfl) <| fun p7h p1p=>anz <| Wf (S1:=Unit) (fun (_:Unit) r w'=>Chg [] w w'∧∃ F,r=updL F [(4,.pointer none),(6,.int .i64 (s0_24)),(22,zi),(23,.int .i64 ((x0.Covers.length:Int))),(24,.int .i64 (s0_24)),(29,u26),(30,.int .i64 ((e24.length:Int))),(31,.int .i64 ((0:Int)))]) (impl_Topology_coverage_T p_x0 w) ho ⟨(hB.trans p1p),fe rfl⟩ ?_ ?_
 rintro _ _ p7i ⟨hB,F,rfl⟩ o ho
 replace ho:impl_Topology_coverage_L1 e24=some o:=ho
 unfold impl_Topology_coverage_L1 at ho
 refine wq <| Wq rfl (cr [] p7i) <| Qa (Bl rfl rfl) <| fun paj p4t=>anz <| wq <| W_cond (b:=decide ((0:Int) < (e24.length:Int))) rfl ?_ ?_
 intro p3x
 rw [p3x] at ho
 refine W_skip <| anz <| wq <| W_block <| wq <| Wq rfl p4t <| ?_
 obtain ⟨e39,hx40e,ho⟩:=bs ho
 have hx40:=idx_some hx40e
 refine Qa (Ix sl23 (kB p3 hB) hx40 rfl rfl rfl) <| ?_
 obtain ⟨u41,fu42,hu43,pak,hs45⟩:=one_get rfl p3 hx40.1 hx40.2
 refine Qa (Ld na22 (hB.cell0 hu43) rfl) <| Qa (Av u41 rfl) <| fun pal pam=>anz <| W_region rfl <| Wb (Mv (.pointer none) rfl) <| Wb (Mi rfl) <| Wb (Mv (.pointer none) rfl) <| ?_
 cases ho
 intro p3x
 rw [p3x] at ho
 refine W_exit <| andThen_x <| ?_
 cases ho
 exact ⟨rfl,⟨(hB.trans p4t),fe rfl⟩⟩
 rintro _ _ p7j ⟨hB,F,rfl⟩ ho
 refine inBlk_n <| anz <| Wq rfl (cr [] p7j) <| Qa (Ba rfl rfl) <| Qa (Mi rfl) <| fun p7k p1q=>?_
 cases ho
 exact ⟨(hB.trans p1q),fe rfl⟩
 intro p3w
 rw [p3w] at ho
 refine W_exit <| andThen_x <| ?_
 cases ho
 exact ⟨rfl,⟨(hB.trans p4s),fe rfl⟩⟩
 rintro s0_24 _ p7l ⟨hB,F,rfl⟩ ho
 refine anz <| wq <| Wq rfl (cr [] p7l) <| Qa (Mv (.pointer none) rfl) <| Qa (Av (.pointer none) rfl) <| Qa (Ab rfl) <| fun pan p7m=>anz <| ?_
 cases ho
 exact W_ret ⟨_,res_2 Tryz.results93,_,rfl,(hB.trans p7m),rfl⟩
 rw [hq10] at hp8 ho
 try dsimp only at hp8
 try dsimp only at ho
 obtain ⟨pc,pe,v58,pv,v61,pm,v64,pw,v67,px,v70,py,v73,pz,v76,q0,v80,f81,pf,rfl,q4,q5,q6,q7,q8,q9,qa,qf,p7n,q1,jc,p7o,pk,p7p,d87,d88,d89,d90,d91,d92,d93,d94,d95,d96,d97,d98,d99,p1b,p3i,p1c,p3j,p3k,p80,p81,p82,p83,p84,p85,p86,p3l,p1d,p1e,p1f,p1g,p02,p0f,p3m,p3n,p87,p88,p89,p8a,p8b,p8c,p0k,p0l,p0m,p0n,p0o,p0p,p0q,p0r,p06,n9,p0s,gl,p0t,p0u,p0v⟩:=hp8
 replace q4:=OE.low (G:=[]) q4 (hB.trans hC2).size
 replace q5:=OE.low (G:=[]) q5 (hB.trans hC2).size
 replace q6:=OE.low (G:=[]) q6 (hB.trans hC2).size
 replace q7:=OE.low (G:=[]) q7 (hB.trans hC2).size
 replace q8:=OE.low (G:=[]) q8 (hB.trans hC2).size
 replace q9:=OE.low (G:=[]) q9 (hB.trans hC2).size
 replace qa:=OE.low (G:=[]) qa (hB.trans hC2).size
 have p8d:w.heap.size≤pe:=Nat.le_trans (hB.trans hC2).size p7n
 replace q1:=OE.low (G:=[]) q1 (hB.trans hC2).size
 have gu:w.heap.size≤pf:=Nat.le_trans (hB.trans hC2).size p7o
 have p8e:w.heap.size≤pc:=Nat.le_trans (hB.trans hC2).size p7p
 have p8f:=hC2.trans hC7
 replace hB:=(hB.trans p8f)
 refine Wb (Mt rfl) <| Wb (Ex (.pointer (some (⟨pc,0,none⟩))) rfl rfl) <| Wb (Exb rfl rfl) <| Wb (Ap rfl) <| Wb (Ab rfl) <| anz <| wq <| wq <| Wq rfl (cr [] wd6) <| Qa (Mb rfl) <| Qa (Nt rfl) <| fun pap p4u=>anz <| W_cond (b:=!(y4.2)) rfl ?_ ?_
 intro p3y
 rw [p3y] at ho
 refine wq <| Wq rfl p4u <| Qa (Av (.pointer none) rfl) <| Qa (Ab rfl) <| fun paq p8g=>anz <| ?_
 cases ho
 exact W_ret ⟨_,res_2 Tryz.results93,_,rfl,(hB.trans p8g),rfl⟩
 intro p3y
 rw [p3y] at ho
 refine W_skip <| anz <| wq <| wq <| Wq rfl p4u <| Qa (Mp rfl) <| Qa (Nk rfl) <| Qa (Fp fa34_1 rfl) <| Qa (La na26 (At.keep0 a_x0 hB) rfl rfl) <| Qa (Ln sl26 (kB zj hB) rfl) <| Qa (Mi rfl) <| fun par jv=>anz <| Wf (S1:=Int×Int×(List (List Bool))) (fun s r w'=>match s with | (s2_24,s2_b83_0,s2_o82)=>∃ (jd:List Nat),Chg [] w w'∧OE [] w.heap.size w' (sOwn 2 (sInt .i64)) [v58] (m11.Classifier.Sets.Shape.From) pv∧OE [] w.heap.size w' (sOwn 2 (sInt .i64)) [v61] (m11.Classifier.Sets.Shape.To) pm∧OE [] w.heap.size w' (sOwn 2 (sInt .i64)) [v64] (m11.Classifier.Sets.Shape.Identity) pw∧OE [] w.heap.size w' (sOwn 22 (sOwn 2 (sInt .i64))) [v67] (m11.Classifier.Sets.Shape.Composites) px∧OE [] w.heap.size w' (sOwn 2 (sInt .i64)) [v70] (m11.Classifier.Sets.Sizes) py∧OE [] w.heap.size w' (sOwn 22 (sOwn 2 (sInt .i64))) [v73] (m11.Classifier.Sets.Actions) pz∧OE [] w.heap.size w' (sOwn 118 (sOwn 114 (sOwn 2 (sInt .i64)))) [v76] (m11.Classifier.Sieves) q0∧Row w' pe [.int .i64 (m11.Classifier.Sets.Shape.Objects),v58,v61,v64,v67,v70,v73,v76] 151∧OE [] w.heap.size w' (sOwn 138 (sOwn 4 sBool)) [v80] (s2_o82) jd∧Row w' pf [.int .i64 (s2_b83_0)] 197∧Row w' pc [.pointer (some (⟨pe,0,none⟩)),.pointer (some ((p_x0.add 0))),v80,.pointer (some (⟨pf,0,none⟩))] 144∧Dis pv pm∧Dis pv pw∧Dis pv px∧Dis pv py∧Dis pv pz∧Dis pv q0∧Dis pv [pe]∧Dis pv jd∧Dis pv [pf]∧Dis pv [pc]∧Dis pm pw∧Dis pm px∧Dis pm py∧Dis pm pz∧Dis pm q0∧Dis pm [pe]∧Dis pm jd∧Dis pm [pf]∧Dis pm [pc]∧Dis pw px∧Dis pw py∧Dis pw pz∧Dis pw q0∧Dis pw [pe]∧Dis pw jd∧Dis pw [pf]∧Dis pw [pc]∧Dis px py∧Dis px pz∧Dis px q0∧Dis px [pe]∧Dis px jd∧Dis px [pf]∧Dis px [pc]∧Dis py pz∧Dis py q0∧Dis py [pe]∧Dis py jd∧Dis py [pf]∧Dis py [pc]∧Dis pz q0∧Dis pz [pe]∧Dis pz jd∧Dis pz [pf]∧Dis pz [pc]∧Dis q0 [pe]∧Dis q0 jd∧Dis q0 [pf]∧Dis q0 [pc]∧Dis [pe] jd∧Dis [pe] [pf]∧Dis [pe] [pc]∧Dis jd [pf]∧Dis jd [pc]∧Dis [pf] [pc]∧∃ F,r=updL F [(4,.pointer (some (⟨pc,0,none⟩))),(22,zi),(23,.int .i64 ((x0.Covers.length:Int))),(24,.int .i64 (s2_24))]) (impl_Topology_coverage_T p_x0 w) ho ⟨_,(hB.trans jv),(ko q4 jv),(ko q5 jv),(ko q6 jv),(ko q7 jv),(ko q8 jv),(ko q9 jv),(ko qa jv),(kr qf jv),(ko q1 jv),(kr jc jv),(kr pk jv),(d87),(d88),(d89),(d90),(d91),(d92),(d93),(d94),(d95),(d96),(d97),(d98),(d99),(p1b),(p3i),(p1c),(p3j),(p3k),(p80),(p81),(p82),(p83),(p84),(p85),(p86),(p3l),(p1d),(p1e),(p1f),(p1g),(p02),(p0f),(p3m),(p3n),(p87),(p88),(p89),(p8a),(p8b),(p8c),(p0k),(p0l),(p0m),(p0n),(p0o),(p0p),(p0q),(p0r),(p06),(n9),(p0s),(gl),(p0t),(p0u),(p0v),fe rfl⟩ ?_ ?_
 rintro ⟨s2_24,s2_b83_0,s2_o82⟩ _ p8h ⟨jd,hB,q4,q5,q6,q7,q8,q9,qa,qf,q1,jc,pk,g4,g6,g7,g8,g9,n1,n2,ga,gb,gc,gd,n3,n4,ge,qt,qu,qm,qn,qv,qw,qg,qh,qx,qo,qp,qq,qr,qs,na,nb,nc,nd,ne,nf,ng,nh,ni,nj,nk,nl,nm,nn,p27,p28,p29,p2a,p2b,p2c,p2d,p2e,p2f,p0w,p0x,gr,gs,F,rfl⟩ o ho
 replace ho:impl_Topology_coverage_L2 x0 m11 s2_24 s2_b83_0 s2_o82=some o:=ho
 unfold impl_Topology_coverage_L2 at ho
 refine wq <| Wq rfl (cr [] p8h) <| Qa (Bl rfl rfl) <| fun pas je=>anz <| wq <| W_cond (b:=decide (s2_24 < (x0.Covers.length:Int))) rfl ?_ ?_
 intro p3z
 rw [p3z] at ho
 refine W_skip <| anz <| wq <| W_block <| wq <| Wq rfl je <| Qa (Mi rfl) <| ?_
 obtain ⟨e213,hx214e,ho⟩:=bs ho
 have hx214:=idx_some hx214e
 refine Qa (Ix sl26 (kB zj hB) hx214 rfl rfl rfl) <| ?_
 obtain ⟨u215,fu216,hu217,p40,hs219⟩:=one_get rfl zj hx214.1 hx214.2
 refine Qa (Ld na23 (hB.cell0 hu217) rfl) <| Qa (Ai rfl) <| Qa (Av u215 rfl) <| fun pat p8i=>anz <| wq <| Wq rfl p8i <| Qa (Mv u215 rfl) <| Qa (Ln sl23 (kB p40 hB) rfl) <| Qa (Mi rfl) <| fun pau jw=>anz <| Wf (S1:=Int×Int×(List (List Bool))) (fun s r w'=>match s with | (s3_31,s3_b83_0,s3_o82)=>∃ (jf:List Nat),Chg [] w w'∧OE [] w.heap.size w' (sOwn 2 (sInt .i64)) [v58] (m11.Classifier.Sets.Shape.From) pv∧OE [] w.heap.size w' (sOwn 2 (sInt .i64)) [v61] (m11.Classifier.Sets.Shape.To) pm∧OE [] w.heap.size w' (sOwn 2 (sInt .i64)) [v64] (m11.Classifier.Sets.Shape.Identity) pw∧OE [] w.heap.size w' (sOwn 22 (sOwn 2 (sInt .i64))) [v67] (m11.Classifier.Sets.Shape.Composites) px∧OE [] w.heap.size w' (sOwn 2 (sInt .i64)) [v70] (m11.Classifier.Sets.Sizes) py∧OE [] w.heap.size w' (sOwn 22 (sOwn 2 (sInt .i64))) [v73] (m11.Classifier.Sets.Actions) pz∧OE [] w.heap.size w' (sOwn 118 (sOwn 114 (sOwn 2 (sInt .i64)))) [v76] (m11.Classifier.Sieves) q0∧Row w' pe [.int .i64 (m11.Classifier.Sets.Shape.Objects),v58,v61,v64,v67,v70,v73,v76] 151∧OE [] w.heap.size w' (sOwn 138 (sOwn 4 sBool)) [v80] (s3_o82) jf∧Row w' pf [.int .i64 (s3_b83_0)] 197∧Row w' pc [.pointer (some (⟨pe,0,none⟩)),.pointer (some ((p_x0.add 0))),v80,.pointer (some (⟨pf,0,none⟩))] 144∧Dis pv pm∧Dis pv pw∧Dis pv px∧Dis pv py∧Dis pv pz∧Dis pv q0∧Dis pv [pe]∧Dis pv jf∧Dis pv [pf]∧Dis pv [pc]∧Dis pm pw∧Dis pm px∧Dis pm py∧Dis pm pz∧Dis pm q0∧Dis pm [pe]∧Dis pm jf∧Dis pm [pf]∧Dis pm [pc]∧Dis pw px∧Dis pw py∧Dis pw pz∧Dis pw q0∧Dis pw [pe]∧Dis pw jf∧Dis pw [pf]∧Dis pw [pc]∧Dis px py∧Dis px pz∧Dis px q0∧Dis px [pe]∧Dis px jf∧Dis px [pf]∧Dis px [pc]∧Dis py pz∧Dis py q0∧Dis py [pe]∧Dis py jf∧Dis py [pf]∧Dis py [pc]∧Dis pz q0∧Dis pz [pe]∧Dis pz jf∧Dis pz [pf]∧Dis pz [pc]∧Dis q0 [pe]∧Dis q0 jf∧Dis q0 [pf]∧Dis q0 [pc]∧Dis [pe] jf∧Dis [pe] [pf]∧Dis [pe] [pc]∧Dis jf [pf]∧Dis jf [pc]∧Dis [pf] [pc]∧∃ F,r=updL F [(4,.pointer (some (⟨pc,0,none⟩))),(6,.int .i64 (s2_24)),(22,zi),(23,.int .i64 ((x0.Covers.length:Int))),(24,.int .i64 (s2_24)),(29,u215),(30,.int .i64 ((e213.length:Int))),(31,.int .i64 (s3_31))]) (impl_Topology_coverage_T p_x0 w) ho ⟨_,(hB.trans jw),(ko q4 jw),(ko q5 jw),(ko q6 jw),(ko q7 jw),(ko q8 jw),(ko q9 jw),(ko qa jw),(kr qf jw),(ko q1 jw),(kr jc jw),(kr pk jw),(g4),(g6),(g7),(g8),(g9),(n1),(n2),(ga),(gb),(gc),(gd),(n3),(n4),(ge),(qt),(qu),(qm),(qn),(qv),(qw),(qg),(qh),(qx),(qo),(qp),(qq),(qr),(qs),(na),(nb),(nc),(nd),(ne),(nf),(ng),(nh),(ni),(nj),(nk),(nl),(nm),(nn),(p27),(p28),(p29),(p2a),(p2b),(p2c),(p2d),(p2e),(p2f),(p0w),(p0x),(gr),(gs),fe rfl⟩ ?_ ?_
 rintro ⟨s3_31,s3_b83_0,s3_o82⟩ _ p8j ⟨jf,hB,q4,q5,q6,q7,q8,q9,qa,qf,q1,jc,pk,p2g,p0y,p0z,p2h,p2i,np,nq,k5,j3,nr,ns,km,kn,k6,k7,ji,j4,qz,jj,jk,k8,jl,jm,nt,jn,j5,kq,nu,nv,ks,kt,jo,j6,ku,kv,nw,kw,jp,j7,jq,kx,p2j,p10,p08,p2k,p2l,p11,p09,p2m,p12,p0a,p2n,p2o,p13,p0b,F,rfl⟩ o ho
 replace ho:impl_Topology_coverage_L3 x0 m11 s2_24 e213 s3_31 s3_b83_0 s3_o82=some o:=ho
 unfold impl_Topology_coverage_L3 at ho
 refine wq <| Wq rfl (cr [] p8j) <| Qa (Bl rfl rfl) <| fun pav jg=>anz <| wq <| W_cond (b:=decide (s3_31 < (e213.length:Int))) rfl ?_ ?_
 intro p41
 rw [p41] at ho
 refine W_skip <| anz <| wq <| W_block <| wq <| Wq rfl jg <| ?_
 obtain ⟨e284,hx285e,ho⟩:=bs ho
 have hx285:=idx_some hx285e
 refine Qa (Ix sl23 (kB p40 hB) hx285 rfl rfl rfl) <| ?_
 obtain ⟨u286,fu287,hu288,p1j,hs290⟩:=one_get rfl p40 hx285.1 hx285.2
 refine Qa (Ld na22 (hB.cell0 hu288) rfl) <| Qa (Av u286 rfl) <| fun p4e j8=>anz <| W_region rfl <| Wb (Mp rfl) <| Wb (Mi rfl) <| Wb (Mp rfl) <| Wb (Nk rfl) <| Wb (Fr fa144_0 rfl) <| Wa j8 (Lr na141 pk rfl rfl) <| Wb (Mi rfl) <| Wb (Mv u286 rfl) <| ?_
 obtain ⟨y293,p8k,ho⟩:=bs ho
 refine WL.call rfl (op_callF Tryz.func113 rfl rfl) (impl_classifier_number_calls ((Le.own (Le.refl _) 2).le (kp _ q4.1 j8)) ((Le.own (Le.refl _) 2).le (kp _ q5.1 j8)) ((Le.own (Le.refl _) 2).le (kp _ q6.1 j8)) ((Le.own (Le.own (Le.refl _) 2) 22).le (kp _ q7.1 j8)) ((Le.own (Le.refl _) 2).le (kp _ q8.1 j8)) ((Le.own (Le.own (Le.refl _) 2) 22).le (kp _ q9.1 j8)) ((Le.own (Le.own (Le.own (Le.refl _) 2) 114) 118).le (kp _ qa.1 j8)) (kr qf j8).at (kp _ p1j (hB.trans j8)) p8k) <| ?_
 rintro _ p4v ⟨rfl,p8l⟩
 refine ⟨_,rfl,?_⟩
 have jx:=(j8.trans p8l).trans (cr [] p4v)
 replace q4:=ko q4 jx
 replace q5:=ko q5 jx
 replace q6:=ko q6 jx
 replace q7:=ko q7 jx
 replace q8:=ko q8 jx
 replace q9:=ko q9 jx
 replace qa:=ko qa jx
 replace qf:=kr qf jx
 replace q1:=ko q1 jx
 replace jc:=kr jc jx
 replace pk:=kr pk jx
 replace hB:=(hB.trans jx)
 obtain ⟨y298,p8m,ho⟩:=bs ho
 refine WL.call rfl (op_callF Tryz.func124 rfl rfl) (impl_coverage_mark_calls (x0:=(MCoverage.mk m11.Classifier x0.Shape s3_o82 s3_b83_0)) ((Le.own (Le.refl _) 2).le q4.1) ((Le.own (Le.refl _) 2).le q5.1) ((Le.own (Le.refl _) 2).le q6.1) ((Le.own (Le.own (Le.refl _) 2) 22).le q7.1) ((Le.own (Le.refl _) 2).le q8.1) ((Le.own (Le.own (Le.refl _) 2) 22).le q9.1) ((Le.own (Le.own (Le.own (Le.refl _) 2) 114) 118).le qa.1) qf.at (kp _ zu hB) (kp _ zt hB) (kp _ zv hB) (kp _ zw hB) (At.keep0 at3 hB) (OE.give (B':=p4v.heap.size) q1 fun _ h=>h) jc pk.at p2o (Dis.symm (da (k5).symm (j3).symm)) (Dis.symm (da (j4).symm (qz).symm)) (Dis.symm (da (jn).symm (j5).symm)) (Dis.symm (da (jo).symm (j6).symm)) (Dis.symm (da (jp).symm (j7).symm)) (Dis.symm (da (p10).symm (p08).symm)) (Dis.symm (da (p11).symm (p09).symm)) (fun hm=>(da (p12).symm (p0a).symm) _ hm (ms rfl)) (dis_par (sl _ zu) (low_app q1.2.2 (one_then gu))) (dis_par (sl _ zt) (low_app q1.2.2 (one_then gu))) (dis_par (sl _ zv) (low_app q1.2.2 (one_then gu))) (dis_par (sl _ zw) (low_app q1.2.2 (one_then gu))) (pat_out at3 List.not_mem_nil (low_app q1.2.2 (one_then gu))) (fun hm=>(da p13 p0b) _ hm (ms rfl)) p8m) <| ?_
 rintro _ p8n ⟨paw,rfl,n5,jy,p8o,p8p⟩
 refine ⟨_,rfl,?_⟩
 have p8q:=dis_back jy (da (k5).symm (j3).symm) (sl _ q4.1)
 have p8r:=dis_back jy (da (j4).symm (qz).symm) (sl _ q5.1)
 have p8s:=dis_back jy (da (jn).symm (j5).symm) (sl _ q6.1)
 have p8t:=dis_back jy (da (jo).symm (j6).symm) (sl _ q7.1)
 have p8u:=dis_back jy (da (jp).symm (j7).symm) (sl _ q8.1)
 have p39:=dis_back jy (da (p10).symm (p08).symm) (sl _ q9.1)
 have p8v:=dis_back jy (da (p11).symm (p09).symm) (sl _ qa.1)
 have p8w:=dis_back jy (da (p12).symm (p0a).symm) (one_lt (Row.lt qf))
 have p8x:=dis_back jy (da p13 p0b) (one_lt (Row.lt pk))
 replace jy:=OE.back jy (low_app q1.2.2 (one_then gu)) hB.size
 replace q4:=okp q4 n5 (Dis.symm (da (k5).symm (j3).symm))
 replace q5:=okp q5 n5 (Dis.symm (da (j4).symm (qz).symm))
 replace q6:=okp q6 n5 (Dis.symm (da (jn).symm (j5).symm))
 replace q7:=okp q7 n5 (Dis.symm (da (jo).symm (j6).symm))
 replace q8:=okp q8 n5 (Dis.symm (da (jp).symm (j7).symm))
 replace q9:=okp q9 n5 (Dis.symm (da (p10).symm (p08).symm))
 replace qa:=okp qa n5 (Dis.symm (da (p11).symm (p09).symm))
 replace qf:=Row.keep qf n5 ((Dis.symm (da (p12).symm (p0a).symm)) _ (ms rfl))
 replace pk:=Row.keep pk n5 ((Dis.symm (da p13 p0b)) _ (ms rfl))
 replace hB:=hB.then n5 (low_app q1.2.2 (one_then gu))
 refine inBlk_n <| anz <| Wq rfl (cr [] p8n) <| Qa (Ba rfl rfl) <| Qa (Mi rfl) <| fun pax pa=>?_
 cases ho
 exact ⟨_,(hB.trans pa),(ko q4 pa),(ko q5 pa),(ko q6 pa),(ko q7 pa),(ko q8 pa),(ko q9 pa),(ko qa pa),(kr qf pa),(ko jy pa),(kr p8o pa),(kr pk pa),p2g,p0y,p0z,p2h,p2i,np,nq,((p8q).symm),j3,nr,ns,km,kn,k6,k7,ji,((p8r).symm),qz,jj,jk,k8,jl,jm,nt,((p8s).symm),j5,kq,nu,nv,ks,kt,((p8t).symm),j6,ku,kv,nw,kw,((p8u).symm),j7,jq,kx,p2j,((p39).symm),p08,p2k,p2l,((p8v).symm),p09,p2m,((p8w).symm),p0a,p2n,p8p,p8x,p0b,fe rfl⟩
 intro p41
 rw [p41] at ho
 refine W_exit <| andThen_x <| ?_
 cases ho
 exact ⟨rfl,⟨_,(hB.trans jg),(ko q4 jg),(ko q5 jg),(ko q6 jg),(ko q7 jg),(ko q8 jg),(ko q9 jg),(ko qa jg),(kr qf jg),(ko q1 jg),(kr jc jg),(kr pk jg),p2g,p0y,p0z,p2h,p2i,np,nq,k5,j3,nr,ns,km,kn,k6,k7,ji,j4,qz,jj,jk,k8,jl,jm,nt,jn,j5,kq,nu,nv,ks,kt,jo,j6,ku,kv,nw,kw,jp,j7,jq,kx,p2j,p10,p08,p2k,p2l,p11,p09,p2m,p12,p0a,p2n,p2o,p13,p0b,fe rfl⟩⟩
 rintro ⟨s3_31,s3_b83_0,s3_o82⟩ _ p8y ⟨jf,hB,q4,q5,q6,q7,q8,q9,qa,qf,q1,jc,pk,p2g,p0y,p0z,p2h,p2i,np,nq,k5,j3,nr,ns,km,kn,k6,k7,ji,j4,qz,jj,jk,k8,jl,jm,nt,jn,j5,kq,nu,nv,ks,kt,jo,j6,ku,kv,nw,kw,jp,j7,jq,kx,p2j,p10,p08,p2k,p2l,p11,p09,p2m,p12,p0a,p2n,p2o,p13,p0b,F,rfl⟩ ho
 dsimp only at ho
 refine inBlk_n <| anz <| Wq rfl (cr [] p8y) <| Qa (Ba rfl rfl) <| Qa (Mi rfl) <| fun pay jz=>?_
 cases ho
 exact ⟨_,(hB.trans jz),(ko q4 jz),(ko q5 jz),(ko q6 jz),(ko q7 jz),(ko q8 jz),(ko q9 jz),(ko qa jz),(kr qf jz),(ko q1 jz),(kr jc jz),(kr pk jz),p2g,p0y,p0z,p2h,p2i,np,nq,k5,j3,nr,ns,km,kn,k6,k7,ji,j4,qz,jj,jk,k8,jl,jm,nt,jn,j5,kq,nu,nv,ks,kt,jo,j6,ku,kv,nw,kw,jp,j7,jq,kx,p2j,p10,p08,p2k,p2l,p11,p09,p2m,p12,p0a,p2n,p2o,p13,p0b,fe rfl⟩
 intro p3z
 rw [p3z] at ho
 refine W_exit <| andThen_x <| ?_
 cases ho
 exact ⟨rfl,⟨_,(hB.trans je),(ko q4 je),(ko q5 je),(ko q6 je),(ko q7 je),(ko q8 je),(ko q9 je),(ko qa je),(kr qf je),(ko q1 je),(kr jc je),(kr pk je),g4,g6,g7,g8,g9,n1,n2,ga,gb,gc,gd,n3,n4,ge,qt,qu,qm,qn,qv,qw,qg,qh,qx,qo,qp,qq,qr,qs,na,nb,nc,nd,ne,nf,ng,nh,ni,nj,nk,nl,nm,nn,p27,p28,p29,p2a,p2b,p2c,p2d,p2e,p2f,p0w,p0x,gr,gs,fe rfl⟩⟩
 rintro ⟨s2_24,s2_b83_0,s2_o82⟩ _ p8z ⟨jd,hB,q4,q5,q6,q7,q8,q9,qa,qf,q1,jc,pk,g4,g6,g7,g8,g9,n1,n2,ga,gb,gc,gd,n3,n4,ge,qt,qu,qm,qn,qv,qw,qg,qh,qx,qo,qp,qq,qr,qs,na,nb,nc,nd,ne,nf,ng,nh,ni,nj,nk,nl,nm,nn,p27,p28,p29,p2a,p2b,p2c,p2d,p2e,p2f,p0w,p0x,gr,gs,F,rfl⟩ ho
 dsimp only at ho
 refine anz <| wq <| Wq rfl (cr [] p8z) <| Qa (Mp rfl) <| Qa (Ap rfl) <| Qa (Ab rfl) <| fun paz k0=>anz <| ?_
 cases ho
 exact W_ret ⟨_,res_2 Tryz.results93,_,rfl,(hB.trans k0),_,_,_,_,_,_,_,_,_,_,_,_,_,_,_,_,_,_,_,rfl,(ko q4 k0),(ko q5 k0),(ko q6 k0),(ko q7 k0),(ko q8 k0),(ko q9 k0),(ko qa k0),(kr qf k0),p8d,(ko q1 k0),(kr jc k0),gu,(kr pk k0),p8e,g4,g6,g7,g8,g9,n1,n2,ga,gb,gc,gd,n3,n4,ge,qt,qu,qm,qn,qv,qw,qg,qh,qx,qo,qp,qq,qr,qs,na,nb,nc,nd,ne,nf,ng,nh,ni,nj,nk,nl,nm,nn,p27,p28,p29,p2a,p2b,p2c,p2d,p2e,p2f,p0w,p0x,gr,gs⟩

abbrev impl_coverage_isTopology_1_post (b_x2:Nat) (w:World) (x:(Bool)) (e:Ending) (w':World):Prop:=e = .returned (.tuple #[])∧Chg [b_x2] w w'∧Row w' b_x2 [.bool x] 4
abbrev impl_coverage_isTopology_1_T (b_x2:Nat) (w:World):=Tm Tryz.prog Tryz.f208 19 (impl_coverage_isTopology_1_post b_x2 w)
theorem impl_coverage_isTopology_1_calls {w:World} {x0:Int} {x1:Int} {x2:Bool} {b_x2:Nat} {x3:MCoverage} {p_x3q:Addr} {p_x3:Addr} {p_x3_Classifier:Addr} {z36:Value} {z37:List Nat} {z38:Value} {z3a:List Nat} {z3b:Value} {z3c:List Nat} {z3d:Value} {z3e:List Nat} {z3f:Value} {z3g:List Nat} {z3h:Value} {z3i:List Nat} {z3j:Value} {z3k:List Nat} {p_x3_C:Addr} {z3l:Value} {z3m:List Nat} {z3n:Value} {z3o:List Nat} {z3p:Value} {z3q:List Nat} {z3r:Value} {z3s:List Nat} {z3t:Value} {z3u:List Nat} {p_x3_Count:Addr} (r_x2:Row w b_x2 [.bool (x2)] 4) (z4e:(sImm (sInt .i64)).rep w.heap [z36] x3.Classifier.Sets.Shape.From z37) (z4f:(sImm (sInt .i64)).rep w.heap [z38] x3.Classifier.Sets.Shape.To z3a) (z4g:(sImm (sInt .i64)).rep w.heap [z3b] x3.Classifier.Sets.Shape.Identity z3c) (z4h:(sImm (sImm (sInt .i64))).rep w.heap [z3d] x3.Classifier.Sets.Shape.Composites z3e) (z4i:(sImm (sInt .i64)).rep w.heap [z3f] x3.Classifier.Sets.Sizes z3g) (z4j:(sImm (sImm (sInt .i64))).rep w.heap [z3h] x3.Classifier.Sets.Actions z3i) (z4k:(sImm (sImm (sImm (sInt .i64)))).rep w.heap [z3j] x3.Classifier.Sieves z3k) (a_x3_Classifier:At w p_x3_Classifier [.int .i64 (x3.Classifier.Sets.Shape.Objects),z36,z38,z3b,z3d,z3f,z3h,z3j]) (z4l:(sImm (sInt .i64)).rep w.heap [z3l] x3.C.From z3m) (z4m:(sImm (sInt .i64)).rep w.heap [z3n] x3.C.To z3o) (z4n:(sImm (sInt .i64)).rep w.heap [z3p] x3.C.Identity z3q) (z4o:(sImm (sImm (sInt .i64))).rep w.heap [z3r] x3.C.Composites z3s) (a_x3_C:At w p_x3_C [.int .i64 (x3.C.Objects),z3l,z3n,z3p,z3r]) (z3v:(sImm (sImm sBool)).rep w.heap [z3t] x3.Covers z3u) (a_x3_Count:At w p_x3_Count [.int .i64 (x3.Count)]) (a_x3:At w p_x3 [.pointer (some (p_x3_Classifier)),.pointer (some (p_x3_C)),z3t,.pointer (some (p_x3_Count))]) (a_x3q:At w p_x3q [.pointer (some (p_x3))]) (n_h_x3_Classifier_Sets_Shape_From:Dis z37 [b_x2]) (n_h_x3_Classifier_Sets_Shape_To:Dis z3a [b_x2]) (n_h_x3_Classifier_Sets_Shape_Identity:Dis z3c [b_x2]) (n_h_x3_Classifier_Sets_Shape_Composites:Dis z3e [b_x2]) (n_h_x3_Classifier_Sets_Sizes:Dis z3g [b_x2]) (n_h_x3_Classifier_Sets_Actions:Dis z3i [b_x2]) (n_h_x3_Classifier_Sieves:Dis z3k [b_x2]) (n_x3_Classifier:p_x3_Classifier.block ∉ [b_x2]) (n_h_x3_C_From:Dis z3m [b_x2]) (n_h_x3_C_To:Dis z3o [b_x2]) (n_h_x3_C_Identity:Dis z3q [b_x2]) (n_h_x3_C_Composites:Dis z3s [b_x2]) (n_x3_C:p_x3_C.block ∉ [b_x2]) (n_h_x3_Covers:Dis z3u [b_x2]) (n_x3_Count:p_x3_Count.block ∉ [b_x2]) (n_x3:p_x3.block ∉ [b_x2]) (n_x3q:p_x3q.block ∉ [b_x2]) {y:(Bool)} (hm:impl_coverage_isTopology_1 x0 x1 x2 x3=some y) :
  Calls Tryz.prog 208 #[.int .i64 (x0),.int .i64 (x1),.pointer (some (⟨b_x2,0,none⟩)),.pointer (some (p_x3q))] w (impl_coverage_isTopology_1_post b_x2 w y):=by
 refine Cv (R:=(Bool)) Tryz.func208 rfl Tryz.ntmps208 rfl hm fun o ho hB=>?_
 clear hm
 have hB:Chg [b_x2] w w:=cr _ _
 refine W_region rfl <| Wb (Lr na4 r_x2 rfl rfl) <| Wb (Mb rfl) <| ?_
 rcases Bool.eq_false_or_eq_true x2 with pg | pg
 rw [pg] at ho
 refine Wg (cr [] w) rfl pg (Lb na102 (At.keep a_x3q hB n_x3q) rfl rfl) <| Wg (cr [] w) rfl pg (Nk rfl) <| Wg (cr [] w) rfl pg (Fp fa144_2 rfl) <| Wg (cr [] w) rfl pg (La na97 (At.keep a_x3 hB n_x3) rfl rfl) <| Wg (cr [] w) rfl pg (Mi rfl) <| ?_
 obtain ⟨e14,hx15e,ho⟩:=bs ho
 have hx15:=idx_some hx15e
 refine Wg (cr [] w) rfl pg (Ix sl97 (STy.keep _ z3v hB n_h_x3_Covers) hx15 rfl rfl rfl) <| ?_
 obtain ⟨u16,fu17,hu18,p4w,hs20⟩:=one_getP rfl z3v hB n_h_x3_Covers hx15.1 hx15.2
 have n_hr19:Dis fu17 [b_x2]:=fun b hb=>n_h_x3_Covers b (hs20 b hb)
 refine Wg (cr [] w) rfl pg (Ld na138 hu18 rfl) <| Wg (cr [] w) rfl pg (Mi rfl) <| ?_
 obtain ⟨e21,hx22e,ho⟩:=bs ho
 have hx22:=idx_some hx22e
 refine Wg (cr [] w) rfl pg (Ix sl138 (STy.keep _ p4w hB n_hr19) hx22 rfl rfl rfl) <| Wg (cr [] w) rfl pg (Eb na4 (STy.keep _ p4w hB n_hr19) hx22 rfl) <| Wb (PTb rfl pg rfl) <| WL.storeRow (j:=0) info4 sz4 r_x2 (Nat.le_of_ble_eq_true rfl) rfl rfl rfl fun p90 p91 p42=>?_
 replace p42:Row p90 b_x2 [.bool (e21)] 4:=p42
 replace hB:=hB.then p91 (fun i hi=>.inl (by simp [List.mem_singleton.1 hi]))
 cases ho
 exact ⟨_,res_0 Tryz.results208,rfl,hB,p42⟩
 rw [pg] at ho
 refine Wk rfl pg rfl <| Wk rfl pg rfl <| Wk rfl pg rfl <| Wk rfl pg rfl <| Wk rfl pg rfl <| Wk rfl pg rfl <| Wk rfl pg rfl <| Wk rfl pg rfl <| Wk rfl pg rfl <| Wk rfl pg rfl <| Wb (PFb rfl pg rfl) <| WL.storeRow (j:=0) info4 sz4 r_x2 (Nat.le_of_ble_eq_true rfl) rfl rfl rfl fun p15 ki p3=>?_
 replace p3:Row p15 b_x2 [.bool (false)] 4:=p3
 replace hB:=hB.then ki (fun i hi=>.inl (by simp [List.mem_singleton.1 hi]))
 cases ho
 exact ⟨_,res_0 Tryz.results208,rfl,hB,p3⟩

abbrev impl_sieve_isGreatest_post (w:World) (x:(Bool)) (e:Ending) (w':World):Prop:=e = .returned (.bool x)∧Chg [] w w'
abbrev impl_sieve_isGreatest_T (w:World):=Tm Tryz.prog Tryz.f285 16 (impl_sieve_isGreatest_post w)
theorem impl_sieve_isGreatest_calls {w:World} {x0:(List Int)} {v_x0:Value} {f_x0:List Nat} {x1:MCategory} {p_x1:Addr} {z2g:Value} {z2w:List Nat} {z2h:Value} {z2x:List Nat} {z2i:Value} {z2y:List Nat} {z2j:Value} {z30:List Nat} {x2:Int} (h_x0:(sImm (sInt .i64)).rep w.heap [v_x0] x0 f_x0) (z3w:(sImm (sInt .i64)).rep w.heap [z2g] x1.From z2w) (z3x:(sImm (sInt .i64)).rep w.heap [z2h] x1.To z2x) (z2o:(sImm (sInt .i64)).rep w.heap [z2i] x1.Identity z2y) (z3y:(sImm (sImm (sInt .i64))).rep w.heap [z2j] x1.Composites z30) (a_x1:At w p_x1 [.int .i64 (x1.Objects),z2g,z2h,z2i,z2j]) {y:(Bool)} (hm:impl_sieve_isGreatest x0 x1 x2=some y) :
  Calls Tryz.prog 285 #[v_x0,.pointer (some (p_x1)),.int .i64 (x2)] w (impl_sieve_isGreatest_post w y):=by
 refine Cm (S:=Unit) Tryz.func285 rfl Tryz.ntmps285 rfl hm fun o ho hB=>?_
 clear hm
 refine wq <| Wq rfl (cr [] w) <| Qa (Ab rfl) <| fun wd1 hC2=>anz <| wq <| Wq rfl hC2 <| Qa (Mv v_x0 rfl) <| Qa (Mp rfl) <| Qa (Nk rfl) <| Qa (Fp fa32_3 rfl) <| Qa (La na22 (At.keep0 a_x1 hB) rfl rfl) <| Qa (Mi rfl) <| ?_
 obtain ⟨e3,hx4e,ho⟩:=bs ho
 have hx4:=idx_some hx4e
 refine Qa (Ix sl22 (kB z2o hB) hx4 rfl rfl rfl) <| Qa (Ei na2 (kB z2o hB) hx4 rfl) <| ?_
 obtain ⟨y5,hy6,ho⟩:=bs ho
 refine Qc Tryz.func149 rfl rfl (fun _ hC=>impl_has_calls (kp _ h_x0 (hB.trans hC)) hy6) <| Qa (Ab rfl) <| fun wd7 hC8=>anz <| ?_
 cases ho
 exact W_ret ⟨_,res_1 Tryz.results285,rfl,(hB.trans hC8)⟩

abbrev impl_all_post (w:World) (x:(Bool)) (e:Ending) (w':World):Prop:=e = .returned (.bool x)∧Chg [] w w'
abbrev impl_all_T (w:World):=Tm Tryz.prog Tryz.f191 21 (impl_all_post w)
theorem impl_all_calls {w:World} {x0:MCategory} {p_x0:Addr} {z2:Value} {ze:List Nat} {z1:Value} {zf:List Nat} {z7:Value} {zg:List Nat} {z6:Value} {zh:List Nat} {x1:Int} {x2:(List Int)} {v_x2:Value} {f_x2:List Nat} (z8:(sImm (sInt .i64)).rep w.heap [z2] x0.From ze) (za:(sImm (sInt .i64)).rep w.heap [z1] x0.To zf) (zc:(sImm (sInt .i64)).rep w.heap [z7] x0.Identity zg) (zb:(sImm (sImm (sInt .i64))).rep w.heap [z6] x0.Composites zh) (a_x0:At w p_x0 [.int .i64 (x0.Objects),z2,z1,z7,z6]) (h_x2:(sImm (sInt .i64)).rep w.heap [v_x2] x2 f_x2) {y:(Bool)} (hm:impl_all x0 x1 x2=some y) :
  Calls Tryz.prog 191 #[.pointer (some (p_x0)),.int .i64 (x1),.iface 114 (v_x2)] w (impl_all_post w y):=by
 refine Cm (S:=Unit) Tryz.func191 rfl Tryz.ntmps191 rfl hm fun o ho hB=>?_
 clear hm
 refine wq <| Wq rfl (cr [] w) <| Qa (Ab rfl) <| fun wd1 hC2=>anz <| wq <| Wq rfl hC2 <| Qa (Mv (.iface 114 v_x2) rfl) <| Qa (Ta ia114_249 rfl) <| Qa (Mt rfl) <| Qa (Ex (.iface 114 v_x2) rfl rfl) <| Qa (Exb rfl rfl) <| Qa (Av (.iface 114 v_x2) rfl) <| Qa (Ab rfl) <| fun wd3 hC4=>anz <| ?_
 refine wq <| Wq rfl hC4 <| ?_
 obtain ⟨g5,hm6,ho⟩:=bs ho
 refine QL.meet (fun r=>∃ F,r=updL F [(6,.bool (g5))]) ?_ ?_
 skip
 refine Qa (Mb rfl) <| Qa (Mb rfl) <| Qg rfl rfl (Mv (.iface 114 v_x2) rfl) <| Qg rfl rfl (Mp rfl) <| Qg rfl rfl (Mi rfl) <| ?_
 obtain ⟨y7,hy8,hm6⟩:=bs hm6
 refine Qi rfl rfl (im114_285 (by kernel_rfl)) rfl (fun _ hC=>impl_sieve_isGreatest_calls (kp _ h_x2 (hB.trans hC)) (kp _ z8 (hB.trans hC)) (kp _ za (hB.trans hC)) (kp _ zc (hB.trans hC)) (kp _ zb (hB.trans hC)) (At.keep0 a_x0 (hB.trans hC)) hy8) <| Qa (PTb rfl rfl rfl) <| Qa (Ab rfl) <| ?_
 cases hm6
 exact fe rfl
 rintro _ ⟨F,rfl⟩
 refine fun wd9 p2p=>anz <| ?_
 cases ho
 exact W_ret ⟨_,res_1 Tryz.results191,rfl,(hB.trans p2p)⟩

abbrev impl_classifier_tops_post (w:World) (x:((List Int))) (e:Ending) (w':World):Prop:=∃ (v0:Value) (f0:List Nat),e = .returned (v0)∧Chg [] w w'∧OE [] w.heap.size w' (sOwn 2 (sInt .i64)) [v0] x f0
abbrev impl_classifier_tops_T (w:World):=Tm Tryz.prog Tryz.f123 41 (impl_classifier_tops_post w)
theorem impl_classifier_tops_calls {w:World} {x0:MClassifier} {p_x0:Addr} {z28:Value} {z2p:List Nat} {z29:Value} {z2q:List Nat} {z2a:Value} {z2r:List Nat} {z2b:Value} {z2s:List Nat} {z2d:Value} {z2t:List Nat} {z2e:Value} {z2u:List Nat} {z2c:Value} {z2v:List Nat} (z32:(sImm (sInt .i64)).rep w.heap [z28] x0.Sets.Shape.From z2p) (z33:(sImm (sInt .i64)).rep w.heap [z29] x0.Sets.Shape.To z2q) (z34:(sImm (sInt .i64)).rep w.heap [z2a] x0.Sets.Shape.Identity z2r) (z35:(sImm (sImm (sInt .i64))).rep w.heap [z2b] x0.Sets.Shape.Composites z2s) (z40:(sImm (sInt .i64)).rep w.heap [z2d] x0.Sets.Sizes z2t) (z41:(sImm (sImm (sInt .i64))).rep w.heap [z2e] x0.Sets.Actions z2u) (z2f:(sImm (sImm (sImm (sInt .i64)))).rep w.heap [z2c] x0.Sieves z2v) (a_x0:At w p_x0 [.int .i64 (x0.Sets.Shape.Objects),z28,z29,z2a,z2b,z2d,z2e,z2c]) {y:((List Int))} (hm:impl_classifier_tops x0=some y) :
  Calls Tryz.prog 123 #[.pointer (some (p_x0))] w (impl_classifier_tops_post w y):=by
 refine Cm (S:=Unit) Tryz.func123 rfl Tryz.ntmps123 rfl hm fun o ho hB=>?_
 clear hm
 refine wq <| Wq rfl (cr [] w) <| Qa (As rfl) <| fun wd1 hC2=>anz <| wq <| W_region rfl <| WL.lit0 (sInt .i64) u22z info2 fun v3 wd4 f5 hC6 o7=>?_
 replace o7:=OE.low (G:=[]) o7 (hB.trans hC2).size
 have hT8:=hC2.trans hC6
 replace hB:=(hB.trans hT8)
 refine Wb (Av v3 rfl) <| anz <| wq <| wq <| Wq rfl (cr [] wd4) <| Qa (Mp rfl) <| Qa (Nk rfl) <| Qa (Fp fa151_1 rfl) <| Qa (La na149 (At.keep0 a_x0 hB) rfl rfl) <| Qa (Ln sl149 (kB z2f hB) rfl) <| Qa (Mi rfl) <| fun wd9 p2p=>anz <| Wf (S1:=(List Int)×Int) (fun s r w'=>match s with | (s0_3,s0_14)=>∃ (v11:Value) (f12:List Nat),Chg [] w w'∧OE [] w.heap.size w' (sOwn 2 (sInt .i64)) [v11] (s0_3) f12∧∃ F,r=updL F [(0,.pointer (some (p_x0))),(3,v11),(12,z2c),(13,.int .i64 ((x0.Sieves.length:Int))),(14,.int .i64 (s0_14))]) (impl_classifier_tops_T w) ho ⟨_,_,(hB.trans p2p),(ko o7 p2p),fe rfl⟩ ?_ ?_
 rintro ⟨s0_3,s0_14⟩ _ p4x ⟨v11,f12,hB,o13,F,rfl⟩ o ho
 replace ho:impl_classifier_tops_L0 x0 s0_3 s0_14=some o:=ho
 unfold impl_classifier_tops_L0 at ho
 refine wq <| Wq rfl (cr [] p4x) <| Qa (Bl rfl rfl) <| fun p6i p1k=>anz <| wq <| W_cond (b:=decide (s0_14 < (x0.Sieves.length:Int))) rfl ?_ ?_
 intro p44
 rw [p44] at ho
 refine W_skip <| anz <| wq <| W_block <| wq <| Wq rfl p1k <| Qa (Mi rfl) <| ?_
 obtain ⟨e18,hx19e,ho⟩:=bs ho
 have hx19:=idx_some hx19e
 refine Qa (Ix sl149 (kB z2f hB) hx19 rfl rfl rfl) <| ?_
 obtain ⟨u20,fu21,hu22,p45,hs24⟩:=one_get rfl z2f hx19.1 hx19.2
 refine Qa (Ld na118 (hB.cell0 hu22) rfl) <| Qa (Ai rfl) <| Qa (Av u20 rfl) <| fun p3d p21=>anz <| wq <| Wq rfl p21 <| Qa (Mv u20 rfl) <| Qa (Ln sl118 (kB p45 hB) rfl) <| Qa (Mi rfl) <| fun p15 ki=>anz <| Wf (S1:=(List Int)×Int) (fun s r w'=>match s with | (s1_3,s1_21)=>∃ (v29:Value) (f30:List Nat),Chg [] w w'∧OE [] w.heap.size w' (sOwn 2 (sInt .i64)) [v29] (s1_3) f30∧∃ F,r=updL F [(0,.pointer (some (p_x0))),(3,v29),(4,.int .i64 (s0_14)),(12,z2c),(13,.int .i64 ((x0.Sieves.length:Int))),(14,.int .i64 (s0_14)),(19,u20),(20,.int .i64 ((e18.length:Int))),(21,.int .i64 (s1_21))]) (impl_classifier_tops_T w) ho ⟨_,_,(hB.trans ki),(ko o13 ki),fe rfl⟩ ?_ ?_
 rintro ⟨s1_3,s1_21⟩ _ p3r ⟨v29,f30,hB,gf,F,rfl⟩ o ho
 replace ho:impl_classifier_tops_L1 x0 s0_14 e18 s1_3 s1_21=some o:=ho
 unfold impl_classifier_tops_L1 at ho
 refine wq <| Wq rfl (cr [] p3r) <| Qa (Bl rfl rfl) <| fun p7h p1p=>anz <| wq <| W_cond (b:=decide (s1_21 < (e18.length:Int))) rfl ?_ ?_
 intro p47
 rw [p47] at ho
 refine W_skip <| anz <| wq <| W_block <| wq <| Wq rfl p1p <| Qa (Mi rfl) <| ?_
 obtain ⟨e36,hx37e,ho⟩:=bs ho
 have hx37:=idx_some hx37e
 refine Qa (Ix sl118 (kB p45 hB) hx37 rfl rfl rfl) <| ?_
 obtain ⟨u38,fu39,hu40,p92,hs42⟩:=one_get rfl p45 hx37.1 hx37.2
 refine Qa (Ld na114 (hB.cell0 hu40) rfl) <| Qa (Ai rfl) <| Qa (Av u38 rfl) <| fun pb0 p93=>anz <| wq <| Wq rfl p93 <| Qa (Mp rfl) <| Qa (Nk rfl) <| ?_
 have at45:At w (p_x0.add 0) [.int .i64 (x0.Sets.Shape.Objects),z28,z29,z2a,z2b,z2d,z2e]:=At.sub a_x0 0 7
 refine Qa (Fp fa151_0 rfl) <| ?_
 have at46:At w ((p_x0.add 0).add 0) [.int .i64 (x0.Sets.Shape.Objects),z28,z29,z2a,z2b]:=At.sub at45 0 5
 refine Qa (Fp fa66_0 rfl) <| Qa (Mi rfl) <| Qa (Mv u38 rfl) <| Qa (If u114z rfl u38 rfl) <| ?_
 obtain ⟨y47,p94,ho⟩:=bs ho
 refine Qc Tryz.func191 rfl rfl (fun _ hC=>impl_all_calls (kp _ z32 (hB.trans hC)) (kp _ z33 (hB.trans hC)) (kp _ z34 (hB.trans hC)) (kp _ z35 (hB.trans hC)) (At.keep0 at46 (hB.trans hC)) (kp _ p92 (hB.trans hC)) p94) <| fun p7k p1q=>anz <| W_cond (b:=y47) rfl ?_ ?_
 intro p48
 rw [p48] at ho
 refine W_region rfl <| Wb (Mv v29 rfl) <| Wb (Mi rfl) <| WL.lit1 u22z info2 zr2 sz2 rfl fun b52 p96 p97 pk p98=>?_
 replace pk:Row p96 b52 [.int .i64 (s1_21)] 2:=pk
 have n7:=dl (onw p98) (sl _ (kp _ gf.1 p1q))
 have p4y:=p1q.trans p97
 replace gf:=ko gf p4y
 replace hB:=(hB.trans p4y)
 obtain ⟨n66,hn67,ho⟩:=bs ho
 have hn67a:=fits_some hn67
 refine WL.append1 (E:=(sInt .i64)) _ _ u22z info2 zr2 sz2 rfl rfl rfl gf rfl pk ⟨rfl,rfl⟩ List.nodup_nil (fun _ h=>nomatch h) (fun _ h=>nomatch h) (by rw [by2]; exact hn67a.1) hn67a.2 hB.size fun v60 p99 pm p4z o64 hs65=>?_
 replace pk:=Row.keep pk p4z (n7 _ (ms rfl))
 replace hB:=hB.then p4z gf.2.2
 refine Wb (Av v60 rfl) <| inBlk_n <| anz <| Wq rfl (cr [] p99) <| Qa (Ba rfl rfl) <| Qa (Mi rfl) <| fun pb1 p50=>?_
 cases ho
 exact ⟨_,_,(hB.trans p50),(ko o64 p50),fe rfl⟩
 intro p48
 rw [p48] at ho
 refine W_skip <| inBlk_n <| anz <| Wq rfl p1q <| Qa (Ba rfl rfl) <| Qa (Mi rfl) <| fun p49 p1x=>?_
 cases ho
 exact ⟨_,_,(hB.trans p1x),(ko gf p1x),fe rfl⟩
 intro p47
 rw [p47] at ho
 refine W_exit <| andThen_x <| ?_
 cases ho
 exact ⟨rfl,⟨_,_,(hB.trans p1p),(ko gf p1p),fe rfl⟩⟩
 rintro ⟨s1_3,s1_21⟩ _ p9b ⟨v29,f30,hB,gf,F,rfl⟩ ho
 dsimp only at ho
 refine inBlk_n <| anz <| Wq rfl (cr [] p9b) <| Qa (Ba rfl rfl) <| Qa (Mi rfl) <| fun pb2 p51=>?_
 cases ho
 exact ⟨_,_,(hB.trans p51),(ko gf p51),fe rfl⟩
 intro p44
 rw [p44] at ho
 refine W_exit <| andThen_x <| ?_
 cases ho
 exact ⟨rfl,⟨_,_,(hB.trans p1k),(ko o13 p1k),fe rfl⟩⟩
 rintro ⟨s0_3,s0_14⟩ _ p9c ⟨v11,f12,hB,o13,F,rfl⟩ ho
 dsimp only at ho
 refine anz <| wq <| Wq rfl (cr [] p9c) <| Qa (Mv v11 rfl) <| Qa (Av v11 rfl) <| fun pb3 p52=>anz <| ?_
 cases ho
 exact W_ret ⟨_,res_1 Tryz.results123,_,_,rfl,(hB.trans p52),(ko o13 p52)⟩

theorem slices_Clone___bool_bool__calls {w:World} {x0:(List Bool)} {v_x0:Value} {f_x0:List Nat} (h_x0:(sImm sBool).rep w.heap [v_x0] x0 f_x0) {y:(List Bool)} (hm:slices_Clone___bool_bool_ x0=some y) :
    Calls Tryz.prog 210 #[v_x0] w (fun e w'=>∃ (v0:Value) (f0:List Nat),e = .returned (v0)∧Chg [] w w'∧OE [] w.heap.size w' (sOwn 4 sBool) [v0] y f0):=by
  obtain ⟨n,hn,hm⟩:=bs hm
  have hf:=fits_some hn
  cases hm
  have h0:=h_x0
  obtain ⟨base,cap,hv,hr⟩:=h0
  obtain rfl:v_x0 = .slice base x0.length cap:=by simpa using hv
  refine calls_of_W (args:=[.slice base x0.length cap]) Tryz.func210 rfl Tryz.ntmps210 (Nat.le_of_ble_eq_true rfl) ?_
  refine wq <| Wq rfl (cr [] w) <| Qa (As rfl) <| fun wd1 hC1=>anz <| wq <| wq <| Wq rfl hC1 <| Qa (Ms rfl) <| Qa (Bz u138 rfl rfl) <| fun wd2 hC2=>anz <| W_cond (b:=base.isNone) rfl ?_ ?_
  · intro hb
    obtain rfl:x0=[]:=by
      rcases hr with ⟨h,_⟩ | ⟨b,off,cur,e,fz,f',h1,_⟩
      · exact h
      · rw [h1] at hb; cases hb
    refine wq <| Wq rfl hC2 <| Qa (As rfl) <| fun wd3 hC3=>anz <| ?_
    exact W_ret ⟨.inr rfl,_,res_1 Tryz.results210,_,_,rfl,hC3,nil_OE⟩
  · intro hb
    refine W_skip <| anz <| wq <| W_region rfl <| WL.lit0 sBool u138 info4 fun v3 wd4 f5 hC6 o7=>?_
    replace o7:=OE.low (G:=[]) o7 hC2.size
    have hT:=hC2.trans hC6
    refine Wb (Ms rfl) <| WL.appendS (E:=sBool) _ _ sBool_nofp u138 info4 zr4 sz4 rfl rfl rfl o7 rfl (kp _ h_x0 hT) (by rw [by4]; simpa using hf.1) (by simpa using hf.2) hT.size fun v9 pb4 pd p9d o13 hs14=>?_
    refine Wb (Av v9 rfl) <| anz <| W_ret ⟨.inr rfl,_,res_1 Tryz.results210,_,_,rfl,hT.then p9d o7.2.2,o13⟩

abbrev impl_coverage_is_post (w:World) (x:(Bool)) (e:Ending) (w':World):Prop:=e = .returned (.bool x)∧Chg [] w w'
abbrev impl_coverage_is_T (w:World):=Tm Tryz.prog Tryz.f152 23 (impl_coverage_is_post w)
theorem impl_coverage_is_calls {w:World} {x0:MCoverage} {p_x0:Addr} {p_x0_Classifier:Addr} {z1h:Value} {z1t:List Nat} {z1i:Value} {z1u:List Nat} {z1j:Value} {z1v:List Nat} {z1k:Value} {z1w:List Nat} {z1l:Value} {z1x:List Nat} {z1d:Value} {z1y:List Nat} {z1e:Value} {z20:List Nat} {p_x0_C:Addr} {zy:Value} {z19:List Nat} {zx:Value} {z1a:List Nat} {z10:Value} {z1b:List Nat} {z11:Value} {z1c:List Nat} {zi:Value} {zd:List Nat} {p_x0_Count:Addr} {x1:Int} {x2:(List Int)} {v_x2:Value} {f_x2:List Nat} (z1m:(sImm (sInt .i64)).rep w.heap [z1h] x0.Classifier.Sets.Shape.From z1t) (z1n:(sImm (sInt .i64)).rep w.heap [z1i] x0.Classifier.Sets.Shape.To z1u) (z1o:(sImm (sInt .i64)).rep w.heap [z1j] x0.Classifier.Sets.Shape.Identity z1v) (z1p:(sImm (sImm (sInt .i64))).rep w.heap [z1k] x0.Classifier.Sets.Shape.Composites z1w) (z1q:(sImm (sInt .i64)).rep w.heap [z1l] x0.Classifier.Sets.Sizes z1x) (z1g:(sImm (sImm (sInt .i64))).rep w.heap [z1d] x0.Classifier.Sets.Actions z1y) (z1f:(sImm (sImm (sImm (sInt .i64)))).rep w.heap [z1e] x0.Classifier.Sieves z20) (a_x0_Classifier:At w p_x0_Classifier [.int .i64 (x0.Classifier.Sets.Shape.Objects),z1h,z1i,z1j,z1k,z1l,z1d,z1e]) (z13:(sImm (sInt .i64)).rep w.heap [zy] x0.C.From z19) (z12:(sImm (sInt .i64)).rep w.heap [zx] x0.C.To z1a) (z17:(sImm (sInt .i64)).rep w.heap [z10] x0.C.Identity z1b) (z18:(sImm (sImm (sInt .i64))).rep w.heap [z11] x0.C.Composites z1c) (a_x0_C:At w p_x0_C [.int .i64 (x0.C.Objects),zy,zx,z10,z11]) (zj:(sImm (sImm sBool)).rep w.heap [zi] x0.Covers zd) (a_x0_Count:At w p_x0_Count [.int .i64 (x0.Count)]) (a_x0:At w p_x0 [.pointer (some (p_x0_Classifier)),.pointer (some (p_x0_C)),zi,.pointer (some (p_x0_Count))]) (h_x2:(sImm (sInt .i64)).rep w.heap [v_x2] x2 f_x2) {y:(Bool)} (hm:impl_coverage_is x0 x1 x2=some y) :
  Calls Tryz.prog 152 #[.pointer (some (p_x0)),.int .i64 (x1),v_x2] w (impl_coverage_is_post w y):=by
 refine Cm (S:=Unit) Tryz.func152 rfl Tryz.ntmps152 rfl hm fun o ho hB=>?_
 clear hm
 refine wq <| Wq rfl (cr [] w) <| Qa (Ab rfl) <| fun wd1 hC2=>anz <| wq <| Wqd rfl (by kernel_rfl) hC2 <| Qa (Mp rfl) <| Qa (Nk rfl) <| Qa (Fp fa144_2 rfl) <| Qa (La na97 (At.keep0 a_x0 hB) rfl rfl) <| Qa (Mi rfl) <| ?_
 obtain ⟨e3,hx4e,ho⟩:=bs ho
 have hx4:=idx_some hx4e
 refine Qa (Ix sl97 (kB zj hB) hx4 rfl rfl rfl) <| ?_
 obtain ⟨u5,fu6,hu7,hr8,hs9⟩:=one_get rfl zj hx4.1 hx4.2
 refine Qa (Ld na138 (hB.cell0 hu7) rfl) <| Qa (Mp rfl) <| Qa (Nk rfl) <| Qa (F0 fa144_0 rfl) <| Qa (Lb na141 (At.keep0 a_x0 hB) rfl rfl) <| Qa (Mi rfl) <| Qa (Mv v_x2 rfl) <| ?_
 obtain ⟨y10,p9e,ho⟩:=bs ho
 refine Qc Tryz.func113 rfl rfl (fun _ hC=>impl_classifier_number_calls (kp _ z1m (hB.trans hC)) (kp _ z1n (hB.trans hC)) (kp _ z1o (hB.trans hC)) (kp _ z1p (hB.trans hC)) (kp _ z1q (hB.trans hC)) (kp _ z1g (hB.trans hC)) (kp _ z1f (hB.trans hC)) (At.keep0 a_x0_Classifier (hB.trans hC)) (kp _ h_x2 (hB.trans hC)) p9e) <| ?_
 obtain ⟨e12,hx13e,ho⟩:=bs ho
 have hx13:=idx_some hx13e
 refine Qa (Ix sl138 (kB hr8 hB) hx13 rfl rfl rfl) <| Qa (Eb na4 (kB hr8 hB) hx13 rfl) <| Qa (Ab rfl) <| fun p4x p9f=>anz <| ?_
 cases ho
 exact W_ret ⟨_,res_1 Tryz.results152,rfl,(hB.trans p9f)⟩
end Go.Proofs.YtcmckiiafgcmjaaGreat
