/- Walks, printed by a program: what each function computes (a model on plain data), and that a call computes it. No condition beside those that each theorem names. -/
import Derived.Test.YtfbijbginbjecaaGreatTy
import Derived.Test.YtfbijbginbjecaaGreatZ01
namespace Go.Proofs.YtfbijbginbjecaaGreat
open Go Go.Li
set_option linter.unusedVariables false
set_option maxHeartbeats 4000000
set_option maxRecDepth 100000
noncomputable def spec_l02Own (x0:MCategory):Option (MCategory):=
 retM (S:=Unit) ((spec_l01Own x0.From)>>=fun y16=>((spec_l01Own x0.To)>>=fun y21=>((spec_l01Own x0.Identity)>>=fun y26=>((spec_l01Own2 x0.Composites)>>=fun y31=>(some (Out.ret ((MCategory.mk x0.Objects y16 y21 y26 y31))))))))
abbrev spec_l02Own_post (w:World) (x:(MCategory)) (e:Ending) (w':World):Prop:=∃ (v0:Value) (f0:List Nat) (v1:Value) (f1:List Nat) (v2:Value) (f2:List Nat) (v3:Value) (f3:List Nat),e = .returned (.agg #[.int .i64 x.Objects,v0,v1,v2,v3])∧Chg [] w w'∧OE [] w.heap.size w' (sOwn 2 (sInt .i64)) [v0] x.From f0∧OE [] w.heap.size w' (sOwn 2 (sInt .i64)) [v1] x.To f1∧OE [] w.heap.size w' (sOwn 2 (sInt .i64)) [v2] x.Identity f2∧OE [] w.heap.size w' (sOwn 22 (sOwn 2 (sInt .i64))) [v3] x.Composites f3∧Dis f0 f1∧Dis f0 f2∧Dis f0 f3∧Dis f1 f2∧Dis f1 f3∧Dis f2 f3
abbrev spec_l02Own_T (w:World) (x:(MCategory)) (r:Nat→Value) (w':World):Prop:=∃ v,(∀ a:Act,a.tmps.size=18→rho a=r→(results Tryz.f125 a.tmps).run Tryz.prog w' = .ok v w')∧spec_l02Own_post w x (.returned v) w'
theorem spec_l02Own_calls {w:World} {x0:MCategory} {z6:Value} {zh:List Nat} {z7:Value} {zg:List Nat} {z9:Value} {zf:List Nat} {z8:Value} {ze:List Nat} (za:(sImm (sInt .i64)).rep w.heap [z6] x0.From zh) (zb:(sImm (sInt .i64)).rep w.heap [z7] x0.To zg) (zd:(sImm (sInt .i64)).rep w.heap [z9] x0.Identity zf) (zc:(sImm (sImm (sInt .i64))).rep w.heap [z8] x0.Composites ze) {y:(MCategory)} (hm:spec_l02Own x0=some y) :
  Calls Tryz.prog 125 #[.agg #[.int .i64 (x0.Objects),z6,z7,z9,z8]] w (spec_l02Own_post w y):=by
 refine calls_of_M (S:=Unit) (args:=[.agg #[.int .i64 (x0.Objects),z6,z7,z9,z8]]) Tryz.func125 rfl Tryz.ntmps125 (Nat.le_of_ble_eq_true rfl) (retM_some hm) ?_
 clear hm
 intro o ho
 have hB:Chg [] w w:=cr _ _
 refine wq ?_
 refine W_region rfl ?_
 refine WL.box fun b1 wd2 hC3 hr4 hl5=>?_
 replace hr4:Row wd2 b1 [.int .i64 (x0.Objects),z6,z7,z9,z8] 27:=hr4
 have hT7:=(cr [] w).trans hC3
 replace hB:=(hB.trans hT7)
 refine WL.alloc info27 zr27 fun b8 wd9 hC10 hr11 hl12=>?_
 replace hr11:Row wd9 b8 [.int .i64 ((0:Int)),.slice none 0 0,.slice none 0 0,.slice none 0 0,.slice none 0 0] 27:=hr11
 have lo13:w.heap.size≤b8:=Nat.le_trans (hB.trans (cr [] wd2)).size hl12
 have d14:Dis [b8] [b1]:=dl (onw hl12) (one_lt (Row.lt (kr hr4 (cr [] wd2))))
 have hT15:=(cr [] wd2).trans hC10
 replace hr4:=kr hr4 hT15
 replace hB:=(hB.trans hT15)
 refine anz ?_
 refine wq ?_
 obtain ⟨y16,hy17,ho⟩:=bs ho
 obtain ⟨y21,hy22,ho⟩:=bs ho
 obtain ⟨y26,hy27,ho⟩:=bs ho
 obtain ⟨y31,hy32,ho⟩:=bs ho
 refine W_any (m:=14) (U:=[[],[],[],[],[],[],[],[],[],[],[],[],[],[]]) (S:=[⟨true,pl fun _ _ u=>u=(.pointer (some (⟨b1,0,none⟩)):Value)⟩,⟨true,pl fun _ _ u=>u=(.int .i64 (x0.Objects):Value)⟩,⟨true,pl fun _ _ u=>u=(.pointer (some (⟨b1,1,none⟩)):Value)⟩,⟨true,pl fun _ _ u=>u=(z6:Value)⟩,⟨true,pl (OwnV (sOwn 2 (sInt .i64)) (y16))⟩,⟨true,pl fun _ _ u=>u=(.pointer (some (⟨b1,2,none⟩)):Value)⟩,⟨true,pl fun _ _ u=>u=(z7:Value)⟩,⟨true,pl (OwnV (sOwn 2 (sInt .i64)) (y21))⟩,⟨true,pl fun _ _ u=>u=(.pointer (some (⟨b1,3,none⟩)):Value)⟩,⟨true,pl fun _ _ u=>u=(z9:Value)⟩,⟨true,pl (OwnV (sOwn 2 (sInt .i64)) (y26))⟩,⟨true,pl fun _ _ u=>u=(.pointer (some (⟨b1,4,none⟩)):Value)⟩,⟨true,pl fun _ _ u=>u=(z8:Value)⟩,⟨true,pl (OwnV (sOwn 22 (sOwn 2 (sInt .i64))) (y31))⟩]) (Z:=[]) hmix rfl (by decide) (by decide +kernel) (fun _ _ _ h=>np_out h) (by decide) rfl (by decide +kernel) (stable_all <| stable_cons stable_val (stable_cons stable_val (stable_cons stable_val (stable_cons stable_val (stable_cons stable_own (stable_cons stable_val (stable_cons stable_val (stable_cons stable_own (stable_cons stable_val (stable_cons stable_val (stable_cons stable_own (stable_cons stable_val (stable_cons stable_val (stable_cons stable_own ( stable_nil))))))))))))))) ?_ ?_
 refine owes_cons ?_ ( owes_cons ?_ ( owes_cons ?_ ( owes_cons ?_ ( owes_cons ?_ ( owes_cons ?_ ( owes_cons ?_ ( owes_cons ?_ ( owes_cons ?_ ( owes_cons ?_ ( owes_cons ?_ ( owes_cons ?_ ( owes_cons ?_ ( owes_cons ?_ ( owes_nil))))))))))))))
 refine Owes.val rfl rfl rfl ?_
 intro g r wr hCr H hot
 have hC:=(cr [] wd9).trans hCr
 obtain ⟨F,rfl⟩:=fr (r:=r) (l:=[(1,.pointer (some (⟨b1,0,none⟩)))]) ⟨(hot 1 (by decide)),trivial⟩
 exact op_fieldAddrR u27z rfl info2 ne2 rfl rfl
 refine Owes.val rfl rfl rfl ?_
 intro g r wr hCr H hot
 have hC:=(cr [] wd9).trans hCr
 obtain ⟨F,rfl⟩:=fr (r:=r) (l:=[(3,.pointer (some (⟨b1,0,none⟩)))]) ⟨(H 0 (by decide +kernel) 3 rfl),trivial⟩
 exact oldz u2z rfl rfl ((kr hr4 hC).at.cell (j:=0) rfl)
 refine Owes.val rfl rfl rfl ?_
 intro g r wr hCr H hot
 have hC:=(cr [] wd9).trans hCr
 obtain ⟨F,rfl⟩:=fr (r:=r) (l:=[(1,.pointer (some (⟨b1,0,none⟩)))]) ⟨(hot 1 (by decide)),trivial⟩
 exact op_fieldAddrR u27z rfl info22 ne22 rfl rfl
 refine Owes.val rfl rfl rfl ?_
 intro g r wr hCr H hot
 have hC:=(cr [] wd9).trans hCr
 obtain ⟨F,rfl⟩:=fr (r:=r) (l:=[(5,.pointer (some (⟨b1,1,none⟩)))]) ⟨(H 2 (by decide +kernel) 5 rfl),trivial⟩
 exact oldz u22z rfl rfl ((kr hr4 hC).at.cell (j:=1) rfl)
 refine Owes.mem rfl rfl rfl ?_
 intro g r wr hCr H hot
 have hC:=(cr [] wd9).trans hCr
 obtain ⟨F,rfl⟩:=fr (r:=r) (l:=[(6,z6)]) ⟨(H 3 (by decide +kernel) 6 rfl),trivial⟩
 exact OpW.own (op_callF Tryz.func95 rfl rfl) (spec_l01Own_calls (kp _ za (hB.trans hC)) hy17)
 refine Owes.val rfl rfl rfl ?_
 intro g r wr hCr H hot
 have hC:=(cr [] wd9).trans hCr
 obtain ⟨F,rfl⟩:=fr (r:=r) (l:=[(1,.pointer (some (⟨b1,0,none⟩)))]) ⟨(hot 1 (by decide)),trivial⟩
 exact op_fieldAddrR u27z rfl info22 ne22 rfl rfl
 refine Owes.val rfl rfl rfl ?_
 intro g r wr hCr H hot
 have hC:=(cr [] wd9).trans hCr
 obtain ⟨F,rfl⟩:=fr (r:=r) (l:=[(8,.pointer (some (⟨b1,2,none⟩)))]) ⟨(H 5 (by decide +kernel) 8 rfl),trivial⟩
 exact oldz u22z rfl rfl ((kr hr4 hC).at.cell (j:=2) rfl)
 refine Owes.mem rfl rfl rfl ?_
 intro g r wr hCr H hot
 have hC:=(cr [] wd9).trans hCr
 obtain ⟨F,rfl⟩:=fr (r:=r) (l:=[(9,z7)]) ⟨(H 6 (by decide +kernel) 9 rfl),trivial⟩
 exact OpW.own (op_callF Tryz.func95 rfl rfl) (spec_l01Own_calls (kp _ zb (hB.trans hC)) hy22)
 refine Owes.val rfl rfl rfl ?_
 intro g r wr hCr H hot
 have hC:=(cr [] wd9).trans hCr
 obtain ⟨F,rfl⟩:=fr (r:=r) (l:=[(1,.pointer (some (⟨b1,0,none⟩)))]) ⟨(hot 1 (by decide)),trivial⟩
 exact op_fieldAddrR u27z rfl info22 ne22 rfl rfl
 refine Owes.val rfl rfl rfl ?_
 intro g r wr hCr H hot
 have hC:=(cr [] wd9).trans hCr
 obtain ⟨F,rfl⟩:=fr (r:=r) (l:=[(11,.pointer (some (⟨b1,3,none⟩)))]) ⟨(H 8 (by decide +kernel) 11 rfl),trivial⟩
 exact oldz u22z rfl rfl ((kr hr4 hC).at.cell (j:=3) rfl)
 refine Owes.mem rfl rfl rfl ?_
 intro g r wr hCr H hot
 have hC:=(cr [] wd9).trans hCr
 obtain ⟨F,rfl⟩:=fr (r:=r) (l:=[(12,z9)]) ⟨(H 9 (by decide +kernel) 12 rfl),trivial⟩
 exact OpW.own (op_callF Tryz.func95 rfl rfl) (spec_l01Own_calls (kp _ zd (hB.trans hC)) hy27)
 refine Owes.val rfl rfl rfl ?_
 intro g r wr hCr H hot
 have hC:=(cr [] wd9).trans hCr
 obtain ⟨F,rfl⟩:=fr (r:=r) (l:=[(1,.pointer (some (⟨b1,0,none⟩)))]) ⟨(hot 1 (by decide)),trivial⟩
 exact op_fieldAddrR u27z rfl info23 ne23 rfl rfl
 refine Owes.val rfl rfl rfl ?_
 intro g r wr hCr H hot
 have hC:=(cr [] wd9).trans hCr
 obtain ⟨F,rfl⟩:=fr (r:=r) (l:=[(14,.pointer (some (⟨b1,4,none⟩)))]) ⟨(H 11 (by decide +kernel) 14 rfl),trivial⟩
 exact oldz u23z rfl rfl ((kr hr4 hC).at.cell (j:=4) rfl)
 refine Owes.mem rfl rfl rfl ?_
 intro g r wr hCr H hot
 have hC:=(cr [] wd9).trans hCr
 obtain ⟨F,rfl⟩:=fr (r:=r) (l:=[(15,z8)]) ⟨(H 12 (by decide +kernel) 15 rfl),trivial⟩
 exact OpW.own (op_callF Tryz.func152 rfl rfl) (spec_l01Own2_calls (kp _ zc (hB.trans hC)) hy32)
 rintro g r wd36 ⟨hC37,hdone,hot,hfresh,hdis⟩
 have o20:OwnV (sOwn 2 (sInt .i64)) (y16) _ _ _:=hdone 4 (by decide) (by decide) 7 rfl
 generalize hvv18:r 7=v18 at o20
 have hfo20:=hfresh 4 (by decide)
 have o25:OwnV (sOwn 2 (sInt .i64)) (y21) _ _ _:=hdone 7 (by decide) (by decide) 10 rfl
 generalize hvv23:r 10=v23 at o25
 have hfo25:=hfresh 7 (by decide)
 have o30:OwnV (sOwn 2 (sInt .i64)) (y26) _ _ _:=hdone 10 (by decide) (by decide) 13 rfl
 generalize hvv28:r 13=v28 at o30
 have hfo30:=hfresh 10 (by decide)
 have o35:OwnV (sOwn 22 (sOwn 2 (sInt .i64))) (y31) _ _ _:=hdone 13 (by decide) (by decide) 16 rfl
 generalize hvv33:r 16=v33 at o35
 have hfo35:=hfresh 13 (by decide)
 have hdd:=hdis
 obtain ⟨F,rfl⟩:=fr (r:=r) (l:=[(2,.pointer (some (⟨b8,0,none⟩))),(4,.int .i64 (x0.Objects)),(7,v18),(10,v23),(13,v28),(16,v33)]) ⟨(hot 2 (by decide)),(hdone 1 (by decide) (by decide) 4 rfl),hvv18,hvv23,hvv28,hvv33,trivial⟩
 obtain ⟨f19,hgf19⟩ : ∃ k,k=g 4:=⟨_,rfl⟩
 rw [← hgf19] at o20 hfo20
 replace o20:OE [] w.heap.size wd36 (sOwn 2 (sInt .i64)) [v18] (y16) f19:=⟨o20.1,o20.2,fun b hb=>.inr (Nat.le_trans (hB.trans (cr [] wd9)).size (hfo20 b hb).1)⟩
 have d39:Dis f19 [b8]:=dl (fun b hb=>(hfo20 b hb).1) (one_lt (Row.lt (kr hr11 (cr [] wd9))))
 obtain ⟨f24,hgf24⟩ : ∃ k,k=g 7:=⟨_,rfl⟩
 rw [← hgf24] at o25 hfo25
 replace o25:OE [] w.heap.size wd36 (sOwn 2 (sInt .i64)) [v23] (y21) f24:=⟨o25.1,o25.2,fun b hb=>.inr (Nat.le_trans (hB.trans (cr [] wd9)).size (hfo25 b hb).1)⟩
 have d41:Dis f24 [b8]:=dl (fun b hb=>(hfo25 b hb).1) (one_lt (Row.lt (kr hr11 (cr [] wd9))))
 have d42:Dis f24 f19:=fun b hb hm=>hdd 7 4 (by decide) (by decide) (by decide) b ((show ∀ b∈f24,b∈g 7 from (fun b hb=>(by rw [← hgf24]; exact hb))) b hb) ((show ∀ b∈f19,b∈g 4 from (fun b hb=>(by rw [← hgf19]; exact hb))) b hm)
 obtain ⟨f29,hgf29⟩ : ∃ k,k=g 10:=⟨_,rfl⟩
 rw [← hgf29] at o30 hfo30
 replace o30:OE [] w.heap.size wd36 (sOwn 2 (sInt .i64)) [v28] (y26) f29:=⟨o30.1,o30.2,fun b hb=>.inr (Nat.le_trans (hB.trans (cr [] wd9)).size (hfo30 b hb).1)⟩
 have d44:Dis f29 [b8]:=dl (fun b hb=>(hfo30 b hb).1) (one_lt (Row.lt (kr hr11 (cr [] wd9))))
 have d45:Dis f29 f19:=fun b hb hm=>hdd 10 4 (by decide) (by decide) (by decide) b ((show ∀ b∈f29,b∈g 10 from (fun b hb=>(by rw [← hgf29]; exact hb))) b hb) ((show ∀ b∈f19,b∈g 4 from (fun b hb=>(by rw [← hgf19]; exact hb))) b hm)
 have d46:Dis f29 f24:=fun b hb hm=>hdd 10 7 (by decide) (by decide) (by decide) b ((show ∀ b∈f29,b∈g 10 from (fun b hb=>(by rw [← hgf29]; exact hb))) b hb) ((show ∀ b∈f24,b∈g 7 from (fun b hb=>(by rw [← hgf24]; exact hb))) b hm)
 obtain ⟨f34,hgf34⟩ : ∃ k,k=g 13:=⟨_,rfl⟩
 rw [← hgf34] at o35 hfo35
 replace o35:OE [] w.heap.size wd36 (sOwn 22 (sOwn 2 (sInt .i64))) [v33] (y31) f34:=⟨o35.1,o35.2,fun b hb=>.inr (Nat.le_trans (hB.trans (cr [] wd9)).size (hfo35 b hb).1)⟩
 have d48:Dis f34 [b8]:=dl (fun b hb=>(hfo35 b hb).1) (one_lt (Row.lt (kr hr11 (cr [] wd9))))
 have d49:Dis f34 f19:=fun b hb hm=>hdd 13 4 (by decide) (by decide) (by decide) b ((show ∀ b∈f34,b∈g 13 from (fun b hb=>(by rw [← hgf34]; exact hb))) b hb) ((show ∀ b∈f19,b∈g 4 from (fun b hb=>(by rw [← hgf19]; exact hb))) b hm)
 have d50:Dis f34 f24:=fun b hb hm=>hdd 13 7 (by decide) (by decide) (by decide) b ((show ∀ b∈f34,b∈g 13 from (fun b hb=>(by rw [← hgf34]; exact hb))) b hb) ((show ∀ b∈f24,b∈g 7 from (fun b hb=>(by rw [← hgf24]; exact hb))) b hm)
 have d51:Dis f34 f29:=fun b hb hm=>hdd 13 10 (by decide) (by decide) (by decide) b ((show ∀ b∈f34,b∈g 13 from (fun b hb=>(by rw [← hgf34]; exact hb))) b hb) ((show ∀ b∈f29,b∈g 10 from (fun b hb=>(by rw [← hgf29]; exact hb))) b hm)
 have hT52:=((cr [] wd9).trans hC37)
 replace hr4:=kr hr4 hT52
 replace hr11:=kr hr11 hT52
 replace hB:=(hB.trans hT52)
 refine wv (v:=.agg #[.int .i64 (x0.Objects),v18,v23,v28,v33]) rfl (op_build (bld27_0_1_2_3_4 rfl (STy.one _ o20.1 _ (ms rfl)) (STy.one _ o25.1 _ (ms rfl)) (STy.one _ o30.1 _ (ms rfl)) (STy.one _ o35.1 _ (ms rfl)))) ?_
 refine WL.storeAll (us:=[.int .i64 (x0.Objects),v18,v23,v28,v33]) info27 (by rw [sz27]; rfl) (kr hr11 (cr [] wd36)) rfl rfl rfl (by intro u hu; simp only [List.mem_cons,List.mem_nil_iff,or_false] at hu; rcases hu with rfl | rfl | rfl | rfl | rfl <;> first | exact rfl | exact (STy.one _ o20.1 _ (ms rfl)) | exact (STy.one _ o25.1 _ (ms rfl)) | exact (STy.one _ o30.1 _ (ms rfl)) | exact (STy.one _ o35.1 _ (ms rfl))) fun wd53 hC54 hr55=>?_
 replace hr55:Row wd53 b8 [.int .i64 (x0.Objects),v18,v23,v28,v33] 27:=hr55
 have hT56:=((cr [] wd36).nil (G:=[b8])).trans hC54
 replace hr4:=Row.keep hr4 hT56 ((d14).symm _ (ms rfl))
 replace o20:=okp o20 hT56 d39
 replace o25:=okp o25 hT56 d41
 replace o30:=okp o30 hT56 d44
 replace o35:=okp o35 hT56 d48
 replace hB:=hB.then hT56 (one_then lo13)
 refine anz ?_
 cases ho
 exact W_ret ⟨_,res_c Tryz.results125 u27z rfl info27 (by rw [sz27]; rfl) rfl (kr hr55 (cr [] wd53)).at,_,_,_,_,_,_,_,_,rfl,(hB.trans (cr [] wd53)),(ko o20 (cr [] wd53)),(ko o25 (cr [] wd53)),(ko o30 (cr [] wd53)),(ko o35 (cr [] wd53)),((d42).symm),((d45).symm),((d49).symm),((d46).symm),((d50).symm),((d51).symm)⟩

noncomputable def spec_l25Pull_L0 (x0:MCategory) (x1:Int) (x2:(List Int)) (s0_7:(List Int)) (s0_8:Int):Option (Out ((List Int)×Int) ((List Int))):=
 (bif decide (s0_8 < (x0.From.length:Int)) then ((((idx x0.To (x1))>>=fun e27=>((idx x0.From (s0_8))>>=fun e29=>(bif (e27) == (e29) then ((spec_l02Then x0 (x1) (s0_8))>>=fun y32=>((spec_l01Has x2 (y32))>>=fun y34=>(some (y34)))) else (some (false))))))>>=fun g25=>(bif g25 then ((fits 8 (s0_7.length + 1))>>=fun n54=>(some (Out.norm (s0_7++[s0_8],w64 (s0_8 + (1:Int)))))) else (some (Out.norm (s0_7,w64 (s0_8 + (1:Int))))))) else (some (Out.exit 0 (s0_7,s0_8))))
noncomputable def spec_l25Pull (x0:MCategory) (x1:Int) (x2:(List Int)):Option ((List Int)):=
 retM (S:=Unit) (lbind (blockM 0 (loopM (fun s=>spec_l25Pull_L0 x0 x1 x2 s.1 s.2) (([]:(List Int)),(0:Int)))) (fun (s0_7,s0_8)=>(some (Out.ret (s0_7)))))
abbrev spec_l25Pull_post (w:World) (x:((List Int))) (e:Ending) (w':World):Prop:=∃ (v0:Value) (f0:List Nat),e = .returned (v0)∧Chg [] w w'∧OE [] w.heap.size w' (sOwn 2 (sInt .i64)) [v0] x f0
abbrev spec_l25Pull_T (w:World) (x:((List Int))) (r:Nat→Value) (w':World):Prop:=∃ v,(∀ a:Act,a.tmps.size=41→rho a=r→(results Tryz.f136 a.tmps).run Tryz.prog w' = .ok v w')∧spec_l25Pull_post w x (.returned v) w'
theorem spec_l25Pull_calls {w:World} {x0:MCategory} {z6:Value} {zh:List Nat} {z7:Value} {zg:List Nat} {z9:Value} {zf:List Nat} {z8:Value} {ze:List Nat} {x1:Int} {x2:(List Int)} {v_x2:Value} {f_x2:List Nat} (za:(sImm (sInt .i64)).rep w.heap [z6] x0.From zh) (zb:(sImm (sInt .i64)).rep w.heap [z7] x0.To zg) (zd:(sImm (sInt .i64)).rep w.heap [z9] x0.Identity zf) (zc:(sImm (sImm (sInt .i64))).rep w.heap [z8] x0.Composites ze) (h_x2:(sImm (sInt .i64)).rep w.heap [v_x2] x2 f_x2) {y:((List Int))} (hm:spec_l25Pull x0 x1 x2=some y) :
  Calls Tryz.prog 136 #[.agg #[.int .i64 (x0.Objects),z6,z7,z9,z8],.int .i64 (x1),v_x2] w (spec_l25Pull_post w y):=by
 refine calls_of_M (S:=Unit) (args:=[.agg #[.int .i64 (x0.Objects),z6,z7,z9,z8],.int .i64 (x1),v_x2]) Tryz.func136 rfl Tryz.ntmps136 (Nat.le_of_ble_eq_true rfl) (retM_some hm) ?_
 clear hm
 intro o ho
 have hB:Chg [] w w:=cr _ _
 refine wq ?_
 refine W_region rfl ?_
 refine WL.box fun b1 wd2 hC3 hr4 hl5=>?_
 replace hr4:Row wd2 b1 [.int .i64 (x0.Objects),z6,z7,z9,z8] 27:=hr4
 have hT7:=(cr [] w).trans hC3
 replace hB:=(hB.trans hT7)
 refine wv (v:=.slice none 0 0) rfl (oa _) ?_
 refine anz ?_
 refine wq ?_
 refine W_region rfl ?_
 refine WL.lit0 (sInt .i64) u22z info2 fun v8 wd9 f10 hC11 o12=>?_
 have d13:Dis f10 [b1]:=dl (ofr o12) (one_lt (Row.lt (kr hr4 (cr [] wd2))))
 replace o12:=OE.low (G:=[]) o12 (hB.trans (cr [] wd2)).size
 have hT14:=(cr [] wd2).trans hC11
 replace hr4:=kr hr4 hT14
 replace hB:=(hB.trans hT14)
 refine wv (v:=v8) rfl (oa _) ?_
 refine anz ?_
 refine wq ?_
 refine wq ?_
 refine Wq rfl (cr [] wd9) ?_
 refine qv (v:=.int .i64 ((0:Int))) rfl (fun _ _=>oa _) ?_
 intro wd15 hC16
 refine anz ?_
 refine W_for (S1:=(List Int)×Int) (fun s r w'=>match s with | (s0_7,s0_8)=>∃ (v17:Value) (f18:List Nat),Chg [] w w'∧Row w' b1 [.int .i64 (x0.Objects),z6,z7,z9,z8] 27∧OE [] w.heap.size w' (sOwn 2 (sInt .i64)) [v17] (s0_7) f18∧Dis [b1] f18∧∃ F,r=updL F [(1,.int .i64 (x1)),(2,v_x2),(3,.pointer (some (⟨b1,0,none⟩))),(7,v17),(8,.int .i64 (s0_8))]) (T:=spec_l25Pull_T w) ho ⟨_,_,(hB.trans hC16),(kr hr4 hC16),(ko o12 hC16),((d13).symm),fr ⟨rfl,rfl,rfl,rfl,rfl,trivial⟩⟩ ?_ ?_ ?_
 intro x r w' ho hx; subst ho; exact hx
 rintro ⟨s0_7,s0_8⟩ _ wd21 ⟨v17,f18,hB,hr4,o19,d20,F,rfl⟩ o ho
 replace ho:spec_l25Pull_L0 x0 x1 x2 s0_7 s0_8=some o:=ho
 unfold spec_l25Pull_L0 at ho
 refine wq ?_
 refine wq ?_
 refine Wq rfl (cr [] wd21) ?_
 refine qv (v:=.int .i64 (s0_8)) rfl (fun _ _=>om _) ?_
 refine qv (v:=.pointer (some (⟨b1,1,none⟩))) rfl (fun _ _=>op_fieldAddrR u27z rfl info22 ne22 rfl rfl) ?_
 refine qv (v:=z6) rfl (fun _ hC=>oldz u22z rfl rfl ((kr hr4 hC).at.cell (j:=1) rfl)) ?_
 refine qv (v:=.int .i64 ((x0.From.length:Int))) rfl (fun _ hC=>op_lenI u22z (kp _ za (hB.trans hC))) ?_
 refine qv (v:=.bool (decide (s0_8 < (x0.From.length:Int)))) rfl (fun _ _=>op_bin rfl rfl bin_lss) ?_
 intro wd22 hC23
 refine anz ?_
 refine W_cond (b:=decide (s0_8 < (x0.From.length:Int))) rfl ?_ ?_
 intro hb24
 rw [hb24] at ho
 refine W_skip ?_
 refine anz ?_
 refine wq ?_
 refine W_block ?_
 refine wq ?_
 refine Wqd rfl (by kernel_rfl) hC23 ?_
 obtain ⟨g25,hm26,ho⟩:=bs ho
 refine QL.meet (fun r=>∃ F,r=updL F [(1,.int .i64 (x1)),(2,v_x2),(3,.pointer (some (⟨b1,0,none⟩))),(7,v17),(8,.int .i64 (s0_8)),(35,.bool (g25))]) ?_ ?_
 skip
 refine qv (v:=.pointer (some (⟨b1,2,none⟩))) rfl (fun _ _=>op_fieldAddrR u27z rfl info22 ne22 rfl rfl) ?_
 refine qv (v:=z7) rfl (fun _ hC=>oldz u22z rfl rfl ((kr hr4 hC).at.cell (j:=2) rfl)) ?_
 refine qv (v:=.int .i64 (x1)) rfl (fun _ _=>om _) ?_
 obtain ⟨e27,hx28e,hm26⟩:=bs hm26
 have hx28:=idx_some hx28e
 refine qv (v:=.pointer (some (elA (z7) 1 (x1)))) rfl (fun _ hC=>op_indexI u22z info2 sz2 rfl (kp _ zb (hB.trans hC)) rfl hx28.1 hx28.2) ?_
 refine qv (v:=.int .i64 (e27)) rfl (fun _ hC=>oldz u2z rfl rfl (int_get (kp _ zb (hB.trans hC)) hx28.1 hx28.2)) ?_
 refine qv (v:=.pointer (some (⟨b1,1,none⟩))) rfl (fun _ _=>op_fieldAddrR u27z rfl info22 ne22 rfl rfl) ?_
 refine qv (v:=z6) rfl (fun _ hC=>oldz u22z rfl rfl ((kr hr4 hC).at.cell (j:=1) rfl)) ?_
 refine qv (v:=.int .i64 (s0_8)) rfl (fun _ _=>om _) ?_
 obtain ⟨e29,hx30e,hm26⟩:=bs hm26
 have hx30:=idx_some hx30e
 refine qv (v:=.pointer (some (elA (z6) 1 (s0_8)))) rfl (fun _ hC=>op_indexI u22z info2 sz2 rfl (kp _ za (hB.trans hC)) rfl hx30.1 hx30.2) ?_
 refine qv (v:=.int .i64 (e29)) rfl (fun _ hC=>oldz u2z rfl rfl (int_get (kp _ za (hB.trans hC)) hx30.1 hx30.2)) ?_
 refine qv (v:=.bool ((e27) == (e29))) rfl (fun _ _=>op_bin rfl rfl bin_eql) ?_
 refine qv (v:=.bool ((e27) == (e29))) rfl (fun _ _=>om _) ?_
 rcases Bool.eq_false_or_eq_true ((e27) == (e29)) with hb31 | hb31
 rw [hb31] at hm26
 refine qg (v:=v_x2) rfl (congrArg some hb31) (fun _ _=>om _) ?_
 refine qg (v:=.agg #[.int .i64 (x0.Objects),z6,z7,z9,z8]) rfl (congrArg some hb31) (fun _ hC=>op_loadAgg u27z rfl info27 (by rw [sz27]; rfl) rfl (kr hr4 hC).at) ?_
 refine qg (v:=.int .i64 (x1)) rfl (congrArg some hb31) (fun _ _=>om _) ?_
 refine qg (v:=.int .i64 (s0_8)) rfl (congrArg some hb31) (fun _ _=>om _) ?_
 obtain ⟨y32,hy33,hm26⟩:=bs hm26
 refine QL.callG (v:=.int .i64 (y32)) rfl (congrArg some hb31) (fun _ _=>op_callF Tryz.func128 rfl rfl) (fun _ hC=>(spec_l02Then_calls (kp _ za (hB.trans hC)) (kp _ zb (hB.trans hC)) (kp _ zd (hB.trans hC)) (kp _ zc (hB.trans hC)) hy33).mono fun _ _ h=>⟨h.1,hC.trans h.2⟩) ?_
 obtain ⟨y34,hy35,hm26⟩:=bs hm26
 refine QL.callG (v:=.bool (y34)) rfl (congrArg some hb31) (fun _ _=>op_callF Tryz.func127 rfl rfl) (fun _ hC=>(spec_l01Has_calls (kp _ h_x2 (hB.trans hC)) hy35).mono fun _ _ h=>⟨h.1,hC.trans h.2⟩) ?_
 refine qv (v:=.bool (y34)) rfl (fun _ _=>op_pickT rfl hb31) ?_
 cases hm26
 exact fr ⟨rfl,rfl,rfl,rfl,rfl,rfl,trivial⟩
 rw [hb31] at hm26
 refine qs rfl (congrArg some hb31) rfl ?_
 refine qs rfl (congrArg some hb31) rfl ?_
 refine qs rfl (congrArg some hb31) rfl ?_
 refine qs rfl (congrArg some hb31) rfl ?_
 refine qs rfl (congrArg some hb31) rfl ?_
 refine qs rfl (congrArg some hb31) rfl ?_
 refine qv (v:=.bool (false)) rfl (fun _ _=>op_pickF rfl hb31) ?_
 cases hm26
 exact fr ⟨rfl,rfl,rfl,rfl,rfl,rfl,trivial⟩
 rintro _ ⟨F,rfl⟩
 intro wd36 hC37
 refine anz ?_
 refine W_cond (b:=g25) rfl ?_ ?_
 intro hb38
 rw [hb38] at ho
 refine W_region rfl ?_
 refine wv (v:=v17) rfl (om _) ?_
 refine wv (v:=.int .i64 (s0_8)) rfl (om _) ?_
 refine WL.lit1 u22z info2 zr2 sz2 rfl fun b39 wd40 hC41 hr42 hl43=>?_
 replace hr42:Row wd40 b39 [.int .i64 (s0_8)] 2:=hr42
 have d46:Dis [b39] f18:=dl (onw hl43) (sl _ (kp _ o19.1 hC37))
 have hT47:=hC37.trans hC41
 replace hr4:=kr hr4 hT47
 replace o19:=ko o19 hT47
 replace hB:=(hB.trans hT47)
 obtain ⟨n54,hn55,ho⟩:=bs ho
 have hn55a:=fits_some hn55
 refine WL.append1 (E:=(sInt .i64)) _ _ u22z info2 zr2 sz2 rfl rfl rfl (ko o19 (cr [] wd40)) rfl (kr hr42 (cr [] wd40)) ⟨rfl,rfl⟩ List.nodup_nil (fun _ h=>nomatch h) (fun _ h=>nomatch h) (by rw [by2]; exact hn55a.1) hn55a.2 (hB.trans (cr [] wd40)).size fun v48 wd49 f50 hC51 o52 hs53=>?_
 have d56:Dis f50 [b1]:=dis_upd hs53 (d20).symm (fun _ h=>nomatch h) (one_lt (Row.lt (kr hr4 (cr [] wd40))))
 have hT58:=((cr [] wd40).nil (G:=f18)).trans hC51
 replace hr4:=Row.keep hr4 hT58 (d20 _ (ms rfl))
 replace hr42:=Row.keep hr42 hT58 (d46 _ (ms rfl))
 replace hB:=hB.then hT58 o19.2.2
 refine wv (v:=v48) rfl (oa _) ?_
 refine inBlk_n ?_
 refine anz ?_
 refine Wq rfl (cr [] wd49) ?_
 refine qv (v:=.int .i64 (s0_8)) rfl (fun _ _=>om _) ?_
 refine qv (v:=.int .i64 (w64 (s0_8 + (1:Int)))) rfl (fun _ _=>op_bin rfl rfl bin_add) ?_
 refine qv (v:=.int .i64 (w64 (s0_8 + (1:Int)))) rfl (fun _ _=>oa _) ?_
 intro wd59 hC60
 cases ho
 exact ⟨_,_,(hB.trans hC60),(kr hr4 hC60),(ko o52 hC60),((d56).symm),fr ⟨rfl,rfl,rfl,rfl,rfl,trivial⟩⟩
 intro hb38
 rw [hb38] at ho
 refine W_skip ?_
 refine inBlk_n ?_
 refine anz ?_
 refine Wq rfl hC37 ?_
 refine qv (v:=.int .i64 (s0_8)) rfl (fun _ _=>om _) ?_
 refine qv (v:=.int .i64 (w64 (s0_8 + (1:Int)))) rfl (fun _ _=>op_bin rfl rfl bin_add) ?_
 refine qv (v:=.int .i64 (w64 (s0_8 + (1:Int)))) rfl (fun _ _=>oa _) ?_
 intro wd61 hC62
 cases ho
 exact ⟨_,_,(hB.trans hC62),(kr hr4 hC62),(ko o19 hC62),(d20),fr ⟨rfl,rfl,rfl,rfl,rfl,trivial⟩⟩
 intro hb24
 rw [hb24] at ho
 refine W_exit ?_
 refine andThen_x ?_
 cases ho
 exact ⟨rfl,⟨_,_,(hB.trans hC23),(kr hr4 hC23),(ko o19 hC23),(d20),fr ⟨rfl,rfl,rfl,rfl,rfl,trivial⟩⟩⟩
 rintro ⟨s0_7,s0_8⟩ _ wd63 ⟨v17,f18,hB,hr4,o19,d20,F,rfl⟩ ho
 dsimp only at ho
 refine anz ?_
 refine wq ?_
 refine Wq rfl (cr [] wd63) ?_
 refine qv (v:=v17) rfl (fun _ _=>om _) ?_
 refine qv (v:=v17) rfl (fun _ _=>oa _) ?_
 intro wd64 hC65
 refine anz ?_
 cases ho
 exact W_ret ⟨_,res_1 Tryz.results136,_,_,rfl,(hB.trans hC65),(ko o19 hC65)⟩

noncomputable def spec_l25Make_L0 (x1:(List (List (List Int)))) (s0_6:Int) (s0_b47_5:(List Int)):Option (Out (Int×(List Int)) (MSetFunctor)):=
 (bif decide (s0_6 < (x1.length:Int)) then ((idx x1 (s0_6))>>=fun e101=>((fits 8 (s0_b47_5.length + 1))>>=fun n129=>(some (Out.norm (w64 (s0_6 + (1:Int)),s0_b47_5++[(e101.length:Int)]))))) else (some (Out.exit 0 (s0_6,s0_b47_5))))
noncomputable def spec_l25Make_L2 (x0:MCategory) (x1:(List (List (List Int)))) (s1_7:Int) (s2_8:(List Int)) (s2_9:Int):Option (Out ((List Int)×Int) (MSetFunctor)):=
 ((idx x0.From (s1_7))>>=fun e258=>((idx x1 (e258))>>=fun e260=>(bif decide (s2_9 < (e260.length:Int)) then ((idx x0.To (s1_7))>>=fun e270=>((idx x1 (e270))>>=fun e272=>((idx x0.From (s1_7))>>=fun e279=>((idx x1 (e279))>>=fun e281=>((idx e281 (s2_9))>>=fun e288=>((spec_l25Pull x0 (s1_7) e288)>>=fun y295=>((spec_l05Place e272 y295)>>=fun y300=>((fits 8 (s2_8.length + 1))>>=fun n336=>(some (Out.norm (s2_8++[y300],w64 (s2_9 + (1:Int))))))))))))) else (some (Out.exit 4 (s2_8,s2_9))))))
noncomputable def spec_l25Make_L1 (x0:MCategory) (x1:(List (List (List Int)))) (s1_7:Int) (s1_b47_6:(List (List Int))):Option (Out (Int×(List (List Int))) (MSetFunctor)):=
 (bif decide (s1_7 < (x0.From.length:Int)) then (lbind (blockM 4 (loopM (fun s=>spec_l25Make_L2 x0 x1 s1_7 s.1 s.2) (([]:(List Int)),(0:Int)))) (fun (s2_8,s2_9)=>((fits 24 (s1_b47_6.length + 1))>>=fun n376=>(some (Out.norm (w64 (s1_7 + (1:Int)),s1_b47_6++[s2_8])))))) else (some (Out.exit 2 (s1_7,s1_b47_6))))
noncomputable def spec_l25Make (x0:MCategory) (x1:(List (List (List Int)))):Option (MSetFunctor):=
 retM (S:=Unit) ((spec_l02Own x0)>>=fun y16=>(lbind (blockM 0 (loopM (fun s=>spec_l25Make_L0 x1 s.1 s.2) ((0:Int),[]))) (fun (s0_6,s0_b47_5)=>(lbind (blockM 2 (loopM (fun s=>spec_l25Make_L1 x0 x1 s.1 s.2) ((0:Int),[]))) (fun (s1_7,s1_b47_6)=>(some (Out.ret ((MSetFunctor.mk y16 s0_b47_5 s1_b47_6)))))))))
abbrev spec_l25Make_post (w:World) (x:(MSetFunctor)) (e:Ending) (w':World):Prop:=∃ (v0:Value) (f0:List Nat) (v1:Value) (f1:List Nat) (v2:Value) (f2:List Nat) (v3:Value) (f3:List Nat) (v4:Value) (f4:List Nat) (v5:Value) (f5:List Nat),e = .returned (.agg #[.int .i64 x.Shape.Objects,v0,v1,v2,v3,v4,v5])∧Chg [] w w'∧OE [] w.heap.size w' (sOwn 2 (sInt .i64)) [v0] x.Shape.From f0∧OE [] w.heap.size w' (sOwn 2 (sInt .i64)) [v1] x.Shape.To f1∧OE [] w.heap.size w' (sOwn 2 (sInt .i64)) [v2] x.Shape.Identity f2∧OE [] w.heap.size w' (sOwn 22 (sOwn 2 (sInt .i64))) [v3] x.Shape.Composites f3∧OE [] w.heap.size w' (sOwn 2 (sInt .i64)) [v4] x.Sizes f4∧OE [] w.heap.size w' (sOwn 22 (sOwn 2 (sInt .i64))) [v5] x.Actions f5∧Dis f0 f1∧Dis f0 f2∧Dis f0 f3∧Dis f0 f4∧Dis f0 f5∧Dis f1 f2∧Dis f1 f3∧Dis f1 f4∧Dis f1 f5∧Dis f2 f3∧Dis f2 f4∧Dis f2 f5∧Dis f3 f4∧Dis f3 f5∧Dis f4 f5
abbrev spec_l25Make_T (w:World) (x:(MSetFunctor)) (r:Nat→Value) (w':World):Prop:=∃ v,(∀ a:Act,a.tmps.size=83→rho a=r→(results Tryz.f104 a.tmps).run Tryz.prog w' = .ok v w')∧spec_l25Make_post w x (.returned v) w'
theorem spec_l25Make_calls {w:World} {x0:MCategory} {z6:Value} {zh:List Nat} {z7:Value} {zg:List Nat} {z9:Value} {zf:List Nat} {z8:Value} {ze:List Nat} {x1:(List (List (List Int)))} {v_x1:Value} {f_x1:List Nat} (za:(sImm (sInt .i64)).rep w.heap [z6] x0.From zh) (zb:(sImm (sInt .i64)).rep w.heap [z7] x0.To zg) (zd:(sImm (sInt .i64)).rep w.heap [z9] x0.Identity zf) (zc:(sImm (sImm (sInt .i64))).rep w.heap [z8] x0.Composites ze) (h_x1:(sImm (sImm (sImm (sInt .i64)))).rep w.heap [v_x1] x1 f_x1) {y:(MSetFunctor)} (hm:spec_l25Make x0 x1=some y) :
  Calls Tryz.prog 104 #[.agg #[.int .i64 (x0.Objects),z6,z7,z9,z8],v_x1] w (spec_l25Make_post w y):=by
 refine calls_of_M (S:=Unit) (args:=[.agg #[.int .i64 (x0.Objects),z6,z7,z9,z8],v_x1]) Tryz.func104 rfl Tryz.ntmps104 (Nat.le_of_ble_eq_true rfl) (retM_some hm) ?_
 clear hm
 intro o ho
 have hB:Chg [] w w:=cr _ _
 refine wq ?_
 refine W_region rfl ?_
 refine WL.box fun b1 wd2 hC3 hr4 hl5=>?_
 replace hr4:Row wd2 b1 [.int .i64 (x0.Objects),z6,z7,z9,z8] 27:=hr4
 have hT7:=(cr [] w).trans hC3
 replace hB:=(hB.trans hT7)
 refine WL.alloc info62 zr62 fun b8 wd9 hC10 hr11 hl12=>?_
 replace hr11:Row wd9 b8 [.int .i64 ((0:Int)),.slice none 0 0,.slice none 0 0,.slice none 0 0,.slice none 0 0,.slice none 0 0,.slice none 0 0] 62:=hr11
 have lo13:w.heap.size≤b8:=Nat.le_trans (hB.trans (cr [] wd2)).size hl12
 have d14:Dis [b8] [b1]:=dl (onw hl12) (one_lt (Row.lt (kr hr4 (cr [] wd2))))
 have hT15:=(cr [] wd2).trans hC10
 replace hr4:=kr hr4 hT15
 replace hB:=(hB.trans hT15)
 refine anz ?_
 refine wq ?_
 refine W_region rfl ?_
 refine wv (v:=.agg #[.int .i64 (x0.Objects),z6,z7,z9,z8]) rfl (op_loadAgg u27z rfl info27 (by rw [sz27]; rfl) rfl (kr hr4 (cr [] wd9)).at) ?_
 obtain ⟨y16,hy17,ho⟩:=bs ho
 refine WL.call rfl (op_callF Tryz.func125 rfl rfl) (spec_l02Own_calls (kp _ za (hB.trans (cr [] wd9))) (kp _ zb (hB.trans (cr [] wd9))) (kp _ zd (hB.trans (cr [] wd9))) (kp _ zc (hB.trans (cr [] wd9))) hy17) ?_
 rintro _ wd18 ⟨v20,f21,v23,f24,v26,f27,v29,f30,rfl,hC19,o22,o25,o28,o31,d32,d33,d34,d35,d36,d37⟩
 refine ⟨_,rfl,?_⟩
 have d38:Dis f21 [b1]:=dl (ofr o22) (one_lt (Row.lt (kr hr4 (cr [] wd9))))
 have d39:Dis f21 [b8]:=dl (ofr o22) (one_lt (Row.lt (kr hr11 (cr [] wd9))))
 replace o22:=OE.low (G:=[]) o22 (hB.trans (cr [] wd9)).size
 have d40:Dis f24 [b1]:=dl (ofr o25) (one_lt (Row.lt (kr hr4 (cr [] wd9))))
 have d41:Dis f24 [b8]:=dl (ofr o25) (one_lt (Row.lt (kr hr11 (cr [] wd9))))
 replace o25:=OE.low (G:=[]) o25 (hB.trans (cr [] wd9)).size
 have d42:Dis f27 [b1]:=dl (ofr o28) (one_lt (Row.lt (kr hr4 (cr [] wd9))))
 have d43:Dis f27 [b8]:=dl (ofr o28) (one_lt (Row.lt (kr hr11 (cr [] wd9))))
 replace o28:=OE.low (G:=[]) o28 (hB.trans (cr [] wd9)).size
 have d44:Dis f30 [b1]:=dl (ofr o31) (one_lt (Row.lt (kr hr4 (cr [] wd9))))
 have d45:Dis f30 [b8]:=dl (ofr o31) (one_lt (Row.lt (kr hr11 (cr [] wd9))))
 replace o31:=OE.low (G:=[]) o31 (hB.trans (cr [] wd9)).size
 have hT46:=(cr [] wd9).trans hC19
 replace hr4:=kr hr4 hT46
 replace hr11:=kr hr11 hT46
 replace hB:=(hB.trans hT46)
 refine wv (v:=.agg #[.int .i64 (y16.Objects),v20,v23,v26,v29,.slice none 0 0,.slice none 0 0]) rfl (op_build (bld62_0 rfl (STy.one _ o22.1 _ (ms rfl)) (STy.one _ o25.1 _ (ms rfl)) (STy.one _ o28.1 _ (ms rfl)) (STy.one _ o31.1 _ (ms rfl)))) ?_
 refine WL.alloc info62 zr62 fun b47 wd48 hC49 hr50 hl51=>?_
 replace hr50:Row wd48 b47 [.int .i64 ((0:Int)),.slice none 0 0,.slice none 0 0,.slice none 0 0,.slice none 0 0,.slice none 0 0,.slice none 0 0] 62:=hr50
 have lo52:w.heap.size≤b47:=Nat.le_trans (hB.trans (cr [] wd18)).size hl51
 have d53:Dis [b47] [b1]:=dl (onw hl51) (one_lt (Row.lt (kr hr4 (cr [] wd18))))
 have d54:Dis [b47] [b8]:=dl (onw hl51) (one_lt (Row.lt (kr hr11 (cr [] wd18))))
 have d55:Dis [b47] f21:=dl (onw hl51) (sl _ (kp _ o22.1 (cr [] wd18)))
 have d56:Dis [b47] f24:=dl (onw hl51) (sl _ (kp _ o25.1 (cr [] wd18)))
 have d57:Dis [b47] f27:=dl (onw hl51) (sl _ (kp _ o28.1 (cr [] wd18)))
 have d58:Dis [b47] f30:=dl (onw hl51) (sl _ (kp _ o31.1 (cr [] wd18)))
 have hT59:=(cr [] wd18).trans hC49
 replace hr4:=kr hr4 hT59
 replace hr11:=kr hr11 hT59
 replace o22:=ko o22 hT59
 replace o25:=ko o25 hT59
 replace o28:=ko o28 hT59
 replace o31:=ko o31 hT59
 replace hB:=(hB.trans hT59)
 refine WL.storeAll (us:=[.int .i64 (y16.Objects),v20,v23,v26,v29,.slice none 0 0,.slice none 0 0]) info62 (by rw [sz62]; rfl) (kr hr50 (cr [] wd48)) rfl rfl rfl (by intro u hu; simp only [List.mem_cons,List.mem_nil_iff,or_false] at hu; rcases hu with rfl | rfl | rfl | rfl | rfl | rfl | rfl <;> first | exact rfl | exact (STy.one _ o22.1 _ (ms rfl)) | exact (STy.one _ o25.1 _ (ms rfl)) | exact (STy.one _ o28.1 _ (ms rfl)) | exact (STy.one _ o31.1 _ (ms rfl))) fun wd60 hC61 hr62=>?_
 replace hr62:Row wd60 b47 [.int .i64 (y16.Objects),v20,v23,v26,v29,.slice none 0 0,.slice none 0 0] 62:=hr62
 have hT63:=((cr [] wd48).nil (G:=[b47])).trans hC61
 replace hr4:=Row.keep hr4 hT63 ((d53).symm _ (ms rfl))
 replace hr11:=Row.keep hr11 hT63 ((d54).symm _ (ms rfl))
 replace o22:=okp o22 hT63 (d55).symm
 replace o25:=okp o25 hT63 (d56).symm
 replace o28:=okp o28 hT63 (d57).symm
 replace o31:=okp o31 hT63 (d58).symm
 replace hB:=hB.then hT63 (one_then lo52)
 refine anz ?_
 refine wq ?_
 refine wq ?_
 refine Wq rfl (cr [] wd60) ?_
 refine qv (v:=.int .i64 ((0:Int))) rfl (fun _ _=>oa _) ?_
 intro wd64 hC65
 refine anz ?_
 refine W_for (S1:=Int×(List Int)) (fun s r w'=>match s with | (s0_6,s0_b47_5)=>∃ (v66:Value) (f67:List Nat),Chg [] w w'∧Row w' b1 [.int .i64 (x0.Objects),z6,z7,z9,z8] 27∧Row w' b8 [.int .i64 ((0:Int)),.slice none 0 0,.slice none 0 0,.slice none 0 0,.slice none 0 0,.slice none 0 0,.slice none 0 0] 62∧OE [] w.heap.size w' (sOwn 2 (sInt .i64)) [v20] (y16.From) f21∧OE [] w.heap.size w' (sOwn 2 (sInt .i64)) [v23] (y16.To) f24∧OE [] w.heap.size w' (sOwn 2 (sInt .i64)) [v26] (y16.Identity) f27∧OE [] w.heap.size w' (sOwn 22 (sOwn 2 (sInt .i64))) [v29] (y16.Composites) f30∧Row w' b47 [.int .i64 (y16.Objects),v20,v23,v26,v29,v66,.slice none 0 0] 62∧OE [] w.heap.size w' (sOwn 2 (sInt .i64)) [v66] (s0_b47_5) f67∧Dis [b1] [b8]∧Dis [b1] f21∧Dis [b1] f24∧Dis [b1] f27∧Dis [b1] f30∧Dis [b1] [b47]∧Dis [b1] f67∧Dis [b8] f21∧Dis [b8] f24∧Dis [b8] f27∧Dis [b8] f30∧Dis [b8] [b47]∧Dis [b8] f67∧Dis f21 f24∧Dis f21 f27∧Dis f21 f30∧Dis f21 [b47]∧Dis f21 f67∧Dis f24 f27∧Dis f24 f30∧Dis f24 [b47]∧Dis f24 f67∧Dis f27 f30∧Dis f27 [b47]∧Dis f27 f67∧Dis f30 [b47]∧Dis f30 f67∧Dis [b47] f67∧∃ F,r=updL F [(1,v_x1),(2,.pointer (some (⟨b1,0,none⟩))),(4,.pointer (some (⟨b8,0,none⟩))),(5,.pointer (some (⟨b47,0,none⟩))),(6,.int .i64 (s0_6))]) (T:=spec_l25Make_T w) ho ⟨_,_,(hB.trans hC65),(kr hr4 hC65),(kr hr11 hC65),(ko o22 hC65),(ko o25 hC65),(ko o28 hC65),(ko o31 hC65),(kr hr62 hC65),nil_OE,((d14).symm),((d38).symm),((d40).symm),((d42).symm),((d44).symm),((d53).symm),(fun _ _ h=>nomatch h),((d39).symm),((d41).symm),((d43).symm),((d45).symm),((d54).symm),(fun _ _ h=>nomatch h),(d32),(d33),(d34),((d55).symm),(fun _ _ h=>nomatch h),(d35),(d36),((d56).symm),(fun _ _ h=>nomatch h),(d37),((d57).symm),(fun _ _ h=>nomatch h),((d58).symm),(fun _ _ h=>nomatch h),(fun _ _ h=>nomatch h),fr ⟨rfl,rfl,rfl,rfl,rfl,trivial⟩⟩ ?_ ?_ ?_
 intro x r w' ho hx; subst ho; exact hx
 rintro ⟨s0_6,s0_b47_5⟩ _ wd97 ⟨v66,f67,hB,hr4,hr11,o22,o25,o28,o31,hr62,o68,d69,d70,d71,d72,d73,d74,d75,d76,d77,d78,d79,d80,d81,d82,d83,d84,d85,d86,d87,d88,d89,d90,d91,d92,d93,d94,d95,d96,F,rfl⟩ o ho
 replace ho:spec_l25Make_L0 x1 s0_6 s0_b47_5=some o:=ho
 unfold spec_l25Make_L0 at ho
 refine wq ?_
 refine wq ?_
 refine Wq rfl (cr [] wd97) ?_
 refine qv (v:=.int .i64 (s0_6)) rfl (fun _ _=>om _) ?_
 refine qv (v:=v_x1) rfl (fun _ _=>om _) ?_
 refine qv (v:=.int .i64 ((x1.length:Int))) rfl (fun _ hC=>op_lenI u28 (kp _ h_x1 (hB.trans hC))) ?_
 refine qv (v:=.bool (decide (s0_6 < (x1.length:Int)))) rfl (fun _ _=>op_bin rfl rfl bin_lss) ?_
 intro wd98 hC99
 refine anz ?_
 refine W_cond (b:=decide (s0_6 < (x1.length:Int))) rfl ?_ ?_
 intro hb100
 rw [hb100] at ho
 refine W_skip ?_
 refine anz ?_
 refine wq ?_
 refine W_block ?_
 obtain ⟨e101,hx102e,ho⟩:=bs ho
 have hx102:=idx_some hx102e
 obtain ⟨u103,fu104,hu105,hr106,hs107⟩:=one_get rfl h_x1 hx102.1 hx102.2
 refine W_any (m:=8) (U:=[[],[],[],[],[],[],[],[]]) (S:=[⟨true,pl fun _ _ u=>u=(.pointer (some (⟨b47,5,none⟩)):Value)⟩,⟨true,pl fun _ _ u=>u=(v66:Value)⟩,⟨true,pl fun _ _ u=>u=(v_x1:Value)⟩,⟨true,pl fun _ _ u=>u=(.int .i64 (s0_6):Value)⟩,⟨true,pl fun _ _ u=>u=(.pointer (some (elA (v_x1) 1 (s0_6))):Value)⟩,⟨true,pl fun _ _ u=>u=(u103:Value)⟩,⟨true,pl fun _ _ u=>u=(.int .i64 ((e101.length:Int)):Value)⟩,⟨true,pl <| LitV [.int .i64 ((e101.length:Int))] 2 1⟩]) (Z:=[]) hmix rfl (by decide) (by decide +kernel) (fun _ _ _ h=>np_out h) (by decide) rfl (by decide +kernel) (stable_all <| stable_cons stable_val (stable_cons stable_val (stable_cons stable_val (stable_cons stable_val (stable_cons stable_val (stable_cons stable_val (stable_cons stable_val (stable_cons stable_lit ( stable_nil))))))))) ?_ ?_
 refine owes_cons ?_ ( owes_cons ?_ ( owes_cons ?_ ( owes_cons ?_ ( owes_cons ?_ ( owes_cons ?_ ( owes_cons ?_ ( owes_cons ?_ ( owes_nil))))))))
 refine Owes.val rfl rfl rfl ?_
 intro g r wr hCr H hot
 have hC:=hC99.trans hCr
 obtain ⟨F,rfl⟩:=fr (r:=r) (l:=[(5,.pointer (some (⟨b47,0,none⟩)))]) ⟨(hot 5 (by decide)),trivial⟩
 exact op_fieldAddrR u62 rfl info22 ne22 rfl rfl
 refine Owes.val rfl rfl rfl ?_
 intro g r wr hCr H hot
 have hC:=hC99.trans hCr
 obtain ⟨F,rfl⟩:=fr (r:=r) (l:=[(19,.pointer (some (⟨b47,5,none⟩)))]) ⟨(H 0 (by decide +kernel) 19 rfl),trivial⟩
 exact oldz u22z rfl rfl ((kr hr62 hC).at.cell (j:=5) rfl)
 refine Owes.val rfl rfl rfl ?_
 intro g r wr hCr H hot
 have hC:=hC99.trans hCr
 obtain ⟨F,rfl⟩:=fr (r:=r) (l:=[(1,v_x1)]) ⟨(hot 1 (by decide)),trivial⟩
 exact om _
 refine Owes.val rfl rfl rfl ?_
 intro g r wr hCr H hot
 have hC:=hC99.trans hCr
 obtain ⟨F,rfl⟩:=fr (r:=r) (l:=[(6,.int .i64 (s0_6))]) ⟨(hot 6 (by decide)),trivial⟩
 exact om _
 refine Owes.val rfl rfl rfl ?_
 intro g r wr hCr H hot
 have hC:=hC99.trans hCr
 obtain ⟨F,rfl⟩:=fr (r:=r) (l:=[(21,v_x1),(22,.int .i64 (s0_6))]) ⟨(H 2 (by decide +kernel) 21 rfl),(H 3 (by decide +kernel) 22 rfl),trivial⟩
 exact op_indexI u28 info23 sz23 rfl (kp _ h_x1 (hB.trans hC)) rfl hx102.1 hx102.2
 refine Owes.val rfl rfl rfl ?_
 intro g r wr hCr H hot
 have hC:=hC99.trans hCr
 obtain ⟨F,rfl⟩:=fr (r:=r) (l:=[(23,.pointer (some (elA (v_x1) 1 (s0_6))))]) ⟨(H 4 (by decide +kernel) 23 rfl),trivial⟩
 exact oldz u23z rfl rfl ((hB.trans hC).cell0 hu105)
 refine Owes.val rfl rfl rfl ?_
 intro g r wr hCr H hot
 have hC:=hC99.trans hCr
 obtain ⟨F,rfl⟩:=fr (r:=r) (l:=[(24,u103)]) ⟨(H 5 (by decide +kernel) 24 rfl),trivial⟩
 exact op_lenI u23z (kp _ hr106 (hB.trans hC))
 refine Owes.mem rfl rfl rfl ?_
 intro g r wr hCr H hot
 have hC:=hC99.trans hCr
 obtain ⟨F,rfl⟩:=fr (r:=r) (l:=[(25,.int .i64 ((e101.length:Int)))]) ⟨(H 6 (by decide +kernel) 25 rfl),trivial⟩
 exact OpW.lit1 u22z info2 zr2 sz2 rfl rfl
 rintro g r wd111 ⟨hC112,hdone,hot,hfresh,hdis⟩
 obtain ⟨b108,hbb108,hvb108,hr109⟩ : LitV [.int .i64 ((e101.length:Int))] 2 1 _ _ _:=hdone 7 (by decide) (by decide) 26 rfl
 have hlb108:wd98.heap.size≤b108:=(hfresh 7 (by decide) b108 (by rw [hbb108]; exact ms rfl)).1
 have hdd:=hdis
 obtain ⟨F,rfl⟩:=fr (r:=r) (l:=[(1,v_x1),(2,.pointer (some (⟨b1,0,none⟩))),(4,.pointer (some (⟨b8,0,none⟩))),(5,.pointer (some (⟨b47,0,none⟩))),(6,.int .i64 (s0_6)),(20,v66),(26,.slice (some ⟨b108,0,none⟩) 1 1)]) ⟨(hot 1 (by decide)),(hot 2 (by decide)),(hot 4 (by decide)),(hot 5 (by decide)),(hot 6 (by decide)),(hdone 1 (by decide) (by decide) 20 rfl),hvb108,trivial⟩
 have d120:Dis [b108] [b47]:=dl (onw hlb108) (one_lt (Row.lt (kr hr62 hC99)))
 have d121:Dis [b108] f67:=dl (onw hlb108) (sl _ (kp _ o68.1 hC99))
 have hT122:=(hC99.trans hC112)
 replace hr4:=kr hr4 hT122
 replace hr11:=kr hr11 hT122
 replace o22:=ko o22 hT122
 replace o25:=ko o25 hT122
 replace o28:=ko o28 hT122
 replace o31:=ko o31 hT122
 replace hr62:=kr hr62 hT122
 replace o68:=ko o68 hT122
 replace hB:=(hB.trans hT122)
 obtain ⟨n129,hn130,ho⟩:=bs ho
 have hn130a:=fits_some hn130
 refine WL.append1 (E:=(sInt .i64)) _ _ u22z info2 zr2 sz2 rfl rfl rfl (ko o68 (cr [] wd111)) rfl (kr hr109 (cr [] wd111)) ⟨rfl,rfl⟩ List.nodup_nil (fun _ h=>nomatch h) (fun _ h=>nomatch h) (by rw [by2]; exact hn130a.1) hn130a.2 (hB.trans (cr [] wd111)).size fun v123 wd124 f125 hC126 o127 hs128=>?_
 have d131:Dis f125 [b1]:=dis_upd hs128 (d75).symm (fun _ h=>nomatch h) (one_lt (Row.lt (kr hr4 (cr [] wd111))))
 have d132:Dis f125 [b8]:=dis_upd hs128 (d81).symm (fun _ h=>nomatch h) (one_lt (Row.lt (kr hr11 (cr [] wd111))))
 have d133:Dis f125 f21:=dis_upd hs128 (d86).symm (fun _ h=>nomatch h) (sl _ (kp _ o22.1 (cr [] wd111)))
 have d134:Dis f125 f24:=dis_upd hs128 (d90).symm (fun _ h=>nomatch h) (sl _ (kp _ o25.1 (cr [] wd111)))
 have d135:Dis f125 f27:=dis_upd hs128 (d93).symm (fun _ h=>nomatch h) (sl _ (kp _ o28.1 (cr [] wd111)))
 have d136:Dis f125 f30:=dis_upd hs128 (d95).symm (fun _ h=>nomatch h) (sl _ (kp _ o31.1 (cr [] wd111)))
 have d137:Dis f125 [b47]:=dis_upd hs128 (d96).symm (fun _ h=>nomatch h) (one_lt (Row.lt (kr hr62 (cr [] wd111))))
 have hT139:=((cr [] wd111).nil (G:=f67)).trans hC126
 replace hr4:=Row.keep hr4 hT139 (d75 _ (ms rfl))
 replace hr11:=Row.keep hr11 hT139 (d81 _ (ms rfl))
 replace o22:=okp o22 hT139 d86
 replace o25:=okp o25 hT139 d90
 replace o28:=okp o28 hT139 d93
 replace o31:=okp o31 hT139 d95
 replace hr62:=Row.keep hr62 hT139 (d96 _ (ms rfl))
 replace hr109:=Row.keep hr109 hT139 (d121 _ (ms rfl))
 replace hB:=hB.then hT139 o68.2.2
 refine wv (v:=.pointer (some (⟨b47,5,none⟩))) rfl (op_fieldAddrR u62 rfl info22 ne22 rfl rfl) ?_
 refine WL.storeRow (j:=5) info22 sz22 (kr hr62 (cr [] wd124)) (Nat.le_of_ble_eq_true rfl) rfl rfl (STy.one _ o127.1 _ (ms rfl)) fun wd140 hC141 hr142=>?_
 replace hr142:Row wd140 b47 [.int .i64 (y16.Objects),v20,v23,v26,v29,v123,.slice none 0 0] 62:=hr142
 have hT143:=((cr [] wd124).nil (G:=[b47])).trans hC141
 replace hr4:=Row.keep hr4 hT143 (d74 _ (ms rfl))
 replace hr11:=Row.keep hr11 hT143 (d80 _ (ms rfl))
 replace o22:=okp o22 hT143 d85
 replace o25:=okp o25 hT143 d89
 replace o28:=okp o28 hT143 d92
 replace o31:=okp o31 hT143 d94
 replace hr109:=Row.keep hr109 hT143 (d120 _ (ms rfl))
 replace o127:=okp o127 hT143 d137
 replace hB:=hB.then hT143 (one_then lo52)
 refine inBlk_n ?_
 refine anz ?_
 refine Wq rfl (cr [] wd140) ?_
 refine qv (v:=.int .i64 (s0_6)) rfl (fun _ _=>om _) ?_
 refine qv (v:=.int .i64 (w64 (s0_6 + (1:Int)))) rfl (fun _ _=>op_bin rfl rfl bin_add) ?_
 refine qv (v:=.int .i64 (w64 (s0_6 + (1:Int)))) rfl (fun _ _=>oa _) ?_
 intro wd144 hC145
 cases ho
 exact ⟨_,_,(hB.trans hC145),(kr hr4 hC145),(kr hr11 hC145),(ko o22 hC145),(ko o25 hC145),(ko o28 hC145),(ko o31 hC145),(kr hr142 hC145),(ko o127 hC145),(d69),(d70),(d71),(d72),(d73),(d74),((d131).symm),(d76),(d77),(d78),(d79),(d80),((d132).symm),(d82),(d83),(d84),(d85),((d133).symm),(d87),(d88),(d89),((d134).symm),(d91),(d92),((d135).symm),(d94),((d136).symm),((d137).symm),fr ⟨rfl,rfl,rfl,rfl,rfl,trivial⟩⟩
 intro hb100
 rw [hb100] at ho
 refine W_exit ?_
 refine andThen_x ?_
 cases ho
 exact ⟨rfl,⟨_,_,(hB.trans hC99),(kr hr4 hC99),(kr hr11 hC99),(ko o22 hC99),(ko o25 hC99),(ko o28 hC99),(ko o31 hC99),(kr hr62 hC99),(ko o68 hC99),(d69),(d70),(d71),(d72),(d73),(d74),(d75),(d76),(d77),(d78),(d79),(d80),(d81),(d82),(d83),(d84),(d85),(d86),(d87),(d88),(d89),(d90),(d91),(d92),(d93),(d94),(d95),(d96),fr ⟨rfl,rfl,rfl,rfl,rfl,trivial⟩⟩⟩
 rintro ⟨s0_6,s0_b47_5⟩ _ wd146 ⟨v66,f67,hB,hr4,hr11,o22,o25,o28,o31,hr62,o68,d69,d70,d71,d72,d73,d74,d75,d76,d77,d78,d79,d80,d81,d82,d83,d84,d85,d86,d87,d88,d89,d90,d91,d92,d93,d94,d95,d96,F,rfl⟩ ho
 dsimp only at ho
 refine anz ?_
 refine wq ?_
 refine wq ?_
 refine Wq rfl (cr [] wd146) ?_
 refine qv (v:=.int .i64 ((0:Int))) rfl (fun _ _=>oa _) ?_
 intro wd147 hC148
 refine anz ?_
 refine W_for (S1:=Int×(List (List Int))) (fun s r w'=>match s with | (s1_7,s1_b47_6)=>∃ (v149:Value) (f150:List Nat),Chg [] w w'∧Row w' b1 [.int .i64 (x0.Objects),z6,z7,z9,z8] 27∧Row w' b8 [.int .i64 ((0:Int)),.slice none 0 0,.slice none 0 0,.slice none 0 0,.slice none 0 0,.slice none 0 0,.slice none 0 0] 62∧OE [] w.heap.size w' (sOwn 2 (sInt .i64)) [v20] (y16.From) f21∧OE [] w.heap.size w' (sOwn 2 (sInt .i64)) [v23] (y16.To) f24∧OE [] w.heap.size w' (sOwn 2 (sInt .i64)) [v26] (y16.Identity) f27∧OE [] w.heap.size w' (sOwn 22 (sOwn 2 (sInt .i64))) [v29] (y16.Composites) f30∧Row w' b47 [.int .i64 (y16.Objects),v20,v23,v26,v29,v66,v149] 62∧OE [] w.heap.size w' (sOwn 2 (sInt .i64)) [v66] (s0_b47_5) f67∧OE [] w.heap.size w' (sOwn 22 (sOwn 2 (sInt .i64))) [v149] (s1_b47_6) f150∧Dis [b1] [b8]∧Dis [b1] f21∧Dis [b1] f24∧Dis [b1] f27∧Dis [b1] f30∧Dis [b1] [b47]∧Dis [b1] f67∧Dis [b1] f150∧Dis [b8] f21∧Dis [b8] f24∧Dis [b8] f27∧Dis [b8] f30∧Dis [b8] [b47]∧Dis [b8] f67∧Dis [b8] f150∧Dis f21 f24∧Dis f21 f27∧Dis f21 f30∧Dis f21 [b47]∧Dis f21 f67∧Dis f21 f150∧Dis f24 f27∧Dis f24 f30∧Dis f24 [b47]∧Dis f24 f67∧Dis f24 f150∧Dis f27 f30∧Dis f27 [b47]∧Dis f27 f67∧Dis f27 f150∧Dis f30 [b47]∧Dis f30 f67∧Dis f30 f150∧Dis [b47] f67∧Dis [b47] f150∧Dis f67 f150∧∃ F,r=updL F [(1,v_x1),(2,.pointer (some (⟨b1,0,none⟩))),(4,.pointer (some (⟨b8,0,none⟩))),(5,.pointer (some (⟨b47,0,none⟩))),(7,.int .i64 (s1_7))]) (T:=spec_l25Make_T w) ho ⟨_,_,(hB.trans hC148),(kr hr4 hC148),(kr hr11 hC148),(ko o22 hC148),(ko o25 hC148),(ko o28 hC148),(ko o31 hC148),(kr hr62 hC148),(ko o68 hC148),nil_OE,(d69),(d70),(d71),(d72),(d73),(d74),(d75),(fun _ _ h=>nomatch h),(d76),(d77),(d78),(d79),(d80),(d81),(fun _ _ h=>nomatch h),(d82),(d83),(d84),(d85),(d86),(fun _ _ h=>nomatch h),(d87),(d88),(d89),(d90),(fun _ _ h=>nomatch h),(d91),(d92),(d93),(fun _ _ h=>nomatch h),(d94),(d95),(fun _ _ h=>nomatch h),(d96),(fun _ _ h=>nomatch h),(fun _ _ h=>nomatch h),fr ⟨rfl,rfl,rfl,rfl,rfl,trivial⟩⟩ ?_ ?_ ?_
 intro x r w' ho hx; subst ho; exact hx
 rintro ⟨s1_7,s1_b47_6⟩ _ wd188 ⟨v149,f150,hB,hr4,hr11,o22,o25,o28,o31,hr62,o68,o151,d152,d153,d154,d155,d156,d157,d158,d159,d160,d161,d162,d163,d164,d165,d166,d167,d168,d169,d170,d171,d172,d173,d174,d175,d176,d177,d178,d179,d180,d181,d182,d183,d184,d185,d186,d187,F,rfl⟩ o ho
 replace ho:spec_l25Make_L1 x0 x1 s1_7 s1_b47_6=some o:=ho
 unfold spec_l25Make_L1 at ho
 refine wq ?_
 refine wq ?_
 refine Wq rfl (cr [] wd188) ?_
 refine qv (v:=.int .i64 (s1_7)) rfl (fun _ _=>om _) ?_
 refine qv (v:=.pointer (some (⟨b1,1,none⟩))) rfl (fun _ _=>op_fieldAddrR u27z rfl info22 ne22 rfl rfl) ?_
 refine qv (v:=z6) rfl (fun _ hC=>oldz u22z rfl rfl ((kr hr4 hC).at.cell (j:=1) rfl)) ?_
 refine qv (v:=.int .i64 ((x0.From.length:Int))) rfl (fun _ hC=>op_lenI u22z (kp _ za (hB.trans hC))) ?_
 refine qv (v:=.bool (decide (s1_7 < (x0.From.length:Int)))) rfl (fun _ _=>op_bin rfl rfl bin_lss) ?_
 intro wd189 hC190
 refine anz ?_
 refine W_cond (b:=decide (s1_7 < (x0.From.length:Int))) rfl ?_ ?_
 intro hb191
 rw [hb191] at ho
 refine W_skip ?_
 refine anz ?_
 refine wq ?_
 refine W_block ?_
 refine wq ?_
 refine W_region rfl ?_
 refine WL.lit0 (sInt .i64) u22z info2 fun v192 wd193 f194 hC195 o196=>?_
 have d197:Dis f194 [b1]:=dl (ofr o196) (one_lt (Row.lt (kr hr4 hC190)))
 have d198:Dis f194 [b8]:=dl (ofr o196) (one_lt (Row.lt (kr hr11 hC190)))
 have d199:Dis f194 f21:=dl (ofr o196) (sl _ (kp _ o22.1 hC190))
 have d200:Dis f194 f24:=dl (ofr o196) (sl _ (kp _ o25.1 hC190))
 have d201:Dis f194 f27:=dl (ofr o196) (sl _ (kp _ o28.1 hC190))
 have d202:Dis f194 f30:=dl (ofr o196) (sl _ (kp _ o31.1 hC190))
 have d203:Dis f194 [b47]:=dl (ofr o196) (one_lt (Row.lt (kr hr62 hC190)))
 have d204:Dis f194 f67:=dl (ofr o196) (sl _ (kp _ o68.1 hC190))
 have d205:Dis f194 f150:=dl (ofr o196) (sl _ (kp _ o151.1 hC190))
 replace o196:=OE.low (G:=[]) o196 (hB.trans hC190).size
 have hT206:=hC190.trans hC195
 replace hr4:=kr hr4 hT206
 replace hr11:=kr hr11 hT206
 replace o22:=ko o22 hT206
 replace o25:=ko o25 hT206
 replace o28:=ko o28 hT206
 replace o31:=ko o31 hT206
 replace hr62:=kr hr62 hT206
 replace o68:=ko o68 hT206
 replace o151:=ko o151 hT206
 replace hB:=(hB.trans hT206)
 refine wv (v:=v192) rfl (oa _) ?_
 refine anz ?_
 refine wq ?_
 refine wq ?_
 refine Wq rfl (cr [] wd193) ?_
 refine qv (v:=.int .i64 ((0:Int))) rfl (fun _ _=>oa _) ?_
 intro wd207 hC208
 refine anz ?_
 refine W_for (S1:=(List Int)×Int) (fun s r w'=>match s with | (s2_8,s2_9)=>∃ (v209:Value) (f210:List Nat),Chg [] w w'∧Row w' b1 [.int .i64 (x0.Objects),z6,z7,z9,z8] 27∧Row w' b8 [.int .i64 ((0:Int)),.slice none 0 0,.slice none 0 0,.slice none 0 0,.slice none 0 0,.slice none 0 0,.slice none 0 0] 62∧OE [] w.heap.size w' (sOwn 2 (sInt .i64)) [v20] (y16.From) f21∧OE [] w.heap.size w' (sOwn 2 (sInt .i64)) [v23] (y16.To) f24∧OE [] w.heap.size w' (sOwn 2 (sInt .i64)) [v26] (y16.Identity) f27∧OE [] w.heap.size w' (sOwn 22 (sOwn 2 (sInt .i64))) [v29] (y16.Composites) f30∧Row w' b47 [.int .i64 (y16.Objects),v20,v23,v26,v29,v66,v149] 62∧OE [] w.heap.size w' (sOwn 2 (sInt .i64)) [v66] (s0_b47_5) f67∧OE [] w.heap.size w' (sOwn 22 (sOwn 2 (sInt .i64))) [v149] (s1_b47_6) f150∧OE [] w.heap.size w' (sOwn 2 (sInt .i64)) [v209] (s2_8) f210∧Dis [b1] [b8]∧Dis [b1] f21∧Dis [b1] f24∧Dis [b1] f27∧Dis [b1] f30∧Dis [b1] [b47]∧Dis [b1] f67∧Dis [b1] f150∧Dis [b1] f210∧Dis [b8] f21∧Dis [b8] f24∧Dis [b8] f27∧Dis [b8] f30∧Dis [b8] [b47]∧Dis [b8] f67∧Dis [b8] f150∧Dis [b8] f210∧Dis f21 f24∧Dis f21 f27∧Dis f21 f30∧Dis f21 [b47]∧Dis f21 f67∧Dis f21 f150∧Dis f21 f210∧Dis f24 f27∧Dis f24 f30∧Dis f24 [b47]∧Dis f24 f67∧Dis f24 f150∧Dis f24 f210∧Dis f27 f30∧Dis f27 [b47]∧Dis f27 f67∧Dis f27 f150∧Dis f27 f210∧Dis f30 [b47]∧Dis f30 f67∧Dis f30 f150∧Dis f30 f210∧Dis [b47] f67∧Dis [b47] f150∧Dis [b47] f210∧Dis f67 f150∧Dis f67 f210∧Dis f150 f210∧∃ F,r=updL F [(1,v_x1),(2,.pointer (some (⟨b1,0,none⟩))),(4,.pointer (some (⟨b8,0,none⟩))),(5,.pointer (some (⟨b47,0,none⟩))),(7,.int .i64 (s1_7)),(8,v209),(9,.int .i64 (s2_9))]) (T:=spec_l25Make_T w) ho ⟨_,_,(hB.trans hC208),(kr hr4 hC208),(kr hr11 hC208),(ko o22 hC208),(ko o25 hC208),(ko o28 hC208),(ko o31 hC208),(kr hr62 hC208),(ko o68 hC208),(ko o151 hC208),(ko o196 hC208),(d152),(d153),(d154),(d155),(d156),(d157),(d158),(d159),((d197).symm),(d160),(d161),(d162),(d163),(d164),(d165),(d166),((d198).symm),(d167),(d168),(d169),(d170),(d171),(d172),((d199).symm),(d173),(d174),(d175),(d176),(d177),((d200).symm),(d178),(d179),(d180),(d181),((d201).symm),(d182),(d183),(d184),((d202).symm),(d185),(d186),((d203).symm),(d187),((d204).symm),((d205).symm),fr ⟨rfl,rfl,rfl,rfl,rfl,rfl,rfl,trivial⟩⟩ ?_ ?_ ?_
 intro x r w' ho hx; subst ho; exact hx
 rintro ⟨s2_8,s2_9⟩ _ wd257 ⟨v209,f210,hB,hr4,hr11,o22,o25,o28,o31,hr62,o68,o151,o211,d212,d213,d214,d215,d216,d217,d218,d219,d220,d221,d222,d223,d224,d225,d226,d227,d228,d229,d230,d231,d232,d233,d234,d235,d236,d237,d238,d239,d240,d241,d242,d243,d244,d245,d246,d247,d248,d249,d250,d251,d252,d253,d254,d255,d256,F,rfl⟩ o ho
 replace ho:spec_l25Make_L2 x0 x1 s1_7 s2_8 s2_9=some o:=ho
 unfold spec_l25Make_L2 at ho
 refine wq ?_
 refine wq ?_
 refine Wq rfl (cr [] wd257) ?_
 refine qv (v:=.int .i64 (s2_9)) rfl (fun _ _=>om _) ?_
 refine qv (v:=v_x1) rfl (fun _ _=>om _) ?_
 refine qv (v:=.pointer (some (⟨b1,1,none⟩))) rfl (fun _ _=>op_fieldAddrR u27z rfl info22 ne22 rfl rfl) ?_
 refine qv (v:=z6) rfl (fun _ hC=>oldz u22z rfl rfl ((kr hr4 hC).at.cell (j:=1) rfl)) ?_
 refine qv (v:=.int .i64 (s1_7)) rfl (fun _ _=>om _) ?_
 obtain ⟨e258,hx259e,ho⟩:=bs ho
 have hx259:=idx_some hx259e
 refine qv (v:=.pointer (some (elA (z6) 1 (s1_7)))) rfl (fun _ hC=>op_indexI u22z info2 sz2 rfl (kp _ za (hB.trans hC)) rfl hx259.1 hx259.2) ?_
 refine qv (v:=.int .i64 (e258)) rfl (fun _ hC=>oldz u2z rfl rfl (int_get (kp _ za (hB.trans hC)) hx259.1 hx259.2)) ?_
 obtain ⟨e260,hx261e,ho⟩:=bs ho
 have hx261:=idx_some hx261e
 refine qv (v:=.pointer (some (elA (v_x1) 1 (e258)))) rfl (fun _ hC=>op_indexI u28 info23 sz23 rfl (kp _ h_x1 (hB.trans hC)) rfl hx261.1 hx261.2) ?_
 obtain ⟨u262,fu263,hu264,hr265,hs266⟩:=one_get rfl h_x1 hx261.1 hx261.2
 refine qv (v:=u262) rfl (fun _ hC=>oldz u23z rfl rfl ((hB.trans hC).cell0 hu264)) ?_
 refine qv (v:=.int .i64 ((e260.length:Int))) rfl (fun _ hC=>op_lenI u23z (kp _ hr265 (hB.trans hC))) ?_
 refine qv (v:=.bool (decide (s2_9 < (e260.length:Int)))) rfl (fun _ _=>op_bin rfl rfl bin_lss) ?_
 intro wd267 hC268
 refine anz ?_
 refine W_cond (b:=decide (s2_9 < (e260.length:Int))) rfl ?_ ?_
 intro hb269
 rw [hb269] at ho
 refine W_skip ?_
 refine anz ?_
 refine wq ?_
 refine W_block ?_
 obtain ⟨e270,hx271e,ho⟩:=bs ho
 have hx271:=idx_some hx271e
 obtain ⟨e272,hx273e,ho⟩:=bs ho
 have hx273:=idx_some hx273e
 obtain ⟨u274,fu275,hu276,hr277,hs278⟩:=one_get rfl h_x1 hx273.1 hx273.2
 obtain ⟨e279,hx280e,ho⟩:=bs ho
 have hx280:=idx_some hx280e
 obtain ⟨e281,hx282e,ho⟩:=bs ho
 have hx282:=idx_some hx282e
 obtain ⟨u283,fu284,hu285,hr286,hs287⟩:=one_get rfl h_x1 hx282.1 hx282.2
 obtain ⟨e288,hx289e,ho⟩:=bs ho
 have hx289:=idx_some hx289e
 obtain ⟨u290,fu291,hu292,hr293,hs294⟩:=one_get rfl hr286 hx289.1 hx289.2
 obtain ⟨y295,hy296,ho⟩:=bs ho
 obtain ⟨y300,hy301,ho⟩:=bs ho
 refine W_any (m:=25) (U:=[[],[],[],[],[],[],[],[],[],[],[],[],[],[],[],[],[],[],[],[],[],[],[],[],[]]) (S:=[⟨true,pl fun _ _ u=>u=(v209:Value)⟩,⟨true,pl fun _ _ u=>u=(v_x1:Value)⟩,⟨true,pl fun _ _ u=>u=(.pointer (some (⟨b1,2,none⟩)):Value)⟩,⟨true,pl fun _ _ u=>u=(z7:Value)⟩,⟨true,pl fun _ _ u=>u=(.int .i64 (s1_7):Value)⟩,⟨true,pl fun _ _ u=>u=(.pointer (some (elA (z7) 1 (s1_7))):Value)⟩,⟨true,pl fun _ _ u=>u=(.int .i64 (e270):Value)⟩,⟨true,pl fun _ _ u=>u=(.pointer (some (elA (v_x1) 1 (e270))):Value)⟩,⟨true,pl fun _ _ u=>u=(u274:Value)⟩,⟨true,pl fun _ _ u=>u=(.agg #[.int .i64 (x0.Objects),z6,z7,z9,z8]:Value)⟩,⟨true,pl fun _ _ u=>u=(.int .i64 (s1_7):Value)⟩,⟨true,pl fun _ _ u=>u=(v_x1:Value)⟩,⟨true,pl fun _ _ u=>u=(.pointer (some (⟨b1,1,none⟩)):Value)⟩,⟨true,pl fun _ _ u=>u=(z6:Value)⟩,⟨true,pl fun _ _ u=>u=(.int .i64 (s1_7):Value)⟩,⟨true,pl fun _ _ u=>u=(.pointer (some (elA (z6) 1 (s1_7))):Value)⟩,⟨true,pl fun _ _ u=>u=(.int .i64 (e279):Value)⟩,⟨true,pl fun _ _ u=>u=(.pointer (some (elA (v_x1) 1 (e279))):Value)⟩,⟨true,pl fun _ _ u=>u=(u283:Value)⟩,⟨true,pl fun _ _ u=>u=(.int .i64 (s2_9):Value)⟩,⟨true,pl fun _ _ u=>u=(.pointer (some (elA (u283) 1 (s2_9))):Value)⟩,⟨true,pl fun _ _ u=>u=(u290:Value)⟩,⟨true,pl (OwnV (sOwn 2 (sInt .i64)) (y295))⟩,⟨true,pl fun _ _ u=>u=(.int .i64 (y300):Value)⟩,⟨true,pl <| LitV [.int .i64 (y300)] 2 1⟩]) (Z:=[]) hmix rfl (by decide) (by decide +kernel) (fun _ _ _ h=>np_out h) (by decide) rfl (by decide +kernel) (stable_all <| stable_cons stable_val (stable_cons stable_val (stable_cons stable_val (stable_cons stable_val (stable_cons stable_val (stable_cons stable_val (stable_cons stable_val (stable_cons stable_val (stable_cons stable_val (stable_cons stable_val (stable_cons stable_val (stable_cons stable_val (stable_cons stable_val (stable_cons stable_val (stable_cons stable_val (stable_cons stable_val (stable_cons stable_val (stable_cons stable_val (stable_cons stable_val (stable_cons stable_val (stable_cons stable_val (stable_cons stable_val (stable_cons stable_own (stable_cons stable_val (stable_cons stable_lit ( stable_nil)))))))))))))))))))))))))) ?_ ?_
 refine owes_cons ?_ ( owes_cons ?_ ( owes_cons ?_ ( owes_cons ?_ ( owes_cons ?_ ( owes_cons ?_ ( owes_cons ?_ ( owes_cons ?_ ( owes_cons ?_ ( owes_cons ?_ ( owes_cons ?_ ( owes_cons ?_ ( owes_cons ?_ ( owes_cons ?_ ( owes_cons ?_ ( owes_cons ?_ ( owes_cons ?_ ( owes_cons ?_ ( owes_cons ?_ ( owes_cons ?_ ( owes_cons ?_ ( owes_cons ?_ ( owes_cons ?_ ( owes_cons ?_ ( owes_cons ?_ ( owes_nil)))))))))))))))))))))))))
 refine Owes.val rfl rfl rfl ?_
 intro g r wr hCr H hot
 have hC:=hC268.trans hCr
 obtain ⟨F,rfl⟩:=fr (r:=r) (l:=[(8,v209)]) ⟨(hot 8 (by decide)),trivial⟩
 exact om _
 refine Owes.val rfl rfl rfl ?_
 intro g r wr hCr H hot
 have hC:=hC268.trans hCr
 obtain ⟨F,rfl⟩:=fr (r:=r) (l:=[(1,v_x1)]) ⟨(hot 1 (by decide)),trivial⟩
 exact om _
 refine Owes.val rfl rfl rfl ?_
 intro g r wr hCr H hot
 have hC:=hC268.trans hCr
 obtain ⟨F,rfl⟩:=fr (r:=r) (l:=[(2,.pointer (some (⟨b1,0,none⟩)))]) ⟨(hot 2 (by decide)),trivial⟩
 exact op_fieldAddrR u27z rfl info22 ne22 rfl rfl
 refine Owes.val rfl rfl rfl ?_
 intro g r wr hCr H hot
 have hC:=hC268.trans hCr
 obtain ⟨F,rfl⟩:=fr (r:=r) (l:=[(52,.pointer (some (⟨b1,2,none⟩)))]) ⟨(H 2 (by decide +kernel) 52 rfl),trivial⟩
 exact oldz u22z rfl rfl ((kr hr4 hC).at.cell (j:=2) rfl)
 refine Owes.val rfl rfl rfl ?_
 intro g r wr hCr H hot
 have hC:=hC268.trans hCr
 obtain ⟨F,rfl⟩:=fr (r:=r) (l:=[(7,.int .i64 (s1_7))]) ⟨(hot 7 (by decide)),trivial⟩
 exact om _
 refine Owes.val rfl rfl rfl ?_
 intro g r wr hCr H hot
 have hC:=hC268.trans hCr
 obtain ⟨F,rfl⟩:=fr (r:=r) (l:=[(53,z7),(54,.int .i64 (s1_7))]) ⟨(H 3 (by decide +kernel) 53 rfl),(H 4 (by decide +kernel) 54 rfl),trivial⟩
 exact op_indexI u22z info2 sz2 rfl (kp _ zb (hB.trans hC)) rfl hx271.1 hx271.2
 refine Owes.val rfl rfl rfl ?_
 intro g r wr hCr H hot
 have hC:=hC268.trans hCr
 obtain ⟨F,rfl⟩:=fr (r:=r) (l:=[(55,.pointer (some (elA (z7) 1 (s1_7))))]) ⟨(H 5 (by decide +kernel) 55 rfl),trivial⟩
 exact oldz u2z rfl rfl (int_get (kp _ zb (hB.trans hC)) hx271.1 hx271.2)
 refine Owes.val rfl rfl rfl ?_
 intro g r wr hCr H hot
 have hC:=hC268.trans hCr
 obtain ⟨F,rfl⟩:=fr (r:=r) (l:=[(51,v_x1),(56,.int .i64 (e270))]) ⟨(H 1 (by decide +kernel) 51 rfl),(H 6 (by decide +kernel) 56 rfl),trivial⟩
 exact op_indexI u28 info23 sz23 rfl (kp _ h_x1 (hB.trans hC)) rfl hx273.1 hx273.2
 refine Owes.val rfl rfl rfl ?_
 intro g r wr hCr H hot
 have hC:=hC268.trans hCr
 obtain ⟨F,rfl⟩:=fr (r:=r) (l:=[(57,.pointer (some (elA (v_x1) 1 (e270))))]) ⟨(H 7 (by decide +kernel) 57 rfl),trivial⟩
 exact oldz u23z rfl rfl ((hB.trans hC).cell0 hu276)
 refine Owes.val rfl rfl rfl ?_
 intro g r wr hCr H hot
 have hC:=hC268.trans hCr
 obtain ⟨F,rfl⟩:=fr (r:=r) (l:=[(2,.pointer (some (⟨b1,0,none⟩)))]) ⟨(hot 2 (by decide)),trivial⟩
 exact op_loadAgg u27z rfl info27 (by rw [sz27]; rfl) rfl (kr hr4 hC).at
 refine Owes.val rfl rfl rfl ?_
 intro g r wr hCr H hot
 have hC:=hC268.trans hCr
 obtain ⟨F,rfl⟩:=fr (r:=r) (l:=[(7,.int .i64 (s1_7))]) ⟨(hot 7 (by decide)),trivial⟩
 exact om _
 refine Owes.val rfl rfl rfl ?_
 intro g r wr hCr H hot
 have hC:=hC268.trans hCr
 obtain ⟨F,rfl⟩:=fr (r:=r) (l:=[(1,v_x1)]) ⟨(hot 1 (by decide)),trivial⟩
 exact om _
 refine Owes.val rfl rfl rfl ?_
 intro g r wr hCr H hot
 have hC:=hC268.trans hCr
 obtain ⟨F,rfl⟩:=fr (r:=r) (l:=[(2,.pointer (some (⟨b1,0,none⟩)))]) ⟨(hot 2 (by decide)),trivial⟩
 exact op_fieldAddrR u27z rfl info22 ne22 rfl rfl
 refine Owes.val rfl rfl rfl ?_
 intro g r wr hCr H hot
 have hC:=hC268.trans hCr
 obtain ⟨F,rfl⟩:=fr (r:=r) (l:=[(62,.pointer (some (⟨b1,1,none⟩)))]) ⟨(H 12 (by decide +kernel) 62 rfl),trivial⟩
 exact oldz u22z rfl rfl ((kr hr4 hC).at.cell (j:=1) rfl)
 refine Owes.val rfl rfl rfl ?_
 intro g r wr hCr H hot
 have hC:=hC268.trans hCr
 obtain ⟨F,rfl⟩:=fr (r:=r) (l:=[(7,.int .i64 (s1_7))]) ⟨(hot 7 (by decide)),trivial⟩
 exact om _
 refine Owes.val rfl rfl rfl ?_
 intro g r wr hCr H hot
 have hC:=hC268.trans hCr
 obtain ⟨F,rfl⟩:=fr (r:=r) (l:=[(63,z6),(64,.int .i64 (s1_7))]) ⟨(H 13 (by decide +kernel) 63 rfl),(H 14 (by decide +kernel) 64 rfl),trivial⟩
 exact op_indexI u22z info2 sz2 rfl (kp _ za (hB.trans hC)) rfl hx280.1 hx280.2
 refine Owes.val rfl rfl rfl ?_
 intro g r wr hCr H hot
 have hC:=hC268.trans hCr
 obtain ⟨F,rfl⟩:=fr (r:=r) (l:=[(65,.pointer (some (elA (z6) 1 (s1_7))))]) ⟨(H 15 (by decide +kernel) 65 rfl),trivial⟩
 exact oldz u2z rfl rfl (int_get (kp _ za (hB.trans hC)) hx280.1 hx280.2)
 refine Owes.val rfl rfl rfl ?_
 intro g r wr hCr H hot
 have hC:=hC268.trans hCr
 obtain ⟨F,rfl⟩:=fr (r:=r) (l:=[(61,v_x1),(66,.int .i64 (e279))]) ⟨(H 11 (by decide +kernel) 61 rfl),(H 16 (by decide +kernel) 66 rfl),trivial⟩
 exact op_indexI u28 info23 sz23 rfl (kp _ h_x1 (hB.trans hC)) rfl hx282.1 hx282.2
 refine Owes.val rfl rfl rfl ?_
 intro g r wr hCr H hot
 have hC:=hC268.trans hCr
 obtain ⟨F,rfl⟩:=fr (r:=r) (l:=[(67,.pointer (some (elA (v_x1) 1 (e279))))]) ⟨(H 17 (by decide +kernel) 67 rfl),trivial⟩
 exact oldz u23z rfl rfl ((hB.trans hC).cell0 hu285)
 refine Owes.val rfl rfl rfl ?_
 intro g r wr hCr H hot
 have hC:=hC268.trans hCr
 obtain ⟨F,rfl⟩:=fr (r:=r) (l:=[(9,.int .i64 (s2_9))]) ⟨(hot 9 (by decide)),trivial⟩
 exact om _
 refine Owes.val rfl rfl rfl ?_
 intro g r wr hCr H hot
 have hC:=hC268.trans hCr
 obtain ⟨F,rfl⟩:=fr (r:=r) (l:=[(68,u283),(69,.int .i64 (s2_9))]) ⟨(H 18 (by decide +kernel) 68 rfl),(H 19 (by decide +kernel) 69 rfl),trivial⟩
 exact op_indexI u23z info22 sz22 rfl (kp _ hr286 (hB.trans hC)) rfl hx289.1 hx289.2
 refine Owes.val rfl rfl rfl ?_
 intro g r wr hCr H hot
 have hC:=hC268.trans hCr
 obtain ⟨F,rfl⟩:=fr (r:=r) (l:=[(70,.pointer (some (elA (u283) 1 (s2_9))))]) ⟨(H 20 (by decide +kernel) 70 rfl),trivial⟩
 exact oldz u22z rfl rfl ((hB.trans hC).cell0 hu292)
 refine Owes.mem rfl rfl rfl ?_
 intro g r wr hCr H hot
 have hC:=hC268.trans hCr
 obtain ⟨F,rfl⟩:=fr (r:=r) (l:=[(59,.agg #[.int .i64 (x0.Objects),z6,z7,z9,z8]),(60,.int .i64 (s1_7)),(71,u290)]) ⟨(H 9 (by decide +kernel) 59 rfl),(H 10 (by decide +kernel) 60 rfl),(H 21 (by decide +kernel) 71 rfl),trivial⟩
 exact OpW.own (op_callF Tryz.func136 rfl rfl) (spec_l25Pull_calls (kp _ za (hB.trans hC)) (kp _ zb (hB.trans hC)) (kp _ zd (hB.trans hC)) (kp _ zc (hB.trans hC)) (kp _ hr293 (hB.trans hC)) hy296)
 refine Owes.call (f:=150) rfl rfl rfl ?_
 intro g r wr hCr H hot
 have hC:=hC268.trans hCr
 have o299:OwnV (sOwn 2 (sInt .i64)) (y295) _ _ _:=H 22 (by decide +kernel) 72 rfl
 generalize hvv297:r 72=v297 at o299
 obtain ⟨F,rfl⟩:=fr (r:=r) (l:=[(58,u274),(72,v297)]) ⟨(H 8 (by decide +kernel) 58 rfl),hvv297,trivial⟩
 exact ⟨_,op_callF Tryz.func150 rfl rfl,spec_l05Place_calls (kp _ hr277 (hB.trans hC)) ((Le.own (Le.refl _) 2).le o299.1) hy301⟩
 refine Owes.mem rfl rfl rfl ?_
 intro g r wr hCr H hot
 have hC:=hC268.trans hCr
 obtain ⟨F,rfl⟩:=fr (r:=r) (l:=[(73,.int .i64 (y300))]) ⟨(H 23 (by decide +kernel) 73 rfl),trivial⟩
 exact OpW.lit1 u22z info2 zr2 sz2 rfl rfl
 rintro g r wd305 ⟨hC306,hdone,hot,hfresh,hdis⟩
 have o299:OwnV (sOwn 2 (sInt .i64)) (y295) _ _ _:=hdone 22 (by decide) (by decide) 72 rfl
 generalize hvv297:r 72=v297 at o299
 have hfo299:=hfresh 22 (by decide)
 obtain ⟨b302,hbb302,hvb302,hr303⟩ : LitV [.int .i64 (y300)] 2 1 _ _ _:=hdone 24 (by decide) (by decide) 74 rfl
 have hlb302:wd267.heap.size≤b302:=(hfresh 24 (by decide) b302 (by rw [hbb302]; exact ms rfl)).1
 have hdd:=hdis
 obtain ⟨F,rfl⟩:=fr (r:=r) (l:=[(1,v_x1),(2,.pointer (some (⟨b1,0,none⟩))),(4,.pointer (some (⟨b8,0,none⟩))),(5,.pointer (some (⟨b47,0,none⟩))),(7,.int .i64 (s1_7)),(9,.int .i64 (s2_9)),(50,v209),(72,v297),(74,.slice (some ⟨b302,0,none⟩) 1 1)]) ⟨(hot 1 (by decide)),(hot 2 (by decide)),(hot 4 (by decide)),(hot 5 (by decide)),(hot 7 (by decide)),(hot 9 (by decide)),(hdone 0 (by decide) (by decide) 50 rfl),hvv297,hvb302,trivial⟩
 obtain ⟨f298,hgf298⟩ : ∃ k,k=g 22:=⟨_,rfl⟩
 rw [← hgf298] at o299 hfo299
 replace o299:OE [] w.heap.size wd305 (sOwn 2 (sInt .i64)) [v297] (y295) f298:=⟨o299.1,o299.2,fun b hb=>.inr (Nat.le_trans (hB.trans hC268).size (hfo299 b hb).1)⟩
 have d316:Dis f298 f210:=dl (fun b hb=>(hfo299 b hb).1) (sl _ (kp _ o211.1 hC268))
 have d327:Dis [b302] f210:=dl (onw hlb302) (sl _ (kp _ o211.1 hC268))
 have hT329:=(hC268.trans hC306)
 replace hr4:=kr hr4 hT329
 replace hr11:=kr hr11 hT329
 replace o22:=ko o22 hT329
 replace o25:=ko o25 hT329
 replace o28:=ko o28 hT329
 replace o31:=ko o31 hT329
 replace hr62:=kr hr62 hT329
 replace o68:=ko o68 hT329
 replace o151:=ko o151 hT329
 replace o211:=ko o211 hT329
 replace hB:=(hB.trans hT329)
 obtain ⟨n336,hn337,ho⟩:=bs ho
 have hn337a:=fits_some hn337
 refine WL.append1 (E:=(sInt .i64)) _ _ u22z info2 zr2 sz2 rfl rfl rfl (ko o211 (cr [] wd305)) rfl (kr hr303 (cr [] wd305)) ⟨rfl,rfl⟩ List.nodup_nil (fun _ h=>nomatch h) (fun _ h=>nomatch h) (by rw [by2]; exact hn337a.1) hn337a.2 (hB.trans (cr [] wd305)).size fun v330 wd331 f332 hC333 o334 hs335=>?_
 have d338:Dis f332 [b1]:=dis_upd hs335 (d220).symm (fun _ h=>nomatch h) (one_lt (Row.lt (kr hr4 (cr [] wd305))))
 have d339:Dis f332 [b8]:=dis_upd hs335 (d228).symm (fun _ h=>nomatch h) (one_lt (Row.lt (kr hr11 (cr [] wd305))))
 have d340:Dis f332 f21:=dis_upd hs335 (d235).symm (fun _ h=>nomatch h) (sl _ (kp _ o22.1 (cr [] wd305)))
 have d341:Dis f332 f24:=dis_upd hs335 (d241).symm (fun _ h=>nomatch h) (sl _ (kp _ o25.1 (cr [] wd305)))
 have d342:Dis f332 f27:=dis_upd hs335 (d246).symm (fun _ h=>nomatch h) (sl _ (kp _ o28.1 (cr [] wd305)))
 have d343:Dis f332 f30:=dis_upd hs335 (d250).symm (fun _ h=>nomatch h) (sl _ (kp _ o31.1 (cr [] wd305)))
 have d344:Dis f332 [b47]:=dis_upd hs335 (d253).symm (fun _ h=>nomatch h) (one_lt (Row.lt (kr hr62 (cr [] wd305))))
 have d345:Dis f332 f67:=dis_upd hs335 (d255).symm (fun _ h=>nomatch h) (sl _ (kp _ o68.1 (cr [] wd305)))
 have d346:Dis f332 f150:=dis_upd hs335 (d256).symm (fun _ h=>nomatch h) (sl _ (kp _ o151.1 (cr [] wd305)))
 have hT349:=((cr [] wd305).nil (G:=f210)).trans hC333
 replace hr4:=Row.keep hr4 hT349 (d220 _ (ms rfl))
 replace hr11:=Row.keep hr11 hT349 (d228 _ (ms rfl))
 replace o22:=okp o22 hT349 d235
 replace o25:=okp o25 hT349 d241
 replace o28:=okp o28 hT349 d246
 replace o31:=okp o31 hT349 d250
 replace hr62:=Row.keep hr62 hT349 (d253 _ (ms rfl))
 replace o68:=okp o68 hT349 d255
 replace o151:=okp o151 hT349 d256
 replace o299:=okp o299 hT349 d316
 replace hr303:=Row.keep hr303 hT349 (d327 _ (ms rfl))
 replace hB:=hB.then hT349 o211.2.2
 refine wv (v:=v330) rfl (oa _) ?_
 refine inBlk_n ?_
 refine anz ?_
 refine Wq rfl (cr [] wd331) ?_
 refine qv (v:=.int .i64 (s2_9)) rfl (fun _ _=>om _) ?_
 refine qv (v:=.int .i64 (w64 (s2_9 + (1:Int)))) rfl (fun _ _=>op_bin rfl rfl bin_add) ?_
 refine qv (v:=.int .i64 (w64 (s2_9 + (1:Int)))) rfl (fun _ _=>oa _) ?_
 intro wd350 hC351
 cases ho
 exact ⟨_,_,(hB.trans hC351),(kr hr4 hC351),(kr hr11 hC351),(ko o22 hC351),(ko o25 hC351),(ko o28 hC351),(ko o31 hC351),(kr hr62 hC351),(ko o68 hC351),(ko o151 hC351),(ko o334 hC351),(d212),(d213),(d214),(d215),(d216),(d217),(d218),(d219),((d338).symm),(d221),(d222),(d223),(d224),(d225),(d226),(d227),((d339).symm),(d229),(d230),(d231),(d232),(d233),(d234),((d340).symm),(d236),(d237),(d238),(d239),(d240),((d341).symm),(d242),(d243),(d244),(d245),((d342).symm),(d247),(d248),(d249),((d343).symm),(d251),(d252),((d344).symm),(d254),((d345).symm),((d346).symm),fr ⟨rfl,rfl,rfl,rfl,rfl,rfl,rfl,trivial⟩⟩
 intro hb269
 rw [hb269] at ho
 refine W_exit ?_
 refine andThen_x ?_
 cases ho
 exact ⟨rfl,⟨_,_,(hB.trans hC268),(kr hr4 hC268),(kr hr11 hC268),(ko o22 hC268),(ko o25 hC268),(ko o28 hC268),(ko o31 hC268),(kr hr62 hC268),(ko o68 hC268),(ko o151 hC268),(ko o211 hC268),(d212),(d213),(d214),(d215),(d216),(d217),(d218),(d219),(d220),(d221),(d222),(d223),(d224),(d225),(d226),(d227),(d228),(d229),(d230),(d231),(d232),(d233),(d234),(d235),(d236),(d237),(d238),(d239),(d240),(d241),(d242),(d243),(d244),(d245),(d246),(d247),(d248),(d249),(d250),(d251),(d252),(d253),(d254),(d255),(d256),fr ⟨rfl,rfl,rfl,rfl,rfl,rfl,rfl,trivial⟩⟩⟩
 rintro ⟨s2_8,s2_9⟩ _ wd352 ⟨v209,f210,hB,hr4,hr11,o22,o25,o28,o31,hr62,o68,o151,o211,d212,d213,d214,d215,d216,d217,d218,d219,d220,d221,d222,d223,d224,d225,d226,d227,d228,d229,d230,d231,d232,d233,d234,d235,d236,d237,d238,d239,d240,d241,d242,d243,d244,d245,d246,d247,d248,d249,d250,d251,d252,d253,d254,d255,d256,F,rfl⟩ ho
 dsimp only at ho
 refine anz ?_
 refine W_region rfl ?_
 refine wv (v:=.pointer (some (⟨b47,6,none⟩))) rfl (op_fieldAddrR u62 rfl info23 ne23 rfl rfl) ?_
 refine wv (v:=v149) rfl (oldz u23z rfl rfl ((kr hr62 (cr [] wd352)).at.cell (j:=6) rfl)) ?_
 refine wv (v:=v209) rfl (om _) ?_
 refine WL.lit1 u23z info22 zr22 sz22 (STy.one _ o211.1 _ (ms rfl)) fun b353 wd354 hC355 hr356 hl357=>?_
 replace hr356:Row wd354 b353 [v209] 22:=hr356
 have d365:Dis [b353] [b47]:=dl (onw hl357) (one_lt (Row.lt (kr hr62 (cr [] wd352))))
 have d367:Dis [b353] f150:=dl (onw hl357) (sl _ (kp _ o151.1 (cr [] wd352)))
 have hT369:=(cr [] wd352).trans hC355
 replace hr4:=kr hr4 hT369
 replace hr11:=kr hr11 hT369
 replace o22:=ko o22 hT369
 replace o25:=ko o25 hT369
 replace o28:=ko o28 hT369
 replace o31:=ko o31 hT369
 replace hr62:=kr hr62 hT369
 replace o68:=ko o68 hT369
 replace o151:=ko o151 hT369
 replace o211:=ko o211 hT369
 replace hB:=(hB.trans hT369)
 obtain ⟨n376,hn377,ho⟩:=bs ho
 have hn377a:=fits_some hn377
 refine WL.append1 (E:=(sOwn 2 (sInt .i64))) _ _ u23z info22 zr22 sz22 rfl rfl rfl (ko o151 (cr [] wd354)) rfl (kr hr356 (cr [] wd354)) (kp _ o211.1 (cr [] wd354)) o211.2.1 o211.2.2 (d256).symm (by rw [by22]; exact hn377a.1) hn377a.2 (hB.trans (cr [] wd354)).size fun v370 wd371 f372 hC373 o374 hs375=>?_
 have d378:Dis f372 [b1]:=dis_upd hs375 (d219).symm (d220).symm (one_lt (Row.lt (kr hr4 (cr [] wd354))))
 have d379:Dis f372 [b8]:=dis_upd hs375 (d227).symm (d228).symm (one_lt (Row.lt (kr hr11 (cr [] wd354))))
 have d380:Dis f372 f21:=dis_upd hs375 (d234).symm (d235).symm (sl _ (kp _ o22.1 (cr [] wd354)))
 have d381:Dis f372 f24:=dis_upd hs375 (d240).symm (d241).symm (sl _ (kp _ o25.1 (cr [] wd354)))
 have d382:Dis f372 f27:=dis_upd hs375 (d245).symm (d246).symm (sl _ (kp _ o28.1 (cr [] wd354)))
 have d383:Dis f372 f30:=dis_upd hs375 (d249).symm (d250).symm (sl _ (kp _ o31.1 (cr [] wd354)))
 have d384:Dis f372 [b47]:=dis_upd hs375 (d252).symm (d253).symm (one_lt (Row.lt (kr hr62 (cr [] wd354))))
 have d385:Dis f372 f67:=dis_upd hs375 (d254).symm (d255).symm (sl _ (kp _ o68.1 (cr [] wd354)))
 have hT388:=((cr [] wd354).nil (G:=f150)).trans hC373
 replace hr4:=Row.keep hr4 hT388 (d219 _ (ms rfl))
 replace hr11:=Row.keep hr11 hT388 (d227 _ (ms rfl))
 replace o22:=okp o22 hT388 d234
 replace o25:=okp o25 hT388 d240
 replace o28:=okp o28 hT388 d245
 replace o31:=okp o31 hT388 d249
 replace hr62:=Row.keep hr62 hT388 (d252 _ (ms rfl))
 replace o68:=okp o68 hT388 d254
 replace hr356:=Row.keep hr356 hT388 (d367 _ (ms rfl))
 replace hB:=hB.then hT388 o151.2.2
 refine wv (v:=.pointer (some (⟨b47,6,none⟩))) rfl (op_fieldAddrR u62 rfl info23 ne23 rfl rfl) ?_
 refine WL.storeRow (j:=6) info23 sz23 (kr hr62 (cr [] wd371)) (Nat.le_of_ble_eq_true rfl) rfl rfl (STy.one _ o374.1 _ (ms rfl)) fun wd389 hC390 hr391=>?_
 replace hr391:Row wd389 b47 [.int .i64 (y16.Objects),v20,v23,v26,v29,v66,v370] 62:=hr391
 have hT392:=((cr [] wd371).nil (G:=[b47])).trans hC390
 replace hr4:=Row.keep hr4 hT392 (d217 _ (ms rfl))
 replace hr11:=Row.keep hr11 hT392 (d225 _ (ms rfl))
 replace o22:=okp o22 hT392 d232
 replace o25:=okp o25 hT392 d238
 replace o28:=okp o28 hT392 d243
 replace o31:=okp o31 hT392 d247
 replace o68:=okp o68 hT392 (d251).symm
 replace hr356:=Row.keep hr356 hT392 (d365 _ (ms rfl))
 replace o374:=okp o374 hT392 d384
 replace hB:=hB.then hT392 (one_then lo52)
 refine inBlk_n ?_
 refine anz ?_
 refine Wq rfl (cr [] wd389) ?_
 refine qv (v:=.int .i64 (s1_7)) rfl (fun _ _=>om _) ?_
 refine qv (v:=.int .i64 (w64 (s1_7 + (1:Int)))) rfl (fun _ _=>op_bin rfl rfl bin_add) ?_
 refine qv (v:=.int .i64 (w64 (s1_7 + (1:Int)))) rfl (fun _ _=>oa _) ?_
 intro wd393 hC394
 cases ho
 exact ⟨_,_,(hB.trans hC394),(kr hr4 hC394),(kr hr11 hC394),(ko o22 hC394),(ko o25 hC394),(ko o28 hC394),(ko o31 hC394),(kr hr391 hC394),(ko o68 hC394),(ko o374 hC394),(d212),(d213),(d214),(d215),(d216),(d217),(d218),((d378).symm),(d221),(d222),(d223),(d224),(d225),(d226),((d379).symm),(d229),(d230),(d231),(d232),(d233),((d380).symm),(d236),(d237),(d238),(d239),((d381).symm),(d242),(d243),(d244),((d382).symm),(d247),(d248),((d383).symm),(d251),((d384).symm),((d385).symm),fr ⟨rfl,rfl,rfl,rfl,rfl,trivial⟩⟩
 intro hb191
 rw [hb191] at ho
 refine W_exit ?_
 refine andThen_x ?_
 cases ho
 exact ⟨rfl,⟨_,_,(hB.trans hC190),(kr hr4 hC190),(kr hr11 hC190),(ko o22 hC190),(ko o25 hC190),(ko o28 hC190),(ko o31 hC190),(kr hr62 hC190),(ko o68 hC190),(ko o151 hC190),(d152),(d153),(d154),(d155),(d156),(d157),(d158),(d159),(d160),(d161),(d162),(d163),(d164),(d165),(d166),(d167),(d168),(d169),(d170),(d171),(d172),(d173),(d174),(d175),(d176),(d177),(d178),(d179),(d180),(d181),(d182),(d183),(d184),(d185),(d186),(d187),fr ⟨rfl,rfl,rfl,rfl,rfl,trivial⟩⟩⟩
 rintro ⟨s1_7,s1_b47_6⟩ _ wd395 ⟨v149,f150,hB,hr4,hr11,o22,o25,o28,o31,hr62,o68,o151,d152,d153,d154,d155,d156,d157,d158,d159,d160,d161,d162,d163,d164,d165,d166,d167,d168,d169,d170,d171,d172,d173,d174,d175,d176,d177,d178,d179,d180,d181,d182,d183,d184,d185,d186,d187,F,rfl⟩ ho
 dsimp only at ho
 refine anz ?_
 refine wq ?_
 refine W_region rfl ?_
 refine wv (v:=.agg #[.int .i64 (y16.Objects),v20,v23,v26,v29,v66,v149]) rfl (op_loadAgg u62 rfl info62 (by rw [sz62]; rfl) rfl (kr hr62 (cr [] wd395)).at) ?_
 refine WL.storeAll (us:=[.int .i64 (y16.Objects),v20,v23,v26,v29,v66,v149]) info62 (by rw [sz62]; rfl) (kr hr11 (cr [] wd395)) rfl rfl rfl (by intro u hu; simp only [List.mem_cons,List.mem_nil_iff,or_false] at hu; rcases hu with rfl | rfl | rfl | rfl | rfl | rfl | rfl <;> first | exact rfl | exact (STy.one _ o22.1 _ (ms rfl)) | exact (STy.one _ o25.1 _ (ms rfl)) | exact (STy.one _ o28.1 _ (ms rfl)) | exact (STy.one _ o31.1 _ (ms rfl)) | exact (STy.one _ o68.1 _ (ms rfl)) | exact (STy.one _ o151.1 _ (ms rfl))) fun wd396 hC397 hr398=>?_
 replace hr398:Row wd396 b8 [.int .i64 (y16.Objects),v20,v23,v26,v29,v66,v149] 62:=hr398
 have hT399:=((cr [] wd395).nil (G:=[b8])).trans hC397
 replace hr4:=Row.keep hr4 hT399 (d152 _ (ms rfl))
 replace o22:=okp o22 hT399 (d160).symm
 replace o25:=okp o25 hT399 (d161).symm
 replace o28:=okp o28 hT399 (d162).symm
 replace o31:=okp o31 hT399 (d163).symm
 replace hr62:=Row.keep hr62 hT399 ((d164).symm _ (ms rfl))
 replace o68:=okp o68 hT399 (d165).symm
 replace o151:=okp o151 hT399 (d166).symm
 replace hB:=hB.then hT399 (one_then lo13)
 refine anz ?_
 cases ho
 exact W_ret ⟨_,res_c Tryz.results104 u62 rfl info62 (by rw [sz62]; rfl) rfl (kr hr398 (cr [] wd396)).at,_,_,_,_,_,_,_,_,_,_,_,_,rfl,(hB.trans (cr [] wd396)),(ko o22 (cr [] wd396)),(ko o25 (cr [] wd396)),(ko o28 (cr [] wd396)),(ko o31 (cr [] wd396)),(ko o68 (cr [] wd396)),(ko o151 (cr [] wd396)),(d167),(d168),(d169),(d171),(d172),(d173),(d174),(d176),(d177),(d178),(d180),(d181),(d183),(d184),(d187)⟩

noncomputable def spec_l25Tops_L0 (x0:MCategory) (x1:(List (List (List Int)))) (s0_5:(List Int)) (s0_6:Int):Option (Out ((List Int)×Int) ((List Int))):=
 (bif decide (s0_6 < (x1.length:Int)) then ((idx x1 (s0_6))>>=fun e25=>((spec_l25Out x0 (s0_6))>>=fun y32=>((spec_l05Place e25 y32)>>=fun y37=>((fits 8 (s0_5.length + 1))>>=fun n57=>(some (Out.norm (s0_5++[y37],w64 (s0_6 + (1:Int))))))))) else (some (Out.exit 0 (s0_5,s0_6))))
noncomputable def spec_l25Tops (x0:MCategory) (x1:(List (List (List Int)))):Option ((List Int)):=
 retM (S:=Unit) (lbind (blockM 0 (loopM (fun s=>spec_l25Tops_L0 x0 x1 s.1 s.2) (([]:(List Int)),(0:Int)))) (fun (s0_5,s0_6)=>(some (Out.ret (s0_5)))))
abbrev spec_l25Tops_post (w:World) (x:((List Int))) (e:Ending) (w':World):Prop:=∃ (v0:Value) (f0:List Nat),e = .returned (v0)∧Chg [] w w'∧(sImm (sInt .i64)).rep w'.heap [v0] x f0∧(∀ b∈f0,w.heap.size≤b)
abbrev spec_l25Tops_T (w:World) (x:((List Int))) (r:Nat→Value) (w':World):Prop:=∃ v,(∀ a:Act,a.tmps.size=26→rho a=r→(results Tryz.f175 a.tmps).run Tryz.prog w' = .ok v w')∧spec_l25Tops_post w x (.returned v) w'
theorem spec_l25Tops_calls {w:World} {x0:MCategory} {z6:Value} {zh:List Nat} {z7:Value} {zg:List Nat} {z9:Value} {zf:List Nat} {z8:Value} {ze:List Nat} {x1:(List (List (List Int)))} {v_x1:Value} {f_x1:List Nat} (za:(sImm (sInt .i64)).rep w.heap [z6] x0.From zh) (zb:(sImm (sInt .i64)).rep w.heap [z7] x0.To zg) (zd:(sImm (sInt .i64)).rep w.heap [z9] x0.Identity zf) (zc:(sImm (sImm (sInt .i64))).rep w.heap [z8] x0.Composites ze) (h_x1:(sImm (sImm (sImm (sInt .i64)))).rep w.heap [v_x1] x1 f_x1) {y:((List Int))} (hm:spec_l25Tops x0 x1=some y) :
  Calls Tryz.prog 175 #[.agg #[.int .i64 (x0.Objects),z6,z7,z9,z8],v_x1] w (spec_l25Tops_post w y):=by
 refine calls_of_M (S:=Unit) (args:=[.agg #[.int .i64 (x0.Objects),z6,z7,z9,z8],v_x1]) Tryz.func175 rfl Tryz.ntmps175 (Nat.le_of_ble_eq_true rfl) (retM_some hm) ?_
 clear hm
 intro o ho
 have hB:Chg [] w w:=cr _ _
 refine wq ?_
 refine W_region rfl ?_
 refine WL.box fun b1 wd2 hC3 hr4 hl5=>?_
 replace hr4:Row wd2 b1 [.int .i64 (x0.Objects),z6,z7,z9,z8] 27:=hr4
 have hT7:=(cr [] w).trans hC3
 replace hB:=(hB.trans hT7)
 refine wv (v:=.slice none 0 0) rfl (oa _) ?_
 refine anz ?_
 refine wq ?_
 refine W_region rfl ?_
 refine WL.lit0 (sInt .i64) u22z info2 fun v8 wd9 f10 hC11 o12=>?_
 have d13:Dis f10 [b1]:=dl (ofr o12) (one_lt (Row.lt (kr hr4 (cr [] wd2))))
 replace o12:=OE.low (G:=[]) o12 (hB.trans (cr [] wd2)).size
 have hT14:=(cr [] wd2).trans hC11
 replace hr4:=kr hr4 hT14
 replace hB:=(hB.trans hT14)
 refine wv (v:=v8) rfl (oa _) ?_
 refine anz ?_
 refine wq ?_
 refine wq ?_
 refine Wq rfl (cr [] wd9) ?_
 refine qv (v:=.int .i64 ((0:Int))) rfl (fun _ _=>oa _) ?_
 intro wd15 hC16
 refine anz ?_
 refine W_for (S1:=(List Int)×Int) (fun s r w'=>match s with | (s0_5,s0_6)=>∃ (v17:Value) (f18:List Nat),Chg [] w w'∧Row w' b1 [.int .i64 (x0.Objects),z6,z7,z9,z8] 27∧OE [] w.heap.size w' (sOwn 2 (sInt .i64)) [v17] (s0_5) f18∧Dis [b1] f18∧∃ F,r=updL F [(1,v_x1),(2,.pointer (some (⟨b1,0,none⟩))),(5,v17),(6,.int .i64 (s0_6))]) (T:=spec_l25Tops_T w) ho ⟨_,_,(hB.trans hC16),(kr hr4 hC16),(ko o12 hC16),((d13).symm),fr ⟨rfl,rfl,rfl,rfl,trivial⟩⟩ ?_ ?_ ?_
 intro x r w' ho hx; subst ho; exact hx
 rintro ⟨s0_5,s0_6⟩ _ wd21 ⟨v17,f18,hB,hr4,o19,d20,F,rfl⟩ o ho
 replace ho:spec_l25Tops_L0 x0 x1 s0_5 s0_6=some o:=ho
 unfold spec_l25Tops_L0 at ho
 refine wq ?_
 refine wq ?_
 refine Wq rfl (cr [] wd21) ?_
 refine qv (v:=.int .i64 (s0_6)) rfl (fun _ _=>om _) ?_
 refine qv (v:=v_x1) rfl (fun _ _=>om _) ?_
 refine qv (v:=.int .i64 ((x1.length:Int))) rfl (fun _ hC=>op_lenI u28 (kp _ h_x1 (hB.trans hC))) ?_
 refine qv (v:=.bool (decide (s0_6 < (x1.length:Int)))) rfl (fun _ _=>op_bin rfl rfl bin_lss) ?_
 intro wd22 hC23
 refine anz ?_
 refine W_cond (b:=decide (s0_6 < (x1.length:Int))) rfl ?_ ?_
 intro hb24
 rw [hb24] at ho
 refine W_skip ?_
 refine anz ?_
 refine wq ?_
 refine W_block ?_
 obtain ⟨e25,hx26e,ho⟩:=bs ho
 have hx26:=idx_some hx26e
 obtain ⟨u27,fu28,hu29,hr30,hs31⟩:=one_get rfl h_x1 hx26.1 hx26.2
 obtain ⟨y32,hy33,ho⟩:=bs ho
 obtain ⟨y37,hy38,ho⟩:=bs ho
 refine W_any (m:=10) (U:=[[],[],[],[],[],[],[],[],[],[]]) (S:=[⟨true,pl fun _ _ u=>u=(v17:Value)⟩,⟨true,pl fun _ _ u=>u=(v_x1:Value)⟩,⟨true,pl fun _ _ u=>u=(.int .i64 (s0_6):Value)⟩,⟨true,pl fun _ _ u=>u=(.pointer (some (elA (v_x1) 1 (s0_6))):Value)⟩,⟨true,pl fun _ _ u=>u=(u27:Value)⟩,⟨true,pl fun _ _ u=>u=(.agg #[.int .i64 (x0.Objects),z6,z7,z9,z8]:Value)⟩,⟨true,pl fun _ _ u=>u=(.int .i64 (s0_6):Value)⟩,⟨true,pl (OwnV (sOwn 2 (sInt .i64)) (y32))⟩,⟨true,pl fun _ _ u=>u=(.int .i64 (y37):Value)⟩,⟨true,pl <| LitV [.int .i64 (y37)] 2 1⟩]) (Z:=[]) hmix rfl (by decide) (by decide +kernel) (fun _ _ _ h=>np_out h) (by decide) rfl (by decide +kernel) (stable_all <| stable_cons stable_val (stable_cons stable_val (stable_cons stable_val (stable_cons stable_val (stable_cons stable_val (stable_cons stable_val (stable_cons stable_val (stable_cons stable_own (stable_cons stable_val (stable_cons stable_lit ( stable_nil))))))))))) ?_ ?_
 refine owes_cons ?_ ( owes_cons ?_ ( owes_cons ?_ ( owes_cons ?_ ( owes_cons ?_ ( owes_cons ?_ ( owes_cons ?_ ( owes_cons ?_ ( owes_cons ?_ ( owes_cons ?_ ( owes_nil))))))))))
 refine Owes.val rfl rfl rfl ?_
 intro g r wr hCr H hot
 have hC:=hC23.trans hCr
 obtain ⟨F,rfl⟩:=fr (r:=r) (l:=[(5,v17)]) ⟨(hot 5 (by decide)),trivial⟩
 exact om _
 refine Owes.val rfl rfl rfl ?_
 intro g r wr hCr H hot
 have hC:=hC23.trans hCr
 obtain ⟨F,rfl⟩:=fr (r:=r) (l:=[(1,v_x1)]) ⟨(hot 1 (by decide)),trivial⟩
 exact om _
 refine Owes.val rfl rfl rfl ?_
 intro g r wr hCr H hot
 have hC:=hC23.trans hCr
 obtain ⟨F,rfl⟩:=fr (r:=r) (l:=[(6,.int .i64 (s0_6))]) ⟨(hot 6 (by decide)),trivial⟩
 exact om _
 refine Owes.val rfl rfl rfl ?_
 intro g r wr hCr H hot
 have hC:=hC23.trans hCr
 obtain ⟨F,rfl⟩:=fr (r:=r) (l:=[(15,v_x1),(16,.int .i64 (s0_6))]) ⟨(H 1 (by decide +kernel) 15 rfl),(H 2 (by decide +kernel) 16 rfl),trivial⟩
 exact op_indexI u28 info23 sz23 rfl (kp _ h_x1 (hB.trans hC)) rfl hx26.1 hx26.2
 refine Owes.val rfl rfl rfl ?_
 intro g r wr hCr H hot
 have hC:=hC23.trans hCr
 obtain ⟨F,rfl⟩:=fr (r:=r) (l:=[(17,.pointer (some (elA (v_x1) 1 (s0_6))))]) ⟨(H 3 (by decide +kernel) 17 rfl),trivial⟩
 exact oldz u23z rfl rfl ((hB.trans hC).cell0 hu29)
 refine Owes.val rfl rfl rfl ?_
 intro g r wr hCr H hot
 have hC:=hC23.trans hCr
 obtain ⟨F,rfl⟩:=fr (r:=r) (l:=[(2,.pointer (some (⟨b1,0,none⟩)))]) ⟨(hot 2 (by decide)),trivial⟩
 exact op_loadAgg u27z rfl info27 (by rw [sz27]; rfl) rfl (kr hr4 hC).at
 refine Owes.val rfl rfl rfl ?_
 intro g r wr hCr H hot
 have hC:=hC23.trans hCr
 obtain ⟨F,rfl⟩:=fr (r:=r) (l:=[(6,.int .i64 (s0_6))]) ⟨(hot 6 (by decide)),trivial⟩
 exact om _
 refine Owes.mem rfl rfl rfl ?_
 intro g r wr hCr H hot
 have hC:=hC23.trans hCr
 obtain ⟨F,rfl⟩:=fr (r:=r) (l:=[(19,.agg #[.int .i64 (x0.Objects),z6,z7,z9,z8]),(20,.int .i64 (s0_6))]) ⟨(H 5 (by decide +kernel) 19 rfl),(H 6 (by decide +kernel) 20 rfl),trivial⟩
 exact OpW.own (op_callF Tryz.func135 rfl rfl) (spec_l25Out_calls (kp _ za (hB.trans hC)) (kp _ zb (hB.trans hC)) (kp _ zd (hB.trans hC)) (kp _ zc (hB.trans hC)) hy33)
 refine Owes.call (f:=150) rfl rfl rfl ?_
 intro g r wr hCr H hot
 have hC:=hC23.trans hCr
 have o36:OwnV (sOwn 2 (sInt .i64)) (y32) _ _ _:=H 7 (by decide +kernel) 21 rfl
 generalize hvv34:r 21=v34 at o36
 obtain ⟨F,rfl⟩:=fr (r:=r) (l:=[(18,u27),(21,v34)]) ⟨(H 4 (by decide +kernel) 18 rfl),hvv34,trivial⟩
 exact ⟨_,op_callF Tryz.func150 rfl rfl,spec_l05Place_calls (kp _ hr30 (hB.trans hC)) ((Le.own (Le.refl _) 2).le o36.1) hy38⟩
 refine Owes.mem rfl rfl rfl ?_
 intro g r wr hCr H hot
 have hC:=hC23.trans hCr
 obtain ⟨F,rfl⟩:=fr (r:=r) (l:=[(22,.int .i64 (y37))]) ⟨(H 8 (by decide +kernel) 22 rfl),trivial⟩
 exact OpW.lit1 u22z info2 zr2 sz2 rfl rfl
 rintro g r wd42 ⟨hC43,hdone,hot,hfresh,hdis⟩
 have o36:OwnV (sOwn 2 (sInt .i64)) (y32) _ _ _:=hdone 7 (by decide) (by decide) 21 rfl
 generalize hvv34:r 21=v34 at o36
 have hfo36:=hfresh 7 (by decide)
 obtain ⟨b39,hbb39,hvb39,hr40⟩ : LitV [.int .i64 (y37)] 2 1 _ _ _:=hdone 9 (by decide) (by decide) 23 rfl
 have hlb39:wd22.heap.size≤b39:=(hfresh 9 (by decide) b39 (by rw [hbb39]; exact ms rfl)).1
 have hdd:=hdis
 obtain ⟨F,rfl⟩:=fr (r:=r) (l:=[(1,v_x1),(2,.pointer (some (⟨b1,0,none⟩))),(6,.int .i64 (s0_6)),(14,v17),(21,v34),(23,.slice (some ⟨b39,0,none⟩) 1 1)]) ⟨(hot 1 (by decide)),(hot 2 (by decide)),(hot 6 (by decide)),(hdone 0 (by decide) (by decide) 14 rfl),hvv34,hvb39,trivial⟩
 obtain ⟨f35,hgf35⟩ : ∃ k,k=g 7:=⟨_,rfl⟩
 rw [← hgf35] at o36 hfo36
 replace o36:OE [] w.heap.size wd42 (sOwn 2 (sInt .i64)) [v34] (y32) f35:=⟨o36.1,o36.2,fun b hb=>.inr (Nat.le_trans (hB.trans hC23).size (hfo36 b hb).1)⟩
 have d45:Dis f35 f18:=dl (fun b hb=>(hfo36 b hb).1) (sl _ (kp _ o19.1 hC23))
 have d48:Dis [b39] f18:=dl (onw hlb39) (sl _ (kp _ o19.1 hC23))
 have hT50:=(hC23.trans hC43)
 replace hr4:=kr hr4 hT50
 replace o19:=ko o19 hT50
 replace hB:=(hB.trans hT50)
 obtain ⟨n57,hn58,ho⟩:=bs ho
 have hn58a:=fits_some hn58
 refine WL.append1 (E:=(sInt .i64)) _ _ u22z info2 zr2 sz2 rfl rfl rfl (ko o19 (cr [] wd42)) rfl (kr hr40 (cr [] wd42)) ⟨rfl,rfl⟩ List.nodup_nil (fun _ h=>nomatch h) (fun _ h=>nomatch h) (by rw [by2]; exact hn58a.1) hn58a.2 (hB.trans (cr [] wd42)).size fun v51 wd52 f53 hC54 o55 hs56=>?_
 have d59:Dis f53 [b1]:=dis_upd hs56 (d20).symm (fun _ h=>nomatch h) (one_lt (Row.lt (kr hr4 (cr [] wd42))))
 have hT62:=((cr [] wd42).nil (G:=f18)).trans hC54
 replace hr4:=Row.keep hr4 hT62 (d20 _ (ms rfl))
 replace o36:=okp o36 hT62 d45
 replace hr40:=Row.keep hr40 hT62 (d48 _ (ms rfl))
 replace hB:=hB.then hT62 o19.2.2
 refine wv (v:=v51) rfl (oa _) ?_
 refine inBlk_n ?_
 refine anz ?_
 refine Wq rfl (cr [] wd52) ?_
 refine qv (v:=.int .i64 (s0_6)) rfl (fun _ _=>om _) ?_
 refine qv (v:=.int .i64 (w64 (s0_6 + (1:Int)))) rfl (fun _ _=>op_bin rfl rfl bin_add) ?_
 refine qv (v:=.int .i64 (w64 (s0_6 + (1:Int)))) rfl (fun _ _=>oa _) ?_
 intro wd63 hC64
 cases ho
 exact ⟨_,_,(hB.trans hC64),(kr hr4 hC64),(ko o55 hC64),((d59).symm),fr ⟨rfl,rfl,rfl,rfl,trivial⟩⟩
 intro hb24
 rw [hb24] at ho
 refine W_exit ?_
 refine andThen_x ?_
 cases ho
 exact ⟨rfl,⟨_,_,(hB.trans hC23),(kr hr4 hC23),(ko o19 hC23),(d20),fr ⟨rfl,rfl,rfl,rfl,trivial⟩⟩⟩
 rintro ⟨s0_5,s0_6⟩ _ wd65 ⟨v17,f18,hB,hr4,o19,d20,F,rfl⟩ ho
 dsimp only at ho
 refine anz ?_
 refine wq ?_
 refine Wq rfl (cr [] wd65) ?_
 refine qv (v:=v17) rfl (fun _ _=>om _) ?_
 refine qv (v:=v17) rfl (fun _ _=>oa _) ?_
 intro wd66 hC67
 refine anz ?_
 cases ho
 exact W_ret ⟨_,res_1 Tryz.results175,_,_,rfl,(hB.trans hC67),((Le.own (Le.refl _) 2).le (kp _ o19.1 hC67)),(fun b hb=>low_in (low_wk o19.2.2) b hb)⟩

noncomputable def spec_l27Make (x0:MCategory):Option (ML27Table×Bool):=
 retM (S:=Unit) ((spec_l25Lists x0)>>=fun y24=>(bif !(y24.2) then (some (Out.ret (((ML27Table.mk (MCategory.mk ((0:Int)) ([]) ([]) ([]) ([])) ([]) ([]) ([])),false)))) else ((spec_l25Make x0 y24.1)>>=fun y43=>((spec_l25Tops x0 y24.1)>>=fun y63=>(some (Out.ret (((ML27Table.mk x0 y24.1 y43.Actions y63),true))))))))
abbrev spec_l27Make_post (zh:List Nat) (zg:List Nat) (zf:List Nat) (ze:List Nat) (w:World) (x:(ML27Table×Bool)) (e:Ending) (w':World):Prop:=∃ (v0:Value) (f0:List Nat) (v1:Value) (f1:List Nat) (v2:Value) (f2:List Nat) (v3:Value) (f3:List Nat) (v4:Value) (f4:List Nat) (v5:Value) (f5:List Nat) (v6:Value) (f6:List Nat),e = .returned (.tuple #[.agg #[.int .i64 x.1.C.Objects,v0,v1,v2,v3,v4,v5,v6],.bool x.2])∧Chg [] w w'∧(sImm (sInt .i64)).rep w'.heap [v0] x.1.C.From f0∧(∀ b∈f0,b∈(zh++(zg++(zf++ze))) ∨ w.heap.size≤b)∧(sImm (sInt .i64)).rep w'.heap [v1] x.1.C.To f1∧(∀ b∈f1,b∈(zh++(zg++(zf++ze))) ∨ w.heap.size≤b)∧(sImm (sInt .i64)).rep w'.heap [v2] x.1.C.Identity f2∧(∀ b∈f2,b∈(zh++(zg++(zf++ze))) ∨ w.heap.size≤b)∧(sImm (sImm (sInt .i64))).rep w'.heap [v3] x.1.C.Composites f3∧(∀ b∈f3,b∈(zh++(zg++(zf++ze))) ∨ w.heap.size≤b)∧(sImm (sImm (sImm (sInt .i64)))).rep w'.heap [v4] x.1.Lists f4∧(∀ b∈f4,b∈(zh++(zg++(zf++ze))) ∨ w.heap.size≤b)∧(sImm (sImm (sInt .i64))).rep w'.heap [v5] x.1.Pulls f5∧(∀ b∈f5,b∈(zh++(zg++(zf++ze))) ∨ w.heap.size≤b)∧(sImm (sInt .i64)).rep w'.heap [v6] x.1.Tops f6∧(∀ b∈f6,b∈(zh++(zg++(zf++ze))) ∨ w.heap.size≤b)
abbrev spec_l27Make_T (zh:List Nat) (zg:List Nat) (zf:List Nat) (ze:List Nat) (w:World) (x:(ML27Table×Bool)) (r:Nat→Value) (w':World):Prop:=∃ v,(∀ a:Act,a.tmps.size=24→rho a=r→(results Tryz.f124 a.tmps).run Tryz.prog w' = .ok v w')∧spec_l27Make_post zh zg zf ze w x (.returned v) w'
theorem spec_l27Make_calls {w:World} {x0:MCategory} {z6:Value} {zh:List Nat} {z7:Value} {zg:List Nat} {z9:Value} {zf:List Nat} {z8:Value} {ze:List Nat} (za:(sImm (sInt .i64)).rep w.heap [z6] x0.From zh) (zb:(sImm (sInt .i64)).rep w.heap [z7] x0.To zg) (zd:(sImm (sInt .i64)).rep w.heap [z9] x0.Identity zf) (zc:(sImm (sImm (sInt .i64))).rep w.heap [z8] x0.Composites ze) {y:(ML27Table×Bool)} (hm:spec_l27Make x0=some y) :
  Calls Tryz.prog 124 #[.agg #[.int .i64 (x0.Objects),z6,z7,z9,z8]] w (spec_l27Make_post zh zg zf ze w y):=by
 refine calls_of_M (S:=Unit) (args:=[.agg #[.int .i64 (x0.Objects),z6,z7,z9,z8]]) Tryz.func124 rfl Tryz.ntmps124 (Nat.le_of_ble_eq_true rfl) (retM_some hm) ?_
 clear hm
 intro o ho
 have hB:Chg [] w w:=cr _ _
 refine wq ?_
 refine W_region rfl ?_
 refine WL.box fun b1 wd2 hC3 hr4 hl5=>?_
 replace hr4:Row wd2 b1 [.int .i64 (x0.Objects),z6,z7,z9,z8] 27:=hr4
 have hT11:=(cr [] w).trans hC3
 replace za:=kp _ za hT11
 replace zb:=kp _ zb hT11
 replace zd:=kp _ zd hT11
 replace zc:=kp _ zc hT11
 replace hB:=(hB.trans hT11)
 refine WL.alloc info78 zr78 fun b12 wd13 hC14 hr15 hl16=>?_
 replace hr15:Row wd13 b12 [.int .i64 ((0:Int)),.slice none 0 0,.slice none 0 0,.slice none 0 0,.slice none 0 0,.slice none 0 0,.slice none 0 0,.slice none 0 0] 78:=hr15
 have lo17:w.heap.size≤b12:=Nat.le_trans (hB.trans (cr [] wd2)).size hl16
 have d18:Dis [b12] zh:=dl (onw hl16) (sl _ (kp _ za (cr [] wd2)))
 have d19:Dis [b12] zg:=dl (onw hl16) (sl _ (kp _ zb (cr [] wd2)))
 have d20:Dis [b12] zf:=dl (onw hl16) (sl _ (kp _ zd (cr [] wd2)))
 have d21:Dis [b12] ze:=dl (onw hl16) (sl _ (kp _ zc (cr [] wd2)))
 have d22:Dis [b12] [b1]:=dl (onw hl16) (one_lt (Row.lt (kr hr4 (cr [] wd2))))
 have hT23:=(cr [] wd2).trans hC14
 replace za:=kp _ za hT23
 replace zb:=kp _ zb hT23
 replace zd:=kp _ zd hT23
 replace zc:=kp _ zc hT23
 replace hr4:=kr hr4 hT23
 replace hB:=(hB.trans hT23)
 refine wv (v:=.bool (false)) rfl (oa _) ?_
 refine anz ?_
 refine wq ?_
 refine W_region rfl ?_
 refine wv (v:=.agg #[.int .i64 (x0.Objects),z6,z7,z9,z8]) rfl (op_loadAgg u27z rfl info27 (by rw [sz27]; rfl) rfl (kr hr4 (cr [] wd13)).at) ?_
 obtain ⟨y24,hy25,ho⟩:=bs ho
 refine WL.call rfl (op_callF Tryz.func174 rfl rfl) (spec_l25Lists_calls (kp _ za (cr [] wd13)) (kp _ zb (cr [] wd13)) (kp _ zd (cr [] wd13)) (kp _ zc (cr [] wd13)) hy25) ?_
 rintro _ wd26 ⟨v28,f29,rfl,hC27,o30,lo31⟩
 refine ⟨_,rfl,?_⟩
 have d33:Dis f29 [b12]:=dl lo31 (one_lt (Row.lt (kr hr15 (cr [] wd13))))
 have lo34 : ∀ b∈f29,b∈(zh++(zg++(zf++ze))) ∨ w.heap.size≤b:=fun b hb=>.inr (Nat.le_trans (hB.trans (cr [] wd13)).size (lo31 b hb))
 have hT35:=(cr [] wd13).trans hC27
 replace za:=kp _ za hT35
 replace zb:=kp _ zb hT35
 replace zd:=kp _ zd hT35
 replace zc:=kp _ zc hT35
 replace hr4:=kr hr4 hT35
 replace hr15:=kr hr15 hT35
 replace hB:=(hB.trans hT35)
 refine wv (v:=.tuple #[v28,.bool (y24.2)]) rfl (om _) ?_
 refine wv (v:=v28) rfl (op_extract rfl rfl) ?_
 refine wv (v:=.bool (y24.2)) rfl (op_extract rfl rfl) ?_
 refine wv (v:=v28) rfl (oa _) ?_
 refine wv (v:=.bool (y24.2)) rfl (oa _) ?_
 refine anz ?_
 refine wq ?_
 refine wq ?_
 refine Wq rfl (cr [] wd26) ?_
 refine qv (v:=.bool (y24.2)) rfl (fun _ _=>om _) ?_
 refine qv (v:=.bool (!(y24.2))) rfl (fun _ _=>op_not rfl) ?_
 intro wd36 hC37
 refine anz ?_
 refine W_cond (b:=!(y24.2)) rfl ?_ ?_
 intro hb38
 rw [hb38] at ho
 refine wq ?_
 refine W_region rfl ?_
 refine wv (v:=.agg #[.int .i64 ((0:Int)),.slice none 0 0,.slice none 0 0,.slice none 0 0,.slice none 0 0,.slice none 0 0,.slice none 0 0,.slice none 0 0]) rfl (op_build (bld78_)) ?_
 refine WL.storeAll (us:=[.int .i64 ((0:Int)),.slice none 0 0,.slice none 0 0,.slice none 0 0,.slice none 0 0,.slice none 0 0,.slice none 0 0,.slice none 0 0]) info78 (by rw [sz78]; rfl) (kr hr15 hC37) rfl rfl rfl (by intro u hu; simp only [List.mem_cons,List.mem_nil_iff,or_false] at hu; rcases hu with rfl | rfl | rfl | rfl | rfl | rfl | rfl | rfl <;> first | exact rfl) fun wd39 hC40 hr41=>?_
 replace hr41:Row wd39 b12 [.int .i64 ((0:Int)),.slice none 0 0,.slice none 0 0,.slice none 0 0,.slice none 0 0,.slice none 0 0,.slice none 0 0,.slice none 0 0] 78:=hr41
 have hT42:=(hC37.nil (G:=[b12])).trans hC40
 replace za:=STy.keep _ za hT42 (d18).symm
 replace zb:=STy.keep _ zb hT42 (d19).symm
 replace zd:=STy.keep _ zd hT42 (d20).symm
 replace zc:=STy.keep _ zc hT42 (d21).symm
 replace o30:=STy.keep _ o30 hT42 d33
 replace hr4:=Row.keep hr4 hT42 ((d22).symm _ (ms rfl))
 replace hB:=hB.then hT42 (one_then lo17)
 refine wv (v:=.bool (false)) rfl (oa _) ?_
 refine anz ?_
 cases ho
 exact W_ret ⟨_,res_c1 Tryz.results124 u78 rfl info78 (by rw [sz78]; rfl) rfl (kr hr41 (cr [] wd39)).at,_,_,_,_,_,_,_,_,_,_,_,_,_,_,rfl,(hB.trans (cr [] wd39)),nil_imm,(fun _ h=>nomatch h),nil_imm,(fun _ h=>nomatch h),nil_imm,(fun _ h=>nomatch h),nil_imm,(fun _ h=>nomatch h),nil_imm,(fun _ h=>nomatch h),nil_imm,(fun _ h=>nomatch h),nil_imm,(fun _ h=>nomatch h)⟩
 intro hb38
 rw [hb38] at ho
 refine W_skip ?_
 refine anz ?_
 refine wq ?_
 obtain ⟨y43,hy44,ho⟩:=bs ho
 obtain ⟨y63,hy64,ho⟩:=bs ho
 refine W_any (m:=9) (U:=[[],[],[],[],[],[],[],[],[]]) (S:=[⟨true,pl fun _ _ u=>u=(.agg #[.int .i64 (x0.Objects),z6,z7,z9,z8]:Value)⟩,⟨true,pl fun _ _ u=>u=(v28:Value)⟩,⟨true,pl fun _ _ u=>u=(.agg #[.int .i64 (x0.Objects),z6,z7,z9,z8]:Value)⟩,⟨true,pl fun _ _ u=>u=(v28:Value)⟩,⟨true,pl (fun f w v=>∃ (v45:Value) (f46:List Nat) (v48:Value) (f49:List Nat) (v51:Value) (f52:List Nat) (v54:Value) (f55:List Nat) (v57:Value) (f58:List Nat) (v60:Value) (f61:List Nat),v = .agg #[.int .i64 (y43.Shape.Objects),v45,v48,v51,v54,v57,v60]∧f=(f46++(f49++(f52++(f55++(f58++f61)))))∧(sOwn 2 (sInt .i64)).rep w.heap [v45] (y43.Shape.From) f46∧(sOwn 2 (sInt .i64)).rep w.heap [v48] (y43.Shape.To) f49∧(sOwn 2 (sInt .i64)).rep w.heap [v51] (y43.Shape.Identity) f52∧(sOwn 22 (sOwn 2 (sInt .i64))).rep w.heap [v54] (y43.Shape.Composites) f55∧(sOwn 2 (sInt .i64)).rep w.heap [v57] (y43.Sizes) f58∧(sOwn 22 (sOwn 2 (sInt .i64))).rep w.heap [v60] (y43.Actions) f61∧List.Nodup ((f46++(f49++(f52++(f55++(f58++f61)))))))⟩,⟨true,fun _ _ r u=>u=fldOf (r 18) 6⟩,⟨true,pl fun _ _ u=>u=(.agg #[.int .i64 (x0.Objects),z6,z7,z9,z8]:Value)⟩,⟨true,pl fun _ _ u=>u=(v28:Value)⟩,⟨true,pl (fun f w v=>∃ (v65:Value) (f66:List Nat),v=v65∧f=f66∧(sImm (sInt .i64)).rep w.heap [v65] (y63) f66∧True)⟩]) (Z:=[]) hmix rfl (by decide) (by decide +kernel) (fun _ _ _ h=>np_out h) (by decide) rfl (by decide +kernel) (stable_all <| stable_cons stable_val (stable_cons stable_val (stable_cons stable_val (stable_cons stable_val (stable_cons (stable_pl <| by rintro f F w w' v hC hn ⟨v45,f46,v48,f49,v51,f52,v54,f55,v57,f58,v60,f61,e1_,e2_,ho47,ho50,ho53,ho56,ho59,ho62,hnd⟩; exact ⟨v45,f46,v48,f49,v51,f52,v54,f55,v57,f58,v60,f61,e1_,e2_,STy.keep _ ho47 hC (fun b hb=>hn b (by rw [e2_]; simp [hb])),STy.keep _ ho50 hC (fun b hb=>hn b (by rw [e2_]; simp [hb])),STy.keep _ ho53 hC (fun b hb=>hn b (by rw [e2_]; simp [hb])),STy.keep _ ho56 hC (fun b hb=>hn b (by rw [e2_]; simp [hb])),STy.keep _ ho59 hC (fun b hb=>hn b (by rw [e2_]; simp [hb])),STy.keep _ ho62 hC (fun b hb=>hn b (by rw [e2_]; simp [hb])),hnd⟩) (stable_cons (stable_frame (X:=fun r=>fldOf (r 18) 6) fun r r' h=>congrArg (fun u=>fldOf (u) 6) (h 4 (by decide +kernel) 18 rfl)) (stable_cons stable_val (stable_cons stable_val (stable_cons (stable_pl <| by rintro f F w w' v hC hn ⟨v65,f66,e1_,e2_,ho67,hnd⟩; exact ⟨v65,f66,e1_,e2_,STy.keep _ ho67 hC (fun b hb=>hn b (by rw [e2_]; simp [hb])),hnd⟩) ( stable_nil)))))))))) ?_ ?_
 refine owes_cons ?_ ( owes_cons ?_ ( owes_cons ?_ ( owes_cons ?_ ( owes_cons ?_ ( owes_cons ?_ ( owes_cons ?_ ( owes_cons ?_ ( owes_cons ?_ ( owes_nil)))))))))
 refine Owes.val rfl rfl rfl ?_
 intro g r wr hCr H hot
 have hC:=hC37.trans hCr
 obtain ⟨F,rfl⟩:=fr (r:=r) (l:=[(1,.pointer (some (⟨b1,0,none⟩)))]) ⟨(hot 1 (by decide)),trivial⟩
 exact op_loadAgg u27z rfl info27 (by rw [sz27]; rfl) rfl (kr hr4 hC).at
 refine Owes.val rfl rfl rfl ?_
 intro g r wr hCr H hot
 have hC:=hC37.trans hCr
 obtain ⟨F,rfl⟩:=fr (r:=r) (l:=[(4,v28)]) ⟨(hot 4 (by decide)),trivial⟩
 exact om _
 refine Owes.val rfl rfl rfl ?_
 intro g r wr hCr H hot
 have hC:=hC37.trans hCr
 obtain ⟨F,rfl⟩:=fr (r:=r) (l:=[(1,.pointer (some (⟨b1,0,none⟩)))]) ⟨(hot 1 (by decide)),trivial⟩
 exact op_loadAgg u27z rfl info27 (by rw [sz27]; rfl) rfl (kr hr4 hC).at
 refine Owes.val rfl rfl rfl ?_
 intro g r wr hCr H hot
 have hC:=hC37.trans hCr
 obtain ⟨F,rfl⟩:=fr (r:=r) (l:=[(4,v28)]) ⟨(hot 4 (by decide)),trivial⟩
 exact om _
 refine Owes.mem rfl rfl rfl ?_
 intro g r wr hCr H hot
 have hC:=hC37.trans hCr
 obtain ⟨F,rfl⟩:=fr (r:=r) (l:=[(16,.agg #[.int .i64 (x0.Objects),z6,z7,z9,z8]),(17,v28)]) ⟨(H 2 (by decide +kernel) 16 rfl),(H 3 (by decide +kernel) 17 rfl),trivial⟩
 exact OpW.callV (op_callF Tryz.func104 rfl rfl) (spec_l25Make_calls (kp _ za hC) (kp _ zb hC) (kp _ zd hC) (kp _ zc hC) (kp _ o30 hC) hy44) fun e w' ⟨v45,f46,v48,f49,v51,f52,v54,f55,v57,f58,v60,f61,he,hC',o47,o50,o53,o56,o59,o62,d0_1,d0_2,d0_3,d0_4,d0_5,d1_2,d1_3,d1_4,d1_5,d2_3,d2_4,d2_5,d3_4,d3_5,d4_5⟩=>⟨_,he,hC',(f46++(f49++(f52++(f55++(f58++f61))))),(fun b hb=>(List.mem_append.1 hb).elim (fun hb=>⟨ofr o47 b hb,sl _ o47.1 b hb⟩) (fun hb=>(List.mem_append.1 hb).elim (fun hb=>⟨ofr o50 b hb,sl _ o50.1 b hb⟩) (fun hb=>(List.mem_append.1 hb).elim (fun hb=>⟨ofr o53 b hb,sl _ o53.1 b hb⟩) (fun hb=>(List.mem_append.1 hb).elim (fun hb=>⟨ofr o56 b hb,sl _ o56.1 b hb⟩) (fun hb=>(List.mem_append.1 hb).elim (fun hb=>⟨ofr o59 b hb,sl _ o59.1 b hb⟩) (fun hb=>⟨ofr o62 b hb,sl _ o62.1 b hb⟩)))))),v45,f46,v48,f49,v51,f52,v54,f55,v57,f58,v60,f61,rfl,rfl,o47.1,o50.1,o53.1,o56.1,o59.1,o62.1,(nodup_app o47.2.1 (nodup_app o50.2.1 (nodup_app o53.2.1 (nodup_app o56.2.1 (nodup_app o59.2.1 o62.2.1 d4_5) (dis_appR d3_4 d3_5)) (dis_appR d2_3 (dis_appR d2_4 d2_5))) (dis_appR d1_2 (dis_appR d1_3 (dis_appR d1_4 d1_5)))) (dis_appR d0_1 (dis_appR d0_2 (dis_appR d0_3 (dis_appR d0_4 d0_5)))))⟩
 refine Owes.valX rfl rfl rfl ?_
 intro g r wr hCr H hot
 have hC:=hC37.trans hCr
 obtain ⟨v45,f46,v48,f49,v51,f52,v54,f55,v57,f58,v60,f61,hvo47,hgo47,o47,o50,o53,o56,o59,o62,hno47⟩:=H 4 (by decide +kernel) 18 rfl
 obtain ⟨F,rfl⟩:=fr (r:=r) (l:=[(18,.agg #[.int .i64 (y43.Shape.Objects),v45,v48,v51,v54,v57,v60])]) ⟨hvo47,trivial⟩
 exact op_field (off:=6) u62 rfl u23z rfl rfl rfl rfl
 refine Owes.val rfl rfl rfl ?_
 intro g r wr hCr H hot
 have hC:=hC37.trans hCr
 obtain ⟨F,rfl⟩:=fr (r:=r) (l:=[(1,.pointer (some (⟨b1,0,none⟩)))]) ⟨(hot 1 (by decide)),trivial⟩
 exact op_loadAgg u27z rfl info27 (by rw [sz27]; rfl) rfl (kr hr4 hC).at
 refine Owes.val rfl rfl rfl ?_
 intro g r wr hCr H hot
 have hC:=hC37.trans hCr
 obtain ⟨F,rfl⟩:=fr (r:=r) (l:=[(4,v28)]) ⟨(hot 4 (by decide)),trivial⟩
 exact om _
 refine Owes.mem rfl rfl rfl ?_
 intro g r wr hCr H hot
 have hC:=hC37.trans hCr
 obtain ⟨F,rfl⟩:=fr (r:=r) (l:=[(20,.agg #[.int .i64 (x0.Objects),z6,z7,z9,z8]),(21,v28)]) ⟨(H 6 (by decide +kernel) 20 rfl),(H 7 (by decide +kernel) 21 rfl),trivial⟩
 exact OpW.callV (op_callF Tryz.func175 rfl rfl) (spec_l25Tops_calls (kp _ za hC) (kp _ zb hC) (kp _ zd hC) (kp _ zc hC) (kp _ o30 hC) hy64) fun e w' ⟨v65,f66,he,hC',o67,lo67⟩=>⟨_,he,hC',f66,(fun b hb=>⟨lo67 b hb,sl _ o67 b hb⟩),v65,f66,rfl,rfl,o67,trivial⟩
 rintro g r wd68 ⟨hC69,hdone,hot,hfresh,hdis⟩
 obtain ⟨v45,f46,v48,f49,v51,f52,v54,f55,v57,f58,v60,f61,hvo47,hgo47,o47,o50,o53,o56,o59,o62,hno47⟩:=hdone 4 (by decide) (by decide) 18 rfl
 have hfo47:=hfresh 4 (by decide)
 obtain ⟨v65,f66,hvo67,hgo67,o67,hno67⟩:=hdone 8 (by decide) (by decide) 22 rfl
 have hfo67:=hfresh 8 (by decide)
 have hv70:r 19=v60:=((hdone 5 (by decide) (by decide) 19 rfl).trans (by rw [hvo47]; rfl))
 have hdd:=hdis
 obtain ⟨F,rfl⟩:=fr (r:=r) (l:=[(2,.pointer (some (⟨b12,0,none⟩))),(14,.agg #[.int .i64 (x0.Objects),z6,z7,z9,z8]),(15,v28),(18,.agg #[.int .i64 (y43.Shape.Objects),v45,v48,v51,v54,v57,v60]),(19,v60),(22,v65)]) ⟨(hot 2 (by decide)),(hdone 0 (by decide) (by decide) 14 rfl),(hdone 1 (by decide) (by decide) 15 rfl),hvo47,hv70,hvo67,trivial⟩
 have lo71 : ∀ b∈f46,wd36.heap.size≤b:=fun b hb=>(hfo47 b (show b∈g 4 from (show ∀ b∈f46,b∈g 4 from (fun b hb=>(by rw [hgo47]; simp [hb]))) b hb)).1
 replace o47:OE [] w.heap.size wd68 (sOwn 2 (sInt .i64)) [v45] (y43.Shape.From) f46:=⟨o47,(List.nodup_append.1 hno47).1,fun b hb=>.inr (Nat.le_trans (hB.trans hC37).size (lo71 b hb))⟩
 have d77:Dis f46 [b12]:=dl lo71 (one_lt (Row.lt (kr hr15 hC37)))
 have lo79 : ∀ b∈f49,wd36.heap.size≤b:=fun b hb=>(hfo47 b (show b∈g 4 from (show ∀ b∈f49,b∈g 4 from (fun b hb=>(by rw [hgo47]; simp [hb]))) b hb)).1
 replace o50:OE [] w.heap.size wd68 (sOwn 2 (sInt .i64)) [v48] (y43.Shape.To) f49:=⟨o50,(List.nodup_append.1 (List.nodup_append.1 hno47).2.1).1,fun b hb=>.inr (Nat.le_trans (hB.trans hC37).size (lo79 b hb))⟩
 have d85:Dis f49 [b12]:=dl lo79 (one_lt (Row.lt (kr hr15 hC37)))
 have lo87 : ∀ b∈f52,wd36.heap.size≤b:=fun b hb=>(hfo47 b (show b∈g 4 from (show ∀ b∈f52,b∈g 4 from (fun b hb=>(by rw [hgo47]; simp [hb]))) b hb)).1
 replace o53:OE [] w.heap.size wd68 (sOwn 2 (sInt .i64)) [v51] (y43.Shape.Identity) f52:=⟨o53,(List.nodup_append.1 (List.nodup_append.1 (List.nodup_append.1 hno47).2.1).2.1).1,fun b hb=>.inr (Nat.le_trans (hB.trans hC37).size (lo87 b hb))⟩
 have d93:Dis f52 [b12]:=dl lo87 (one_lt (Row.lt (kr hr15 hC37)))
 have lo95 : ∀ b∈f55,wd36.heap.size≤b:=fun b hb=>(hfo47 b (show b∈g 4 from (show ∀ b∈f55,b∈g 4 from (fun b hb=>(by rw [hgo47]; simp [hb]))) b hb)).1
 replace o56:OE [] w.heap.size wd68 (sOwn 22 (sOwn 2 (sInt .i64))) [v54] (y43.Shape.Composites) f55:=⟨o56,(List.nodup_append.1 (List.nodup_append.1 (List.nodup_append.1 (List.nodup_append.1 hno47).2.1).2.1).2.1).1,fun b hb=>.inr (Nat.le_trans (hB.trans hC37).size (lo95 b hb))⟩
 have d101:Dis f55 [b12]:=dl lo95 (one_lt (Row.lt (kr hr15 hC37)))
 have lo103 : ∀ b∈f58,wd36.heap.size≤b:=fun b hb=>(hfo47 b (show b∈g 4 from (show ∀ b∈f58,b∈g 4 from (fun b hb=>(by rw [hgo47]; simp [hb]))) b hb)).1
 replace o59:OE [] w.heap.size wd68 (sOwn 2 (sInt .i64)) [v57] (y43.Sizes) f58:=⟨o59,(List.nodup_append.1 (List.nodup_append.1 (List.nodup_append.1 (List.nodup_append.1 (List.nodup_append.1 hno47).2.1).2.1).2.1).2.1).1,fun b hb=>.inr (Nat.le_trans (hB.trans hC37).size (lo103 b hb))⟩
 have d109:Dis f58 [b12]:=dl lo103 (one_lt (Row.lt (kr hr15 hC37)))
 have lo111 : ∀ b∈f61,wd36.heap.size≤b:=fun b hb=>(hfo47 b (show b∈g 4 from (show ∀ b∈f61,b∈g 4 from (fun b hb=>(by rw [hgo47]; simp [hb]))) b hb)).1
 replace o62:OE [] w.heap.size wd68 (sOwn 22 (sOwn 2 (sInt .i64))) [v60] (y43.Actions) f61:=⟨o62,(List.nodup_append.1 (List.nodup_append.1 (List.nodup_append.1 (List.nodup_append.1 (List.nodup_append.1 hno47).2.1).2.1).2.1).2.1).2.1,fun b hb=>.inr (Nat.le_trans (hB.trans hC37).size (lo111 b hb))⟩
 have d117:Dis f61 [b12]:=dl lo111 (one_lt (Row.lt (kr hr15 hC37)))
 have lo119 : ∀ b∈f66,wd36.heap.size≤b:=fun b hb=>(hfo67 b (show b∈g 8 from (show ∀ b∈f66,b∈g 8 from (fun b hb=>(by rw [hgo67]; simp [hb]))) b hb)).1
 have lo120 : ∀ b∈f66,b∈(zh++(zg++(zf++ze))) ∨ w.heap.size≤b:=fun b hb=>.inr (Nat.le_trans (hB.trans hC37).size (lo119 b hb))
 have d126:Dis f66 [b12]:=dl lo119 (one_lt (Row.lt (kr hr15 hC37)))
 have hT134:=(hC37.trans hC69)
 replace za:=kp _ za hT134
 replace zb:=kp _ zb hT134
 replace zd:=kp _ zd hT134
 replace zc:=kp _ zc hT134
 replace hr4:=kr hr4 hT134
 replace hr15:=kr hr15 hT134
 replace o30:=kp _ o30 hT134
 replace hB:=(hB.trans hT134)
 refine wv (v:=.agg #[.int .i64 (x0.Objects),z6,z7,z9,z8,v28,v60,v65]) rfl (op_build (bld78_0_1_2_3 rfl (STy.one _ za _ (ms rfl)) (STy.one _ zb _ (ms rfl)) (STy.one _ zd _ (ms rfl)) (STy.one _ zc _ (ms rfl)) (STy.one _ o30 _ (ms rfl)) (STy.one _ o62.1 _ (ms rfl)) (STy.one _ o67 _ (ms rfl)))) ?_
 refine WL.storeAll (us:=[.int .i64 (x0.Objects),z6,z7,z9,z8,v28,v60,v65]) info78 (by rw [sz78]; rfl) (kr hr15 (cr [] wd68)) rfl rfl rfl (by intro u hu; simp only [List.mem_cons,List.mem_nil_iff,or_false] at hu; rcases hu with rfl | rfl | rfl | rfl | rfl | rfl | rfl | rfl <;> first | exact rfl | exact (STy.one _ za _ (ms rfl)) | exact (STy.one _ zb _ (ms rfl)) | exact (STy.one _ zd _ (ms rfl)) | exact (STy.one _ zc _ (ms rfl)) | exact (STy.one _ o30 _ (ms rfl)) | exact (STy.one _ o62.1 _ (ms rfl)) | exact (STy.one _ o67 _ (ms rfl))) fun wd135 hC136 hr137=>?_
 replace hr137:Row wd135 b12 [.int .i64 (x0.Objects),z6,z7,z9,z8,v28,v60,v65] 78:=hr137
 have hT138:=((cr [] wd68).nil (G:=[b12])).trans hC136
 replace za:=STy.keep _ za hT138 (d18).symm
 replace zb:=STy.keep _ zb hT138 (d19).symm
 replace zd:=STy.keep _ zd hT138 (d20).symm
 replace zc:=STy.keep _ zc hT138 (d21).symm
 replace o30:=STy.keep _ o30 hT138 d33
 replace o67:=STy.keep _ o67 hT138 d126
 replace hr4:=Row.keep hr4 hT138 ((d22).symm _ (ms rfl))
 replace o47:=okp o47 hT138 d77
 replace o50:=okp o50 hT138 d85
 replace o53:=okp o53 hT138 d93
 replace o56:=okp o56 hT138 d101
 replace o59:=okp o59 hT138 d109
 replace o62:=okp o62 hT138 d117
 replace hB:=hB.then hT138 (one_then lo17)
 refine wv (v:=.bool (true)) rfl (oa _) ?_
 refine anz ?_
 cases ho
 exact W_ret ⟨_,res_c1 Tryz.results124 u78 rfl info78 (by rw [sz78]; rfl) rfl (kr hr137 (cr [] wd135)).at,_,_,_,_,_,_,_,_,_,_,_,_,_,_,rfl,(hB.trans (cr [] wd135)),(kp _ za (cr [] wd135)),(fun b hb=>.inl (by simp [hb])),(kp _ zb (cr [] wd135)),(fun b hb=>.inl (by simp [hb])),(kp _ zd (cr [] wd135)),(fun b hb=>.inl (by simp [hb])),(kp _ zc (cr [] wd135)),(fun b hb=>.inl (by simp [hb])),(kp _ o30 (cr [] wd135)),lo34,((Le.own (Le.own (Le.refl _) 2) 22).le (kp _ o62.1 (cr [] wd135))),(low_wk o62.2.2),(kp _ o67 (cr [] wd135)),lo120⟩
end Go.Proofs.YtfbijbginbjecaaGreat
