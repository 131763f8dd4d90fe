/- Walks, printed by a program: that a call of each function computes what its model says. No condition beside those that each theorem names. -/
import Derived.Test.YtcmckiiafgcmjaaGreatTy
import Derived.Test.YtcmckiiafgcmjaaGreatMo
import Derived.Test.YtcmckiiafgcmjaaGreatZ00
import Derived.Test.YtcmckiiafgcmjaaGreatZ01
import Derived.Test.YtcmckiiafgcmjaaGreatZ02
import Derived.Test.YtcmckiiafgcmjaaGreatZ03
import Derived.Test.YtcmckiiafgcmjaaGreatZ04
import Derived.Test.YtcmckiiafgcmjaaGreatZ05
namespace Go.Proofs.YtcmckiiafgcmjaaGreat
open Go Go.Li
set_option linter.unusedVariables false
set_option maxHeartbeats 4000000
set_option maxRecDepth 100000
abbrev spec_l27Covers_post (w:World) (x:(MTopology)) (e:Ending) (w':World):Prop:=∃ (v0:Value) (f0:List Nat) (v1:Value) (f1:List Nat) (v2:Value) (f2:List Nat) (v3:Value) (f3:List Nat) (v4:Value) (f4:List Nat),e = .returned (.agg #[.int .i64 x.Shape.Objects,v0,v1,v2,v3,v4])∧Chg [] w w'∧OE [] w.heap.size w' (sOwn 2 (sInt .i64)) [v0] x.Shape.From f0∧OE [] w.heap.size w' (sOwn 2 (sInt .i64)) [v1] x.Shape.To f1∧OE [] w.heap.size w' (sOwn 2 (sInt .i64)) [v2] x.Shape.Identity f2∧OE [] w.heap.size w' (sOwn 22 (sOwn 2 (sInt .i64))) [v3] x.Shape.Composites f3∧OE [] w.heap.size w' (sOwn 23 (sOwn 22 (sOwn 2 (sInt .i64)))) [v4] x.Covers f4∧Dis f0 f1∧Dis f0 f2∧Dis f0 f3∧Dis f0 f4∧Dis f1 f2∧Dis f1 f3∧Dis f1 f4∧Dis f2 f3∧Dis f2 f4∧Dis f3 f4
abbrev spec_l27Covers_T (w:World):=Tm Tryz.prog Tryz.f92 56 (spec_l27Covers_post w)
theorem spec_l27Covers_calls {w:World} {x0:ML27Table} {zy:Value} {z17:List Nat} {zt:Value} {z18:List Nat} {z10:Value} {z19:List Nat} {z11:Value} {z1a:List Nat} {z13:Value} {z21:List Nat} {z14:Value} {z23:List Nat} {z15:Value} {z26:List Nat} {x1:(List (List Bool))} {v_x1:Value} {f_x1:List Nat} (z16:(sImm (sInt .i64)).rep w.heap [zy] x0.C.From z17) (z12:(sImm (sInt .i64)).rep w.heap [zt] x0.C.To z18) (z1b:(sImm (sInt .i64)).rep w.heap [z10] x0.C.Identity z19) (z1c:(sImm (sImm (sInt .i64))).rep w.heap [z11] x0.C.Composites z1a) (z1r:(sImm (sImm (sImm (sInt .i64)))).rep w.heap [z13] x0.Lists z21) (z1s:(sImm (sImm (sInt .i64))).rep w.heap [z14] x0.Pulls z23) (z27:(sImm (sInt .i64)).rep w.heap [z15] x0.Tops z26) (h_x1:(sImm (sImm sBool)).rep w.heap [v_x1] x1 f_x1) {y:(MTopology)} (hm:spec_l27Covers x0 x1=some y) :
  Calls Tryz.prog 92 #[.agg #[.int .i64 (x0.C.Objects),zy,zt,z10,z11,z13,z14,z15],v_x1] w (spec_l27Covers_post w y):=by
 refine Cm (S:=Unit) Tryz.func92 rfl Tryz.ntmps92 rfl hm fun o ho hB=>?_
 clear hm
 refine wq <| W_region rfl <| WL.box fun b1 wd2 hC3 hr4 hl5=>?_
 replace hr4:Row wd2 b1 [.int .i64 (x0.C.Objects),zy,zt,z10,z11,z13,z14,z15] 96:=hr4
 replace hB:=(hB.trans hC3)
 refine WL.alloc info34 zr34 fun b8 wd9 kb p0 kz=>?_
 replace p0:Row wd9 b8 [.int .i64 ((0:Int)),.slice none 0 0,.slice none 0 0,.slice none 0 0,.slice none 0 0,.slice none 0 0] 34:=p0
 have p5:w.heap.size≤b8:=Nat.le_trans hB.size kz
 have d14:=dl (onw kz) (one_lt (Row.lt hr4))
 replace hr4:=kr hr4 kb
 replace hB:=(hB.trans kb)
 refine anz <| wq <| W_region rfl <| Wb (Fr fa96_0 rfl) <| ?_
 refine WL.val (v:=.agg #[.int .i64 (x0.C.Objects),zy,zt,z10,z11]) rfl (op_loadAgg (cs:=[.int .i64 (x0.C.Objects),zy,zt,z10,z11]) u32 rfl info32 (by rw [sz32]; rfl) rfl (At.sub hr4.at 0 5)) ?_
 obtain ⟨y16,n0,ho⟩:=bs ho
 refine WL.call rfl (op_callF Tryz.func155 rfl rfl) (spec_l02Own_calls (kp _ z16 hB) (kp _ z12 hB) (kp _ z1b hB) (kp _ z1c hB) n0) <| ?_
 rintro _ p0w ⟨v20,pk,v23,pl,v26,pg,v29,pm,rfl,pa,p1,p2,p3,p4,d32,d33,d34,d35,d36,d37⟩
 refine ⟨_,rfl,?_⟩
 have d38:=dl (ofr p1) (one_lt (Row.lt hr4))
 have d39:=dl (ofr p1) (one_lt (Row.lt p0))
 replace p1:=OE.low (G:=[]) p1 hB.size
 have d40:=dl (ofr p2) (one_lt (Row.lt hr4))
 have d41:=dl (ofr p2) (one_lt (Row.lt p0))
 replace p2:=OE.low (G:=[]) p2 hB.size
 have d42:=dl (ofr p3) (one_lt (Row.lt hr4))
 have d43:=dl (ofr p3) (one_lt (Row.lt p0))
 replace p3:=OE.low (G:=[]) p3 hB.size
 have d44:=dl (ofr p4) (one_lt (Row.lt hr4))
 have d45:=dl (ofr p4) (one_lt (Row.lt p0))
 replace p4:=OE.low (G:=[]) p4 hB.size
 replace hr4:=kr hr4 pa
 replace p0:=kr p0 pa
 replace hB:=(hB.trans pa)
 refine WL.lit0 (sOwn 22 (sOwn 2 (sInt .i64))) u26z info23 fun v47 p7k f49 n1 pv=>?_
 have d52:=dl (ofr pv) (one_lt (Row.lt hr4))
 have d53:=dl (ofr pv) (one_lt (Row.lt p0))
 have d54:=dl (ofr pv) (sl _ p1.1)
 have d55:=dl (ofr pv) (sl _ p2.1)
 have jn:=dl (ofr pv) (sl _ p3.1)
 have nv:=dl (ofr pv) (sl _ p4.1)
 replace pv:=OE.low (G:=[]) pv hB.size
 replace hr4:=kr hr4 n1
 replace p0:=kr p0 n1
 replace p1:=ko p1 n1
 replace p2:=ko p2 n1
 replace p3:=ko p3 n1
 replace p4:=ko p4 n1
 replace hB:=(hB.trans n1)
 refine Wb (Bu (bld34_0_1 rfl (STy.one _ p1.1 _ (ms rfl)) (STy.one _ p2.1 _ (ms rfl)) (STy.one _ p3.1 _ (ms rfl)) (STy.one _ p4.1 _ (ms rfl)) (STy.one _ pv.1 _ (ms rfl)))) <| WL.alloc info34 zr34 fun pi p3z kc p0z kd=>?_
 replace p0z:Row p3z pi [.int .i64 ((0:Int)),.slice none 0 0,.slice none 0 0,.slice none 0 0,.slice none 0 0,.slice none 0 0] 34:=p0z
 have p2v:w.heap.size≤pi:=Nat.le_trans hB.size kd
 have jo:=dl (onw kd) (one_lt (Row.lt hr4))
 have n2:=dl (onw kd) (one_lt (Row.lt p0))
 have n3:=dl (onw kd) (sl _ p1.1)
 have j3:=dl (onw kd) (sl _ p2.1)
 have nw:=dl (onw kd) (sl _ p3.1)
 have j4:=dl (onw kd) (sl _ p4.1)
 have j5:=dl (onw kd) (sl _ pv.1)
 replace hr4:=kr hr4 kc
 replace p0:=kr p0 kc
 replace p1:=ko p1 kc
 replace p2:=ko p2 kc
 replace p3:=ko p3 kc
 replace p4:=ko p4 kc
 replace pv:=ko pv kc
 replace hB:=(hB.trans kc)
 refine WL.storeAll (us:=[.int .i64 (y16.Objects),v20,v23,v26,v29,v47]) info34 (by rw [sz34]; rfl) p0z rfl rfl rfl (by intro u hu; simp only [List.mem_cons,List.mem_nil_iff,or_false] at hu; rcases hu with rfl | rfl | rfl | rfl | rfl | rfl <;> first | exact rfl | exact (STy.one _ p1.1 _ (ms rfl)) | exact (STy.one _ p2.1 _ (ms rfl)) | exact (STy.one _ p3.1 _ (ms rfl)) | exact (STy.one _ p4.1 _ (ms rfl)) | exact (STy.one _ pv.1 _ (ms rfl))) fun p2w ke pc=>?_
 replace pc:Row p2w pi [.int .i64 (y16.Objects),v20,v23,v26,v29,v47] 34:=pc
 replace hr4:=Row.keep hr4 ke ((jo).symm _ (ms rfl))
 replace p0:=Row.keep p0 ke ((n2).symm _ (ms rfl))
 replace p1:=okp p1 ke (n3).symm
 replace p2:=okp p2 ke (j3).symm
 replace p3:=okp p3 ke (nw).symm
 replace p4:=okp p4 ke (j4).symm
 replace pv:=okp pv ke (j5).symm
 replace hB:=hB.then ke (one_then p2v)
 refine anz <| wq <| wq <| Wq rfl (cr [] p2w) <| Qa (Ai rfl) <| fun p2x jp=>anz <| Wf (S1:=Int×(List (List (List Int)))) (fun s r w'=>match s with | (s0_6,s0_b59_5)=>∃ (v79:Value) (pn:List Nat),Chg [] w w'∧Row w' b1 [.int .i64 (x0.C.Objects),zy,zt,z10,z11,z13,z14,z15] 96∧Row w' b8 [.int .i64 ((0:Int)),.slice none 0 0,.slice none 0 0,.slice none 0 0,.slice none 0 0,.slice none 0 0] 34∧OE [] w.heap.size w' (sOwn 2 (sInt .i64)) [v20] (y16.From) pk∧OE [] w.heap.size w' (sOwn 2 (sInt .i64)) [v23] (y16.To) pl∧OE [] w.heap.size w' (sOwn 2 (sInt .i64)) [v26] (y16.Identity) pg∧OE [] w.heap.size w' (sOwn 22 (sOwn 2 (sInt .i64))) [v29] (y16.Composites) pm∧Row w' pi [.int .i64 (y16.Objects),v20,v23,v26,v29,v79] 34∧OE [] w.heap.size w' (sOwn 23 (sOwn 22 (sOwn 2 (sInt .i64)))) [v79] (s0_b59_5) pn∧Dis [b1] [b8]∧Dis [b1] pk∧Dis [b1] pl∧Dis [b1] pg∧Dis [b1] pm∧Dis [b1] [pi]∧Dis [b1] pn∧Dis [b8] pk∧Dis [b8] pl∧Dis [b8] pg∧Dis [b8] pm∧Dis [b8] [pi]∧Dis [b8] pn∧Dis pk pl∧Dis pk pg∧Dis pk pm∧Dis pk [pi]∧Dis pk pn∧Dis pl pg∧Dis pl pm∧Dis pl [pi]∧Dis pl pn∧Dis pg pm∧Dis pg [pi]∧Dis pg pn∧Dis pm [pi]∧Dis pm pn∧Dis [pi] pn∧∃ F,r=updL F [(1,v_x1),(2,.pointer (some (⟨b1,0,none⟩))),(4,.pointer (some (⟨b8,0,none⟩))),(5,.pointer (some (⟨pi,0,none⟩))),(6,.int .i64 (s0_6))]) (spec_l27Covers_T w) ho ⟨_,_,(hB.trans jp),(kr hr4 jp),(kr p0 jp),(ko p1 jp),(ko p2 jp),(ko p3 jp),(ko p4 jp),(kr pc jp),(ko pv jp),((d14).symm),((d38).symm),((d40).symm),((d42).symm),((d44).symm),((jo).symm),((d52).symm),((d39).symm),((d41).symm),((d43).symm),((d45).symm),((n2).symm),((d53).symm),(d32),(d33),(d34),((n3).symm),((d54).symm),(d35),(d36),((j3).symm),((d55).symm),(d37),((nw).symm),((jn).symm),((j4).symm),((nv).symm),(j5),fe rfl⟩ ?_ ?_
 rintro ⟨s0_6,s0_b59_5⟩ _ p2y ⟨v79,pn,hB,hr4,p0,p1,p2,p3,p4,pc,pe,d82,nx,kf,d85,d86,ny,d88,gn,n4,go,n5,jq,gp,n6,jr,n7,nz,js,jt,ju,n8,gq,gr,p0c,gs,g0,n9,p0d,F,rfl⟩ o ho
 replace ho:spec_l27Covers_L0 x0 x1 s0_6 s0_b59_5=some o:=ho
 unfold spec_l27Covers_L0 at ho
 refine wq <| wq <| Wq rfl (cr [] p2y) <| Qa (Mi rfl) <| Qa (Mv v_x1 rfl) <| Qa (Ln sl97 (kB h_x1 hB) rfl) <| Qa (Bl rfl rfl) <| fun p7m po=>anz <| W_cond (b:=decide (s0_6 < (x1.length:Int))) rfl ?_ ?_
 intro p10
 rw [p10] at ho
 refine W_skip <| anz <| wq <| W_block <| wq <| W_region rfl <| WL.lit0 (sOwn 2 (sInt .i64)) u23z info22 fun v114 p40 p7n p41 qr=>?_
 have q7:=dl (ofr qr) (one_lt (Row.lt (kr hr4 po)))
 have jv:=dl (ofr qr) (one_lt (Row.lt (kr p0 po)))
 have jw:=dl (ofr qr) (sl _ (kp _ p1.1 po))
 have j6:=dl (ofr qr) (sl _ (kp _ p2.1 po))
 have j7:=dl (ofr qr) (sl _ (kp _ p3.1 po))
 have kg:=dl (ofr qr) (sl _ (kp _ p4.1 po))
 have qs:=dl (ofr qr) (one_lt (Row.lt (kr pc po)))
 have qt:=dl (ofr qr) (sl _ (kp _ pe.1 po))
 replace qr:=OE.low (G:=[]) qr (hB.trans po).size
 have jx:=po.trans p41
 replace hr4:=kr hr4 jx
 replace p0:=kr p0 jx
 replace p1:=ko p1 jx
 replace p2:=ko p2 jx
 replace p3:=ko p3 jx
 replace p4:=ko p4 jx
 replace pc:=kr pc jx
 replace pe:=ko pe jx
 replace hB:=(hB.trans jx)
 refine Wb (Av v114 rfl) <| anz <| wq <| wq <| Wq rfl (cr [] p40) <| Qa (Ai rfl) <| fun p2z ql=>anz <| Wf (S1:=(List (List Int))×Int) (fun s r w'=>match s with | (s1_7,s1_8)=>∃ (v130:Value) (qu:List Nat),Chg [] w w'∧Row w' b1 [.int .i64 (x0.C.Objects),zy,zt,z10,z11,z13,z14,z15] 96∧Row w' b8 [.int .i64 ((0:Int)),.slice none 0 0,.slice none 0 0,.slice none 0 0,.slice none 0 0,.slice none 0 0] 34∧OE [] w.heap.size w' (sOwn 2 (sInt .i64)) [v20] (y16.From) pk∧OE [] w.heap.size w' (sOwn 2 (sInt .i64)) [v23] (y16.To) pl∧OE [] w.heap.size w' (sOwn 2 (sInt .i64)) [v26] (y16.Identity) pg∧OE [] w.heap.size w' (sOwn 22 (sOwn 2 (sInt .i64))) [v29] (y16.Composites) pm∧Row w' pi [.int .i64 (y16.Objects),v20,v23,v26,v29,v79] 34∧OE [] w.heap.size w' (sOwn 23 (sOwn 22 (sOwn 2 (sInt .i64)))) [v79] (s0_b59_5) pn∧OE [] w.heap.size w' (sOwn 22 (sOwn 2 (sInt .i64))) [v130] (s1_7) qu∧Dis [b1] [b8]∧Dis [b1] pk∧Dis [b1] pl∧Dis [b1] pg∧Dis [b1] pm∧Dis [b1] [pi]∧Dis [b1] pn∧Dis [b1] qu∧Dis [b8] pk∧Dis [b8] pl∧Dis [b8] pg∧Dis [b8] pm∧Dis [b8] [pi]∧Dis [b8] pn∧Dis [b8] qu∧Dis pk pl∧Dis pk pg∧Dis pk pm∧Dis pk [pi]∧Dis pk pn∧Dis pk qu∧Dis pl pg∧Dis pl pm∧Dis pl [pi]∧Dis pl pn∧Dis pl qu∧Dis pg pm∧Dis pg [pi]∧Dis pg pn∧Dis pg qu∧Dis pm [pi]∧Dis pm pn∧Dis pm qu∧Dis [pi] pn∧Dis [pi] qu∧Dis pn qu∧∃ F,r=updL F [(1,v_x1),(2,.pointer (some (⟨b1,0,none⟩))),(4,.pointer (some (⟨b8,0,none⟩))),(5,.pointer (some (⟨pi,0,none⟩))),(6,.int .i64 (s0_6)),(7,v130),(8,.int .i64 (s1_8))]) (spec_l27Covers_T w) ho ⟨_,_,(hB.trans ql),(kr hr4 ql),(kr p0 ql),(ko p1 ql),(ko p2 ql),(ko p3 ql),(ko p4 ql),(kr pc ql),(ko pe ql),(ko qr ql),(d82),(nx),(kf),(d85),(d86),(ny),(d88),((q7).symm),(gn),(n4),(go),(n5),(jq),(gp),((jv).symm),(n6),(jr),(n7),(nz),(js),((jw).symm),(jt),(ju),(n8),(gq),((j6).symm),(gr),(p0c),(gs),((j7).symm),(g0),(n9),((kg).symm),(p0d),((qs).symm),((qt).symm),fe rfl⟩ ?_ ?_
 rintro ⟨s1_7,s1_8⟩ _ p42 ⟨v130,qu,hB,hr4,p0,p1,p2,p3,p4,pc,pe,ps,qw,q8,qm,q9,qn,pz,q0,q1,qo,qa,gt,na,g1,kh,g2,ki,kj,kk,j8,g3,g4,nb,gu,g5,g6,g7,gv,g8,g9,ga,gb,gc,gd,ge,gf,j9,F,rfl⟩ o ho
 replace ho:spec_l27Covers_L1 x0 x1 s0_6 s1_7 s1_8=some o:=ho
 unfold spec_l27Covers_L1 at ho
 refine wq <| wq <| Wq rfl (cr [] p42) <| Qa (Mi rfl) <| Qa (Mv v_x1 rfl) <| Qa (Mi rfl) <| ?_
 obtain ⟨e170,hx171e,ho⟩:=bs ho
 have hx171:=idx_some hx171e
 refine Qa (Ix sl97 (kB h_x1 hB) hx171 rfl rfl rfl) <| ?_
 obtain ⟨u172,fu173,hu174,p43,hs176⟩:=one_get rfl h_x1 hx171.1 hx171.2
 refine Qa (Ld na138 (hB.cell0 hu174) rfl) <| Qa (Ln sl138 (kB p43 hB) rfl) <| Qa (Bl rfl rfl) <| fun p7o qx=>anz <| W_cond (b:=decide (s1_8 < (e170.length:Int))) rfl ?_ ?_
 intro p11
 rw [p11] at ho
 refine W_skip <| anz <| wq <| W_block <| wq <| Wq rfl qx <| Qa (Mv v_x1 rfl) <| Qa (Mi rfl) <| ?_
 obtain ⟨e180,hx181e,ho⟩:=bs ho
 have hx181:=idx_some hx181e
 refine Qa (Ix sl97 (kB h_x1 hB) hx181 rfl rfl rfl) <| ?_
 obtain ⟨u182,fu183,hu184,p30,hs186⟩:=one_get rfl h_x1 hx181.1 hx181.2
 refine Qa (Ld na138 (hB.cell0 hu184) rfl) <| Qa (Mi rfl) <| ?_
 obtain ⟨e187,hx188e,ho⟩:=bs ho
 have hx188:=idx_some hx188e
 refine Qa (Ix sl138 (kB p30 hB) hx188 rfl rfl rfl) <| Qa (Eb na4 (kB p30 hB) hx188 rfl) <| fun p7p pp=>anz <| W_cond (b:=e187) rfl ?_ ?_
 intro p12
 rw [p12] at ho
 refine W_region rfl <| Wb (Mv v130 rfl) <| Wb (Fr fa96_1 rfl) <| Wa pp (Lr na26 hr4 rfl rfl) <| Wb (Mi rfl) <| ?_
 obtain ⟨e192,hx193e,ho⟩:=bs ho
 have hx193:=idx_some hx193e
 refine Wa pp (Ix sl26 (kB z1r hB) hx193 rfl rfl rfl) <| ?_
 obtain ⟨u194,fu195,hu196,p31,hs198⟩:=one_get rfl z1r hx193.1 hx193.2
 refine Wa pp (Ld na23 (hB.cell0 hu196) rfl) <| Wb (Mi rfl) <| ?_
 obtain ⟨e199,hx200e,ho⟩:=bs ho
 have hx200:=idx_some hx200e
 refine Wa pp (Ix sl23 (kB p31 hB) hx200 rfl rfl rfl) <| ?_
 obtain ⟨u201,fu202,hu203,p44,hs205⟩:=one_get rfl p31 hx200.1 hx200.2
 refine Wa pp (Ld na22 (hB.cell0 hu203) rfl) <| ?_
 obtain ⟨y206,p45,ho⟩:=bs ho
 refine WL.call rfl (op_callF Tryz.func89 rfl rfl) (spec_l01Own_calls (kp _ p44 (hB.trans pp)) p45) <| ?_
 rintro _ p7q ⟨v210,p7r,rfl,p46,pt⟩
 refine ⟨_,rfl,?_⟩
 have p13:=dl (ofr pt) (one_lt (Row.lt (kr hr4 pp)))
 have p47:=dl (ofr pt) (one_lt (Row.lt (kr p0 pp)))
 have p14:=dl (ofr pt) (sl _ (kp _ p1.1 pp))
 have p48:=dl (ofr pt) (sl _ (kp _ p2.1 pp))
 have p49:=dl (ofr pt) (sl _ (kp _ p3.1 pp))
 have p15:=dl (ofr pt) (sl _ (kp _ p4.1 pp))
 have p4a:=dl (ofr pt) (one_lt (Row.lt (kr pc pp)))
 have p4b:=dl (ofr pt) (sl _ (kp _ pe.1 pp))
 have p4c:=dl (ofr pt) (sl _ (kp _ ps.1 pp))
 replace pt:=OE.low (G:=[]) pt (hB.trans pp).size
 have ja:=pp.trans p46
 replace hr4:=kr hr4 ja
 replace p0:=kr p0 ja
 replace p1:=ko p1 ja
 replace p2:=ko p2 ja
 replace p3:=ko p3 ja
 replace p4:=ko p4 ja
 replace pc:=kr pc ja
 replace pe:=ko pe ja
 replace ps:=ko ps ja
 replace hB:=(hB.trans ja)
 refine WL.lit1 u23z info22 zr22 sz22 (STy.one _ pt.1 _ (ms rfl)) fun p4d p4e qy gw p4f=>?_
 replace gw:Row p4e p4d [v210] 22:=gw
 have p4g:=dl (onw p4f) (sl _ ps.1)
 replace hr4:=kr hr4 qy
 replace p0:=kr p0 qy
 replace p1:=ko p1 qy
 replace p2:=ko p2 qy
 replace p3:=ko p3 qy
 replace p4:=ko p4 qy
 replace pc:=kr pc qy
 replace pe:=ko pe qy
 replace ps:=ko ps qy
 replace pt:=ko pt qy
 replace hB:=(hB.trans qy)
 obtain ⟨n246,hn247,ho⟩:=bs ho
 have hn247a:=fits_some hn247
 refine WL.append1 (E:=(sOwn 2 (sInt .i64))) _ _ u23z info22 zr22 sz22 rfl rfl rfl ps rfl gw pt.1 pt.2.1 pt.2.2 p4c (by rw [by22]; exact hn247a.1) hn247a.2 hB.size fun v240 p4h p7s jb p4i hs245=>?_
 have p4j:=dis_upd hs245 (q1).symm p13 (one_lt (Row.lt hr4))
 have p4k:=dis_upd hs245 (g2).symm p47 (one_lt (Row.lt p0))
 have p4l:=dis_upd hs245 (g4).symm p14 (sl _ p1.1)
 have p4m:=dis_upd hs245 (g7).symm p48 (sl _ p2.1)
 have p4n:=dis_upd hs245 (ga).symm p49 (sl _ p3.1)
 have p4o:=dis_upd hs245 (gd).symm p15 (sl _ p4.1)
 have p16:=dis_upd hs245 (gf).symm p4a (one_lt (Row.lt pc))
 have p4p:=dis_upd hs245 (j9).symm p4b (sl _ pe.1)
 replace hr4:=Row.keep hr4 jb (q1 _ (ms rfl))
 replace p0:=Row.keep p0 jb (g2 _ (ms rfl))
 replace p1:=okp p1 jb g4
 replace p2:=okp p2 jb g7
 replace p3:=okp p3 jb ga
 replace p4:=okp p4 jb gd
 replace pc:=Row.keep pc jb (gf _ (ms rfl))
 replace pe:=okp pe jb j9
 replace gw:=Row.keep gw jb (p4g _ (ms rfl))
 replace hB:=hB.then jb ps.2.2
 refine Wb (Av v240 rfl) <| inBlk_n <| anz <| Wq rfl (cr [] p4h) <| Qa (Mi rfl) <| Qa (Ba rfl rfl) <| Qa (Ai rfl) <| fun p7t jc=>?_
 cases ho
 exact ⟨_,_,(hB.trans jc),(kr hr4 jc),(kr p0 jc),(ko p1 jc),(ko p2 jc),(ko p3 jc),(ko p4 jc),(kr pc jc),(ko pe jc),(ko p4i jc),qw,q8,qm,q9,qn,pz,q0,((p4j).symm),qo,qa,gt,na,g1,kh,((p4k).symm),ki,kj,kk,j8,g3,((p4l).symm),nb,gu,g5,g6,((p4m).symm),gv,g8,g9,((p4n).symm),gb,gc,((p4o).symm),ge,((p16).symm),((p4p).symm),fe rfl⟩
 intro p12
 rw [p12] at ho
 refine W_skip <| inBlk_n <| anz <| Wq rfl pp <| Qa (Mi rfl) <| Qa (Ba rfl rfl) <| Qa (Ai rfl) <| fun p7u jd=>?_
 cases ho
 exact ⟨_,_,(hB.trans jd),(kr hr4 jd),(kr p0 jd),(ko p1 jd),(ko p2 jd),(ko p3 jd),(ko p4 jd),(kr pc jd),(ko pe jd),(ko ps jd),qw,q8,qm,q9,qn,pz,q0,q1,qo,qa,gt,na,g1,kh,g2,ki,kj,kk,j8,g3,g4,nb,gu,g5,g6,g7,gv,g8,g9,ga,gb,gc,gd,ge,gf,j9,fe rfl⟩
 intro p11
 rw [p11] at ho
 refine W_exit <| andThen_x <| ?_
 cases ho
 exact ⟨rfl,⟨_,_,(hB.trans qx),(kr hr4 qx),(kr p0 qx),(ko p1 qx),(ko p2 qx),(ko p3 qx),(ko p4 qx),(kr pc qx),(ko pe qx),(ko ps qx),qw,q8,qm,q9,qn,pz,q0,q1,qo,qa,gt,na,g1,kh,g2,ki,kj,kk,j8,g3,g4,nb,gu,g5,g6,g7,gv,g8,g9,ga,gb,gc,gd,ge,gf,j9,fe rfl⟩⟩
 rintro ⟨s1_7,s1_8⟩ _ p7v ⟨v130,qu,hB,hr4,p0,p1,p2,p3,p4,pc,pe,ps,qw,q8,qm,q9,qn,pz,q0,q1,qo,qa,gt,na,g1,kh,g2,ki,kj,kk,j8,g3,g4,nb,gu,g5,g6,g7,gv,g8,g9,ga,gb,gc,gd,ge,gf,j9,F,rfl⟩ ho
 dsimp only at ho
 refine anz <| W_region rfl <| Wb (Fr fa34_1 rfl) <| Wb (Lr na26 pc rfl rfl) <| Wb (Mv v130 rfl) <| WL.lit1 u26z info23 zr23 sz23 (STy.one _ ps.1 _ (ms rfl)) fun p4q p4r je nc p32=>?_
 replace nc:Row p4r p4q [v130] 23:=nc
 have p4s:=dl (onw p32) (one_lt (Row.lt pc))
 have p4t:=dl (onw p32) (sl _ pe.1)
 replace hr4:=kr hr4 je
 replace p0:=kr p0 je
 replace p1:=ko p1 je
 replace p2:=ko p2 je
 replace p3:=ko p3 je
 replace p4:=ko p4 je
 replace pc:=kr pc je
 replace pe:=ko pe je
 replace ps:=ko ps je
 replace hB:=(hB.trans je)
 obtain ⟨n286,hn287,ho⟩:=bs ho
 have hn287a:=fits_some hn287
 refine WL.append1 (E:=(sOwn 22 (sOwn 2 (sInt .i64)))) _ _ u26z info23 zr23 sz23 rfl rfl rfl pe rfl nc ps.1 ps.2.1 ps.2.2 (j9).symm (by rw [by23]; exact hn287a.1) hn287a.2 hB.size fun v280 p7w p7x jy p0e hs285=>?_
 have p4u:=dis_upd hs285 (q0).symm (q1).symm (one_lt (Row.lt hr4))
 have p4v:=dis_upd hs285 (kh).symm (g2).symm (one_lt (Row.lt p0))
 have p4w:=dis_upd hs285 (g3).symm (g4).symm (sl _ p1.1)
 have p4x:=dis_upd hs285 (g6).symm (g7).symm (sl _ p2.1)
 have p4y:=dis_upd hs285 (g9).symm (ga).symm (sl _ p3.1)
 have p4z:=dis_upd hs285 (gc).symm (gd).symm (sl _ p4.1)
 have p33:=dis_upd hs285 (ge).symm (gf).symm (one_lt (Row.lt pc))
 replace hr4:=Row.keep hr4 jy (q0 _ (ms rfl))
 replace p0:=Row.keep p0 jy (kh _ (ms rfl))
 replace p1:=okp p1 jy g3
 replace p2:=okp p2 jy g6
 replace p3:=okp p3 jy g9
 replace p4:=okp p4 jy gc
 replace pc:=Row.keep pc jy (ge _ (ms rfl))
 replace nc:=Row.keep nc jy (p4t _ (ms rfl))
 replace hB:=hB.then jy pe.2.2
 refine Wb (Fr fa34_1 rfl) <| WL.storeRow (j:=5) info26 sz26 pc (Nat.le_of_ble_eq_true rfl) rfl rfl (STy.one _ p0e.1 _ (ms rfl)) fun p34 jz p17=>?_
 replace p17:Row p34 pi [.int .i64 (y16.Objects),v20,v23,v26,v29,v280] 34:=p17
 replace hr4:=Row.keep hr4 jz (pz _ (ms rfl))
 replace p0:=Row.keep p0 jz (g1 _ (ms rfl))
 replace p1:=okp p1 jz j8
 replace p2:=okp p2 jz g5
 replace p3:=okp p3 jz g8
 replace p4:=okp p4 jz gb
 replace nc:=Row.keep nc jz (p4s _ (ms rfl))
 replace p0e:=okp p0e jz p33
 replace hB:=hB.then jz (one_then p2v)
 refine inBlk_n <| anz <| Wq rfl (cr [] p34) <| Qa (Mi rfl) <| Qa (Ba rfl rfl) <| Qa (Ai rfl) <| fun p7y k0=>?_
 cases ho
 exact ⟨_,_,(hB.trans k0),(kr hr4 k0),(kr p0 k0),(ko p1 k0),(ko p2 k0),(ko p3 k0),(ko p4 k0),(kr p17 k0),(ko p0e k0),qw,q8,qm,q9,qn,pz,((p4u).symm),qo,qa,gt,na,g1,((p4v).symm),ki,kj,kk,j8,((p4w).symm),nb,gu,g5,((p4x).symm),gv,g8,((p4y).symm),gb,((p4z).symm),((p33).symm),fe rfl⟩
 intro p10
 rw [p10] at ho
 refine W_exit <| andThen_x <| ?_
 cases ho
 exact ⟨rfl,⟨_,_,(hB.trans po),(kr hr4 po),(kr p0 po),(ko p1 po),(ko p2 po),(ko p3 po),(ko p4 po),(kr pc po),(ko pe po),d82,nx,kf,d85,d86,ny,d88,gn,n4,go,n5,jq,gp,n6,jr,n7,nz,js,jt,ju,n8,gq,gr,p0c,gs,g0,n9,p0d,fe rfl⟩⟩
 rintro ⟨s0_6,s0_b59_5⟩ _ p7z ⟨v79,pn,hB,hr4,p0,p1,p2,p3,p4,pc,pe,d82,nx,kf,d85,d86,ny,d88,gn,n4,go,n5,jq,gp,n6,jr,n7,nz,js,jt,ju,n8,gq,gr,p0c,gs,g0,n9,p0d,F,rfl⟩ ho
 dsimp only at ho
 refine anz <| wq <| W_region rfl <| Wb (Lg ag34 pc.at rfl rfl) <| WL.storeAll (us:=[.int .i64 (y16.Objects),v20,v23,v26,v29,v79]) info34 (by rw [sz34]; rfl) p0 rfl rfl rfl (by intro u hu; simp only [List.mem_cons,List.mem_nil_iff,or_false] at hu; rcases hu with rfl | rfl | rfl | rfl | rfl | rfl <;> first | exact rfl | exact (STy.one _ p1.1 _ (ms rfl)) | exact (STy.one _ p2.1 _ (ms rfl)) | exact (STy.one _ p3.1 _ (ms rfl)) | exact (STy.one _ p4.1 _ (ms rfl)) | exact (STy.one _ pe.1 _ (ms rfl))) fun p50 nd p18=>?_
 replace p18:Row p50 b8 [.int .i64 (y16.Objects),v20,v23,v26,v29,v79] 34:=p18
 replace p1:=okp p1 nd (gn).symm
 replace p2:=okp p2 nd (n4).symm
 replace p3:=okp p3 nd (go).symm
 replace p4:=okp p4 nd (n5).symm
 replace pc:=Row.keep pc nd ((jq).symm _ (ms rfl))
 replace pe:=okp pe nd (gp).symm
 replace hB:=hB.then nd (one_then p5)
 refine anz <| ?_
 cases ho
 exact W_ret ⟨_,res_c Tryz.results92 u34z rfl info34 (by rw [sz34]; rfl) rfl p18.at,_,_,_,_,_,_,_,_,_,_,rfl,hB,p1,p2,p3,p4,pe,(n6),(jr),(n7),(js),(jt),(ju),(gq),(gr),(gs),(n9)⟩

abbrev spec_GeneratedTopology_post (w:World) (x:(MTopology×Int)) (e:Ending) (w':World):Prop:=∃ (v0:Value) (f0:List Nat) (v1:Value) (f1:List Nat) (v2:Value) (f2:List Nat) (v3:Value) (f3:List Nat) (v4:Value) (f4:List Nat),e = .returned (.tuple #[.agg #[.int .i64 x.1.Shape.Objects,v0,v1,v2,v3,v4],.int .i64 x.2])∧Chg [] w w'∧OE [] w.heap.size w' (sOwn 2 (sInt .i64)) [v0] x.1.Shape.From f0∧OE [] w.heap.size w' (sOwn 2 (sInt .i64)) [v1] x.1.Shape.To f1∧OE [] w.heap.size w' (sOwn 2 (sInt .i64)) [v2] x.1.Shape.Identity f2∧OE [] w.heap.size w' (sOwn 22 (sOwn 2 (sInt .i64))) [v3] x.1.Shape.Composites f3∧OE [] w.heap.size w' (sOwn 23 (sOwn 22 (sOwn 2 (sInt .i64)))) [v4] x.1.Covers f4∧Dis f0 f1∧Dis f0 f2∧Dis f0 f3∧Dis f0 f4∧Dis f1 f2∧Dis f1 f3∧Dis f1 f4∧Dis f2 f3∧Dis f2 f4∧Dis f3 f4
abbrev spec_GeneratedTopology_T (w:World):=Tm Tryz.prog Tryz.f34 23 (spec_GeneratedTopology_post w)
theorem spec_GeneratedTopology_calls {w:World} {x0:MTopology} {zk:Value} {zo:List Nat} {zl:Value} {zp:List Nat} {zm:Value} {zq:List Nat} {zn:Value} {zr:List Nat} {ze:Value} {z8:List Nat} (zu:(sImm (sInt .i64)).rep w.heap [zk] x0.Shape.From zo) (zv:(sImm (sInt .i64)).rep w.heap [zl] x0.Shape.To zp) (zw:(sImm (sInt .i64)).rep w.heap [zm] x0.Shape.Identity zq) (zx:(sImm (sImm (sInt .i64))).rep w.heap [zn] x0.Shape.Composites zr) (zj:(sImm (sImm (sImm (sInt .i64)))).rep w.heap [ze] x0.Covers z8) {y:(MTopology×Int)} (hm:spec_GeneratedTopology x0=some y) :
  Calls Tryz.prog 34 #[.agg #[.int .i64 (x0.Shape.Objects),zk,zl,zm,zn,ze]] w (spec_GeneratedTopology_post w y):=by
 refine Cm (S:=Unit) Tryz.func34 rfl Tryz.ntmps34 rfl hm fun o ho hB=>?_
 clear hm
 refine wq <| W_region rfl <| WL.box fun b1 wd2 hC3 hr4 hl5=>?_
 replace hr4:Row wd2 b1 [.int .i64 (x0.Shape.Objects),zk,zl,zm,zn,ze] 34:=hr4
 replace hB:=(hB.trans hC3)
 refine WL.alloc info34 zr34 fun b8 wd9 kb p0 kz=>?_
 replace p0:Row wd9 b8 [.int .i64 ((0:Int)),.slice none 0 0,.slice none 0 0,.slice none 0 0,.slice none 0 0,.slice none 0 0] 34:=p0
 have p5:w.heap.size≤b8:=Nat.le_trans hB.size kz
 replace hr4:=kr hr4 kb
 replace hB:=(hB.trans kb)
 refine Wb (Ai rfl) <| anz <| wq <| W_region rfl <| Wb (Lg ag34 hr4.at rfl rfl) <| ?_
 obtain ⟨y16,n0,ho⟩:=bs ho
 refine WL.call rfl (op_callF Tryz.func70 rfl rfl) (spec_l27Read_calls (kp _ zu hB) (kp _ zv hB) (kp _ zw hB) (kp _ zx hB) (kp _ zj hB) n0) <| ?_
 rintro _ p0w ⟨v20,pk,v23,pl,v26,pg,v29,pm,v32,f33,v35,f36,v38,f39,v41,f42,rfl,pa,p1,p54,p2,p55,p3,gx,p4,p19,pw,p56,px,p57,py,p58,qd,d50,jn,ne,jo,j3,j4,j5⟩
 refine ⟨_,rfl,?_⟩
 have d81:Dis pk [b8]:=dis_out p54 (da (dis_par (sl _ zu) (one_then p5)) (da (dis_par (sl _ zv) (one_then p5)) (da (dis_par (sl _ zw) (one_then p5)) (da (dis_par (sl _ zx) (one_then p5)) (dis_par (sl _ zj) (one_then p5)))))) (one_lt (Row.lt p0))
 have kf:Dis pl [b8]:=dis_out p55 (da (dis_par (sl _ zu) (one_then p5)) (da (dis_par (sl _ zv) (one_then p5)) (da (dis_par (sl _ zw) (one_then p5)) (da (dis_par (sl _ zx) (one_then p5)) (dis_par (sl _ zj) (one_then p5)))))) (one_lt (Row.lt p0))
 have ny:Dis pg [b8]:=dis_out gx (da (dis_par (sl _ zu) (one_then p5)) (da (dis_par (sl _ zv) (one_then p5)) (da (dis_par (sl _ zw) (one_then p5)) (da (dis_par (sl _ zx) (one_then p5)) (dis_par (sl _ zj) (one_then p5)))))) (one_lt (Row.lt p0))
 have n4:Dis pm [b8]:=dis_out p19 (da (dis_par (sl _ zu) (one_then p5)) (da (dis_par (sl _ zv) (one_then p5)) (da (dis_par (sl _ zw) (one_then p5)) (da (dis_par (sl _ zx) (one_then p5)) (dis_par (sl _ zj) (one_then p5)))))) (one_lt (Row.lt p0))
 have jq:Dis f33 [b8]:=dis_out p56 (da (dis_par (sl _ zu) (one_then p5)) (da (dis_par (sl _ zv) (one_then p5)) (da (dis_par (sl _ zw) (one_then p5)) (da (dis_par (sl _ zx) (one_then p5)) (dis_par (sl _ zj) (one_then p5)))))) (one_lt (Row.lt p0))
 have jr:Dis f36 [b8]:=dis_out p57 (da (dis_par (sl _ zu) (one_then p5)) (da (dis_par (sl _ zv) (one_then p5)) (da (dis_par (sl _ zw) (one_then p5)) (da (dis_par (sl _ zx) (one_then p5)) (dis_par (sl _ zj) (one_then p5)))))) (one_lt (Row.lt p0))
 have js:Dis f39 [b8]:=dis_out p58 (da (dis_par (sl _ zu) (one_then p5)) (da (dis_par (sl _ zv) (one_then p5)) (da (dis_par (sl _ zw) (one_then p5)) (da (dis_par (sl _ zx) (one_then p5)) (dis_par (sl _ zj) (one_then p5)))))) (one_lt (Row.lt p0))
 have n8:=dl (ofr qd) (one_lt (Row.lt p0))
 replace qd:=OE.low (G:=[]) qd hB.size
 replace hr4:=kr hr4 pa
 replace p0:=kr p0 pa
 replace hB:=(hB.trans pa)
 refine Wb (Mt rfl) <| Wb (Ex (.agg #[.int .i64 (y16.1.C.Objects),v20,v23,v26,v29,v32,v35,v38]) rfl rfl) <| Wb (Ex v41 rfl rfl) <| Wb (Exi rfl rfl) <| WL.alloc info96 zr96 fun p1a p59 qz p1b j0=>?_
 replace p1b:Row p59 p1a [.int .i64 ((0:Int)),.slice none 0 0,.slice none 0 0,.slice none 0 0,.slice none 0 0,.slice none 0 0,.slice none 0 0,.slice none 0 0] 96:=p1b
 have p5a:w.heap.size≤p1a:=Nat.le_trans hB.size j0
 have p37:=dl (onw j0) (one_lt (Row.lt hr4))
 have p1c:=dl (onw j0) (one_lt (Row.lt p0))
 have p38:=dl (onw j0) (sl _ p1)
 have p0f:=dl (onw j0) (sl _ p2)
 have p0g:=dl (onw j0) (sl _ p3)
 have kl:=dl (onw j0) (sl _ p4)
 have km:=dl (onw j0) (sl _ pw)
 have kn:=dl (onw j0) (sl _ px)
 have jf:=dl (onw j0) (sl _ py)
 have q7:=dl (onw j0) (sl _ qd.1)
 replace p1:=kp _ p1 qz
 replace p2:=kp _ p2 qz
 replace p3:=kp _ p3 qz
 replace p4:=kp _ p4 qz
 replace pw:=kp _ pw qz
 replace px:=kp _ px qz
 replace py:=kp _ py qz
 replace hr4:=kr hr4 qz
 replace p0:=kr p0 qz
 replace qd:=ko qd qz
 replace hB:=(hB.trans qz)
 refine WL.storeAll (us:=[.int .i64 (y16.1.C.Objects),v20,v23,v26,v29,v32,v35,v38]) info96 (by rw [sz96]; rfl) p1b rfl rfl rfl (by intro u hu; simp only [List.mem_cons,List.mem_nil_iff,or_false] at hu; rcases hu with rfl | rfl | rfl | rfl | rfl | rfl | rfl | rfl <;> first | exact rfl | exact (STy.one _ p1 _ (ms rfl)) | exact (STy.one _ p2 _ (ms rfl)) | exact (STy.one _ p3 _ (ms rfl)) | exact (STy.one _ p4 _ (ms rfl)) | exact (STy.one _ pw _ (ms rfl)) | exact (STy.one _ px _ (ms rfl)) | exact (STy.one _ py _ (ms rfl))) fun p39 j1 qp=>?_
 replace qp:Row p39 p1a [.int .i64 (y16.1.C.Objects),v20,v23,v26,v29,v32,v35,v38] 96:=qp
 replace p1:=STy.keep _ p1 j1 (p38).symm
 replace p2:=STy.keep _ p2 j1 (p0f).symm
 replace p3:=STy.keep _ p3 j1 (p0g).symm
 replace p4:=STy.keep _ p4 j1 (kl).symm
 replace pw:=STy.keep _ pw j1 (km).symm
 replace px:=STy.keep _ px j1 (kn).symm
 replace py:=STy.keep _ py j1 (jf).symm
 replace hr4:=Row.keep hr4 j1 ((p37).symm _ (ms rfl))
 replace p0:=Row.keep p0 j1 ((p1c).symm _ (ms rfl))
 replace qd:=okp qd j1 (q7).symm
 replace hB:=hB.then j1 (one_then p5a)
 refine Wb (Av v41 rfl) <| Wb (Ai rfl) <| anz <| wq <| wq <| Wq rfl (cr [] p39) <| Qa (Mi rfl) <| Qa (Bn rfl rfl) <| fun p3a p0h=>anz <| W_cond (b:=(y16.2.2) != ((0:Int))) rfl ?_ ?_
 intro p1d
 rw [p1d] at ho
 refine wq <| W_region rfl <| Wb (Bu bld34_) <| Wb (Mi rfl) <| WL.storeAll (us:=[.int .i64 ((0:Int)),.slice none 0 0,.slice none 0 0,.slice none 0 0,.slice none 0 0,.slice none 0 0]) info34 (by rw [sz34]; rfl) (kr p0 p0h) rfl rfl rfl (by intro u hu; simp only [List.mem_cons,List.mem_nil_iff,or_false] at hu; rcases hu with rfl | rfl | rfl | rfl | rfl | rfl <;> first | exact rfl) fun p2z ql p1e=>?_
 replace p1e:Row p2z b8 [.int .i64 ((0:Int)),.slice none 0 0,.slice none 0 0,.slice none 0 0,.slice none 0 0,.slice none 0 0] 34:=p1e
 have p5b:=(p0h.nil (G:=[b8])).trans ql
 replace hB:=hB.then p5b (one_then p5)
 refine Wb (Ai rfl) <| anz <| ?_
 cases ho
 exact W_ret ⟨_,res_c1 Tryz.results34 u34z rfl info34 (by rw [sz34]; rfl) rfl p1e.at,_,_,_,_,_,_,_,_,_,_,rfl,hB,nil_OE,nil_OE,nil_OE,nil_OE,nil_OE,(fun _ h=>nomatch h),(fun _ h=>nomatch h),(fun _ h=>nomatch h),(fun _ h=>nomatch h),(fun _ h=>nomatch h),(fun _ h=>nomatch h),(fun _ h=>nomatch h),(fun _ h=>nomatch h),(fun _ h=>nomatch h),(fun _ h=>nomatch h)⟩
 intro p1d
 rw [p1d] at ho
 refine W_skip <| anz <| wq <| W_region rfl <| Wa p0h (Lg ag96 qp.at rfl rfl) <| Wb (Mv v41 rfl) <| ?_
 have j2:=p0h.trans (cr [] p3a)
 replace p1:=kp _ p1 j2
 replace p2:=kp _ p2 j2
 replace p3:=kp _ p3 j2
 replace p4:=kp _ p4 j2
 replace pw:=kp _ pw j2
 replace px:=kp _ px j2
 replace py:=kp _ py j2
 replace p0:=kr p0 j2
 replace qd:=ko qd j2
 replace qp:=kr qp j2
 replace hB:=(hB.trans j2)
 obtain ⟨y133,p5c,ho⟩:=bs ho
 refine WL.call rfl (op_callF Tryz.func91 rfl rfl) (spec_l27Spread_calls p1 p2 p3 p4 pw px py (OE.give (B':=p3a.heap.size) qd fun _ h=>h) (Dis.symm (d50).symm) (Dis.symm (jn).symm) (Dis.symm (ne).symm) (Dis.symm (jo).symm) (Dis.symm (j3).symm) (Dis.symm (j4).symm) (Dis.symm (j5).symm) p5c) <| ?_
 rintro _ p81 ⟨p82,rfl,jg,kq⟩
 refine ⟨_,rfl,?_⟩
 have q0:=dis_back kq n8 (one_lt (Row.lt p0))
 replace kq:=OE.back kq qd.2.2 hB.size
 replace p1:=STy.keep _ p1 jg (Dis.symm (d50).symm)
 replace p2:=STy.keep _ p2 jg (Dis.symm (jn).symm)
 replace p3:=STy.keep _ p3 jg (Dis.symm (ne).symm)
 replace p4:=STy.keep _ p4 jg (Dis.symm (jo).symm)
 replace pw:=STy.keep _ pw jg (Dis.symm (j3).symm)
 replace px:=STy.keep _ px jg (Dis.symm (j4).symm)
 replace py:=STy.keep _ py jg (Dis.symm (j5).symm)
 replace p0:=Row.keep p0 jg ((Dis.symm n8) _ (ms rfl))
 replace qp:=Row.keep qp jg ((Dis.symm (q7).symm) _ (ms rfl))
 replace hB:=hB.then jg qd.2.2
 refine anz <| wq <| W_region rfl <| Wb (Lg ag96 qp.at rfl rfl) <| Wb (Mv v41 rfl) <| ?_
 obtain ⟨y149,p5d,ho⟩:=bs ho
 refine WL.call rfl (op_callF Tryz.func92 rfl rfl) (spec_l27Covers_calls p1 p2 p3 p4 pw px py ((Le.own (Le.own (Le.refl _) 4) 138).le kq.1) p5d) <| ?_
 rintro _ p5e ⟨v153,p83,v156,p84,v159,p85,v162,p86,v165,p5f,rfl,pf,nf,ng,nh,ni,ph,j9,p1f,p1g,p1h,p0i,p1i,gy,p1j,p5g,p5h⟩
 refine ⟨_,rfl,?_⟩
 have p5i:=dl (ofr nf) (one_lt (Row.lt p0))
 replace nf:=OE.low (G:=[]) nf hB.size
 have p5j:=dl (ofr ng) (one_lt (Row.lt p0))
 replace ng:=OE.low (G:=[]) ng hB.size
 have p5k:=dl (ofr nh) (one_lt (Row.lt p0))
 replace nh:=OE.low (G:=[]) nh hB.size
 have p1k:=dl (ofr ni) (one_lt (Row.lt p0))
 replace ni:=OE.low (G:=[]) ni hB.size
 have p15:=dl (ofr ph) (one_lt (Row.lt p0))
 replace ph:=OE.low (G:=[]) ph hB.size
 replace p1:=kp _ p1 pf
 replace p2:=kp _ p2 pf
 replace p3:=kp _ p3 pf
 replace p4:=kp _ p4 pf
 replace pw:=kp _ pw pf
 replace px:=kp _ px pf
 replace py:=kp _ py pf
 replace p0:=kr p0 pf
 replace qp:=kr qp pf
 replace kq:=ko kq pf
 replace hB:=(hB.trans pf)
 refine WL.storeAll (us:=[.int .i64 (y149.Shape.Objects),v153,v156,v159,v162,v165]) info34 (by rw [sz34]; rfl) p0 rfl rfl rfl (by intro u hu; simp only [List.mem_cons,List.mem_nil_iff,or_false] at hu; rcases hu with rfl | rfl | rfl | rfl | rfl | rfl <;> first | exact rfl | exact (STy.one _ nf.1 _ (ms rfl)) | exact (STy.one _ ng.1 _ (ms rfl)) | exact (STy.one _ nh.1 _ (ms rfl)) | exact (STy.one _ ni.1 _ (ms rfl)) | exact (STy.one _ ph.1 _ (ms rfl))) fun p5l q2 p1l=>?_
 replace p1l:Row p5l b8 [.int .i64 (y149.Shape.Objects),v153,v156,v159,v162,v165] 34:=p1l
 replace p1:=STy.keep _ p1 q2 d81
 replace p2:=STy.keep _ p2 q2 kf
 replace p3:=STy.keep _ p3 q2 ny
 replace p4:=STy.keep _ p4 q2 n4
 replace pw:=STy.keep _ pw q2 jq
 replace px:=STy.keep _ px q2 jr
 replace py:=STy.keep _ py q2 js
 replace qp:=Row.keep qp q2 (p1c _ (ms rfl))
 replace kq:=okp kq q2 q0
 replace nf:=okp nf q2 p5i
 replace ng:=okp ng q2 p5j
 replace nh:=okp nh q2 p5k
 replace ni:=okp ni q2 p1k
 replace ph:=okp ph q2 p15
 replace hB:=hB.then q2 (one_then p5)
 refine Wb (Ai rfl) <| anz <| ?_
 cases ho
 exact W_ret ⟨_,res_c1 Tryz.results34 u34z rfl info34 (by rw [sz34]; rfl) rfl p1l.at,_,_,_,_,_,_,_,_,_,_,rfl,hB,nf,ng,nh,ni,ph,(j9),(p1f),(p1g),(p1h),(p0i),(p1i),(gy),(p1j),(p5g),(p5h)⟩

abbrev sync_atomic_Int64_Load_post (w:World) (x:(Int)) (e:Ending) (w':World):Prop:=e = .returned (.int .i64 x)∧Chg [] w w'
abbrev sync_atomic_Int64_Load_T (w:World):=Tm Tryz.prog Tryz.f156 7 (sync_atomic_Int64_Load_post w)
theorem sync_atomic_Int64_Load_calls {w:World} {x0:Int} {p_x0:Addr} (a_x0:At w p_x0 [.int .i64 (x0)]) {y:(Int)} (hm:sync_atomic_Int64_Load x0=some y) :
  Calls Tryz.prog 156 #[.pointer (some (p_x0))] w (sync_atomic_Int64_Load_post w y):=by
 refine Cm (S:=Unit) Tryz.func156 rfl Tryz.ntmps156 rfl hm fun o ho hB=>?_
 clear hm
 refine wq <| Wq rfl (cr [] w) <| Qa (Ai rfl) <| fun wd1 hC2=>anz <| wq <| Wq rfl hC2 <| Qa (Mp rfl) <| Qa (Nk rfl) <| Qa (F0 fa197_2 rfl) <| qv (v:=.int .i64 (x0)) rfl (fun _ hC=>op_atLoad Tryz.func209 (by kernel_rfl) (by kernel_rfl) (by kernel_rfl) (by kernel_rfl) rfl ((At.keep0 a_x0 (hB.trans hC)).cell0 rfl)) <| Qa (Ai rfl) <| fun wd3 hC4=>anz <| ?_
 cases ho
 exact W_ret ⟨_,res_1 Tryz.results156,rfl,(hB.trans hC4)⟩

abbrev impl_coverage_close_post (ze:Value) (z8:List Nat) (b_x0_Count:Nat) (p_x0:Addr) (w:World) (x:((List (List Bool))×Int)) (e:Ending) (w':World):Prop:=∃ (f0:List Nat),e = .returned (.pointer (some p_x0))∧Chg (z8++[b_x0_Count]) w w'∧OE (z8++[b_x0_Count]) w.heap.size w' (sOwn 138 (sOwn 4 sBool)) [ze] x.1 f0∧Row w' b_x0_Count [.int .i64 x.2] 197∧Dis f0 [b_x0_Count]
abbrev impl_coverage_close_T (ze:Value) (z8:List Nat) (b_x0_Count:Nat) (p_x0:Addr) (w:World):=Tm Tryz.prog Tryz.f94 21 (impl_coverage_close_post ze z8 b_x0_Count p_x0 w)
theorem impl_coverage_close_calls {w:World} {x0:MCoverage} {p_x0:Addr} {p_x0_Classifier:Addr} {z1h:Value} {z1t:List Nat} {z1i:Value} {z1u:List Nat} {z1j:Value} {z1v:List Nat} {z1k:Value} {z1w:List Nat} {z1l:Value} {z1x:List Nat} {z1f:Value} {z1y:List Nat} {z1d:Value} {z20:List Nat} {p_x0_C:Addr} {zy:Value} {z17:List Nat} {zt:Value} {z18:List Nat} {z10:Value} {z19:List Nat} {z11:Value} {z1a:List Nat} {ze:Value} {z8:List Nat} {b_x0_Count:Nat} (z1m:(sImm (sInt .i64)).rep w.heap [z1h] x0.Classifier.Sets.Shape.From z1t) (z1n:(sImm (sInt .i64)).rep w.heap [z1i] x0.Classifier.Sets.Shape.To z1u) (z1o:(sImm (sInt .i64)).rep w.heap [z1j] x0.Classifier.Sets.Shape.Identity z1v) (z1p:(sImm (sImm (sInt .i64))).rep w.heap [z1k] x0.Classifier.Sets.Shape.Composites z1w) (z1q:(sImm (sInt .i64)).rep w.heap [z1l] x0.Classifier.Sets.Sizes z1x) (z1g:(sImm (sImm (sInt .i64))).rep w.heap [z1f] x0.Classifier.Sets.Actions z1y) (z1e:(sImm (sImm (sImm (sInt .i64)))).rep w.heap [z1d] x0.Classifier.Sieves z20) (a_x0_Classifier:At w p_x0_Classifier [.int .i64 (x0.Classifier.Sets.Shape.Objects),z1h,z1i,z1j,z1k,z1l,z1f,z1d]) (z16:(sImm (sInt .i64)).rep w.heap [zy] x0.C.From z17) (z12:(sImm (sInt .i64)).rep w.heap [zt] x0.C.To z18) (z1b:(sImm (sInt .i64)).rep w.heap [z10] x0.C.Identity z19) (z1c:(sImm (sImm (sInt .i64))).rep w.heap [z11] x0.C.Composites z1a) (a_x0_C:At w p_x0_C [.int .i64 (x0.C.Objects),zy,zt,z10,z11]) (o_x0_Covers:OE z8 w.heap.size w (sOwn 138 (sOwn 4 sBool)) [ze] x0.Covers z8) (r_x0_Count:Row w b_x0_Count [.int .i64 (x0.Count)] 197) (a_x0:At w p_x0 [.pointer (some (p_x0_Classifier)),.pointer (some (p_x0_C)),ze,.pointer (some (⟨b_x0_Count,0,none⟩))]) (d_0_1:Dis z8 [b_x0_Count]) (n_h_x0_Classifier_Sets_Shape_From:Dis z1t (z8++[b_x0_Count])) (n_h_x0_Classifier_Sets_Shape_To:Dis z1u (z8++[b_x0_Count])) (n_h_x0_Classifier_Sets_Shape_Identity:Dis z1v (z8++[b_x0_Count])) (n_h_x0_Classifier_Sets_Shape_Composites:Dis z1w (z8++[b_x0_Count])) (n_h_x0_Classifier_Sets_Sizes:Dis z1x (z8++[b_x0_Count])) (n_h_x0_Classifier_Sets_Actions:Dis z1y (z8++[b_x0_Count])) (n_h_x0_Classifier_Sieves:Dis z20 (z8++[b_x0_Count])) (n_x0_Classifier:p_x0_Classifier.block ∉ (z8++[b_x0_Count])) (n_h_x0_C_From:Dis z17 (z8++[b_x0_Count])) (n_h_x0_C_To:Dis z18 (z8++[b_x0_Count])) (n_h_x0_C_Identity:Dis z19 (z8++[b_x0_Count])) (n_h_x0_C_Composites:Dis z1a (z8++[b_x0_Count])) (n_x0_C:p_x0_C.block ∉ (z8++[b_x0_Count])) (n_x0:p_x0.block ∉ (z8++[b_x0_Count])) {y:((List (List Bool))×Int)} (hm:impl_coverage_close x0=some y) :
  Calls Tryz.prog 94 #[.pointer (some (p_x0))] w (impl_coverage_close_post ze z8 b_x0_Count p_x0 w y):=by
 refine Cm (S:=Unit) Tryz.func94 rfl Tryz.ntmps94 rfl hm fun o ho hB=>?_
 clear hm
 have hB:Chg (z8++[b_x0_Count]) w w:=cr _ _
 replace o_x0_Covers:OE (z8++[b_x0_Count]) w.heap.size w (sOwn 138 (sOwn 4 sBool)) [ze] x0.Covers z8:=OE.give o_x0_Covers fun b hb=>by simp [hb]
 refine wq <| Wq rfl (cr [] w) <| Qa (Av (.pointer none) rfl) <| fun p5m p1m=>anz <| wq <| wq <| Wq rfl p1m <| Qa (Ai rfl) <| fun p5n gz=>anz <| Wf (S1:=Int×Int×(List (List Bool))) (fun s r w'=>match s with | (s0_3,s0_b_x0_Count_0,s0_o_x0_Covers)=>∃ (pg:List Nat),Chg (z8++[b_x0_Count]) w w'∧OE (z8++[b_x0_Count]) w.heap.size w' (sOwn 138 (sOwn 4 sBool)) [ze] (s0_o_x0_Covers) pg∧Row w' b_x0_Count [.int .i64 (s0_b_x0_Count_0)] 197∧Dis pg [b_x0_Count]∧∃ F,r=updL F [(0,.pointer (some (p_x0))),(3,.int .i64 (s0_3))]) (impl_coverage_close_T ze z8 b_x0_Count p_x0 w) ho ⟨_,(hB.trans (Chg.nil gz)),(ko o_x0_Covers gz),(kr r_x0_Count gz),(d_0_1),fe rfl⟩ ?_ ?_
 rintro ⟨s0_3,s0_b_x0_Count_0,s0_o_x0_Covers⟩ _ p5o ⟨pg,hB,o_x0_Covers,r_x0_Count,gg,F,rfl⟩ o ho
 replace ho:impl_coverage_close_L0 x0 s0_3 s0_b_x0_Count_0 s0_o_x0_Covers=some o:=ho
 unfold impl_coverage_close_L0 at ho
 refine wq <| wq <| Wq rfl (cr [] p5o) <| Qa (Mi rfl) <| Qa (Mp rfl) <| Qa (Nk rfl) <| Qa (Fp fa144_3 rfl) <| Qa (La na142 (At.keep a_x0 hB n_x0) rfl rfl) <| ?_
 obtain ⟨y30,p5p,ho⟩:=bs ho
 refine Qc Tryz.func156 rfl rfl (fun _ hC=>sync_atomic_Int64_Load_calls (kr r_x0_Count hC).at p5p) <| Qa (Bn rfl rfl) <| fun p87 p0j=>anz <| W_cond (b:=(s0_3) != (y30)) rfl ?_ ?_
 intro p1n
 rw [p1n] at ho
 refine W_skip <| anz <| W_block <| wq <| Wq rfl p0j <| Qa (Mp rfl) <| Qa (Nk rfl) <| Qa (Fp fa144_3 rfl) <| Qa (La na142 (At.keep a_x0 hB n_x0) rfl rfl) <| ?_
 obtain ⟨y35,p1o,ho⟩:=bs ho
 refine Qc Tryz.func156 rfl rfl (fun _ hC=>sync_atomic_Int64_Load_calls (kr r_x0_Count hC).at p1o) <| Qa (Ai rfl) <| fun p1p p1q=>anz <| W_region rfl <| Wb (Mp rfl) <| Wb (Mp rfl) <| WL.val (v:=.func (.func 124) #[.pointer (some (p_x0))] #[]) rfl (op_makeFunc (fst:=[.tmp 17]) (cap:=[])) <| ?_
 have p1r:=p1q.trans (cr [] p1p)
 replace o_x0_Covers:=ko o_x0_Covers p1r
 replace r_x0_Count:=kr r_x0_Count p1r
 replace hB:=(hB.trans (Chg.nil p1r))
 obtain ⟨y40,p5q,ho⟩:=bs ho
 refine WL.call rfl (op_callF Tryz.func157 rfl rfl) (impl_coverage_follows_close_calls (x0:=(MCoverage.mk x0.Classifier x0.C s0_o_x0_Covers s0_b_x0_Count_0)) (STy.keep _ z1m hB n_h_x0_Classifier_Sets_Shape_From) (STy.keep _ z1n hB n_h_x0_Classifier_Sets_Shape_To) (STy.keep _ z1o hB n_h_x0_Classifier_Sets_Shape_Identity) (STy.keep _ z1p hB n_h_x0_Classifier_Sets_Shape_Composites) (STy.keep _ z1q hB n_h_x0_Classifier_Sets_Sizes) (STy.keep _ z1g hB n_h_x0_Classifier_Sets_Actions) (STy.keep _ z1e hB n_h_x0_Classifier_Sieves) (At.keep a_x0_Classifier hB n_x0_Classifier) (STy.keep _ z16 hB n_h_x0_C_From) (STy.keep _ z12 hB n_h_x0_C_To) (STy.keep _ z1b hB n_h_x0_C_Identity) (STy.keep _ z1c hB n_h_x0_C_Composites) (At.keep a_x0_C hB n_x0_C) (OE.give (B':=p1p.heap.size) o_x0_Covers fun _ h=>h) r_x0_Count (At.keep a_x0 hB n_x0) gg (dis_parF z1m n_h_x0_Classifier_Sets_Shape_From (low_app o_x0_Covers.2.2 (fun i hi=>.inl (by simp [List.mem_singleton.1 hi])))) (dis_parF z1n n_h_x0_Classifier_Sets_Shape_To (low_app o_x0_Covers.2.2 (fun i hi=>.inl (by simp [List.mem_singleton.1 hi])))) (dis_parF z1o n_h_x0_Classifier_Sets_Shape_Identity (low_app o_x0_Covers.2.2 (fun i hi=>.inl (by simp [List.mem_singleton.1 hi])))) (dis_parF z1p n_h_x0_Classifier_Sets_Shape_Composites (low_app o_x0_Covers.2.2 (fun i hi=>.inl (by simp [List.mem_singleton.1 hi])))) (dis_parF z1q n_h_x0_Classifier_Sets_Sizes (low_app o_x0_Covers.2.2 (fun i hi=>.inl (by simp [List.mem_singleton.1 hi])))) (dis_parF z1g n_h_x0_Classifier_Sets_Actions (low_app o_x0_Covers.2.2 (fun i hi=>.inl (by simp [List.mem_singleton.1 hi])))) (dis_parF z1e n_h_x0_Classifier_Sieves (low_app o_x0_Covers.2.2 (fun i hi=>.inl (by simp [List.mem_singleton.1 hi])))) (pat_out a_x0_Classifier n_x0_Classifier (low_app o_x0_Covers.2.2 (fun i hi=>.inl (by simp [List.mem_singleton.1 hi])))) (dis_parF z16 n_h_x0_C_From (low_app o_x0_Covers.2.2 (fun i hi=>.inl (by simp [List.mem_singleton.1 hi])))) (dis_parF z12 n_h_x0_C_To (low_app o_x0_Covers.2.2 (fun i hi=>.inl (by simp [List.mem_singleton.1 hi])))) (dis_parF z1b n_h_x0_C_Identity (low_app o_x0_Covers.2.2 (fun i hi=>.inl (by simp [List.mem_singleton.1 hi])))) (dis_parF z1c n_h_x0_C_Composites (low_app o_x0_Covers.2.2 (fun i hi=>.inl (by simp [List.mem_singleton.1 hi])))) (pat_out a_x0_C n_x0_C (low_app o_x0_Covers.2.2 (fun i hi=>.inl (by simp [List.mem_singleton.1 hi])))) (pat_out a_x0 n_x0 (low_app o_x0_Covers.2.2 (fun i hi=>.inl (by simp [List.mem_singleton.1 hi])))) p5q) ?_
 rintro _ p5r ⟨f44,rfl,p1s,o45,o46,d47⟩
 refine ⟨_,rfl,?_⟩
 replace o45:=OE.back o45 (low_app o_x0_Covers.2.2 (fun i hi=>.inl (by simp [List.mem_singleton.1 hi]))) hB.size
 replace hB:=hB.then p1s (low_app o_x0_Covers.2.2 (fun i hi=>.inl (by simp [List.mem_singleton.1 hi])))
 refine inBlk_n <| ?_
 cases ho
 exact ⟨_,hB,o45,o46,d47,fe rfl⟩
 intro p1n
 rw [p1n] at ho
 refine W_exit <| andThen_x <| ?_
 cases ho
 exact ⟨rfl,⟨_,(hB.trans (Chg.nil p0j)),(ko o_x0_Covers p0j),(kr r_x0_Count p0j),gg,fe rfl⟩⟩
 rintro ⟨s0_3,s0_b_x0_Count_0,s0_o_x0_Covers⟩ _ p5u ⟨pg,hB,o_x0_Covers,r_x0_Count,gg,F,rfl⟩ ho
 dsimp only at ho
 refine anz <| wq <| Wq rfl (cr [] p5u) <| Qa (Mp rfl) <| Qa (Ap rfl) <| fun p89 p1u=>anz <| ?_
 cases ho
 exact W_ret ⟨_,res_1 Tryz.results94,_,rfl,(hB.trans (Chg.nil p1u)),(ko o_x0_Covers p1u),(kr r_x0_Count p1u),gg⟩

abbrev impl_coverage_topology_post (w:World) (x:(MTopology)) (e:Ending) (w':World):Prop:=∃ (v0:Value) (f0:List Nat) (v1:Value) (f1:List Nat) (v2:Value) (f2:List Nat) (v3:Value) (f3:List Nat) (v4:Value) (f4:List Nat),e = .returned (.agg #[.int .i64 x.Shape.Objects,v0,v1,v2,v3,v4])∧Chg [] w w'∧OE [] w.heap.size w' (sOwn 2 (sInt .i64)) [v0] x.Shape.From f0∧OE [] w.heap.size w' (sOwn 2 (sInt .i64)) [v1] x.Shape.To f1∧OE [] w.heap.size w' (sOwn 2 (sInt .i64)) [v2] x.Shape.Identity f2∧OE [] w.heap.size w' (sOwn 22 (sOwn 2 (sInt .i64))) [v3] x.Shape.Composites f3∧OE [] w.heap.size w' (sOwn 23 (sOwn 22 (sOwn 2 (sInt .i64)))) [v4] x.Covers f4∧Dis f0 f1∧Dis f0 f2∧Dis f0 f3∧Dis f0 f4∧Dis f1 f2∧Dis f1 f3∧Dis f1 f4∧Dis f2 f3∧Dis f2 f4∧Dis f3 f4
abbrev impl_coverage_topology_T (w:World):=Tm Tryz.prog Tryz.f95 60 (impl_coverage_topology_post w)
theorem impl_coverage_topology_calls {w:World} {x0:MCoverage} {p_x0:Addr} {p_x0_Classifier:Addr} {z1h:Value} {z1t:List Nat} {z1i:Value} {z1u:List Nat} {z1j:Value} {z1v:List Nat} {z1k:Value} {z1w:List Nat} {z1l:Value} {z1x:List Nat} {z1f:Value} {z1y:List Nat} {z1d:Value} {z20:List Nat} {p_x0_C:Addr} {zy:Value} {z17:List Nat} {zt:Value} {z18:List Nat} {z10:Value} {z19:List Nat} {z11:Value} {z1a:List Nat} {ze:Value} {z8:List Nat} {p_x0_Count:Addr} (z1m:(sImm (sInt .i64)).rep w.heap [z1h] x0.Classifier.Sets.Shape.From z1t) (z1n:(sImm (sInt .i64)).rep w.heap [z1i] x0.Classifier.Sets.Shape.To z1u) (z1o:(sImm (sInt .i64)).rep w.heap [z1j] x0.Classifier.Sets.Shape.Identity z1v) (z1p:(sImm (sImm (sInt .i64))).rep w.heap [z1k] x0.Classifier.Sets.Shape.Composites z1w) (z1q:(sImm (sInt .i64)).rep w.heap [z1l] x0.Classifier.Sets.Sizes z1x) (z1g:(sImm (sImm (sInt .i64))).rep w.heap [z1f] x0.Classifier.Sets.Actions z1y) (z1e:(sImm (sImm (sImm (sInt .i64)))).rep w.heap [z1d] x0.Classifier.Sieves z20) (a_x0_Classifier:At w p_x0_Classifier [.int .i64 (x0.Classifier.Sets.Shape.Objects),z1h,z1i,z1j,z1k,z1l,z1f,z1d]) (z16:(sImm (sInt .i64)).rep w.heap [zy] x0.C.From z17) (z12:(sImm (sInt .i64)).rep w.heap [zt] x0.C.To z18) (z1b:(sImm (sInt .i64)).rep w.heap [z10] x0.C.Identity z19) (z1c:(sImm (sImm (sInt .i64))).rep w.heap [z11] x0.C.Composites z1a) (a_x0_C:At w p_x0_C [.int .i64 (x0.C.Objects),zy,zt,z10,z11]) (zj:(sImm (sImm sBool)).rep w.heap [ze] x0.Covers z8) (a_x0_Count:At w p_x0_Count [.int .i64 (x0.Count)]) (a_x0:At w p_x0 [.pointer (some (p_x0_Classifier)),.pointer (some (p_x0_C)),ze,.pointer (some (p_x0_Count))]) {y:(MTopology)} (hm:impl_coverage_topology x0=some y) :
  Calls Tryz.prog 95 #[.pointer (some (p_x0))] w (impl_coverage_topology_post w y):=by
 refine Cm (S:=Unit) Tryz.func95 rfl Tryz.ntmps95 rfl hm fun o ho hB=>?_
 clear hm
 refine wq <| W_region rfl <| WL.alloc info34 zr34 fun b1 wd2 hC3 hr4 hl5=>?_
 replace hr4:Row wd2 b1 [.int .i64 ((0:Int)),.slice none 0 0,.slice none 0 0,.slice none 0 0,.slice none 0 0,.slice none 0 0] 34:=hr4
 have lo6:w.heap.size≤b1:=Nat.le_trans hB.size hl5
 replace hB:=(hB.trans hC3)
 refine anz <| wq <| W_region rfl <| Wb (Mp rfl) <| Wb (Nk rfl) <| Wb (Fp fa144_1 rfl) <| Wb (La na131 (At.keep0 a_x0 hB) rfl rfl) <| ?_
 obtain ⟨y8,hy9,ho⟩:=bs ho
 refine WL.call rfl (op_callF Tryz.func158 rfl rfl) (impl_Category_copy_calls (kp _ z16 hB) (kp _ z12 hB) (kp _ z1b hB) (kp _ z1c hB) (At.keep0 a_x0_C hB) hy9) <| ?_
 rintro _ p3b ⟨v12,q3,v15,q4,v18,q5,v21,q6,rfl,gh,p6,p7,p8,p9,d24,d25,d26,d27,gg,d29⟩
 refine ⟨_,rfl,?_⟩
 have d30:=dl (ofr p6) (one_lt (Row.lt hr4))
 replace p6:=OE.low (G:=[]) p6 hB.size
 have d31:=dl (ofr p7) (one_lt (Row.lt hr4))
 replace p7:=OE.low (G:=[]) p7 hB.size
 have d32:=dl (ofr p8) (one_lt (Row.lt hr4))
 replace p8:=OE.low (G:=[]) p8 hB.size
 have d33:=dl (ofr p9) (one_lt (Row.lt hr4))
 replace p9:=OE.low (G:=[]) p9 hB.size
 replace hr4:=kr hr4 gh
 replace hB:=(hB.trans gh)
 refine Wb (Bu (bld34_0 rfl (STy.one _ p6.1 _ (ms rfl)) (STy.one _ p7.1 _ (ms rfl)) (STy.one _ p8.1 _ (ms rfl)) (STy.one _ p9.1 _ (ms rfl)))) <| WL.alloc info34 zr34 fun pj p62 gi p1v gj=>?_
 replace p1v:Row p62 pj [.int .i64 ((0:Int)),.slice none 0 0,.slice none 0 0,.slice none 0 0,.slice none 0 0,.slice none 0 0] 34:=p1v
 have p3c:w.heap.size≤pj:=Nat.le_trans hB.size gj
 have d41:=dl (onw gj) (one_lt (Row.lt hr4))
 have d42:=dl (onw gj) (sl _ p6.1)
 have d43:=dl (onw gj) (sl _ p7.1)
 have d44:=dl (onw gj) (sl _ p8.1)
 have d45:=dl (onw gj) (sl _ p9.1)
 replace hr4:=kr hr4 gi
 replace p6:=ko p6 gi
 replace p7:=ko p7 gi
 replace p8:=ko p8 gi
 replace p9:=ko p9 gi
 replace hB:=(hB.trans gi)
 refine WL.storeAll (us:=[.int .i64 (y8.Objects),v12,v15,v18,v21,.slice none 0 0]) info34 (by rw [sz34]; rfl) p1v rfl rfl rfl (by intro u hu; simp only [List.mem_cons,List.mem_nil_iff,or_false] at hu; rcases hu with rfl | rfl | rfl | rfl | rfl | rfl <;> first | exact rfl | exact (STy.one _ p6.1 _ (ms rfl)) | exact (STy.one _ p7.1 _ (ms rfl)) | exact (STy.one _ p8.1 _ (ms rfl)) | exact (STy.one _ p9.1 _ (ms rfl))) fun p3d gk pd=>?_
 replace pd:Row p3d pj [.int .i64 (y8.Objects),v12,v15,v18,v21,.slice none 0 0] 34:=pd
 replace hr4:=Row.keep hr4 gk ((d41).symm _ (ms rfl))
 replace p6:=okp p6 gk (d42).symm
 replace p7:=okp p7 gk (d43).symm
 replace p8:=okp p8 gk (d44).symm
 replace p9:=okp p9 gk (d45).symm
 replace hB:=hB.then gk (one_then p3c)
 refine anz <| wq <| wq <| Wq rfl (cr [] p3d) <| Qa (Mp rfl) <| Qa (Nk rfl) <| Qa (F0 fa144_0 rfl) <| Qa (Lb na141 (At.keep0 a_x0 hB) rfl rfl) <| Qa (Nk rfl) <| Qa (Fp fa151_1 rfl) <| Qa (La na149 (At.keep0 a_x0_Classifier hB) rfl rfl) <| Qa (Ln sl149 (kB z1e hB) rfl) <| Qa (Mi rfl) <| fun p8a nj=>anz <| Wf (S1:=Int×(List (List (List Int)))) (fun s r w'=>match s with | (s0_23,s0_b35_5)=>∃ (v53:Value) (pq:List Nat),Chg [] w w'∧Row w' b1 [.int .i64 ((0:Int)),.slice none 0 0,.slice none 0 0,.slice none 0 0,.slice none 0 0,.slice none 0 0] 34∧OE [] w.heap.size w' (sOwn 2 (sInt .i64)) [v12] (y8.From) q3∧OE [] w.heap.size w' (sOwn 2 (sInt .i64)) [v15] (y8.To) q4∧OE [] w.heap.size w' (sOwn 2 (sInt .i64)) [v18] (y8.Identity) q5∧OE [] w.heap.size w' (sOwn 22 (sOwn 2 (sInt .i64))) [v21] (y8.Composites) q6∧Row w' pj [.int .i64 (y8.Objects),v12,v15,v18,v21,v53] 34∧OE [] w.heap.size w' (sOwn 23 (sOwn 22 (sOwn 2 (sInt .i64)))) [v53] (s0_b35_5) pq∧Dis [b1] q3∧Dis [b1] q4∧Dis [b1] q5∧Dis [b1] q6∧Dis [b1] [pj]∧Dis [b1] pq∧Dis q3 q4∧Dis q3 q5∧Dis q3 q6∧Dis q3 [pj]∧Dis q3 pq∧Dis q4 q5∧Dis q4 q6∧Dis q4 [pj]∧Dis q4 pq∧Dis q5 q6∧Dis q5 [pj]∧Dis q5 pq∧Dis q6 [pj]∧Dis q6 pq∧Dis [pj] pq∧∃ F,r=updL F [(0,.pointer (some (p_x0))),(2,.pointer (some (⟨b1,0,none⟩))),(3,.pointer (some (⟨pj,0,none⟩))),(21,z1d),(22,.int .i64 ((x0.Classifier.Sieves.length:Int))),(23,.int .i64 (s0_23))]) (impl_coverage_topology_T w) ho ⟨_,_,(hB.trans nj),(kr hr4 nj),(ko p6 nj),(ko p7 nj),(ko p8 nj),(ko p9 nj),(kr pd nj),nil_OE,((d30).symm),((d31).symm),((d32).symm),((d33).symm),((d41).symm),(fun _ _ h=>nomatch h),(d24),(d25),(d26),((d42).symm),(fun _ _ h=>nomatch h),(d27),(gg),((d43).symm),(fun _ _ h=>nomatch h),(d29),((d44).symm),(fun _ _ h=>nomatch h),((d45).symm),(fun _ _ h=>nomatch h),(fun _ _ h=>nomatch h),fe rfl⟩ ?_ ?_
 rintro ⟨s0_23,s0_b35_5⟩ _ p2x ⟨v53,pq,hB,hr4,p6,p7,p8,p9,pd,pb,jn,nv,d58,d59,d60,ne,d62,d63,d64,jo,n2,n3,j3,nw,j4,j5,d72,d73,d74,d75,d76,F,rfl⟩ o ho
 replace ho:impl_coverage_topology_L0 x0 s0_23 s0_b35_5=some o:=ho
 unfold impl_coverage_topology_L0 at ho
 refine wq <| Wq rfl (cr [] p2x) <| Qa (Bl rfl rfl) <| fun p8b k1=>anz <| wq <| W_cond (b:=decide (s0_23 < (x0.Classifier.Sieves.length:Int))) rfl ?_ ?_
 intro p1y
 rw [p1y] at ho
 refine W_skip <| anz <| wq <| W_block <| wq <| Wq rfl k1 <| Qa (Mi rfl) <| ?_
 obtain ⟨e81,hx82e,ho⟩:=bs ho
 have hx82:=idx_some hx82e
 refine Qa (Ix sl149 (kB z1e hB) hx82 rfl rfl rfl) <| ?_
 obtain ⟨u83,fu84,hu85,p3e,hs87⟩:=one_get rfl z1e hx82.1 hx82.2
 refine Qa (Ld na118 (hB.cell0 hu85) rfl) <| Qa (Ai rfl) <| Qa (Av u83 rfl) <| fun p8c k2=>anz <| wq <| W_region rfl <| WL.lit0 (sOwn 2 (sInt .i64)) u23z info22 fun v90 p63 f92 p64 jh=>?_
 have n6:=dl (ofr jh) (one_lt (Row.lt (kr hr4 k2)))
 have jr:=dl (ofr jh) (sl _ (kp _ p6.1 k2))
 have n7:=dl (ofr jh) (sl _ (kp _ p7.1 k2))
 have nz:=dl (ofr jh) (sl _ (kp _ p8.1 k2))
 have js:=dl (ofr jh) (sl _ (kp _ p9.1 k2))
 have jt:=dl (ofr jh) (one_lt (Row.lt (kr pd k2)))
 have ju:=dl (ofr jh) (sl _ (kp _ pb.1 k2))
 replace jh:=OE.low (G:=[]) jh (hB.trans k2).size
 have ks:=k2.trans p64
 replace hr4:=kr hr4 ks
 replace p6:=ko p6 ks
 replace p7:=ko p7 ks
 replace p8:=ko p8 ks
 replace p9:=ko p9 ks
 replace pd:=kr pd ks
 replace pb:=ko pb ks
 replace hB:=(hB.trans ks)
 refine Wb (Av v90 rfl) <| anz <| wq <| wq <| Wq rfl (cr [] p63) <| Qa (Mp rfl) <| Qa (Nk rfl) <| Qa (Fp fa144_2 rfl) <| Qa (La na97 (At.keep0 a_x0 hB) rfl rfl) <| Qa (Mi rfl) <| ?_
 obtain ⟨e103,hx104e,ho⟩:=bs ho
 have hx104:=idx_some hx104e
 refine Qa (Ix sl97 (kB zj hB) hx104 rfl rfl rfl) <| ?_
 obtain ⟨u105,fu106,hu107,p1z,hs109⟩:=one_get rfl zj hx104.1 hx104.2
 refine Qa (Ld na138 (hB.cell0 hu107) rfl) <| Qa (Ln sl138 (kB p1z hB) rfl) <| Qa (Mi rfl) <| fun p2y k3=>anz <| Wf (S1:=(List (List Int))×Int) (fun s r w'=>match s with | (s1_6,s1_37)=>∃ (v112:Value) (ji:List Nat),Chg [] w w'∧Row w' b1 [.int .i64 ((0:Int)),.slice none 0 0,.slice none 0 0,.slice none 0 0,.slice none 0 0,.slice none 0 0] 34∧OE [] w.heap.size w' (sOwn 2 (sInt .i64)) [v12] (y8.From) q3∧OE [] w.heap.size w' (sOwn 2 (sInt .i64)) [v15] (y8.To) q4∧OE [] w.heap.size w' (sOwn 2 (sInt .i64)) [v18] (y8.Identity) q5∧OE [] w.heap.size w' (sOwn 22 (sOwn 2 (sInt .i64))) [v21] (y8.Composites) q6∧Row w' pj [.int .i64 (y8.Objects),v12,v15,v18,v21,v53] 34∧OE [] w.heap.size w' (sOwn 23 (sOwn 22 (sOwn 2 (sInt .i64)))) [v53] (s0_b35_5) pq∧OE [] w.heap.size w' (sOwn 22 (sOwn 2 (sInt .i64))) [v112] (s1_6) ji∧Dis [b1] q3∧Dis [b1] q4∧Dis [b1] q5∧Dis [b1] q6∧Dis [b1] [pj]∧Dis [b1] pq∧Dis [b1] ji∧Dis q3 q4∧Dis q3 q5∧Dis q3 q6∧Dis q3 [pj]∧Dis q3 pq∧Dis q3 ji∧Dis q4 q5∧Dis q4 q6∧Dis q4 [pj]∧Dis q4 pq∧Dis q4 ji∧Dis q5 q6∧Dis q5 [pj]∧Dis q5 pq∧Dis q5 ji∧Dis q6 [pj]∧Dis q6 pq∧Dis q6 ji∧Dis [pj] pq∧Dis [pj] ji∧Dis pq ji∧∃ F,r=updL F [(0,.pointer (some (p_x0))),(2,.pointer (some (⟨b1,0,none⟩))),(3,.pointer (some (⟨pj,0,none⟩))),(5,u83),(6,v112),(21,z1d),(22,.int .i64 ((x0.Classifier.Sieves.length:Int))),(23,.int .i64 (s0_23)),(35,u105),(36,.int .i64 ((e103.length:Int))),(37,.int .i64 (s1_37))]) (impl_coverage_topology_T w) ho ⟨_,_,(hB.trans k3),(kr hr4 k3),(ko p6 k3),(ko p7 k3),(ko p8 k3),(ko p9 k3),(kr pd k3),(ko pb k3),(ko jh k3),(jn),(nv),(d58),(d59),(d60),(ne),((n6).symm),(d62),(d63),(d64),(jo),(n2),((jr).symm),(n3),(j3),(nw),(j4),((n7).symm),(j5),(d72),(d73),((nz).symm),(d74),(d75),((js).symm),(d76),((jt).symm),((ju).symm),fe rfl⟩ ?_ ?_
 rintro ⟨s1_6,s1_37⟩ _ p65 ⟨v112,ji,hB,hr4,p6,p7,p8,p9,pd,pb,pu,kl,km,kn,jf,q7,jv,jw,j6,j7,kg,qs,qt,nk,nl,kt,k4,gl,ku,qw,q8,qm,q9,qn,pz,q0,q1,qo,qa,F,rfl⟩ o ho
 replace ho:impl_coverage_topology_L1 e81 e103 s1_6 s1_37=some o:=ho
 unfold impl_coverage_topology_L1 at ho
 refine wq <| Wq rfl (cr [] p65) <| Qa (Bl rfl rfl) <| fun p8e jj=>anz <| wq <| W_cond (b:=decide (s1_37 < (e103.length:Int))) rfl ?_ ?_
 intro p20
 rw [p20] at ho
 refine W_skip <| anz <| wq <| W_block <| wq <| Wq rfl jj <| Qa (Mi rfl) <| ?_
 obtain ⟨e147,hx148e,ho⟩:=bs ho
 have hx148:=idx_some hx148e
 refine Qa (Ix sl138 (kB p1z hB) hx148 rfl rfl rfl) <| Qa (Eb na4 (kB p1z hB) hx148 rfl) <| Qa (Ai rfl) <| Qa (Ab rfl) <| fun p8f p66=>anz <| wq <| Wq rfl p66 <| Qa (Mb rfl) <| fun p5e pf=>anz <| W_cond (b:=e147) rfl ?_ ?_
 intro p21
 rw [p21] at ho
 refine W_region rfl <| Wb (Mv v112 rfl) <| Wb (Mv u83 rfl) <| Wb (Mi rfl) <| ?_
 obtain ⟨e154,hx155e,ho⟩:=bs ho
 have hx155:=idx_some hx155e
 refine Wa pf (Ix sl118 (kB p3e hB) hx155 rfl rfl rfl) <| ?_
 obtain ⟨u156,fu157,hu158,p67,hs160⟩:=one_get rfl p3e hx155.1 hx155.2
 refine Wa pf (Ld na114 (hB.cell0 hu158) rfl) <| ?_
 obtain ⟨y161,p68,ho⟩:=bs ho
 refine WL.call rfl (op_callF Tryz.func159 rfl rfl) (impl_clone_calls (kp _ p67 (hB.trans pf)) p68) <| ?_
 rintro _ p8g ⟨v165,p5f,rfl,p69,ph⟩
 refine ⟨_,rfl,?_⟩
 have j9:=dl (ofr ph) (one_lt (Row.lt (kr hr4 pf)))
 have p1f:=dl (ofr ph) (sl _ (kp _ p6.1 pf))
 have p1g:=dl (ofr ph) (sl _ (kp _ p7.1 pf))
 have p1h:=dl (ofr ph) (sl _ (kp _ p8.1 pf))
 have p0i:=dl (ofr ph) (sl _ (kp _ p9.1 pf))
 have p1i:=dl (ofr ph) (one_lt (Row.lt (kr pd pf)))
 have gy:=dl (ofr ph) (sl _ (kp _ pb.1 pf))
 have p1j:=dl (ofr ph) (sl _ (kp _ pu.1 pf))
 replace ph:=OE.low (G:=[]) ph (hB.trans pf).size
 have k5:=pf.trans p69
 replace hr4:=kr hr4 k5
 replace p6:=ko p6 k5
 replace p7:=ko p7 k5
 replace p8:=ko p8 k5
 replace p9:=ko p9 k5
 replace pd:=kr pd k5
 replace pb:=ko pb k5
 replace pu:=ko pu k5
 replace hB:=(hB.trans k5)
 refine WL.lit1 u23z info22 zr22 sz22 (STy.one _ ph.1 _ (ms rfl)) fun p6a p6b jk p00 p6c=>?_
 replace p00:Row p6b p6a [v165] 22:=p00
 have p6d:=dl (onw p6c) (sl _ pu.1)
 replace hr4:=kr hr4 jk
 replace p6:=ko p6 jk
 replace p7:=ko p7 jk
 replace p8:=ko p8 jk
 replace p9:=ko p9 jk
 replace pd:=kr pd jk
 replace pb:=ko pb jk
 replace pu:=ko pu jk
 replace ph:=ko ph jk
 replace hB:=(hB.trans jk)
 obtain ⟨n199,hn200,ho⟩:=bs ho
 have hn200a:=fits_some hn200
 refine WL.append1 (E:=(sOwn 2 (sInt .i64))) _ _ u23z info22 zr22 sz22 rfl rfl rfl pu rfl p00 ph.1 ph.2.1 ph.2.2 p1j (by rw [by22]; exact hn200a.1) hn200a.2 hB.size fun v193 p6e p8h k6 k7 hs198=>?_
 have p6f:=dis_upd hs198 (jw).symm j9 (one_lt (Row.lt hr4))
 have p6g:=dis_upd hs198 (nk).symm p1f (sl _ p6.1)
 have p6h:=dis_upd hs198 (ku).symm p1g (sl _ p7.1)
 have p22:=dis_upd hs198 (q9).symm p1h (sl _ p8.1)
 have p23:=dis_upd hs198 (q0).symm p0i (sl _ p9.1)
 have p24:=dis_upd hs198 (qo).symm p1i (one_lt (Row.lt pd))
 have p25:=dis_upd hs198 (qa).symm gy (sl _ pb.1)
 replace hr4:=Row.keep hr4 k6 (jw _ (ms rfl))
 replace p6:=okp p6 k6 nk
 replace p7:=okp p7 k6 ku
 replace p8:=okp p8 k6 q9
 replace p9:=okp p9 k6 q0
 replace pd:=Row.keep pd k6 (qo _ (ms rfl))
 replace pb:=okp pb k6 qa
 replace p00:=Row.keep p00 k6 (p6d _ (ms rfl))
 replace hB:=hB.then k6 pu.2.2
 refine Wb (Av v193 rfl) <| inBlk_n <| anz <| Wq rfl (cr [] p6e) <| Qa (Ba rfl rfl) <| Qa (Mi rfl) <| fun p8i k8=>?_
 cases ho
 exact ⟨_,_,(hB.trans k8),(kr hr4 k8),(ko p6 k8),(ko p7 k8),(ko p8 k8),(ko p9 k8),(kr pd k8),(ko pb k8),(ko k7 k8),kl,km,kn,jf,q7,jv,((p6f).symm),j6,j7,kg,qs,qt,((p6g).symm),nl,kt,k4,gl,((p6h).symm),qw,q8,qm,((p22).symm),qn,pz,((p23).symm),q1,((p24).symm),((p25).symm),fe rfl⟩
 intro p21
 rw [p21] at ho
 refine W_skip <| inBlk_n <| anz <| Wq rfl pf <| Qa (Ba rfl rfl) <| Qa (Mi rfl) <| fun p8j k9=>?_
 cases ho
 exact ⟨_,_,(hB.trans k9),(kr hr4 k9),(ko p6 k9),(ko p7 k9),(ko p8 k9),(ko p9 k9),(kr pd k9),(ko pb k9),(ko pu k9),kl,km,kn,jf,q7,jv,jw,j6,j7,kg,qs,qt,nk,nl,kt,k4,gl,ku,qw,q8,qm,q9,qn,pz,q0,q1,qo,qa,fe rfl⟩
 intro p20
 rw [p20] at ho
 refine W_exit <| andThen_x <| ?_
 cases ho
 exact ⟨rfl,⟨_,_,(hB.trans jj),(kr hr4 jj),(ko p6 jj),(ko p7 jj),(ko p8 jj),(ko p9 jj),(kr pd jj),(ko pb jj),(ko pu jj),kl,km,kn,jf,q7,jv,jw,j6,j7,kg,qs,qt,nk,nl,kt,k4,gl,ku,qw,q8,qm,q9,qn,pz,q0,q1,qo,qa,fe rfl⟩⟩
 rintro ⟨s1_6,s1_37⟩ _ p8k ⟨v112,ji,hB,hr4,p6,p7,p8,p9,pd,pb,pu,kl,km,kn,jf,q7,jv,jw,j6,j7,kg,qs,qt,nk,nl,kt,k4,gl,ku,qw,q8,qm,q9,qn,pz,q0,q1,qo,qa,F,rfl⟩ ho
 dsimp only at ho
 refine anz <| W_region rfl <| Wb (Fr fa34_1 rfl) <| Wb (Lr na26 pd rfl rfl) <| Wb (Mv v112 rfl) <| WL.lit1 u26z info23 zr23 sz23 (STy.one _ pu.1 _ (ms rfl)) fun p6i p6j ka nm p3f=>?_
 replace nm:Row p6j p6i [v112] 23:=nm
 have p6k:=dl (onw p3f) (one_lt (Row.lt pd))
 have p26:=dl (onw p3f) (sl _ pb.1)
 replace hr4:=kr hr4 ka
 replace p6:=ko p6 ka
 replace p7:=ko p7 ka
 replace p8:=ko p8 ka
 replace p9:=ko p9 ka
 replace pd:=kr pd ka
 replace pb:=ko pb ka
 replace pu:=ko pu ka
 replace hB:=(hB.trans ka)
 obtain ⟨n237,hn238,ho⟩:=bs ho
 have hn238a:=fits_some hn238
 refine WL.append1 (E:=(sOwn 22 (sOwn 2 (sInt .i64)))) _ _ u26z info23 zr23 sz23 rfl rfl rfl pb rfl nm pu.1 pu.2.1 pu.2.2 (qa).symm (by rw [by23]; exact hn238a.1) hn238a.2 hB.size fun v231 p8l p8m kv p0t hs236=>?_
 have p6l:=dis_upd hs236 (jv).symm (jw).symm (one_lt (Row.lt hr4))
 have p6m:=dis_upd hs236 (qt).symm (nk).symm (sl _ p6.1)
 have p27:=dis_upd hs236 (gl).symm (ku).symm (sl _ p7.1)
 have p6n:=dis_upd hs236 (qm).symm (q9).symm (sl _ p8.1)
 have p6o:=dis_upd hs236 (pz).symm (q0).symm (sl _ p9.1)
 have p3g:=dis_upd hs236 (q1).symm (qo).symm (one_lt (Row.lt pd))
 replace hr4:=Row.keep hr4 kv (jv _ (ms rfl))
 replace p6:=okp p6 kv qt
 replace p7:=okp p7 kv gl
 replace p8:=okp p8 kv qm
 replace p9:=okp p9 kv pz
 replace pd:=Row.keep pd kv (q1 _ (ms rfl))
 replace nm:=Row.keep nm kv (p26 _ (ms rfl))
 replace hB:=hB.then kv pb.2.2
 refine Wb (Fr fa34_1 rfl) <| WL.storeRow (j:=5) info26 sz26 pd (Nat.le_of_ble_eq_true rfl) rfl rfl (STy.one _ p0t.1 _ (ms rfl)) fun p3h kw p28=>?_
 replace p28:Row p3h pj [.int .i64 (y8.Objects),v12,v15,v18,v21,v231] 34:=p28
 replace hr4:=Row.keep hr4 kw (q7 _ (ms rfl))
 replace p6:=okp p6 kw qs
 replace p7:=okp p7 kw k4
 replace p8:=okp p8 kw q8
 replace p9:=okp p9 kw qn
 replace nm:=Row.keep nm kw (p6k _ (ms rfl))
 replace p0t:=okp p0t kw p3g
 replace hB:=hB.then kw (one_then p3c)
 refine inBlk_n <| anz <| Wq rfl (cr [] p3h) <| Qa (Ba rfl rfl) <| Qa (Mi rfl) <| fun p8n kx=>?_
 cases ho
 exact ⟨_,_,(hB.trans kx),(kr hr4 kx),(ko p6 kx),(ko p7 kx),(ko p8 kx),(ko p9 kx),(kr p28 kx),(ko p0t kx),kl,km,kn,jf,q7,((p6l).symm),j6,j7,kg,qs,((p6m).symm),nl,kt,k4,((p27).symm),qw,q8,((p6n).symm),qn,((p6o).symm),((p3g).symm),fe rfl⟩
 intro p1y
 rw [p1y] at ho
 refine W_exit <| andThen_x <| ?_
 cases ho
 exact ⟨rfl,⟨_,_,(hB.trans k1),(kr hr4 k1),(ko p6 k1),(ko p7 k1),(ko p8 k1),(ko p9 k1),(kr pd k1),(ko pb k1),jn,nv,d58,d59,d60,ne,d62,d63,d64,jo,n2,n3,j3,nw,j4,j5,d72,d73,d74,d75,d76,fe rfl⟩⟩
 rintro ⟨s0_23,s0_b35_5⟩ _ p8o ⟨v53,pq,hB,hr4,p6,p7,p8,p9,pd,pb,jn,nv,d58,d59,d60,ne,d62,d63,d64,jo,n2,n3,j3,nw,j4,j5,d72,d73,d74,d75,d76,F,rfl⟩ ho
 dsimp only at ho
 refine anz <| wq <| W_region rfl <| Wb (Lg ag34 pd.at rfl rfl) <| WL.storeAll (us:=[.int .i64 (y8.Objects),v12,v15,v18,v21,v53]) info34 (by rw [sz34]; rfl) hr4 rfl rfl rfl (by intro u hu; simp only [List.mem_cons,List.mem_nil_iff,or_false] at hu; rcases hu with rfl | rfl | rfl | rfl | rfl | rfl <;> first | exact rfl | exact (STy.one _ p6.1 _ (ms rfl)) | exact (STy.one _ p7.1 _ (ms rfl)) | exact (STy.one _ p8.1 _ (ms rfl)) | exact (STy.one _ p9.1 _ (ms rfl)) | exact (STy.one _ pb.1 _ (ms rfl))) fun p6p nn p29=>?_
 replace p29:Row p6p b1 [.int .i64 (y8.Objects),v12,v15,v18,v21,v53] 34:=p29
 replace p6:=okp p6 nn (jn).symm
 replace p7:=okp p7 nn (nv).symm
 replace p8:=okp p8 nn (d58).symm
 replace p9:=okp p9 nn (d59).symm
 replace pd:=Row.keep pd nn ((d60).symm _ (ms rfl))
 replace pb:=okp pb nn (ne).symm
 replace hB:=hB.then nn (one_then lo6)
 refine anz <| ?_
 cases ho
 exact W_ret ⟨_,res_c Tryz.results95 u34z rfl info34 (by rw [sz34]; rfl) rfl p29.at,_,_,_,_,_,_,_,_,_,_,rfl,hB,p6,p7,p8,p9,pb,(d62),(d63),(d64),(n2),(n3),(j3),(j4),(j5),(d73),(d75)⟩

abbrev impl_GeneratedTopology_post (w:World) (x:(MTopology×Int)) (e:Ending) (w':World):Prop:=∃ (v0:Value) (f0:List Nat) (v1:Value) (f1:List Nat) (v2:Value) (f2:List Nat) (v3:Value) (f3:List Nat) (v4:Value) (f4:List Nat),e = .returned (.tuple #[.agg #[.int .i64 x.1.Shape.Objects,v0,v1,v2,v3,v4],.int .i64 x.2])∧Chg [] w w'∧OE [] w.heap.size w' (sOwn 2 (sInt .i64)) [v0] x.1.Shape.From f0∧OE [] w.heap.size w' (sOwn 2 (sInt .i64)) [v1] x.1.Shape.To f1∧OE [] w.heap.size w' (sOwn 2 (sInt .i64)) [v2] x.1.Shape.Identity f2∧OE [] w.heap.size w' (sOwn 22 (sOwn 2 (sInt .i64))) [v3] x.1.Shape.Composites f3∧OE [] w.heap.size w' (sOwn 23 (sOwn 22 (sOwn 2 (sInt .i64)))) [v4] x.1.Covers f4∧Dis f0 f1∧Dis f0 f2∧Dis f0 f3∧Dis f0 f4∧Dis f1 f2∧Dis f1 f3∧Dis f1 f4∧Dis f2 f3∧Dis f2 f4∧Dis f3 f4
abbrev impl_GeneratedTopology_T (w:World):=Tm Tryz.prog Tryz.f35 19 (impl_GeneratedTopology_post w)
theorem impl_GeneratedTopology_calls {w:World} {x0:MTopology} {zk:Value} {zo:List Nat} {zl:Value} {zp:List Nat} {zm:Value} {zq:List Nat} {zn:Value} {zr:List Nat} {ze:Value} {z8:List Nat} (zu:(sImm (sInt .i64)).rep w.heap [zk] x0.Shape.From zo) (zv:(sImm (sInt .i64)).rep w.heap [zl] x0.Shape.To zp) (zw:(sImm (sInt .i64)).rep w.heap [zm] x0.Shape.Identity zq) (zx:(sImm (sImm (sInt .i64))).rep w.heap [zn] x0.Shape.Composites zr) (zj:(sImm (sImm (sImm (sInt .i64)))).rep w.heap [ze] x0.Covers z8) {y:(MTopology×Int)} (hm:impl_GeneratedTopology x0=some y) :
  Calls Tryz.prog 35 #[.agg #[.int .i64 (x0.Shape.Objects),zk,zl,zm,zn,ze]] w (impl_GeneratedTopology_post w y):=by
 refine Cm (S:=Unit) Tryz.func35 rfl Tryz.ntmps35 rfl hm fun o ho hB=>?_
 clear hm
 refine wq <| W_region rfl <| WL.box fun b1 wd2 hC3 hr4 hl5=>?_
 replace hr4:Row wd2 b1 [.int .i64 (x0.Shape.Objects),zk,zl,zm,zn,ze] 34:=hr4
 replace hB:=(hB.trans hC3)
 refine WL.alloc info34 zr34 fun b8 wd9 kb p0 kz=>?_
 replace p0:Row wd9 b8 [.int .i64 ((0:Int)),.slice none 0 0,.slice none 0 0,.slice none 0 0,.slice none 0 0,.slice none 0 0] 34:=p0
 have p5:w.heap.size≤b8:=Nat.le_trans hB.size kz
 have d14:=dl (onw kz) (one_lt (Row.lt hr4))
 replace hr4:=kr hr4 kb
 replace hB:=(hB.trans kb)
 refine Wb (Ai rfl) <| anz <| wq <| wq <| Wq rfl (cr [] wd9) <| ?_
 obtain ⟨y16,n0,ho⟩:=bs ho
 refine Qc Tryz.func80 rfl rfl (fun _ hC=>impl_Topology_hasForm_calls (kp _ zu (hB.trans hC)) (kp _ zv (hB.trans hC)) (kp _ zw (hB.trans hC)) (kp _ zx (hB.trans hC)) (kp _ zj (hB.trans hC)) (kr hr4 hC).at n0) <| Qa (Nt rfl) <| fun p0w pa=>anz <| W_cond (b:=!(y16)) rfl ?_ ?_
 intro p2a
 rw [p2a] at ho
 refine wq <| W_region rfl <| Wb (Bu bld34_) <| WL.storeAll (us:=[.int .i64 ((0:Int)),.slice none 0 0,.slice none 0 0,.slice none 0 0,.slice none 0 0,.slice none 0 0]) info34 (by rw [sz34]; rfl) (kr p0 pa) rfl rfl rfl (by intro u hu; simp only [List.mem_cons,List.mem_nil_iff,or_false] at hu; rcases hu with rfl | rfl | rfl | rfl | rfl | rfl <;> first | exact rfl) fun p2b no p2c=>?_
 replace p2c:Row p2b b8 [.int .i64 ((0:Int)),.slice none 0 0,.slice none 0 0,.slice none 0 0,.slice none 0 0,.slice none 0 0] 34:=p2c
 have p6q:=(pa.nil (G:=[b8])).trans no
 replace hB:=hB.then p6q (one_then p5)
 refine Wb (Ai rfl) <| anz <| ?_
 cases ho
 exact W_ret ⟨_,res_c1 Tryz.results35 u34z rfl info34 (by rw [sz34]; rfl) rfl p2c.at,_,_,_,_,_,_,_,_,_,_,rfl,hB,nil_OE,nil_OE,nil_OE,nil_OE,nil_OE,(fun _ h=>nomatch h),(fun _ h=>nomatch h),(fun _ h=>nomatch h),(fun _ h=>nomatch h),(fun _ h=>nomatch h),(fun _ h=>nomatch h),(fun _ h=>nomatch h),(fun _ h=>nomatch h),(fun _ h=>nomatch h),(fun _ h=>nomatch h)⟩
 intro p2a
 rw [p2a] at ho
 refine W_skip <| anz <| wq <| W_region rfl <| ?_
 obtain ⟨y25,p6r,ho⟩:=bs ho
 refine WL.call rfl (op_callF Tryz.func93 rfl rfl) (impl_Topology_coverage_calls (kp _ zu (hB.trans pa)) (kp _ zv (hB.trans pa)) (kp _ zw (hB.trans pa)) (kp _ zx (hB.trans pa)) (kp _ zj (hB.trans pa)) (kr hr4 pa).at p6r) <| ?_
 rintro _ p0u ⟨v30,rfl,p3i,hp29⟩
 refine ⟨_,rfl,?_⟩
 rcases hq32:y25.1 with _ | m33
 rw [hq32] at hp29 ho
 try dsimp only at hp29
 try dsimp only at ho
 obtain rfl:=hp29
 have p2d:=pa.trans p3i
 replace hr4:=kr hr4 p2d
 replace p0:=kr p0 p2d
 replace hB:=(hB.trans p2d)
 refine Wb (Mt rfl) <| Wb (Ex (.pointer none) rfl rfl) <| Wb (Exb rfl rfl) <| Wb (Av (.pointer none) rfl) <| Wb (Ab rfl) <| anz <| wq <| wq <| Wq rfl (cr [] p0u) <| Qa (Mb rfl) <| Qa (Nt rfl) <| fun p6s p2e=>anz <| W_cond (b:=!(y25.2)) rfl ?_ ?_
 intro p2f
 rw [p2f] at ho
 refine wq <| W_region rfl <| Wb (Bu bld34_) <| WL.storeAll (us:=[.int .i64 ((0:Int)),.slice none 0 0,.slice none 0 0,.slice none 0 0,.slice none 0 0,.slice none 0 0]) info34 (by rw [sz34]; rfl) (kr p0 p2e) rfl rfl rfl (by intro u hu; simp only [List.mem_cons,List.mem_nil_iff,or_false] at hu; rcases hu with rfl | rfl | rfl | rfl | rfl | rfl <;> first | exact rfl) fun p6t p6u p2g=>?_
 replace p2g:Row p6t b8 [.int .i64 ((0:Int)),.slice none 0 0,.slice none 0 0,.slice none 0 0,.slice none 0 0,.slice none 0 0] 34:=p2g
 have p6v:=(p2e.nil (G:=[b8])).trans p6u
 replace hB:=hB.then p6v (one_then p5)
 refine Wb (Ai rfl) <| anz <| ?_
 cases ho
 exact W_ret ⟨_,res_c1 Tryz.results35 u34z rfl info34 (by rw [sz34]; rfl) rfl p2g.at,_,_,_,_,_,_,_,_,_,_,rfl,hB,nil_OE,nil_OE,nil_OE,nil_OE,nil_OE,(fun _ h=>nomatch h),(fun _ h=>nomatch h),(fun _ h=>nomatch h),(fun _ h=>nomatch h),(fun _ h=>nomatch h),(fun _ h=>nomatch h),(fun _ h=>nomatch h),(fun _ h=>nomatch h),(fun _ h=>nomatch h),(fun _ h=>nomatch h)⟩
 intro p2f
 rw [p2f] at ho
 refine W_skip <| anz <| wq <| W_region rfl <| Wb (Mv (.pointer none) rfl) <| ?_
 have p3j:=p2e.trans (cr [] p6s)
 replace p0:=kr p0 p3j
 replace hB:=(hB.trans p3j)
 cases ho
 rw [hq32] at hp29 ho
 try dsimp only at hp29
 try dsimp only at ho
 obtain ⟨b43,b45,v47,f48,v50,f51,v53,pq,v56,f57,v59,f60,v62,f63,v65,f66,v69,f70,b72,rfl,qe,qf,pb,qg,qh,qi,qj,jl,p6y,qk,p2h,gx,jm,p19,d76,d77,d78,d79,d80,d81,d82,nx,kf,d85,d86,ny,d88,gn,n4,go,n5,jq,gp,n6,jr,n7,nz,js,jt,ju,n8,gq,gr,p0c,gs,g0,n9,p0d,p37,p1c,p38,p0f,p0g,kl,km,kn,jf,q7,jv,jw,j6,j7,kg,qs,qt,nk,nl,kt,k4⟩:=hp29
 have ku:=dl (ofr qe) (one_lt (Row.lt (kr p0 pa)))
 replace qe:=OE.low (G:=[]) qe (hB.trans pa).size
 have q8:=dl (ofr qf) (one_lt (Row.lt (kr p0 pa)))
 replace qf:=OE.low (G:=[]) qf (hB.trans pa).size
 have q9:=dl (ofr pb) (one_lt (Row.lt (kr p0 pa)))
 replace pb:=OE.low (G:=[]) pb (hB.trans pa).size
 have pz:=dl (ofr qg) (one_lt (Row.lt (kr p0 pa)))
 replace qg:=OE.low (G:=[]) qg (hB.trans pa).size
 have q1:=dl (ofr qh) (one_lt (Row.lt (kr p0 pa)))
 replace qh:=OE.low (G:=[]) qh (hB.trans pa).size
 have qa:=dl (ofr qi) (one_lt (Row.lt (kr p0 pa)))
 replace qi:=OE.low (G:=[]) qi (hB.trans pa).size
 have na:=dl (ofr qj) (one_lt (Row.lt (kr p0 pa)))
 replace qj:=OE.low (G:=[]) qj (hB.trans pa).size
 have kh:=dl (onw p6y) (one_lt (Row.lt (kr p0 pa)))
 have ki:=dl (ofr qk) (one_lt (Row.lt (kr hr4 pa)))
 have kj:=dl (ofr qk) (one_lt (Row.lt (kr p0 pa)))
 replace qk:=OE.low (G:=[]) qk (hB.trans pa).size
 have kk:=dl (onw gx) (one_lt (Row.lt (kr hr4 pa)))
 have j8:=dl (onw gx) (one_lt (Row.lt (kr p0 pa)))
 have gm:w.heap.size≤b72:=Nat.le_trans (hB.trans pa).size gx
 have nb:=dl (onw p19) (one_lt (Row.lt (kr p0 pa)))
 have p2i:=pa.trans p3i
 replace hr4:=kr hr4 p2i
 replace p0:=kr p0 p2i
 replace hB:=(hB.trans p2i)
 refine Wb (Mt rfl) <| Wb (Ex (.pointer (some (⟨b43,0,none⟩))) rfl rfl) <| Wb (Exb rfl rfl) <| Wb (Ap rfl) <| Wb (Ab rfl) <| anz <| wq <| wq <| Wq rfl (cr [] p0u) <| Qa (Mb rfl) <| Qa (Nt rfl) <| fun p3k p2j=>anz <| W_cond (b:=!(y25.2)) rfl ?_ ?_
 intro p2k
 rw [p2k] at ho
 refine wq <| W_region rfl <| Wb (Bu bld34_) <| WL.storeAll (us:=[.int .i64 ((0:Int)),.slice none 0 0,.slice none 0 0,.slice none 0 0,.slice none 0 0,.slice none 0 0]) info34 (by rw [sz34]; rfl) (kr p0 p2j) rfl rfl rfl (by intro u hu; simp only [List.mem_cons,List.mem_nil_iff,or_false] at hu; rcases hu with rfl | rfl | rfl | rfl | rfl | rfl <;> first | exact rfl) fun p6z p70 p2l=>?_
 replace p2l:Row p6z b8 [.int .i64 ((0:Int)),.slice none 0 0,.slice none 0 0,.slice none 0 0,.slice none 0 0,.slice none 0 0] 34:=p2l
 have p71:=(p2j.nil (G:=[b8])).trans p70
 replace hB:=hB.then p71 (one_then p5)
 refine Wb (Ai rfl) <| anz <| ?_
 cases ho
 exact W_ret ⟨_,res_c1 Tryz.results35 u34z rfl info34 (by rw [sz34]; rfl) rfl p2l.at,_,_,_,_,_,_,_,_,_,_,rfl,hB,nil_OE,nil_OE,nil_OE,nil_OE,nil_OE,(fun _ h=>nomatch h),(fun _ h=>nomatch h),(fun _ h=>nomatch h),(fun _ h=>nomatch h),(fun _ h=>nomatch h),(fun _ h=>nomatch h),(fun _ h=>nomatch h),(fun _ h=>nomatch h),(fun _ h=>nomatch h),(fun _ h=>nomatch h)⟩
 intro p2k
 rw [p2k] at ho
 refine W_skip <| anz <| wq <| W_region rfl <| Wb (Mp rfl) <| ?_
 have qb:=p2j.trans (cr [] p3k)
 replace hr4:=kr hr4 qb
 replace p0:=kr p0 qb
 replace qe:=ko qe qb
 replace qf:=ko qf qb
 replace pb:=ko pb qb
 replace qg:=ko qg qb
 replace qh:=ko qh qb
 replace qi:=ko qi qb
 replace qj:=ko qj qb
 replace jl:=kr jl qb
 replace qk:=ko qk qb
 replace p2h:=kr p2h qb
 replace jm:=kr jm qb
 replace hB:=(hB.trans qb)
 obtain ⟨y165,p72,ho⟩:=bs ho
 refine WL.call rfl (op_callF Tryz.func94 rfl rfl) (impl_coverage_close_calls (x0:=(MCoverage.mk m33.Classifier x0.Shape m33.Covers m33.Count)) ((Le.own (Le.refl _) 2).le qe.1) ((Le.own (Le.refl _) 2).le qf.1) ((Le.own (Le.refl _) 2).le pb.1) ((Le.own (Le.own (Le.refl _) 2) 22).le qg.1) ((Le.own (Le.refl _) 2).le qh.1) ((Le.own (Le.own (Le.refl _) 2) 22).le qi.1) ((Le.own (Le.own (Le.own (Le.refl _) 2) 114) 118).le qj.1) jl.at (kp _ zu hB) (kp _ zv hB) (kp _ zw hB) (kp _ zx hB) (At.sub hr4.at 0 5) (OE.give (B':=p3k.heap.size) qk fun _ h=>h) p2h jm.at nl (Dis.symm (da (nx).symm (kf).symm)) (Dis.symm (da (n5).symm (jq).symm)) (Dis.symm (da (jt).symm (ju).symm)) (Dis.symm (da (g0).symm (n9).symm)) (Dis.symm (da (p0f).symm (p0g).symm)) (Dis.symm (da (jf).symm (q7).symm)) (Dis.symm (da (j6).symm (j7).symm)) (fun hm=>(da (qs).symm (qt).symm) _ hm (ms rfl)) (dis_par (sl _ zu) (low_app qk.2.2 (one_then gm))) (dis_par (sl _ zv) (low_app qk.2.2 (one_then gm))) (dis_par (sl _ zw) (low_app qk.2.2 (one_then gm))) (dis_par (sl _ zx) (low_app qk.2.2 (one_then gm))) (fun hm=>(da ki kk) _ hm (ms rfl)) (fun hm=>(da kt k4) _ hm (ms rfl)) p72) <| ?_
 rintro _ p91 ⟨p92,rfl,qq,ky,p01,p0i⟩
 refine ⟨_,rfl,?_⟩
 have gy:=dis_back ky (da kj j8) (one_lt (Row.lt p0))
 replace ky:=OE.back ky (low_app qk.2.2 (one_then gm)) hB.size
 replace hr4:=Row.keep hr4 qq ((Dis.symm (da ki kk)) _ (ms rfl))
 replace p0:=Row.keep p0 qq ((Dis.symm (da kj j8)) _ (ms rfl))
 replace qe:=okp qe qq (Dis.symm (da (nx).symm (kf).symm))
 replace qf:=okp qf qq (Dis.symm (da (n5).symm (jq).symm))
 replace pb:=okp pb qq (Dis.symm (da (jt).symm (ju).symm))
 replace qg:=okp qg qq (Dis.symm (da (g0).symm (n9).symm))
 replace qh:=okp qh qq (Dis.symm (da (p0f).symm (p0g).symm))
 replace qi:=okp qi qq (Dis.symm (da (jf).symm (q7).symm))
 replace qj:=okp qj qq (Dis.symm (da (j6).symm (j7).symm))
 replace jl:=Row.keep jl qq ((Dis.symm (da (qs).symm (qt).symm)) _ (ms rfl))
 replace jm:=Row.keep jm qq ((Dis.symm (da kt k4)) _ (ms rfl))
 replace hB:=hB.then qq (low_app qk.2.2 (one_then gm))
 obtain ⟨y185,p73,ho⟩:=bs ho
 refine WL.call rfl (op_callF Tryz.func95 rfl rfl) (impl_coverage_topology_calls (x0:=(MCoverage.mk m33.Classifier x0.Shape y165.1 y165.2)) ((Le.own (Le.refl _) 2).le qe.1) ((Le.own (Le.refl _) 2).le qf.1) ((Le.own (Le.refl _) 2).le pb.1) ((Le.own (Le.own (Le.refl _) 2) 22).le qg.1) ((Le.own (Le.refl _) 2).le qh.1) ((Le.own (Le.own (Le.refl _) 2) 22).le qi.1) ((Le.own (Le.own (Le.own (Le.refl _) 2) 114) 118).le qj.1) jl.at (kp _ zu hB) (kp _ zv hB) (kp _ zw hB) (kp _ zx hB) (At.sub hr4.at 0 5) ((Le.own (Le.own (Le.refl _) 4) 138).le ky.1) p01.at jm.at p73) <| ?_
 rintro _ p93 ⟨v189,p94,v192,p95,v195,p96,v198,p97,v201,p98,rfl,qc,np,nq,k7,nr,ns,p22,p23,p24,p25,p1k,p74,p75,p76,p77,p13⟩
 refine ⟨_,rfl,?_⟩
 have p14:=dl (ofr np) (one_lt (Row.lt p0))
 replace np:=OE.low (G:=[]) np hB.size
 have p26:=dl (ofr nq) (one_lt (Row.lt p0))
 replace nq:=OE.low (G:=[]) nq hB.size
 have p27:=dl (ofr k7) (one_lt (Row.lt p0))
 replace k7:=OE.low (G:=[]) k7 hB.size
 have p16:=dl (ofr nr) (one_lt (Row.lt p0))
 replace nr:=OE.low (G:=[]) nr hB.size
 have p78:=dl (ofr ns) (one_lt (Row.lt p0))
 replace ns:=OE.low (G:=[]) ns hB.size
 replace hr4:=kr hr4 qc
 replace p0:=kr p0 qc
 replace qe:=ko qe qc
 replace qf:=ko qf qc
 replace pb:=ko pb qc
 replace qg:=ko qg qc
 replace qh:=ko qh qc
 replace qi:=ko qi qc
 replace qj:=ko qj qc
 replace jl:=kr jl qc
 replace jm:=kr jm qc
 replace ky:=ko ky qc
 replace p01:=kr p01 qc
 replace hB:=(hB.trans qc)
 refine WL.storeAll (us:=[.int .i64 (y185.Shape.Objects),v189,v192,v195,v198,v201]) info34 (by rw [sz34]; rfl) p0 rfl rfl rfl (by intro u hu; simp only [List.mem_cons,List.mem_nil_iff,or_false] at hu; rcases hu with rfl | rfl | rfl | rfl | rfl | rfl <;> first | exact rfl | exact (STy.one _ np.1 _ (ms rfl)) | exact (STy.one _ nq.1 _ (ms rfl)) | exact (STy.one _ k7.1 _ (ms rfl)) | exact (STy.one _ nr.1 _ (ms rfl)) | exact (STy.one _ ns.1 _ (ms rfl))) fun p79 pr p2m=>?_
 replace p2m:Row p79 b8 [.int .i64 (y185.Shape.Objects),v189,v192,v195,v198,v201] 34:=p2m
 replace hr4:=Row.keep hr4 pr ((d14).symm _ (ms rfl))
 replace qe:=okp qe pr ku
 replace qf:=okp qf pr q8
 replace pb:=okp pb pr q9
 replace qg:=okp qg pr pz
 replace qh:=okp qh pr q1
 replace qi:=okp qi pr qa
 replace qj:=okp qj pr na
 replace jl:=Row.keep jl pr (kh _ (ms rfl))
 replace jm:=Row.keep jm pr (nb _ (ms rfl))
 replace ky:=okp ky pr gy
 replace p01:=Row.keep p01 pr (j8 _ (ms rfl))
 replace np:=okp np pr p14
 replace nq:=okp nq pr p26
 replace k7:=okp k7 pr p27
 replace nr:=okp nr pr p16
 replace ns:=okp ns pr p78
 replace hB:=hB.then pr (one_then p5)
 refine Wb (Ai rfl) <| anz <| ?_
 cases ho
 exact W_ret ⟨_,res_c1 Tryz.results35 u34z rfl info34 (by rw [sz34]; rfl) rfl p2m.at,_,_,_,_,_,_,_,_,_,_,rfl,hB,np,nq,k7,nr,ns,(p22),(p23),(p24),(p25),(p1k),(p74),(p75),(p76),(p77),(p13)⟩

abbrev laws_heldCategory_post (w:World) (x:(Int)) (e:Ending) (w':World):Prop:=e = .returned (.int .i64 x)∧Chg [] w w'
abbrev laws_heldCategory_T (w:World):=Tm Tryz.prog Tryz.f96 30 (laws_heldCategory_post w)
theorem laws_heldCategory_calls {w:World} {x0:MCategory} {z2:Value} {zf:List Nat} {z1:Value} {zg:List Nat} {z7:Value} {zh:List Nat} {z6:Value} {zi:List Nat} {x1:Int} (za:(sImm (sInt .i64)).rep w.heap [z2] x0.From zf) (zb:(sImm (sInt .i64)).rep w.heap [z1] x0.To zg) (zd:(sImm (sInt .i64)).rep w.heap [z7] x0.Identity zh) (zc:(sImm (sImm (sInt .i64))).rep w.heap [z6] x0.Composites zi) {y:(Int)} (hm:laws_heldCategory x0 x1=some y) :
  Calls Tryz.prog 96 #[.agg #[.int .i64 (x0.Objects),z2,z1,z7,z6],.int .i64 (x1)] w (laws_heldCategory_post w y):=by
 refine Cm (S:=Unit) Tryz.func96 rfl Tryz.ntmps96 rfl hm fun o ho hB=>?_
 clear hm
 refine wq <| W_region rfl <| WL.box fun b1 wd2 hC3 hr4 hl5=>?_
 replace hr4:Row wd2 b1 [.int .i64 (x0.Objects),z2,z1,z7,z6] 32:=hr4
 replace hB:=(hB.trans hC3)
 refine Wb (Ai rfl) <| anz <| wq <| Wq rfl (cr [] wd2) <| Qa (Fr fa32_1 rfl) <| Qa (Lr na22 hr4 rfl rfl) <| Qa (Mi rfl) <| ?_
 obtain ⟨y8,hy9,ho⟩:=bs ho
 refine Qc Tryz.func26 rfl rfl (fun _ hC=>laws_heldInt64S_calls (kp _ za (hB.trans hC)) hy9) <| Qa (Ai rfl) <| fun p3b gh=>anz <| wq <| wq <| Wq rfl gh <| Qa (Mi rfl) <| Qa (Bl rfl rfl) <| fun p7a p02=>anz <| W_cond (b:=decide (y8 < (0:Int))) rfl ?_ ?_
 intro nt
 rw [nt] at ho
 refine wq <| Wq rfl p02 <| Qa (Ai rfl) <| fun p7b p2n=>anz <| ?_
 cases ho
 exact W_ret ⟨_,res_1 Tryz.results96,rfl,(hB.trans p2n)⟩
 intro nt
 rw [nt] at ho
 refine W_skip <| anz <| wq <| Wq rfl p02 <| Qa (Fr fa32_2 rfl) <| Qa (Lr na22 hr4 rfl rfl) <| Qa (Mi rfl) <| ?_
 obtain ⟨y17,p2o,ho⟩:=bs ho
 refine Qc Tryz.func26 rfl rfl (fun _ hC=>laws_heldInt64S_calls (kp _ zb (hB.trans hC)) p2o) <| Qa (Ai rfl) <| fun p7c p2p=>anz <| wq <| wq <| Wq rfl p2p <| Qa (Mi rfl) <| Qa (Bl rfl rfl) <| fun p2b no=>anz <| W_cond (b:=decide (y17 < (0:Int))) rfl ?_ ?_
 intro nu
 rw [nu] at ho
 refine wq <| Wq rfl no <| Qa (Ai rfl) <| fun p7d p2q=>anz <| ?_
 cases ho
 exact W_ret ⟨_,res_1 Tryz.results96,rfl,(hB.trans p2q)⟩
 intro nu
 rw [nu] at ho
 refine W_skip <| anz <| wq <| Wq rfl no <| Qa (Fr fa32_3 rfl) <| Qa (Lr na22 hr4 rfl rfl) <| Qa (Mi rfl) <| ?_
 obtain ⟨y26,p7e,ho⟩:=bs ho
 refine Qc Tryz.func26 rfl rfl (fun _ hC=>laws_heldInt64S_calls (kp _ zd (hB.trans hC)) p7e) <| Qa (Ai rfl) <| fun p7f p2r=>anz <| wq <| wq <| Wq rfl p2r <| Qa (Mi rfl) <| Qa (Bl rfl rfl) <| fun p99 p3l=>anz <| W_cond (b:=decide (y26 < (0:Int))) rfl ?_ ?_
 intro p2s
 rw [p2s] at ho
 refine wq <| Wq rfl p3l <| Qa (Ai rfl) <| fun p9a p7g=>anz <| ?_
 cases ho
 exact W_ret ⟨_,res_1 Tryz.results96,rfl,(hB.trans p7g)⟩
 intro p2s
 rw [p2s] at ho
 refine W_skip <| anz <| wq <| Wq rfl p3l <| Qa (Fr fa32_4 rfl) <| Qa (Lr na23 hr4 rfl rfl) <| Qa (Mi rfl) <| ?_
 obtain ⟨y35,p1o,ho⟩:=bs ho
 refine Qc Tryz.func31 rfl rfl (fun _ hC=>laws_heldInt64SS_calls (kp _ zc (hB.trans hC)) p1o) <| Qa (Ai rfl) <| fun p1p p1q=>anz <| wq <| wq <| Wq rfl p1q <| Qa (Mi rfl) <| Qa (Bl rfl rfl) <| fun p9b p3m=>anz <| W_cond (b:=decide (y35 < (0:Int))) rfl ?_ ?_
 intro p2t
 rw [p2t] at ho
 refine wq <| Wq rfl p3m <| Qa (Ai rfl) <| fun p5r p1s=>anz <| ?_
 cases ho
 exact W_ret ⟨_,res_1 Tryz.results96,rfl,(hB.trans p1s)⟩
 intro p2t
 rw [p2t] at ho
 refine W_skip <| anz <| wq <| Wq rfl p3m <| Qa (Mi rfl) <| Qa (Ai rfl) <| fun p9c p7h=>anz <| ?_
 cases ho
 exact W_ret ⟨_,res_1 Tryz.results96,rfl,(hB.trans p7h)⟩

abbrev laws_heldInt64SSS_post (w:World) (x:(Int)) (e:Ending) (w':World):Prop:=e = .returned (.int .i64 x)∧Chg [] w w'
abbrev laws_heldInt64SSS_T (w:World):=Tm Tryz.prog Tryz.f97 21 (laws_heldInt64SSS_post w)
theorem laws_heldInt64SSS_calls {w:World} {x0:(List (List (List Int)))} {v_x0:Value} {f_x0:List Nat} {x1:Int} (h_x0:(sImm (sImm (sImm (sInt .i64)))).rep w.heap [v_x0] x0 f_x0) {y:(Int)} (hm:laws_heldInt64SSS x0 x1=some y) :
  Calls Tryz.prog 97 #[v_x0,.int .i64 (x1)] w (laws_heldInt64SSS_post w y):=by
 refine Cm (S:=Unit) Tryz.func97 rfl Tryz.ntmps97 rfl hm fun o ho hB=>?_
 clear hm
 refine wq <| Wq rfl (cr [] w) <| Qa (Ai rfl) <| fun wd1 hC2=>anz <| wq <| wq <| Wq rfl hC2 <| Qa (Ai rfl) <| fun wd3 hC4=>anz <| Wf (S1:=Int×Int) (fun s r w'=>match s with | (s0_1,s0_5)=>Chg [] w w'∧∃ F,r=updL F [(0,v_x0),(1,.int .i64 (s0_1)),(5,.int .i64 (s0_5))]) (laws_heldInt64SSS_T w) ho ⟨(hB.trans hC4),fe rfl⟩ ?_ ?_
 rintro ⟨s0_1,s0_5⟩ _ wd5 ⟨hB,F,rfl⟩ o ho
 replace ho:laws_heldInt64SSS_L0 x0 s0_1 s0_5=some o:=ho
 unfold laws_heldInt64SSS_L0 at ho
 refine wq <| wq <| Wq rfl (cr [] wd5) <| Qa (Mi rfl) <| Qa (Mv v_x0 rfl) <| Qa (Ln sl26 (kB h_x0 hB) rfl) <| Qa (Bl rfl rfl) <| fun wd6 hC7=>anz <| W_cond (b:=decide (s0_5 < (x0.length:Int))) rfl ?_ ?_
 intro hb8
 rw [hb8] at ho
 refine W_skip <| anz <| wq <| W_block <| wq <| Wq rfl hC7 <| Qa (Mv v_x0 rfl) <| Qa (Mi rfl) <| ?_
 obtain ⟨e9,hx10e,ho⟩:=bs ho
 have hx10:=idx_some hx10e
 refine Qa (Ix sl26 (kB h_x0 hB) hx10 rfl rfl rfl) <| ?_
 obtain ⟨u11,fu12,hu13,p7i,hs15⟩:=one_get rfl h_x0 hx10.1 hx10.2
 refine Qa (Ld na23 (hB.cell0 hu13) rfl) <| Qa (Mi rfl) <| ?_
 obtain ⟨y16,n0,ho⟩:=bs ho
 refine Qc Tryz.func31 rfl rfl (fun _ hC=>laws_heldInt64SS_calls (kp _ p7i (hB.trans hC)) n0) <| Qa (Ai rfl) <| fun p0w pa=>anz <| wq <| Wq rfl pa <| Qa (Mi rfl) <| Qa (Bl rfl rfl) <| fun p9d p3n=>anz <| W_cond (b:=decide (y16 < (0:Int))) rfl ?_ ?_
 intro p2u
 rw [p2u] at ho
 refine wq <| Wq rfl p3n <| Qa (Ai rfl) <| fun p5m p1m=>anz <| ?_
 cases ho
 exact W_ret ⟨_,res_1 Tryz.results97,rfl,(hB.trans p1m)⟩
 intro p2u
 rw [p2u] at ho
 refine W_skip <| inBlk_n <| anz <| Wq rfl p3n <| Qa (Mi rfl) <| Qa (Ba rfl rfl) <| Qa (Ai rfl) <| fun p5n gz=>?_
 cases ho
 exact ⟨(hB.trans gz),fe rfl⟩
 intro hb8
 rw [hb8] at ho
 refine W_exit <| andThen_x <| ?_
 cases ho
 exact ⟨rfl,⟨(hB.trans hC7),fe rfl⟩⟩
 rintro ⟨s0_1,s0_5⟩ _ p0u ⟨hB,F,rfl⟩ ho
 dsimp only at ho
 refine anz <| wq <| Wq rfl (cr [] p0u) <| Qa (Mi rfl) <| Qa (Ai rfl) <| fun p7f p2r=>anz <| ?_
 cases ho
 exact W_ret ⟨_,res_1 Tryz.results97,rfl,(hB.trans p2r)⟩

abbrev laws_heldTopology_post (w:World) (x:(Int)) (e:Ending) (w':World):Prop:=e = .returned (.int .i64 x)∧Chg [] w w'
abbrev laws_heldTopology_T (w:World):=Tm Tryz.prog Tryz.f36 18 (laws_heldTopology_post w)
theorem laws_heldTopology_calls {w:World} {x0:MTopology} {zk:Value} {zo:List Nat} {zl:Value} {zp:List Nat} {zm:Value} {zq:List Nat} {zn:Value} {zr:List Nat} {ze:Value} {z8:List Nat} {x1:Int} (zu:(sImm (sInt .i64)).rep w.heap [zk] x0.Shape.From zo) (zv:(sImm (sInt .i64)).rep w.heap [zl] x0.Shape.To zp) (zw:(sImm (sInt .i64)).rep w.heap [zm] x0.Shape.Identity zq) (zx:(sImm (sImm (sInt .i64))).rep w.heap [zn] x0.Shape.Composites zr) (zj:(sImm (sImm (sImm (sInt .i64)))).rep w.heap [ze] x0.Covers z8) {y:(Int)} (hm:laws_heldTopology x0 x1=some y) :
  Calls Tryz.prog 36 #[.agg #[.int .i64 (x0.Shape.Objects),zk,zl,zm,zn,ze],.int .i64 (x1)] w (laws_heldTopology_post w y):=by
 refine Cm (S:=Unit) Tryz.func36 rfl Tryz.ntmps36 rfl hm fun o ho hB=>?_
 clear hm
 refine wq <| W_region rfl <| WL.box fun b1 wd2 hC3 hr4 hl5=>?_
 replace hr4:Row wd2 b1 [.int .i64 (x0.Shape.Objects),zk,zl,zm,zn,ze] 34:=hr4
 replace hB:=(hB.trans hC3)
 refine Wb (Ai rfl) <| anz <| wq <| Wq rfl (cr [] wd2) <| Qa (Fr fa34_0 rfl) <| ?_
 refine qv (v:=.agg #[.int .i64 (x0.Shape.Objects),zk,zl,zm,zn]) rfl (fun _ hC=>op_loadAgg (cs:=[.int .i64 (x0.Shape.Objects),zk,zl,zm,zn]) u32 rfl info32 (by rw [sz32]; rfl) rfl (At.sub (kr hr4 hC).at 0 5)) ?_
 refine Qa (Mi rfl) <| ?_
 obtain ⟨y8,hy9,ho⟩:=bs ho
 refine Qc Tryz.func96 rfl rfl (fun _ hC=>laws_heldCategory_calls (kp _ zu (hB.trans hC)) (kp _ zv (hB.trans hC)) (kp _ zw (hB.trans hC)) (kp _ zx (hB.trans hC)) hy9) <| Qa (Ai rfl) <| fun p3b gh=>anz <| wq <| wq <| Wq rfl gh <| Qa (Mi rfl) <| Qa (Bl rfl rfl) <| fun p7a p02=>anz <| W_cond (b:=decide (y8 < (0:Int))) rfl ?_ ?_
 intro nt
 rw [nt] at ho
 refine wq <| Wq rfl p02 <| Qa (Ai rfl) <| fun p7b p2n=>anz <| ?_
 cases ho
 exact W_ret ⟨_,res_1 Tryz.results36,rfl,(hB.trans p2n)⟩
 intro nt
 rw [nt] at ho
 refine W_skip <| anz <| wq <| Wq rfl p02 <| Qa (Fr fa34_1 rfl) <| Qa (Lr na26 hr4 rfl rfl) <| Qa (Mi rfl) <| ?_
 obtain ⟨y17,p2o,ho⟩:=bs ho
 refine Qc Tryz.func97 rfl rfl (fun _ hC=>laws_heldInt64SSS_calls (kp _ zj (hB.trans hC)) p2o) <| Qa (Ai rfl) <| fun p7c p2p=>anz <| wq <| wq <| Wq rfl p2p <| Qa (Mi rfl) <| Qa (Bl rfl rfl) <| fun p2b no=>anz <| W_cond (b:=decide (y17 < (0:Int))) rfl ?_ ?_
 intro nu
 rw [nu] at ho
 refine wq <| Wq rfl no <| Qa (Ai rfl) <| fun p7d p2q=>anz <| ?_
 cases ho
 exact W_ret ⟨_,res_1 Tryz.results36,rfl,(hB.trans p2q)⟩
 intro nu
 rw [nu] at ho
 refine W_skip <| anz <| wq <| Wq rfl no <| Qa (Mi rfl) <| Qa (Ai rfl) <| fun p9e p7j=>anz <| ?_
 cases ho
 exact W_ret ⟨_,res_1 Tryz.results36,rfl,(hB.trans p7j)⟩
end Go.Proofs.YtcmckiiafgcmjaaGreat
