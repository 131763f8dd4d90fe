/- Walks, printed by a program: that a call of each function computes what its model says. No condition beside those that each theorem names. -/
import Derived.Test.YtcmckiiafgcmjaaGreatTy
import Derived.Test.YtcmckiiafgcmjaaGreatMo
import Derived.Test.YtcmckiiafgcmjaaGreatZ03
namespace Go.Proofs.YtcmckiiafgcmjaaGreat
open Go Go.Li
set_option linter.unusedVariables false
set_option maxHeartbeats 4000000
set_option maxRecDepth 100000
abbrev impl_coverageOf_post (p_x0:Addr) (w:World) (x:((Option MCoverage)×Bool)) (e:Ending) (w':World):Prop:=∃ (v0:Value),e = .returned (.tuple #[v0,.bool x.2])∧Chg [] w w'∧(match x.1 with | none=>(v0 = .pointer none) | some m0=>∃ (b101:Nat) (b102:Nat) (v101:Value) (f101:List Nat) (v102:Value) (f102:List Nat) (v103:Value) (f103:List Nat) (v104:Value) (f104:List Nat) (v105:Value) (f105:List Nat) (v106:Value) (f106:List Nat) (v107:Value) (f107:List Nat) (v108:Value) (f108:List Nat) (b103:Nat),v0 = .pointer (some (⟨b101,0,none⟩))∧OE [] w.heap.size w' (sOwn 2 (sInt .i64)) [v101] m0.Classifier.Sets.Shape.From f101∧OE [] w.heap.size w' (sOwn 2 (sInt .i64)) [v102] m0.Classifier.Sets.Shape.To f102∧OE [] w.heap.size w' (sOwn 2 (sInt .i64)) [v103] m0.Classifier.Sets.Shape.Identity f103∧OE [] w.heap.size w' (sOwn 22 (sOwn 2 (sInt .i64))) [v104] m0.Classifier.Sets.Shape.Composites f104∧OE [] w.heap.size w' (sOwn 2 (sInt .i64)) [v105] m0.Classifier.Sets.Sizes f105∧OE [] w.heap.size w' (sOwn 22 (sOwn 2 (sInt .i64))) [v106] m0.Classifier.Sets.Actions f106∧OE [] w.heap.size w' (sOwn 118 (sOwn 114 (sOwn 2 (sInt .i64)))) [v107] m0.Classifier.Sieves f107∧Row w' b102 [.int .i64 (m0.Classifier.Sets.Shape.Objects),v101,v102,v103,v104,v105,v106,v107] 151∧w.heap.size≤b102∧OE [] w.heap.size w' (sOwn 138 (sOwn 4 sBool)) [v108] m0.Covers f108∧Row w' b103 [.int .i64 (m0.Count)] 197∧w.heap.size≤b103∧Row w' b101 [.pointer (some (⟨b102,0,none⟩)),.pointer (some (p_x0)),v108,.pointer (some (⟨b103,0,none⟩))] 144∧w.heap.size≤b101∧Dis f101 f102∧Dis f101 f103∧Dis f101 f104∧Dis f101 f105∧Dis f101 f106∧Dis f101 f107∧Dis f101 [b102]∧Dis f101 f108∧Dis f101 [b103]∧Dis f101 [b101]∧Dis f102 f103∧Dis f102 f104∧Dis f102 f105∧Dis f102 f106∧Dis f102 f107∧Dis f102 [b102]∧Dis f102 f108∧Dis f102 [b103]∧Dis f102 [b101]∧Dis f103 f104∧Dis f103 f105∧Dis f103 f106∧Dis f103 f107∧Dis f103 [b102]∧Dis f103 f108∧Dis f103 [b103]∧Dis f103 [b101]∧Dis f104 f105∧Dis f104 f106∧Dis f104 f107∧Dis f104 [b102]∧Dis f104 f108∧Dis f104 [b103]∧Dis f104 [b101]∧Dis f105 f106∧Dis f105 f107∧Dis f105 [b102]∧Dis f105 f108∧Dis f105 [b103]∧Dis f105 [b101]∧Dis f106 f107∧Dis f106 [b102]∧Dis f106 f108∧Dis f106 [b103]∧Dis f106 [b101]∧Dis f107 [b102]∧Dis f107 f108∧Dis f107 [b103]∧Dis f107 [b101]∧Dis [b102] f108∧Dis [b102] [b103]∧Dis [b102] [b101]∧Dis f108 [b103]∧Dis f108 [b101]∧Dis [b103] [b101])
abbrev impl_coverageOf_T (p_x0:Addr) (w:World):=Tm Tryz.prog Tryz.f104 44 (impl_coverageOf_post p_x0 w)
theorem impl_coverageOf_calls {w:World} {x0:MCategory} {p_x0:Addr} {z2:Value} {zf:List Nat} {z1:Value} {zg:List Nat} {z7:Value} {zh:List Nat} {z6:Value} {zi:List Nat} (za:(sImm (sInt .i64)).rep w.heap [z2] x0.From zf) (zb:(sImm (sInt .i64)).rep w.heap [z1] x0.To zg) (zd:(sImm (sInt .i64)).rep w.heap [z7] x0.Identity zh) (zc:(sImm (sImm (sInt .i64))).rep w.heap [z6] x0.Composites zi) (a_x0:At w p_x0 [.int .i64 (x0.Objects),z2,z1,z7,z6]) {y:((Option MCoverage)×Bool)} (hm:impl_coverageOf x0=some y) :
  Calls Tryz.prog 104 #[.pointer (some (p_x0))] w (impl_coverageOf_post p_x0 w y):=by
 refine Cm (S:=Unit) Tryz.func104 rfl Tryz.ntmps104 rfl hm fun o ho hB=>?_
 clear hm
 refine wq <| Wq rfl (cr [] w) <| Qa (Av (.pointer none) rfl) <| Qa (Ab rfl) <| fun wd1 hC2=>anz <| wq <| W_region rfl <| Wb (Mp rfl) <| ?_
 obtain ⟨y3,hy4,ho⟩:=bs ho
 refine WL.call rfl (op_callF Tryz.func164 rfl rfl) (impl_Category_classifier_calls (kp _ za (hB.trans hC2)) (kp _ zb (hB.trans hC2)) (kp _ zd (hB.trans hC2)) (kp _ zc (hB.trans hC2)) (At.keep0 a_x0 (hB.trans hC2)) hy4) <| ?_
 rintro _ wd5 ⟨v8,rfl,hC6,hp7⟩
 refine ⟨_,rfl,?_⟩
 rcases hq9:y3.1 with _ | m10
 rw [hq9] at hp7 ho
 try dsimp only at hp7
 try dsimp only at ho
 obtain rfl:=hp7
 have p29:=hC2.trans hC6
 replace hB:=(hB.trans p29)
 refine Wb (Mt rfl) <| Wb (Ex (.pointer none) rfl rfl) <| Wb (Exb rfl rfl) <| Wb (Av (.pointer none) rfl) <| Wb (Ab rfl) <| anz <| wq <| wq <| Wq rfl (cr [] wd5) <| Qa (Mb rfl) <| Qa (Nt rfl) <| fun p5y p1m=>anz <| W_cond (b:=!(y3.2)) rfl ?_ ?_
 intro p0e
 rw [p0e] at ho
 refine wq <| Wq rfl p1m <| Qa (Av (.pointer none) rfl) <| Qa (Ab rfl) <| fun p2a nd=>anz <| ?_
 cases ho
 exact W_ret ⟨_,res_2 Tryz.results104,_,rfl,(hB.trans nd),rfl⟩
 intro p0e
 rw [p0e] at ho
 refine W_skip <| anz <| wq <| W_region rfl <| Wb (Mv (.pointer none) rfl) <| Wb (Mp rfl) <| WL.alloc info197 zr197 fun b17 p1o p0f nm p5z=>?_
 replace nm:Row p1o b17 [.int .i64 ((0:Int))] 197:=nm
 have p2b:=p1m.trans p0f
 replace hB:=(hB.trans p2b)
 refine Wb (Bu (bld144_0_1_3 rfl rfl rfl)) <| WL.box fun b24 nn jw p1p p60=>?_
 replace p1p:Row nn b24 [.pointer none,.pointer (some (p_x0)),.slice none 0 0,.pointer (some (⟨b17,0,none⟩))] 144:=p1p
 replace nm:=kr nm jw
 replace hB:=(hB.trans jw)
 refine Wb (Ap rfl) <| anz <| wq <| wq <| Wq rfl (cr [] nn) <| Qa (Mv (.pointer none) rfl) <| ?_
 cases ho
 rw [hq9] at hp7 ho
 try dsimp only at hp7
 try dsimp only at ho
 obtain ⟨pw,v34,ql,v37,qm,v40,qn,v43,qo,v46,qp,v49,qq,v52,q9,rfl,p8,p9,pa,pb,pc,pd,p0,pm,p2d,no,d57,d58,d59,d60,d61,d62,d63,d64,d65,d66,d67,d68,d69,d70,d71,d72,d73,d74,d75,d76,d77,d78,d79,d80,d81,d82,d83⟩:=hp7
 replace p8:=OE.low (G:=[]) p8 (hB.trans hC2).size
 replace p9:=OE.low (G:=[]) p9 (hB.trans hC2).size
 replace pa:=OE.low (G:=[]) pa (hB.trans hC2).size
 replace pb:=OE.low (G:=[]) pb (hB.trans hC2).size
 replace pc:=OE.low (G:=[]) pc (hB.trans hC2).size
 replace pd:=OE.low (G:=[]) pd (hB.trans hC2).size
 replace p0:=OE.low (G:=[]) p0 (hB.trans hC2).size
 have p34:w.heap.size≤pw:=Nat.le_trans (hB.trans hC2).size p2d
 have p35:=hC2.trans hC6
 replace hB:=(hB.trans p35)
 refine Wb (Mt rfl) <| Wb (Ex (.pointer (some (⟨pw,0,none⟩))) rfl rfl) <| Wb (Exb rfl rfl) <| Wb (Ap rfl) <| Wb (Ab rfl) <| anz <| wq <| wq <| Wq rfl (cr [] wd5) <| Qa (Mb rfl) <| Qa (Nt rfl) <| fun p61 qr=>anz <| W_cond (b:=!(y3.2)) rfl ?_ ?_
 intro p0h
 rw [p0h] at ho
 refine wq <| Wq rfl qr <| Qa (Av (.pointer none) rfl) <| Qa (Ab rfl) <| fun p62 p36=>anz <| ?_
 cases ho
 exact W_ret ⟨_,res_2 Tryz.results104,_,rfl,(hB.trans p36),rfl⟩
 intro p0h
 rw [p0h] at ho
 refine W_skip <| anz <| wq <| W_region rfl <| Wb (Mp rfl) <| Wb (Mp rfl) <| WL.alloc info197 zr197 fun px p37 p38 pu j9=>?_
 replace pu:Row p37 px [.int .i64 ((0:Int))] 197:=pu
 have p39:w.heap.size≤px:=Nat.le_trans (hB.trans qr).size j9
 have d97:=dl (onw j9) (sl _ (kp _ p8.1 qr))
 have d98:=dl (onw j9) (sl _ (kp _ p9.1 qr))
 have d99:=dl (onw j9) (sl _ (kp _ pa.1 qr))
 have p0l:=dl (onw j9) (sl _ (kp _ pb.1 qr))
 have p0m:=dl (onw j9) (sl _ (kp _ pc.1 qr))
 have p0n:=dl (onw j9) (sl _ (kp _ pd.1 qr))
 have p0o:=dl (onw j9) (sl _ (kp _ p0.1 qr))
 have p0p:=dl (onw j9) (one_lt (Row.lt (kr pm qr)))
 have ja:=qr.trans p38
 replace p8:=ko p8 ja
 replace p9:=ko p9 ja
 replace pa:=ko pa ja
 replace pb:=ko pb ja
 replace pc:=ko pc ja
 replace pd:=ko pd ja
 replace p0:=ko p0 ja
 replace pm:=kr pm ja
 replace hB:=(hB.trans ja)
 refine Wb (Bu (bld144_0_1_3 rfl rfl rfl)) <| WL.box fun p1 p1q qv py qw=>?_
 replace py:Row p1q p1 [.pointer (some (⟨pw,0,none⟩)),.pointer (some (p_x0)),.slice none 0 0,.pointer (some (⟨px,0,none⟩))] 144:=py
 have p1r:w.heap.size≤p1:=Nat.le_trans hB.size qw
 have p0q:=dl (onw qw) (sl _ p8.1)
 have p0r:=dl (onw qw) (sl _ p9.1)
 have p0s:=dl (onw qw) (sl _ pa.1)
 have p0t:=dl (onw qw) (sl _ pb.1)
 have p0u:=dl (onw qw) (sl _ pc.1)
 have p0v:=dl (onw qw) (sl _ pd.1)
 have p0w:=dl (onw qw) (sl _ p0.1)
 have p0x:=dl (onw qw) (one_lt (Row.lt pm))
 have p0y:=dl (onw qw) (one_lt (Row.lt pu))
 replace p8:=ko p8 qv
 replace p9:=ko p9 qv
 replace pa:=ko pa qv
 replace pb:=ko pb qv
 replace pc:=ko pc qv
 replace pd:=ko pd qv
 replace p0:=ko p0 qv
 replace pm:=kr pm qv
 replace pu:=kr pu qv
 replace hB:=(hB.trans qv)
 refine Wb (Ap rfl) <| anz <| wq <| wq <| Wq rfl (cr [] p1q) <| Qa (Mp rfl) <| Qa (Nk rfl) <| Qa (Fr fa151_1 rfl) <| Qa (Lr na149 pm rfl rfl) <| Qa (Ln sl149 ((Le.own (Le.own (Le.own (Le.refl _) 2) 114) 118).le p0.1) rfl) <| Qa (Mi rfl) <| fun p63 qs=>anz <| Wf (S1:=Int×(List (List Bool))) (fun s r w'=>match s with | (s0_26,s0_b106_2)=>∃ (v124:Value) (q2:List Nat),Chg [] w w'∧OE [] w.heap.size w' (sOwn 2 (sInt .i64)) [v34] (m10.Sets.Shape.From) ql∧OE [] w.heap.size w' (sOwn 2 (sInt .i64)) [v37] (m10.Sets.Shape.To) qm∧OE [] w.heap.size w' (sOwn 2 (sInt .i64)) [v40] (m10.Sets.Shape.Identity) qn∧OE [] w.heap.size w' (sOwn 22 (sOwn 2 (sInt .i64))) [v43] (m10.Sets.Shape.Composites) qo∧OE [] w.heap.size w' (sOwn 2 (sInt .i64)) [v46] (m10.Sets.Sizes) qp∧OE [] w.heap.size w' (sOwn 22 (sOwn 2 (sInt .i64))) [v49] (m10.Sets.Actions) qq∧OE [] w.heap.size w' (sOwn 118 (sOwn 114 (sOwn 2 (sInt .i64)))) [v52] (m10.Sieves) q9∧Row w' pw [.int .i64 (m10.Sets.Shape.Objects),v34,v37,v40,v43,v46,v49,v52] 151∧Row w' px [.int .i64 ((0:Int))] 197∧Row w' p1 [.pointer (some (⟨pw,0,none⟩)),.pointer (some (p_x0)),v124,.pointer (some (⟨px,0,none⟩))] 144∧OE [] w.heap.size w' (sOwn 138 (sOwn 4 sBool)) [v124] (s0_b106_2) q2∧Dis ql qm∧Dis ql qn∧Dis ql qo∧Dis ql qp∧Dis ql qq∧Dis ql q9∧Dis ql [pw]∧Dis ql [px]∧Dis ql [p1]∧Dis ql q2∧Dis qm qn∧Dis qm qo∧Dis qm qp∧Dis qm qq∧Dis qm q9∧Dis qm [pw]∧Dis qm [px]∧Dis qm [p1]∧Dis qm q2∧Dis qn qo∧Dis qn qp∧Dis qn qq∧Dis qn q9∧Dis qn [pw]∧Dis qn [px]∧Dis qn [p1]∧Dis qn q2∧Dis qo qp∧Dis qo qq∧Dis qo q9∧Dis qo [pw]∧Dis qo [px]∧Dis qo [p1]∧Dis qo q2∧Dis qp qq∧Dis qp q9∧Dis qp [pw]∧Dis qp [px]∧Dis qp [p1]∧Dis qp q2∧Dis qq q9∧Dis qq [pw]∧Dis qq [px]∧Dis qq [p1]∧Dis qq q2∧Dis q9 [pw]∧Dis q9 [px]∧Dis q9 [p1]∧Dis q9 q2∧Dis [pw] [px]∧Dis [pw] [p1]∧Dis [pw] q2∧Dis [px] [p1]∧Dis [px] q2∧Dis [p1] q2∧∃ F,r=updL F [(6,.pointer (some (⟨p1,0,none⟩))),(24,v52),(25,.int .i64 ((m10.Sieves.length:Int))),(26,.int .i64 (s0_26))]) (impl_coverageOf_T p_x0 w) ho ⟨_,_,(hB.trans qs),(ko p8 qs),(ko p9 qs),(ko pa qs),(ko pb qs),(ko pc qs),(ko pd qs),(ko p0 qs),(kr pm qs),(kr pu qs),(kr py qs),nil_OE,(no),(d57),(d58),(d59),(d60),(d61),(d62),((d97).symm),((p0q).symm),(fun _ _ h=>nomatch h),(d63),(d64),(d65),(d66),(d67),(d68),((d98).symm),((p0r).symm),(fun _ _ h=>nomatch h),(d69),(d70),(d71),(d72),(d73),((d99).symm),((p0s).symm),(fun _ _ h=>nomatch h),(d74),(d75),(d76),(d77),((p0l).symm),((p0t).symm),(fun _ _ h=>nomatch h),(d78),(d79),(d80),((p0m).symm),((p0u).symm),(fun _ _ h=>nomatch h),(d81),(d82),((p0n).symm),((p0v).symm),(fun _ _ h=>nomatch h),(d83),((p0o).symm),((p0w).symm),(fun _ _ h=>nomatch h),((p0p).symm),((p0x).symm),(fun _ _ h=>nomatch h),((p0y).symm),(fun _ _ h=>nomatch h),(fun _ _ h=>nomatch h),fe rfl⟩ ?_ ?_
 rintro ⟨s0_26,s0_b106_2⟩ _ p3a ⟨v124,q2,hB,p8,p9,pa,pb,pc,pd,p0,pm,pu,py,jb,ka,kb,kc,kd,ke,kf,kg,kh,jx,jy,ki,kj,kk,kl,km,np,nq,ne,nf,nr,ns,nt,nu,nv,nw,ng,nh,jc,jd,je,jf,jg,qx,qy,jh,ji,jj,jk,qz,j0,jl,jm,jn,j1,j2,jo,jp,qa,qb,jq,j3,j4,j5,j6,j7,F,rfl⟩ o ho
 replace ho:impl_coverageOf_L0 m10 s0_26 s0_b106_2=some o:=ho
 unfold impl_coverageOf_L0 at ho
 refine wq <| Wq rfl (cr [] p3a) <| Qa (Bl rfl rfl) <| fun p64 q3=>anz <| wq <| W_cond (b:=decide (s0_26 < (m10.Sieves.length:Int))) rfl ?_ ?_
 intro p0z
 rw [p0z] at ho
 refine W_skip <| anz <| wq <| W_block <| wq <| Wq rfl q3 <| ?_
 obtain ⟨e186,hx187e,ho⟩:=bs ho
 have hx187:=idx_some hx187e
 refine Qa (Ix sl149 ((Le.own (Le.own (Le.own (Le.refl _) 2) 114) 118).le p0.1) hx187 rfl rfl rfl) <| ?_
 obtain ⟨u188,fu189,hu190,jz,hs192⟩:=one_get rfl ((Le.own (Le.own (Le.own (Le.refl _) 2) 114) 118).le p0.1) hx187.1 hx187.2
 refine Qa (Ld na118 hu190 rfl) <| Qa (Av u188 rfl) <| fun p3b p5=>anz <| ?_
 obtain ⟨n195,hn196,ho⟩:=bs ho
 obtain ⟨hn196a,hn196b,hn196c⟩:=mk_some hn196
 refine W_any (m:=9) (U:=.replicate 9 []) (S:=[sV (.pointer (some (⟨p1,0,none⟩))),sV (.pointer (some (⟨p1,0,none⟩))),sV (.pointer (some (⟨p1,0,none⟩))),sV (.pointer (some (⟨p1,2,none⟩))),sV (v124),sV (u188),sV (.int .i64 ((e186.length:Int))),sO (sOwn 4 sBool) (List.replicate n195 false),⟨true,fun f w r u=>LitV [r 37] 138 1 f w u⟩]) (Z:=[0]) hmix rfl (by decide) (by decide +kernel) (fun _ _ _ h=>np_out h) (by decide) rfl (by decide +kernel) (stable_all <| stable_cons stable_val (stable_cons stable_val (stable_cons stable_val (stable_cons stable_val (stable_cons stable_val (stable_cons stable_val (stable_cons stable_val (stable_cons stable_own (stable_cons (stable_litx fun r r' h=>h 7 (by decide +kernel) 37 rfl) ( stable_nil)))))))))) ?_ ?_
 refine owes_cons ?_ <| owes_cons ?_ <| owes_cons ?_ <| owes_cons ?_ <| owes_cons ?_ <| owes_cons ?_ <| owes_cons ?_ <| owes_cons ?_ <| owes_cons ?_ <| owes_nil
 exact Oh rfl rfl rfl [(6,.pointer (some (⟨p1,0,none⟩)))] p5 rfl rfl fun _=>Mp rfl
 exact Oh rfl rfl rfl [(6,.pointer (some (⟨p1,0,none⟩)))] p5 rfl rfl fun _=>Mp rfl
 exact Ov rfl rfl rfl [] [(31,.pointer (some (⟨p1,0,none⟩)))] [1] p5 rfl rfl (by decide +kernel) rfl fun _=>Nk rfl
 exact Ov rfl rfl rfl [] [(32,.pointer (some (⟨p1,0,none⟩)))] [2] p5 rfl rfl (by decide +kernel) rfl fun _=>Fr fa144_2 rfl
 exact Ov rfl rfl rfl [] [(33,.pointer (some (⟨p1,2,none⟩)))] [3] p5 rfl rfl (by decide +kernel) rfl fun _=>Lr na97 py rfl rfl
 exact Oh rfl rfl rfl [(8,u188)] p5 rfl rfl fun _=>Mv u188 rfl
 exact Ov rfl rfl rfl [] [(35,u188)] [5] p5 rfl rfl (by decide +kernel) rfl fun _=>Ln sl118 jz rfl
 refine Owes.mem rfl rfl rfl <| fun g r wr hCr H hot=>?_
 have hC:=p5.trans hCr
 obtain ⟨F,rfl⟩:=fr (r:=r) (l:=[(36,.int .i64 ((e186.length:Int)))]) ⟨(H 6 (by decide +kernel) 36 rfl),trivial⟩
 exact OpW.made (own_make (E:=sBool) (z0:=false) Tryz.underlying138 info4 zr4 sz4 rfl rfl (fun _=>⟨rfl,rfl⟩) (congrArg (Value.int .i64) hn196a) (congrArg (Value.int .i64) hn196a) (by rw [by4]; exact hn196b) hn196c)
 refine Owes.memX rfl rfl rfl <| fun g r wr hCr H hot=>?_
 have hC:=p5.trans hCr
 have qt:OwnV (sOwn 4 sBool) (List.replicate n195 false) _ _ _:=H 7 (by decide +kernel) 37 rfl
 generalize hvv197:r 37=v197 at qt
 obtain ⟨F,rfl⟩:=fr (r:=r) (l:=[(37,v197)]) ⟨hvv197,trivial⟩
 exact OpW.lit1 Tryz.underlying97 info138 zr138 sz138 rfl (STy.one _ qt.1 _ (ms rfl))
 rintro g r p10 ⟨p3c,hdone,hot,hfresh,hdis⟩
 have qt:OwnV (sOwn 4 sBool) (List.replicate n195 false) _ _ _:=hdone 7 (by decide) (by decide) 37 rfl
 generalize hvv197:r 37=v197 at qt
 have hfo199:=hfresh 7 (by decide)
 obtain ⟨p11,hbb200,hvb200,ni⟩ : LitV [v197] 138 1 (g 8) p10 (r 38):=by have h:LitV [r 37] 138 1 (g 8) p10 (r 38):=hdone 8 (by decide) (by decide) 38 rfl; rw [hvv197] at h; exact h
 have hlb200:p3b.heap.size≤p11:=(hfresh 8 (by decide) p11 (by rw [hbb200]; exact ms rfl)).1
 have hdd:=hdis
 obtain ⟨F,rfl⟩:=fw hdone hot [(6,.pointer (some (⟨p1,0,none⟩))),(24,v52),(25,.int .i64 ((m10.Sieves.length:Int))),(26,.int .i64 (s0_26))] [(30,.pointer (some (⟨p1,0,none⟩))),(34,v124)] [0,4] rfl rfl rfl rfl (z:=[(37,v197),(38,.slice (some ⟨p11,0,none⟩) 1 1)]) ⟨hvv197,hvb200,trivial⟩
 obtain ⟨p3d,hgf198⟩ : ∃ k,k=g 7:=⟨_,rfl⟩
 rw [← hgf198] at qt hfo199
 replace qt:OE [] w.heap.size p10 (sOwn 4 sBool) [v197] (List.replicate n195 false) p3d:=⟨qt.1,qt.2,fun b hb=>.inr (Nat.le_trans (hB.trans p5).size (hfo199 b hb).1)⟩
 have kn:=dl (fun b hb=>(hfo199 b hb).1) (sl _ (kp _ p8.1 p5))
 have kq:=dl (fun b hb=>(hfo199 b hb).1) (sl _ (kp _ p9.1 p5))
 have ks:=dl (fun b hb=>(hfo199 b hb).1) (sl _ (kp _ pa.1 p5))
 have kt:=dl (fun b hb=>(hfo199 b hb).1) (sl _ (kp _ pb.1 p5))
 have p3e:=dl (fun b hb=>(hfo199 b hb).1) (sl _ (kp _ pc.1 p5))
 have p3f:=dl (fun b hb=>(hfo199 b hb).1) (sl _ (kp _ pd.1 p5))
 have p3g:=dl (fun b hb=>(hfo199 b hb).1) (sl _ (kp _ p0.1 p5))
 have p3h:=dl (fun b hb=>(hfo199 b hb).1) (one_lt (Row.lt (kr pm p5)))
 have p3i:=dl (fun b hb=>(hfo199 b hb).1) (one_lt (Row.lt (kr pu p5)))
 have p3j:=dl (fun b hb=>(hfo199 b hb).1) (one_lt (Row.lt (kr py p5)))
 have p3k:=dl (fun b hb=>(hfo199 b hb).1) (sl _ (kp _ jb.1 p5))
 have ku:=dl (onw hlb200) (one_lt (Row.lt (kr py p5)))
 have kv:=dl (onw hlb200) (sl _ (kp _ jb.1 p5))
 have pz:=(p5.trans p3c)
 replace p8:=ko p8 pz
 replace p9:=ko p9 pz
 replace pa:=ko pa pz
 replace pb:=ko pb pz
 replace pc:=ko pc pz
 replace pd:=ko pd pz
 replace p0:=ko p0 pz
 replace pm:=kr pm pz
 replace pu:=kr pu pz
 replace py:=kr py pz
 replace jb:=ko jb pz
 replace hu190:=pz.cell0 hu190
 replace jz:=kp _ jz pz
 replace hB:=(hB.trans pz)
 obtain ⟨n236,hn237,ho⟩:=bs ho
 have hn237a:=fits_some hn237
 refine WL.append1 (E:=(sOwn 4 sBool)) _ _ Tryz.underlying97 info138 zr138 sz138 rfl rfl rfl jb rfl ni qt.1 qt.2.1 qt.2.2 p3k (by rw [by138]; exact hn237a.1) hn237a.2 hB.size fun v230 p65 p66 q0 nx hs235=>?_
 have kw:=dis_upd hs235 (jy).symm kn (sl _ p8.1)
 have kx:=dis_upd hs235 (nf).symm kq (sl _ p9.1)
 have ky:=dis_upd hs235 (nh).symm ks (sl _ pa.1)
 have jt:=dis_upd hs235 (qy).symm kt (sl _ pb.1)
 have jr:=dis_upd hs235 (j0).symm p3e (sl _ pc.1)
 have kz:=dis_upd hs235 (j2).symm p3f (sl _ pd.1)
 have n0:=dis_upd hs235 (qb).symm p3g (sl _ p0.1)
 have n1:=dis_upd hs235 (j4).symm p3h (one_lt (Row.lt pm))
 have n2:=dis_upd hs235 (j6).symm p3i (one_lt (Row.lt pu))
 have k0:=dis_upd hs235 (j7).symm p3j (one_lt (Row.lt py))
 replace hu190:=q0.cell (fun hm=>qb _ (own_blk p0 hx187.2) hm) hu190
 replace jz:=STy.keep _ jz q0 (fun b hb=>qb b (hs192 b hb))
 replace p8:=okp p8 q0 jy
 replace p9:=okp p9 q0 nf
 replace pa:=okp pa q0 nh
 replace pb:=okp pb q0 qy
 replace pc:=okp pc q0 j0
 replace pd:=okp pd q0 j2
 replace p0:=okp p0 q0 qb
 replace pm:=Row.keep pm q0 (j4 _ (ms rfl))
 replace pu:=Row.keep pu q0 (j6 _ (ms rfl))
 replace py:=Row.keep py q0 (j7 _ (ms rfl))
 replace ni:=Row.keep ni q0 (kv _ (ms rfl))
 replace hB:=hB.then q0 jb.2.2
 refine Wb (Nk rfl) <| Wb (Fr fa144_2 rfl) <| WL.storeRow (j:=2) info97 sz97 py (Nat.le_of_ble_eq_true rfl) rfl rfl (STy.one _ nx.1 _ (ms rfl)) fun p1s q1 p12=>?_
 replace p12:Row p1s p1 [.pointer (some (⟨pw,0,none⟩)),.pointer (some (p_x0)),v230,.pointer (some (⟨px,0,none⟩))] 144:=p12
 replace hu190:=q1.cell (fun hm=>qa _ (own_blk p0 hx187.2) hm) hu190
 replace jz:=STy.keep _ jz q1 (fun b hb=>qa b (hs192 b hb))
 replace p8:=okp p8 q1 jx
 replace p9:=okp p9 q1 ne
 replace pa:=okp pa q1 ng
 replace pb:=okp pb q1 qx
 replace pc:=okp pc q1 qz
 replace pd:=okp pd q1 j1
 replace p0:=okp p0 q1 qa
 replace pm:=Row.keep pm q1 (j3 _ (ms rfl))
 replace pu:=Row.keep pu q1 (j5 _ (ms rfl))
 replace ni:=Row.keep ni q1 (ku _ (ms rfl))
 replace nx:=okp nx q1 k0
 replace hB:=hB.then q1 (one_then p1r)
 refine inBlk_n <| anz <| Wq rfl (cr [] p1s) <| Qa (Ba rfl rfl) <| Qa (Mi rfl) <| fun p67 qc=>?_
 cases ho
 exact ⟨_,_,(hB.trans qc),(ko p8 qc),(ko p9 qc),(ko pa qc),(ko pb qc),(ko pc qc),(ko pd qc),(ko p0 qc),(kr pm qc),(kr pu qc),(kr p12 qc),(ko nx qc),ka,kb,kc,kd,ke,kf,kg,kh,jx,((kw).symm),ki,kj,kk,kl,km,np,nq,ne,((kx).symm),nr,ns,nt,nu,nv,nw,ng,((ky).symm),jc,jd,je,jf,jg,qx,((jt).symm),jh,ji,jj,jk,qz,((jr).symm),jl,jm,jn,j1,((kz).symm),jo,jp,qa,((n0).symm),jq,j3,((n1).symm),j5,((n2).symm),((k0).symm),fe rfl⟩
 intro p0z
 rw [p0z] at ho
 refine W_exit <| andThen_x <| ?_
 cases ho
 exact ⟨rfl,⟨_,_,(hB.trans q3),(ko p8 q3),(ko p9 q3),(ko pa q3),(ko pb q3),(ko pc q3),(ko pd q3),(ko p0 q3),(kr pm q3),(kr pu q3),(kr py q3),(ko jb q3),ka,kb,kc,kd,ke,kf,kg,kh,jx,jy,ki,kj,kk,kl,km,np,nq,ne,nf,nr,ns,nt,nu,nv,nw,ng,nh,jc,jd,je,jf,jg,qx,qy,jh,ji,jj,jk,qz,j0,jl,jm,jn,j1,j2,jo,jp,qa,qb,jq,j3,j4,j5,j6,j7,fe rfl⟩⟩
 rintro ⟨s0_26,s0_b106_2⟩ _ p3l ⟨v124,q2,hB,p8,p9,pa,pb,pc,pd,p0,pm,pu,py,jb,ka,kb,kc,kd,ke,kf,kg,kh,jx,jy,ki,kj,kk,kl,km,np,nq,ne,nf,nr,ns,nt,nu,nv,nw,ng,nh,jc,jd,je,jf,jg,qx,qy,jh,ji,jj,jk,qz,j0,jl,jm,jn,j1,j2,jo,jp,qa,qb,jq,j3,j4,j5,j6,j7,F,rfl⟩ ho
 dsimp only at ho
 refine anz <| wq <| Wq rfl (cr [] p3l) <| Qa (Mp rfl) <| Qa (Ap rfl) <| Qa (Ab rfl) <| fun p68 qd=>anz <| ?_
 cases ho
 exact W_ret ⟨_,res_2 Tryz.results104,_,rfl,(hB.trans qd),_,_,_,_,_,_,_,_,_,_,_,_,_,_,_,_,_,_,_,rfl,(ko p8 qd),(ko p9 qd),(ko pa qd),(ko pb qd),(ko pc qd),(ko pd qd),(ko p0 qd),(kr pm qd),p34,(ko jb qd),(kr pu qd),p39,(kr py qd),p1r,ka,kb,kc,kd,ke,kf,kg,jy,kh,jx,ki,kj,kk,kl,km,np,nf,nq,ne,nr,ns,nt,nu,nv,nh,nw,ng,jc,jd,je,jf,qy,jg,qx,jh,ji,jj,j0,jk,qz,jl,jm,j2,jn,j1,jo,qb,jp,qa,j4,jq,j3,(j6).symm,(j7).symm,j5⟩

abbrev sync_atomic_Int64_Add_post (b_x0:Nat) (w:World) (x:(Int×Int)) (e:Ending) (w':World):Prop:=e = .returned (.int .i64 x.1)∧Chg [b_x0] w w'∧Row w' b_x0 [.int .i64 x.2] 197
abbrev sync_atomic_Int64_Add_T (b_x0:Nat) (w:World):=Tm Tryz.prog Tryz.f192 10 (sync_atomic_Int64_Add_post b_x0 w)
theorem sync_atomic_Int64_Add_calls {w:World} {x0:Int} {b_x0:Nat} {x1:Int} (r_x0:Row w b_x0 [.int .i64 (x0)] 197) {y:(Int×Int)} (hm:sync_atomic_Int64_Add x0 x1=some y) :
  Calls Tryz.prog 192 #[.pointer (some (⟨b_x0,0,none⟩)),.int .i64 (x1)] w (sync_atomic_Int64_Add_post b_x0 w y):=by
 refine Cm (S:=Unit) Tryz.func192 rfl Tryz.ntmps192 rfl hm fun o ho hB=>?_
 clear hm
 have hB:Chg [b_x0] w w:=cr _ _
 refine wq <| Wq rfl (cr [] w) <| Qa (Ai rfl) <| fun wd1 hC2=>anz <| wq <| W_region rfl <| Wb (Mp rfl) <| Wb (Nk rfl) <| Wb (Fr fa197_2 rfl) <| Wb (Mi rfl) <| WL.atAdd (n:=x0) Tryz.func220 (by kernel_rfl) (by kernel_rfl) (by kernel_rfl) (by kernel_rfl) (kr r_x0 hC2) rfl rfl rfl fun wd3 hC4 hr5=>?_
 replace hr5:Row wd3 b_x0 [.int .i64 (w64 (x0 + x1))] 197:=hr5
 have hT6:=(hC2.nil (G:=[b_x0])).trans hC4
 replace hB:=hB.then hT6 (fun i hi=>.inl (by simp [List.mem_singleton.1 hi]))
 refine Wb (Ai rfl) <| anz <| ?_
 cases ho
 exact W_ret ⟨_,res_1 Tryz.results192,rfl,hB,hr5⟩

abbrev impl_coverage_mark_post (ze:Value) (z8:List Nat) (b_x0_Count:Nat) (w:World) (x:((List (List Bool))×Int)) (e:Ending) (w':World):Prop:=∃ (f0:List Nat),e = .returned (.tuple #[])∧Chg (z8++[b_x0_Count]) w w'∧OE (z8++[b_x0_Count]) w.heap.size w' (sOwn 138 (sOwn 4 sBool)) [ze] x.1 f0∧Row w' b_x0_Count [.int .i64 x.2] 197∧Dis f0 [b_x0_Count]
abbrev impl_coverage_mark_T (ze:Value) (z8:List Nat) (b_x0_Count:Nat) (w:World):=Tm Tryz.prog Tryz.f124 31 (impl_coverage_mark_post ze z8 b_x0_Count w)
theorem impl_coverage_mark_calls {w:World} {x0:MCoverage} {p_x0:Addr} {p_x0_Classifier:Addr} {z1h:Value} {z1t:List Nat} {z1i:Value} {z1u:List Nat} {z1j:Value} {z1v:List Nat} {z1k:Value} {z1w:List Nat} {z1l:Value} {z1x:List Nat} {z1f:Value} {z1y:List Nat} {z1d:Value} {z20:List Nat} {p_x0_C:Addr} {zy:Value} {z17:List Nat} {zt:Value} {z18:List Nat} {z10:Value} {z19:List Nat} {z11:Value} {z1a:List Nat} {ze:Value} {z8:List Nat} {b_x0_Count:Nat} {x1:Int} {x2:Int} (z1m:(sImm (sInt .i64)).rep w.heap [z1h] x0.Classifier.Sets.Shape.From z1t) (z1n:(sImm (sInt .i64)).rep w.heap [z1i] x0.Classifier.Sets.Shape.To z1u) (z1o:(sImm (sInt .i64)).rep w.heap [z1j] x0.Classifier.Sets.Shape.Identity z1v) (z1p:(sImm (sImm (sInt .i64))).rep w.heap [z1k] x0.Classifier.Sets.Shape.Composites z1w) (z1q:(sImm (sInt .i64)).rep w.heap [z1l] x0.Classifier.Sets.Sizes z1x) (z1g:(sImm (sImm (sInt .i64))).rep w.heap [z1f] x0.Classifier.Sets.Actions z1y) (z1e:(sImm (sImm (sImm (sInt .i64)))).rep w.heap [z1d] x0.Classifier.Sieves z20) (a_x0_Classifier:At w p_x0_Classifier [.int .i64 (x0.Classifier.Sets.Shape.Objects),z1h,z1i,z1j,z1k,z1l,z1f,z1d]) (z16:(sImm (sInt .i64)).rep w.heap [zy] x0.C.From z17) (z12:(sImm (sInt .i64)).rep w.heap [zt] x0.C.To z18) (z1b:(sImm (sInt .i64)).rep w.heap [z10] x0.C.Identity z19) (z1c:(sImm (sImm (sInt .i64))).rep w.heap [z11] x0.C.Composites z1a) (a_x0_C:At w p_x0_C [.int .i64 (x0.C.Objects),zy,zt,z10,z11]) (o_x0_Covers:OE z8 w.heap.size w (sOwn 138 (sOwn 4 sBool)) [ze] x0.Covers z8) (r_x0_Count:Row w b_x0_Count [.int .i64 (x0.Count)] 197) (a_x0:At w p_x0 [.pointer (some (p_x0_Classifier)),.pointer (some (p_x0_C)),ze,.pointer (some (⟨b_x0_Count,0,none⟩))]) (d_0_1:Dis z8 [b_x0_Count]) (n_h_x0_Classifier_Sets_Shape_From:Dis z1t (z8++[b_x0_Count])) (n_h_x0_Classifier_Sets_Shape_To:Dis z1u (z8++[b_x0_Count])) (n_h_x0_Classifier_Sets_Shape_Identity:Dis z1v (z8++[b_x0_Count])) (n_h_x0_Classifier_Sets_Shape_Composites:Dis z1w (z8++[b_x0_Count])) (n_h_x0_Classifier_Sets_Sizes:Dis z1x (z8++[b_x0_Count])) (n_h_x0_Classifier_Sets_Actions:Dis z1y (z8++[b_x0_Count])) (n_h_x0_Classifier_Sieves:Dis z20 (z8++[b_x0_Count])) (n_x0_Classifier:p_x0_Classifier.block ∉ (z8++[b_x0_Count])) (n_h_x0_C_From:Dis z17 (z8++[b_x0_Count])) (n_h_x0_C_To:Dis z18 (z8++[b_x0_Count])) (n_h_x0_C_Identity:Dis z19 (z8++[b_x0_Count])) (n_h_x0_C_Composites:Dis z1a (z8++[b_x0_Count])) (n_x0_C:p_x0_C.block ∉ (z8++[b_x0_Count])) (n_x0:p_x0.block ∉ (z8++[b_x0_Count])) {y:((List (List Bool))×Int)} (hm:impl_coverage_mark x0 x1 x2=some y) :
  Calls Tryz.prog 124 #[.pointer (some (p_x0)),.int .i64 (x1),.int .i64 (x2)] w (impl_coverage_mark_post ze z8 b_x0_Count w y):=by
 refine Cv (R:=((List (List Bool))×Int)) Tryz.func124 rfl Tryz.ntmps124 rfl hm fun o ho hB=>?_
 clear hm
 have hB:Chg (z8++[b_x0_Count]) w w:=cr _ _
 replace o_x0_Covers:OE (z8++[b_x0_Count]) w.heap.size w (sOwn 138 (sOwn 4 sBool)) [ze] x0.Covers z8:=OE.give o_x0_Covers fun b hb=>by simp [hb]
 refine wq <| Wq rfl (cr [] w) <| Qa (Mp rfl) <| Qa (Nk rfl) <| Qa (Fp fa144_2 rfl) <| Qa (La na97 (At.keep a_x0 hB n_x0) rfl rfl) <| Qa (Mi rfl) <| ?_
 obtain ⟨e23,hx24e,ho⟩:=bs ho
 have hx24:=idx_some hx24e
 refine Qa (Ix sl97 ((Le.own (Le.own (Le.refl _) 4) 138).le o_x0_Covers.1) hx24 rfl rfl rfl) <| ?_
 obtain ⟨u25,fu26,hu27,p1t,hs29⟩:=one_get rfl ((Le.own (Le.own (Le.refl _) 4) 138).le o_x0_Covers.1) hx24.1 hx24.2
 refine Qa (Ld na138 hu27 rfl) <| Qa (Mi rfl) <| ?_
 obtain ⟨e30,hx31e,ho⟩:=bs ho
 have hx31:=idx_some hx31e
 refine Qa (Ix sl138 p1t hx31 rfl rfl rfl) <| Qa (Eb na4 p1t hx31 rfl) <| Qa (Nt rfl) <| fun nj ju=>anz <| W_cond (b:=!(e30)) rfl ?_ ?_
 intro p13
 rw [p13] at ho
 refine wq <| W_region rfl <| Wb (Mp rfl) <| Wb (Nk rfl) <| Wb (Fp fa144_2 rfl) <| Wa ju (La na97 (At.keep a_x0 hB n_x0) rfl rfl) <| Wb (Mi rfl) <| ?_
 obtain ⟨e35,hx36e,ho⟩:=bs ho
 have hx36:=idx_some hx36e
 refine Wa ju (Ix sl97 ((Le.own (Le.own (Le.refl _) 4) 138).le o_x0_Covers.1) hx36 rfl rfl rfl) <| ?_
 obtain ⟨u37,fu38,hu39,p14,hs41⟩:=one_get rfl ((Le.own (Le.own (Le.refl _) 4) 138).le o_x0_Covers.1) hx36.1 hx36.2
 refine Wa ju (Ld na138 hu39 rfl) <| Wb (Mi rfl) <| ?_
 obtain ⟨e42,hx43e,ho⟩:=bs ho
 have hx43:=idx_some hx43e
 refine Wa ju (Ix sl138 p14 hx43 rfl rfl rfl) <| ?_
 have nk:=ju.trans (cr [] nj)
 replace hu39:=nk.cell0 hu39
 replace p14:=kp _ p14 nk
 replace o_x0_Covers:=ko o_x0_Covers nk
 replace r_x0_Count:=kr r_x0_Count nk
 replace hB:=(hB.trans (Chg.nil nk))
 obtain ⟨k45,o46,hk47,hf48⟩:=own_focus rfl hB.size o_x0_Covers hx36.2 hu39
 have d49:Dis k45 [b_x0_Count]:=fun b hb=>d_0_1 b (hk47 b hb)
 refine WL.storeEl (z':=true) _ _ sBool_nofp rfl info4 sz4 o46 hx43.2 rfl rfl ⟨rfl,rfl⟩ fun p69 p15 o52=>?_
 obtain ⟨q9,p0,hs55⟩:=hf48 _ _ _ p15 o52
 have no:=dis_upd (k:=[]) (fun b hb=>(hs55 b hb).elim .inl fun h=>.inr (.inr h)) d_0_1 (fun _ h=>nomatch h) (one_lt (Row.lt r_x0_Count))
 replace r_x0_Count:=Row.keep r_x0_Count p15 ((d49).symm _ (ms rfl))
 replace hB:=hB.then p15 (fun b hb=>o_x0_Covers.2.2 b (hk47 b hb))
 refine anz <| W_region rfl <| Wb (Mp rfl) <| Wb (Nk rfl) <| Wb (Fp fa144_3 rfl) <| Wb (La na142 (At.keep a_x0 hB n_x0) rfl rfl) <| ?_
 obtain ⟨y58,p3p,ho⟩:=bs ho
 refine WL.call rfl (op_callF Tryz.func192 rfl rfl) (sync_atomic_Int64_Add_calls r_x0_Count p3p) <| ?_
 rintro _ p6a ⟨rfl,p1u,o62⟩
 refine ⟨_,rfl,?_⟩
 replace p0:=okp p0 p1u (Dis.symm (no).symm)
 replace hB:=hB.then p1u (fun i hi=>.inl (by simp [List.mem_singleton.1 hi]))
 cases ho
 exact ⟨_,res_0 Tryz.results124,_,rfl,hB,p0,o62,no⟩
 intro p13
 rw [p13] at ho
 refine W_skip <| ?_
 cases ho
 exact ⟨_,res_0 Tryz.results124,_,rfl,(hB.trans (Chg.nil ju)),(ko o_x0_Covers ju),(kr r_x0_Count ju),d_0_1⟩

abbrev impl_Topology_coverage_post (p_x0:Addr) (w:World) (x:((Option MCoverage)×Bool)) (e:Ending) (w':World):Prop:=∃ (v0:Value),e = .returned (.tuple #[v0,.bool x.2])∧Chg [] w w'∧(match x.1 with | none=>(v0 = .pointer none) | some m0=>∃ (b101:Nat) (b102:Nat) (v101:Value) (f101:List Nat) (v102:Value) (f102:List Nat) (v103:Value) (f103:List Nat) (v104:Value) (f104:List Nat) (v105:Value) (f105:List Nat) (v106:Value) (f106:List Nat) (v107:Value) (f107:List Nat) (v108:Value) (f108:List Nat) (b103:Nat),v0 = .pointer (some (⟨b101,0,none⟩))∧OE [] w.heap.size w' (sOwn 2 (sInt .i64)) [v101] m0.Classifier.Sets.Shape.From f101∧OE [] w.heap.size w' (sOwn 2 (sInt .i64)) [v102] m0.Classifier.Sets.Shape.To f102∧OE [] w.heap.size w' (sOwn 2 (sInt .i64)) [v103] m0.Classifier.Sets.Shape.Identity f103∧OE [] w.heap.size w' (sOwn 22 (sOwn 2 (sInt .i64))) [v104] m0.Classifier.Sets.Shape.Composites f104∧OE [] w.heap.size w' (sOwn 2 (sInt .i64)) [v105] m0.Classifier.Sets.Sizes f105∧OE [] w.heap.size w' (sOwn 22 (sOwn 2 (sInt .i64))) [v106] m0.Classifier.Sets.Actions f106∧OE [] w.heap.size w' (sOwn 118 (sOwn 114 (sOwn 2 (sInt .i64)))) [v107] m0.Classifier.Sieves f107∧Row w' b102 [.int .i64 (m0.Classifier.Sets.Shape.Objects),v101,v102,v103,v104,v105,v106,v107] 151∧w.heap.size≤b102∧OE [] w.heap.size w' (sOwn 138 (sOwn 4 sBool)) [v108] m0.Covers f108∧Row w' b103 [.int .i64 (m0.Count)] 197∧w.heap.size≤b103∧Row w' b101 [.pointer (some (⟨b102,0,none⟩)),.pointer (some ((p_x0.add 0))),v108,.pointer (some (⟨b103,0,none⟩))] 144∧w.heap.size≤b101∧Dis f101 f102∧Dis f101 f103∧Dis f101 f104∧Dis f101 f105∧Dis f101 f106∧Dis f101 f107∧Dis f101 [b102]∧Dis f101 f108∧Dis f101 [b103]∧Dis f101 [b101]∧Dis f102 f103∧Dis f102 f104∧Dis f102 f105∧Dis f102 f106∧Dis f102 f107∧Dis f102 [b102]∧Dis f102 f108∧Dis f102 [b103]∧Dis f102 [b101]∧Dis f103 f104∧Dis f103 f105∧Dis f103 f106∧Dis f103 f107∧Dis f103 [b102]∧Dis f103 f108∧Dis f103 [b103]∧Dis f103 [b101]∧Dis f104 f105∧Dis f104 f106∧Dis f104 f107∧Dis f104 [b102]∧Dis f104 f108∧Dis f104 [b103]∧Dis f104 [b101]∧Dis f105 f106∧Dis f105 f107∧Dis f105 [b102]∧Dis f105 f108∧Dis f105 [b103]∧Dis f105 [b101]∧Dis f106 f107∧Dis f106 [b102]∧Dis f106 f108∧Dis f106 [b103]∧Dis f106 [b101]∧Dis f107 [b102]∧Dis f107 f108∧Dis f107 [b103]∧Dis f107 [b101]∧Dis [b102] f108∧Dis [b102] [b103]∧Dis [b102] [b101]∧Dis f108 [b103]∧Dis f108 [b101]∧Dis [b103] [b101])
abbrev impl_Topology_coverage_T (p_x0:Addr) (w:World):=Tm Tryz.prog Tryz.f93 48 (impl_Topology_coverage_post p_x0 w)
theorem impl_Topology_coverage_calls {w:World} {x0:MTopology} {p_x0:Addr} {zk:Value} {zo:List Nat} {zl:Value} {zp:List Nat} {zm:Value} {zq:List Nat} {zn:Value} {zr:List Nat} {ze:Value} {z8:List Nat} (zu:(sImm (sInt .i64)).rep w.heap [zk] x0.Shape.From zo) (zv:(sImm (sInt .i64)).rep w.heap [zl] x0.Shape.To zp) (zw:(sImm (sInt .i64)).rep w.heap [zm] x0.Shape.Identity zq) (zx:(sImm (sImm (sInt .i64))).rep w.heap [zn] x0.Shape.Composites zr) (zj:(sImm (sImm (sImm (sInt .i64)))).rep w.heap [ze] x0.Covers z8) (a_x0:At w p_x0 [.int .i64 (x0.Shape.Objects),zk,zl,zm,zn,ze]) {y:((Option MCoverage)×Bool)} (hm:impl_Topology_coverage x0=some y) :
  Calls Tryz.prog 93 #[.pointer (some (p_x0))] w (impl_Topology_coverage_post p_x0 w y):=by
 refine Cm (S:=Unit) Tryz.func93 rfl Tryz.ntmps93 rfl hm fun o ho hB=>?_
 clear hm
 refine wq <| Wq rfl (cr [] w) <| Qa (Av (.pointer none) rfl) <| Qa (Ab rfl) <| fun wd1 hC2=>anz <| wq <| W_region rfl <| Wb (Mp rfl) <| Wb (Nk rfl) <| ?_
 have at3:At w (p_x0.add 0) [.int .i64 (x0.Shape.Objects),zk,zl,zm,zn]:=At.sub a_x0 0 5
 refine Wb (Fp fa34_0 rfl) <| ?_
 obtain ⟨y4,hy5,ho⟩:=bs ho
 refine WL.call rfl (op_callF Tryz.func104 rfl rfl) (impl_coverageOf_calls (kp _ zu (hB.trans hC2)) (kp _ zv (hB.trans hC2)) (kp _ zw (hB.trans hC2)) (kp _ zx (hB.trans hC2)) (At.keep0 at3 (hB.trans hC2)) hy5) <| ?_
 rintro _ wd6 ⟨v9,rfl,hC7,hp8⟩
 refine ⟨_,rfl,?_⟩
 rcases hq10:y4.1 with _ | m11
 rw [hq10] at hp8 ho
 try dsimp only at hp8
 try dsimp only at ho
 obtain rfl:=hp8
 have p3r:=hC2.trans hC7
 replace hB:=(hB.trans p3r)
 refine Wb (Mt rfl) <| Wb (Ex (.pointer none) rfl rfl) <| Wb (Exb rfl rfl) <| Wb (Av (.pointer none) rfl) <| Wb (Ab rfl) <| anz <| wq <| wq <| Wq rfl (cr [] wd6) <| Qa (Mb rfl) <| Qa (Nt rfl) <| fun p6b p1v=>anz <| W_cond (b:=!(y4.2)) rfl ?_ ?_
 intro p16
 rw [p16] at ho
 refine wq <| Wq rfl p1v <| Qa (Av (.pointer none) rfl) <| Qa (Ab rfl) <| fun p6c p3s=>anz <| ?_
 cases ho
 exact W_ret ⟨_,res_2 Tryz.results93,_,rfl,(hB.trans p3s),rfl⟩
 intro p16
 rw [p16] at ho
 refine W_skip <| anz <| wq <| wq <| Wq rfl p1v <| Qa (Mp rfl) <| Qa (Nk rfl) <| Qa (Fp fa34_1 rfl) <| Qa (La na26 (At.keep0 a_x0 hB) rfl rfl) <| Qa (Ln sl26 (kB zj hB) rfl) <| Qa (Mi rfl) <| fun p1o p0f=>anz <| Wf (S1:=Int) (fun (s0_24:Int) r w'=>Chg [] w w'∧∃ F,r=updL F [(4,.pointer none),(22,ze),(23,.int .i64 ((x0.Covers.length:Int))),(24,.int .i64 (s0_24))]) (impl_Topology_coverage_T p_x0 w) ho ⟨(hB.trans p0f),fe rfl⟩ ?_ ?_
 rintro s0_24 _ p17 ⟨hB,F,rfl⟩ o ho
 replace ho:impl_Topology_coverage_L0 x0 s0_24=some o:=ho
 unfold impl_Topology_coverage_L0 at ho
 refine wq <| Wq rfl (cr [] p17) <| Qa (Bl rfl rfl) <| fun p6d p1w=>anz <| wq <| W_cond (b:=decide (s0_24 < (x0.Covers.length:Int))) rfl ?_ ?_
 intro p18
 rw [p18] at ho
 refine W_skip <| anz <| wq <| W_block <| wq <| Wq rfl p1w <| Qa (Mi rfl) <| ?_
 obtain ⟨e24,hx25e,ho⟩:=bs ho
 have hx25:=idx_some hx25e
 refine Qa (Ix sl26 (kB zj hB) hx25 rfl rfl rfl) <| ?_
 obtain ⟨u26,fu27,hu28,p19,hs30⟩:=one_get rfl zj hx25.1 hx25.2
 refine Qa (Ld na23 (hB.cell0 hu28) rfl) <| Qa (Ai rfl) <| Qa (Av u26 rfl) <| fun p6e p3t=>anz <| wq <| Wq rfl p3t <| Qa (Mv u26 rfl) <| Qa (Ln sl23 (kB p19 hB) rfl) <| Qa (Mi rfl) <| fun p1x k1=>anz <| Wf (S1:=Unit) (fun (_:Unit) r w'=>Chg [] w w'∧∃ F,r=updL F [(4,.pointer none),(6,.int .i64 (s0_24)),(22,ze),(23,.int .i64 ((x0.Covers.length:Int))),(24,.int .i64 (s0_24)),(29,u26),(30,.int .i64 ((e24.length:Int))),(31,.int .i64 ((0:Int)))]) (impl_Topology_coverage_T p_x0 w) ho ⟨(hB.trans k1),fe rfl⟩ ?_ ?_
 rintro _ _ p3u ⟨hB,F,rfl⟩ o ho
 replace ho:impl_Topology_coverage_L1 e24=some o:=ho
 unfold impl_Topology_coverage_L1 at ho
 refine wq <| Wq rfl (cr [] p3u) <| Qa (Bl rfl rfl) <| fun p6f p1y=>anz <| wq <| W_cond (b:=decide ((0:Int) < (e24.length:Int))) rfl ?_ ?_
 intro p1a
 rw [p1a] at ho
 refine W_skip <| anz <| wq <| W_block <| wq <| Wq rfl p1y <| ?_
 obtain ⟨e39,hx40e,ho⟩:=bs ho
 have hx40:=idx_some hx40e
 refine Qa (Ix sl23 (kB p19 hB) hx40 rfl rfl rfl) <| ?_
 obtain ⟨u41,fu42,hu43,p6g,hs45⟩:=one_get rfl p19 hx40.1 hx40.2
 refine Qa (Ld na22 (hB.cell0 hu43) rfl) <| Qa (Av u41 rfl) <| fun p6h p6i=>anz <| W_region rfl <| Wb (Mv (.pointer none) rfl) <| Wb (Mi rfl) <| Wb (Mv (.pointer none) rfl) <| ?_
 cases ho
 intro p1a
 rw [p1a] at ho
 refine W_exit <| andThen_x <| ?_
 cases ho
 exact ⟨rfl,⟨(hB.trans p1y),fe rfl⟩⟩
 rintro _ _ p3v ⟨hB,F,rfl⟩ ho
 refine inBlk_n <| anz <| Wq rfl (cr [] p3v) <| Qa (Ba rfl rfl) <| Qa (Mi rfl) <| fun p3w nl=>?_
 cases ho
 exact ⟨(hB.trans nl),fe rfl⟩
 intro p18
 rw [p18] at ho
 refine W_exit <| andThen_x <| ?_
 cases ho
 exact ⟨rfl,⟨(hB.trans p1w),fe rfl⟩⟩
 rintro s0_24 _ p3x ⟨hB,F,rfl⟩ ho
 refine anz <| wq <| Wq rfl (cr [] p3x) <| Qa (Mv (.pointer none) rfl) <| Qa (Av (.pointer none) rfl) <| Qa (Ab rfl) <| fun p6j p3y=>anz <| ?_
 cases ho
 exact W_ret ⟨_,res_2 Tryz.results93,_,rfl,(hB.trans p3y),rfl⟩
 rw [hq10] at hp8 ho
 try dsimp only at hp8
 try dsimp only at ho
 obtain ⟨p2,p3,v58,pe,v61,p7,v64,pf,v67,pg,v70,ph,v73,pi,v76,pj,v80,f81,p4,rfl,pn,po,pp,pq,pr,ps,pt,pv,p3z,pk,q4,p40,p6,p41,d87,d88,d89,d90,d91,d92,d93,d94,d95,d96,d97,d98,d99,p0l,p0m,p0n,p0o,p0p,p4c,p4d,p4e,p4f,p4g,p4h,p4i,p0q,p0r,p0s,p0t,p0u,p0v,p0w,p0x,p0y,p4j,p4k,p4l,p4m,p4n,p4o,ka,kb,kc,kd,ke,kf,kg,kh,jx,jy,ki,kj,kk,kl,km⟩:=hp8
 replace pn:=OE.low (G:=[]) pn (hB.trans hC2).size
 replace po:=OE.low (G:=[]) po (hB.trans hC2).size
 replace pp:=OE.low (G:=[]) pp (hB.trans hC2).size
 replace pq:=OE.low (G:=[]) pq (hB.trans hC2).size
 replace pr:=OE.low (G:=[]) pr (hB.trans hC2).size
 replace ps:=OE.low (G:=[]) ps (hB.trans hC2).size
 replace pt:=OE.low (G:=[]) pt (hB.trans hC2).size
 have p4p:w.heap.size≤p3:=Nat.le_trans (hB.trans hC2).size p3z
 replace pk:=OE.low (G:=[]) pk (hB.trans hC2).size
 have jv:w.heap.size≤p4:=Nat.le_trans (hB.trans hC2).size p40
 have p4q:w.heap.size≤p2:=Nat.le_trans (hB.trans hC2).size p41
 have p4r:=hC2.trans hC7
 replace hB:=(hB.trans p4r)
 refine Wb (Mt rfl) <| Wb (Ex (.pointer (some (⟨p2,0,none⟩))) rfl rfl) <| Wb (Exb rfl rfl) <| Wb (Ap rfl) <| Wb (Ab rfl) <| anz <| wq <| wq <| Wq rfl (cr [] wd6) <| Qa (Mb rfl) <| Qa (Nt rfl) <| fun p6l p1z=>anz <| W_cond (b:=!(y4.2)) rfl ?_ ?_
 intro p1b
 rw [p1b] at ho
 refine wq <| Wq rfl p1z <| Qa (Av (.pointer none) rfl) <| Qa (Ab rfl) <| fun p6m p4s=>anz <| ?_
 cases ho
 exact W_ret ⟨_,res_2 Tryz.results93,_,rfl,(hB.trans p4s),rfl⟩
 intro p1b
 rw [p1b] at ho
 refine W_skip <| anz <| wq <| wq <| Wq rfl p1z <| Qa (Mp rfl) <| Qa (Nk rfl) <| Qa (Fp fa34_1 rfl) <| Qa (La na26 (At.keep0 a_x0 hB) rfl rfl) <| Qa (Ln sl26 (kB zj hB) rfl) <| Qa (Mi rfl) <| fun p6n qe=>anz <| Wf (S1:=Int×Int×(List (List Bool))) (fun s r w'=>match s with | (s2_24,s2_b83_0,s2_o82)=>∃ (q5:List Nat),Chg [] w w'∧OE [] w.heap.size w' (sOwn 2 (sInt .i64)) [v58] (m11.Classifier.Sets.Shape.From) pe∧OE [] w.heap.size w' (sOwn 2 (sInt .i64)) [v61] (m11.Classifier.Sets.Shape.To) p7∧OE [] w.heap.size w' (sOwn 2 (sInt .i64)) [v64] (m11.Classifier.Sets.Shape.Identity) pf∧OE [] w.heap.size w' (sOwn 22 (sOwn 2 (sInt .i64))) [v67] (m11.Classifier.Sets.Shape.Composites) pg∧OE [] w.heap.size w' (sOwn 2 (sInt .i64)) [v70] (m11.Classifier.Sets.Sizes) ph∧OE [] w.heap.size w' (sOwn 22 (sOwn 2 (sInt .i64))) [v73] (m11.Classifier.Sets.Actions) pi∧OE [] w.heap.size w' (sOwn 118 (sOwn 114 (sOwn 2 (sInt .i64)))) [v76] (m11.Classifier.Sieves) pj∧Row w' p3 [.int .i64 (m11.Classifier.Sets.Shape.Objects),v58,v61,v64,v67,v70,v73,v76] 151∧OE [] w.heap.size w' (sOwn 138 (sOwn 4 sBool)) [v80] (s2_o82) q5∧Row w' p4 [.int .i64 (s2_b83_0)] 197∧Row w' p2 [.pointer (some (⟨p3,0,none⟩)),.pointer (some ((p_x0.add 0))),v80,.pointer (some (⟨p4,0,none⟩))] 144∧Dis pe p7∧Dis pe pf∧Dis pe pg∧Dis pe ph∧Dis pe pi∧Dis pe pj∧Dis pe [p3]∧Dis pe q5∧Dis pe [p4]∧Dis pe [p2]∧Dis p7 pf∧Dis p7 pg∧Dis p7 ph∧Dis p7 pi∧Dis p7 pj∧Dis p7 [p3]∧Dis p7 q5∧Dis p7 [p4]∧Dis p7 [p2]∧Dis pf pg∧Dis pf ph∧Dis pf pi∧Dis pf pj∧Dis pf [p3]∧Dis pf q5∧Dis pf [p4]∧Dis pf [p2]∧Dis pg ph∧Dis pg pi∧Dis pg pj∧Dis pg [p3]∧Dis pg q5∧Dis pg [p4]∧Dis pg [p2]∧Dis ph pi∧Dis ph pj∧Dis ph [p3]∧Dis ph q5∧Dis ph [p4]∧Dis ph [p2]∧Dis pi pj∧Dis pi [p3]∧Dis pi q5∧Dis pi [p4]∧Dis pi [p2]∧Dis pj [p3]∧Dis pj q5∧Dis pj [p4]∧Dis pj [p2]∧Dis [p3] q5∧Dis [p3] [p4]∧Dis [p3] [p2]∧Dis q5 [p4]∧Dis q5 [p2]∧Dis [p4] [p2]∧∃ F,r=updL F [(4,.pointer (some (⟨p2,0,none⟩))),(22,ze),(23,.int .i64 ((x0.Covers.length:Int))),(24,.int .i64 (s2_24))]) (impl_Topology_coverage_T p_x0 w) ho ⟨_,(hB.trans qe),(ko pn qe),(ko po qe),(ko pp qe),(ko pq qe),(ko pr qe),(ko ps qe),(ko pt qe),(kr pv qe),(ko pk qe),(kr q4 qe),(kr p6 qe),(d87),(d88),(d89),(d90),(d91),(d92),(d93),(d94),(d95),(d96),(d97),(d98),(d99),(p0l),(p0m),(p0n),(p0o),(p0p),(p4c),(p4d),(p4e),(p4f),(p4g),(p4h),(p4i),(p0q),(p0r),(p0s),(p0t),(p0u),(p0v),(p0w),(p0x),(p0y),(p4j),(p4k),(p4l),(p4m),(p4n),(p4o),(ka),(kb),(kc),(kd),(ke),(kf),(kg),(kh),(jx),(jy),(ki),(kj),(kk),(kl),(km),fe rfl⟩ ?_ ?_
 rintro ⟨s2_24,s2_b83_0,s2_o82⟩ _ p4t ⟨q5,hB,pn,po,pp,pq,pr,ps,pt,pv,pk,q4,p6,jc,jd,je,jf,jg,qx,qy,jh,ji,jj,jk,qz,j0,jl,jm,jn,j1,j2,jo,jp,qa,qb,jq,j3,j4,j5,j6,j7,ny,nz,g0,g1,g2,g3,g4,g6,g7,g8,g9,ga,gb,gc,gd,ge,gf,gg,gh,gi,gj,gk,gl,kn,kq,ks,kt,F,rfl⟩ o ho
 replace ho:impl_Topology_coverage_L2 x0 m11 s2_24 s2_b83_0 s2_o82=some o:=ho
 unfold impl_Topology_coverage_L2 at ho
 refine wq <| Wq rfl (cr [] p4t) <| Qa (Bl rfl rfl) <| fun p6o q6=>anz <| wq <| W_cond (b:=decide (s2_24 < (x0.Covers.length:Int))) rfl ?_ ?_
 intro p1c
 rw [p1c] at ho
 refine W_skip <| anz <| wq <| W_block <| wq <| Wq rfl q6 <| Qa (Mi rfl) <| ?_
 obtain ⟨e213,hx214e,ho⟩:=bs ho
 have hx214:=idx_some hx214e
 refine Qa (Ix sl26 (kB zj hB) hx214 rfl rfl rfl) <| ?_
 obtain ⟨u215,fu216,hu217,p1d,hs219⟩:=one_get rfl zj hx214.1 hx214.2
 refine Qa (Ld na23 (hB.cell0 hu217) rfl) <| Qa (Ai rfl) <| Qa (Av u215 rfl) <| fun p6p p4u=>anz <| wq <| Wq rfl p4u <| Qa (Mv u215 rfl) <| Qa (Ln sl23 (kB p1d hB) rfl) <| Qa (Mi rfl) <| fun p6q qf=>anz <| Wf (S1:=Int×Int×(List (List Bool))) (fun s r w'=>match s with | (s3_31,s3_b83_0,s3_o82)=>∃ (q7:List Nat),Chg [] w w'∧OE [] w.heap.size w' (sOwn 2 (sInt .i64)) [v58] (m11.Classifier.Sets.Shape.From) pe∧OE [] w.heap.size w' (sOwn 2 (sInt .i64)) [v61] (m11.Classifier.Sets.Shape.To) p7∧OE [] w.heap.size w' (sOwn 2 (sInt .i64)) [v64] (m11.Classifier.Sets.Shape.Identity) pf∧OE [] w.heap.size w' (sOwn 22 (sOwn 2 (sInt .i64))) [v67] (m11.Classifier.Sets.Shape.Composites) pg∧OE [] w.heap.size w' (sOwn 2 (sInt .i64)) [v70] (m11.Classifier.Sets.Sizes) ph∧OE [] w.heap.size w' (sOwn 22 (sOwn 2 (sInt .i64))) [v73] (m11.Classifier.Sets.Actions) pi∧OE [] w.heap.size w' (sOwn 118 (sOwn 114 (sOwn 2 (sInt .i64)))) [v76] (m11.Classifier.Sieves) pj∧Row w' p3 [.int .i64 (m11.Classifier.Sets.Shape.Objects),v58,v61,v64,v67,v70,v73,v76] 151∧OE [] w.heap.size w' (sOwn 138 (sOwn 4 sBool)) [v80] (s3_o82) q7∧Row w' p4 [.int .i64 (s3_b83_0)] 197∧Row w' p2 [.pointer (some (⟨p3,0,none⟩)),.pointer (some ((p_x0.add 0))),v80,.pointer (some (⟨p4,0,none⟩))] 144∧Dis pe p7∧Dis pe pf∧Dis pe pg∧Dis pe ph∧Dis pe pi∧Dis pe pj∧Dis pe [p3]∧Dis pe q7∧Dis pe [p4]∧Dis pe [p2]∧Dis p7 pf∧Dis p7 pg∧Dis p7 ph∧Dis p7 pi∧Dis p7 pj∧Dis p7 [p3]∧Dis p7 q7∧Dis p7 [p4]∧Dis p7 [p2]∧Dis pf pg∧Dis pf ph∧Dis pf pi∧Dis pf pj∧Dis pf [p3]∧Dis pf q7∧Dis pf [p4]∧Dis pf [p2]∧Dis pg ph∧Dis pg pi∧Dis pg pj∧Dis pg [p3]∧Dis pg q7∧Dis pg [p4]∧Dis pg [p2]∧Dis ph pi∧Dis ph pj∧Dis ph [p3]∧Dis ph q7∧Dis ph [p4]∧Dis ph [p2]∧Dis pi pj∧Dis pi [p3]∧Dis pi q7∧Dis pi [p4]∧Dis pi [p2]∧Dis pj [p3]∧Dis pj q7∧Dis pj [p4]∧Dis pj [p2]∧Dis [p3] q7∧Dis [p3] [p4]∧Dis [p3] [p2]∧Dis q7 [p4]∧Dis q7 [p2]∧Dis [p4] [p2]∧∃ F,r=updL F [(4,.pointer (some (⟨p2,0,none⟩))),(6,.int .i64 (s2_24)),(22,ze),(23,.int .i64 ((x0.Covers.length:Int))),(24,.int .i64 (s2_24)),(29,u215),(30,.int .i64 ((e213.length:Int))),(31,.int .i64 (s3_31))]) (impl_Topology_coverage_T p_x0 w) ho ⟨_,(hB.trans qf),(ko pn qf),(ko po qf),(ko pp qf),(ko pq qf),(ko pr qf),(ko ps qf),(ko pt qf),(kr pv qf),(ko pk qf),(kr q4 qf),(kr p6 qf),(jc),(jd),(je),(jf),(jg),(qx),(qy),(jh),(ji),(jj),(jk),(qz),(j0),(jl),(jm),(jn),(j1),(j2),(jo),(jp),(qa),(qb),(jq),(j3),(j4),(j5),(j6),(j7),(ny),(nz),(g0),(g1),(g2),(g3),(g4),(g6),(g7),(g8),(g9),(ga),(gb),(gc),(gd),(ge),(gf),(gg),(gh),(gi),(gj),(gk),(gl),(kn),(kq),(ks),(kt),fe rfl⟩ ?_ ?_
 rintro ⟨s3_31,s3_b83_0,s3_o82⟩ _ p4v ⟨q7,hB,pn,po,pp,pq,pr,ps,pt,pv,pk,q4,p6,gm,ku,kv,gn,go,gp,gq,n3,k2,gr,gs,gt,gu,kw,kx,ky,jt,jr,kz,n0,n1,n2,k0,gv,n4,k3,gw,gx,gy,gz,p00,n5,k4,p01,p02,p03,p04,n6,k5,p05,p06,p07,n7,k6,p08,p09,n8,k7,p0a,n9,k8,p0b,p0c,na,k9,F,rfl⟩ o ho
 replace ho:impl_Topology_coverage_L3 x0 m11 s2_24 e213 s3_31 s3_b83_0 s3_o82=some o:=ho
 unfold impl_Topology_coverage_L3 at ho
 refine wq <| Wq rfl (cr [] p4v) <| Qa (Bl rfl rfl) <| fun p6r q8=>anz <| wq <| W_cond (b:=decide (s3_31 < (e213.length:Int))) rfl ?_ ?_
 intro p1e
 rw [p1e] at ho
 refine W_skip <| anz <| wq <| W_block <| wq <| Wq rfl q8 <| ?_
 obtain ⟨e284,hx285e,ho⟩:=bs ho
 have hx285:=idx_some hx285e
 refine Qa (Ix sl23 (kB p1d hB) hx285 rfl rfl rfl) <| ?_
 obtain ⟨u286,fu287,hu288,p4w,hs290⟩:=one_get rfl p1d hx285.1 hx285.2
 refine Qa (Ld na22 (hB.cell0 hu288) rfl) <| Qa (Av u286 rfl) <| fun p6s qu=>anz <| W_region rfl <| Wb (Mp rfl) <| Wb (Mi rfl) <| Wb (Mp rfl) <| Wb (Nk rfl) <| Wb (Fr fa144_0 rfl) <| Wa qu (Lr na141 p6 rfl rfl) <| Wb (Mi rfl) <| Wb (Mv u286 rfl) <| ?_
 obtain ⟨y293,p4x,ho⟩:=bs ho
 refine WL.call rfl (op_callF Tryz.func113 rfl rfl) (impl_classifier_number_calls ((Le.own (Le.refl _) 2).le (kp _ pn.1 qu)) ((Le.own (Le.refl _) 2).le (kp _ po.1 qu)) ((Le.own (Le.refl _) 2).le (kp _ pp.1 qu)) ((Le.own (Le.own (Le.refl _) 2) 22).le (kp _ pq.1 qu)) ((Le.own (Le.refl _) 2).le (kp _ pr.1 qu)) ((Le.own (Le.own (Le.refl _) 2) 22).le (kp _ ps.1 qu)) ((Le.own (Le.own (Le.own (Le.refl _) 2) 114) 118).le (kp _ pt.1 qu)) (kr pv qu).at (kp _ p4w (hB.trans qu)) p4x) <| ?_
 rintro _ p20 ⟨rfl,p4y⟩
 refine ⟨_,rfl,?_⟩
 have qg:=(qu.trans p4y).trans (cr [] p20)
 replace pn:=ko pn qg
 replace po:=ko po qg
 replace pp:=ko pp qg
 replace pq:=ko pq qg
 replace pr:=ko pr qg
 replace ps:=ko ps qg
 replace pt:=ko pt qg
 replace pv:=kr pv qg
 replace pk:=ko pk qg
 replace q4:=kr q4 qg
 replace p6:=kr p6 qg
 replace hB:=(hB.trans qg)
 obtain ⟨y298,p4z,ho⟩:=bs ho
 refine WL.call rfl (op_callF Tryz.func124 rfl rfl) (impl_coverage_mark_calls (x0:=(MCoverage.mk m11.Classifier x0.Shape s3_o82 s3_b83_0)) ((Le.own (Le.refl _) 2).le pn.1) ((Le.own (Le.refl _) 2).le po.1) ((Le.own (Le.refl _) 2).le pp.1) ((Le.own (Le.own (Le.refl _) 2) 22).le pq.1) ((Le.own (Le.refl _) 2).le pr.1) ((Le.own (Le.own (Le.refl _) 2) 22).le ps.1) ((Le.own (Le.own (Le.own (Le.refl _) 2) 114) 118).le pt.1) pv.at (kp _ zu hB) (kp _ zv hB) (kp _ zw hB) (kp _ zx hB) (At.keep0 at3 hB) (OE.give (B':=p20.heap.size) pk fun _ h=>h) q4 p6.at p0c (Dis.symm (da (n3).symm (k2).symm)) (Dis.symm (da (jt).symm (jr).symm)) (Dis.symm (da (n4).symm (k3).symm)) (Dis.symm (da (n5).symm (k4).symm)) (Dis.symm (da (n6).symm (k5).symm)) (Dis.symm (da (n7).symm (k6).symm)) (Dis.symm (da (n8).symm (k7).symm)) (fun hm=>(da (n9).symm (k8).symm) _ hm (ms rfl)) (dis_par (sl _ zu) (low_app pk.2.2 (one_then jv))) (dis_par (sl _ zv) (low_app pk.2.2 (one_then jv))) (dis_par (sl _ zw) (low_app pk.2.2 (one_then jv))) (dis_par (sl _ zx) (low_app pk.2.2 (one_then jv))) (pat_out at3 List.not_mem_nil (low_app pk.2.2 (one_then jv))) (fun hm=>(da na k9) _ hm (ms rfl)) p4z) <| ?_
 rintro _ p50 ⟨p6t,rfl,j8,qh,p51,p52⟩
 refine ⟨_,rfl,?_⟩
 have p53:=dis_back qh (da (n3).symm (k2).symm) (sl _ pn.1)
 have p54:=dis_back qh (da (jt).symm (jr).symm) (sl _ po.1)
 have p55:=dis_back qh (da (n4).symm (k3).symm) (sl _ pp.1)
 have p56:=dis_back qh (da (n5).symm (k4).symm) (sl _ pq.1)
 have p57:=dis_back qh (da (n6).symm (k5).symm) (sl _ pr.1)
 have p58:=dis_back qh (da (n7).symm (k6).symm) (sl _ ps.1)
 have p59:=dis_back qh (da (n8).symm (k7).symm) (sl _ pt.1)
 have p5a:=dis_back qh (da (n9).symm (k8).symm) (one_lt (Row.lt pv))
 have p5b:=dis_back qh (da na k9) (one_lt (Row.lt p6))
 replace qh:=OE.back qh (low_app pk.2.2 (one_then jv)) hB.size
 replace pn:=okp pn j8 (Dis.symm (da (n3).symm (k2).symm))
 replace po:=okp po j8 (Dis.symm (da (jt).symm (jr).symm))
 replace pp:=okp pp j8 (Dis.symm (da (n4).symm (k3).symm))
 replace pq:=okp pq j8 (Dis.symm (da (n5).symm (k4).symm))
 replace pr:=okp pr j8 (Dis.symm (da (n6).symm (k5).symm))
 replace ps:=okp ps j8 (Dis.symm (da (n7).symm (k6).symm))
 replace pt:=okp pt j8 (Dis.symm (da (n8).symm (k7).symm))
 replace pv:=Row.keep pv j8 ((Dis.symm (da (n9).symm (k8).symm)) _ (ms rfl))
 replace p6:=Row.keep p6 j8 ((Dis.symm (da na k9)) _ (ms rfl))
 replace hB:=hB.then j8 (low_app pk.2.2 (one_then jv))
 refine inBlk_n <| anz <| Wq rfl (cr [] p50) <| Qa (Ba rfl rfl) <| Qa (Mi rfl) <| fun p6u qi=>?_
 cases ho
 exact ⟨_,(hB.trans qi),(ko pn qi),(ko po qi),(ko pp qi),(ko pq qi),(ko pr qi),(ko ps qi),(ko pt qi),(kr pv qi),(ko qh qi),(kr p51 qi),(kr p6 qi),gm,ku,kv,gn,go,gp,gq,((p53).symm),k2,gr,gs,gt,gu,kw,kx,ky,((p54).symm),jr,kz,n0,n1,n2,k0,gv,((p55).symm),k3,gw,gx,gy,gz,p00,((p56).symm),k4,p01,p02,p03,p04,((p57).symm),k5,p05,p06,p07,((p58).symm),k6,p08,p09,((p59).symm),k7,p0a,((p5a).symm),k8,p0b,p52,p5b,k9,fe rfl⟩
 intro p1e
 rw [p1e] at ho
 refine W_exit <| andThen_x <| ?_
 cases ho
 exact ⟨rfl,⟨_,(hB.trans q8),(ko pn q8),(ko po q8),(ko pp q8),(ko pq q8),(ko pr q8),(ko ps q8),(ko pt q8),(kr pv q8),(ko pk q8),(kr q4 q8),(kr p6 q8),gm,ku,kv,gn,go,gp,gq,n3,k2,gr,gs,gt,gu,kw,kx,ky,jt,jr,kz,n0,n1,n2,k0,gv,n4,k3,gw,gx,gy,gz,p00,n5,k4,p01,p02,p03,p04,n6,k5,p05,p06,p07,n7,k6,p08,p09,n8,k7,p0a,n9,k8,p0b,p0c,na,k9,fe rfl⟩⟩
 rintro ⟨s3_31,s3_b83_0,s3_o82⟩ _ p5c ⟨q7,hB,pn,po,pp,pq,pr,ps,pt,pv,pk,q4,p6,gm,ku,kv,gn,go,gp,gq,n3,k2,gr,gs,gt,gu,kw,kx,ky,jt,jr,kz,n0,n1,n2,k0,gv,n4,k3,gw,gx,gy,gz,p00,n5,k4,p01,p02,p03,p04,n6,k5,p05,p06,p07,n7,k6,p08,p09,n8,k7,p0a,n9,k8,p0b,p0c,na,k9,F,rfl⟩ ho
 dsimp only at ho
 refine inBlk_n <| anz <| Wq rfl (cr [] p5c) <| Qa (Ba rfl rfl) <| Qa (Mi rfl) <| fun p6v qj=>?_
 cases ho
 exact ⟨_,(hB.trans qj),(ko pn qj),(ko po qj),(ko pp qj),(ko pq qj),(ko pr qj),(ko ps qj),(ko pt qj),(kr pv qj),(ko pk qj),(kr q4 qj),(kr p6 qj),gm,ku,kv,gn,go,gp,gq,n3,k2,gr,gs,gt,gu,kw,kx,ky,jt,jr,kz,n0,n1,n2,k0,gv,n4,k3,gw,gx,gy,gz,p00,n5,k4,p01,p02,p03,p04,n6,k5,p05,p06,p07,n7,k6,p08,p09,n8,k7,p0a,n9,k8,p0b,p0c,na,k9,fe rfl⟩
 intro p1c
 rw [p1c] at ho
 refine W_exit <| andThen_x <| ?_
 cases ho
 exact ⟨rfl,⟨_,(hB.trans q6),(ko pn q6),(ko po q6),(ko pp q6),(ko pq q6),(ko pr q6),(ko ps q6),(ko pt q6),(kr pv q6),(ko pk q6),(kr q4 q6),(kr p6 q6),jc,jd,je,jf,jg,qx,qy,jh,ji,jj,jk,qz,j0,jl,jm,jn,j1,j2,jo,jp,qa,qb,jq,j3,j4,j5,j6,j7,ny,nz,g0,g1,g2,g3,g4,g6,g7,g8,g9,ga,gb,gc,gd,ge,gf,gg,gh,gi,gj,gk,gl,kn,kq,ks,kt,fe rfl⟩⟩
 rintro ⟨s2_24,s2_b83_0,s2_o82⟩ _ p5d ⟨q5,hB,pn,po,pp,pq,pr,ps,pt,pv,pk,q4,p6,jc,jd,je,jf,jg,qx,qy,jh,ji,jj,jk,qz,j0,jl,jm,jn,j1,j2,jo,jp,qa,qb,jq,j3,j4,j5,j6,j7,ny,nz,g0,g1,g2,g3,g4,g6,g7,g8,g9,ga,gb,gc,gd,ge,gf,gg,gh,gi,gj,gk,gl,kn,kq,ks,kt,F,rfl⟩ ho
 dsimp only at ho
 refine anz <| wq <| Wq rfl (cr [] p5d) <| Qa (Mp rfl) <| Qa (Ap rfl) <| Qa (Ab rfl) <| fun p6w qk=>anz <| ?_
 cases ho
 exact W_ret ⟨_,res_2 Tryz.results93,_,rfl,(hB.trans qk),_,_,_,_,_,_,_,_,_,_,_,_,_,_,_,_,_,_,_,rfl,(ko pn qk),(ko po qk),(ko pp qk),(ko pq qk),(ko pr qk),(ko ps qk),(ko pt qk),(kr pv qk),p4p,(ko pk qk),(kr q4 qk),jv,(kr p6 qk),p4q,jc,jd,je,jf,jg,qx,qy,jh,ji,jj,jk,qz,j0,jl,jm,jn,j1,j2,jo,jp,qa,qb,jq,j3,j4,j5,j6,j7,ny,nz,g0,g1,g2,g3,g4,g6,g7,g8,g9,ga,gb,gc,gd,ge,gf,gg,gh,gi,gj,gk,gl,kn,kq,ks,kt⟩

abbrev impl_sieve_isGreatest_post (w:World) (x:(Bool)) (e:Ending) (w':World):Prop:=e = .returned (.bool x)∧Chg [] w w'
abbrev impl_sieve_isGreatest_T (w:World):=Tm Tryz.prog Tryz.f285 16 (impl_sieve_isGreatest_post w)
theorem impl_sieve_isGreatest_calls {w:World} {x0:(List Int)} {v_x0:Value} {f_x0:List Nat} {x1:MCategory} {p_x1:Addr} {z2g:Value} {z2w:List Nat} {z2h:Value} {z2x:List Nat} {z2i:Value} {z2y:List Nat} {z2j:Value} {z30:List Nat} {x2:Int} (h_x0:(sImm (sInt .i64)).rep w.heap [v_x0] x0 f_x0) (z36:(sImm (sInt .i64)).rep w.heap [z2g] x1.From z2w) (z37:(sImm (sInt .i64)).rep w.heap [z2h] x1.To z2x) (z2o:(sImm (sInt .i64)).rep w.heap [z2i] x1.Identity z2y) (z38:(sImm (sImm (sInt .i64))).rep w.heap [z2j] x1.Composites z30) (a_x1:At w p_x1 [.int .i64 (x1.Objects),z2g,z2h,z2i,z2j]) {y:(Bool)} (hm:impl_sieve_isGreatest x0 x1 x2=some y) :
  Calls Tryz.prog 285 #[v_x0,.pointer (some (p_x1)),.int .i64 (x2)] w (impl_sieve_isGreatest_post w y):=by
 refine Cm (S:=Unit) Tryz.func285 rfl Tryz.ntmps285 rfl hm fun o ho hB=>?_
 clear hm
 refine wq <| Wq rfl (cr [] w) <| Qa (Ab rfl) <| fun wd1 hC2=>anz <| wq <| Wq rfl hC2 <| Qa (Mv v_x0 rfl) <| Qa (Mp rfl) <| Qa (Nk rfl) <| Qa (Fp fa32_3 rfl) <| Qa (La na22 (At.keep0 a_x1 hB) rfl rfl) <| Qa (Mi rfl) <| ?_
 obtain ⟨e3,hx4e,ho⟩:=bs ho
 have hx4:=idx_some hx4e
 refine Qa (Ix sl22 (kB z2o hB) hx4 rfl rfl rfl) <| Qa (Ei na2 (kB z2o hB) hx4 rfl) <| ?_
 obtain ⟨y5,hy6,ho⟩:=bs ho
 refine Qc Tryz.func149 rfl rfl (fun _ hC=>impl_has_calls (kp _ h_x0 (hB.trans hC)) hy6) <| Qa (Ab rfl) <| fun wd7 hC8=>anz <| ?_
 cases ho
 exact W_ret ⟨_,res_1 Tryz.results285,rfl,(hB.trans hC8)⟩

abbrev impl_all_post (w:World) (x:(Bool)) (e:Ending) (w':World):Prop:=e = .returned (.bool x)∧Chg [] w w'
abbrev impl_all_T (w:World):=Tm Tryz.prog Tryz.f191 21 (impl_all_post w)
theorem impl_all_calls {w:World} {x0:MCategory} {p_x0:Addr} {z2:Value} {zf:List Nat} {z1:Value} {zg:List Nat} {z7:Value} {zh:List Nat} {z6:Value} {zi:List Nat} {x1:Int} {x2:(List Int)} {v_x2:Value} {f_x2:List Nat} (za:(sImm (sInt .i64)).rep w.heap [z2] x0.From zf) (zb:(sImm (sInt .i64)).rep w.heap [z1] x0.To zg) (zd:(sImm (sInt .i64)).rep w.heap [z7] x0.Identity zh) (zc:(sImm (sImm (sInt .i64))).rep w.heap [z6] x0.Composites zi) (a_x0:At w p_x0 [.int .i64 (x0.Objects),z2,z1,z7,z6]) (h_x2:(sImm (sInt .i64)).rep w.heap [v_x2] x2 f_x2) {y:(Bool)} (hm:impl_all x0 x1 x2=some y) :
  Calls Tryz.prog 191 #[.pointer (some (p_x0)),.int .i64 (x1),.iface 114 (v_x2)] w (impl_all_post w y):=by
 refine Cm (S:=Unit) Tryz.func191 rfl Tryz.ntmps191 rfl hm fun o ho hB=>?_
 clear hm
 refine wq <| Wq rfl (cr [] w) <| Qa (Ab rfl) <| fun wd1 hC2=>anz <| wq <| Wq rfl hC2 <| Qa (Mv (.iface 114 v_x2) rfl) <| Qa (Ta ia114_249 rfl) <| Qa (Mt rfl) <| Qa (Ex (.iface 114 v_x2) rfl rfl) <| Qa (Exb rfl rfl) <| Qa (Av (.iface 114 v_x2) rfl) <| Qa (Ab rfl) <| fun wd3 hC4=>anz <| ?_
 refine wq <| Wq rfl hC4 <| ?_
 obtain ⟨g5,hm6,ho⟩:=bs ho
 refine QL.meet (fun r=>∃ F,r=updL F [(6,.bool (g5))]) ?_ ?_
 skip
 refine Qa (Mb rfl) <| Qa (Mb rfl) <| Qg rfl rfl (Mv (.iface 114 v_x2) rfl) <| Qg rfl rfl (Mp rfl) <| Qg rfl rfl (Mi rfl) <| ?_
 obtain ⟨y7,hy8,hm6⟩:=bs hm6
 refine Qi rfl rfl (im114_285 (by kernel_rfl)) rfl (fun _ hC=>impl_sieve_isGreatest_calls (kp _ h_x2 (hB.trans hC)) (kp _ za (hB.trans hC)) (kp _ zb (hB.trans hC)) (kp _ zd (hB.trans hC)) (kp _ zc (hB.trans hC)) (At.keep0 a_x0 (hB.trans hC)) hy8) <| Qa (PTb rfl rfl rfl) <| Qa (Ab rfl) <| ?_
 cases hm6
 exact fe rfl
 rintro _ ⟨F,rfl⟩
 refine fun wd9 p0d=>anz <| ?_
 cases ho
 exact W_ret ⟨_,res_1 Tryz.results191,rfl,(hB.trans p0d)⟩

abbrev impl_classifier_tops_post (w:World) (x:((List Int))) (e:Ending) (w':World):Prop:=∃ (v0:Value) (f0:List Nat),e = .returned (v0)∧Chg [] w w'∧OE [] w.heap.size w' (sOwn 2 (sInt .i64)) [v0] x f0
abbrev impl_classifier_tops_T (w:World):=Tm Tryz.prog Tryz.f123 41 (impl_classifier_tops_post w)
theorem impl_classifier_tops_calls {w:World} {x0:MClassifier} {p_x0:Addr} {z28:Value} {z2p:List Nat} {z29:Value} {z2q:List Nat} {z2a:Value} {z2r:List Nat} {z2b:Value} {z2s:List Nat} {z2d:Value} {z2t:List Nat} {z2e:Value} {z2u:List Nat} {z2c:Value} {z2v:List Nat} (z32:(sImm (sInt .i64)).rep w.heap [z28] x0.Sets.Shape.From z2p) (z33:(sImm (sInt .i64)).rep w.heap [z29] x0.Sets.Shape.To z2q) (z34:(sImm (sInt .i64)).rep w.heap [z2a] x0.Sets.Shape.Identity z2r) (z35:(sImm (sImm (sInt .i64))).rep w.heap [z2b] x0.Sets.Shape.Composites z2s) (z3a:(sImm (sInt .i64)).rep w.heap [z2d] x0.Sets.Sizes z2t) (z3b:(sImm (sImm (sInt .i64))).rep w.heap [z2e] x0.Sets.Actions z2u) (z2f:(sImm (sImm (sImm (sInt .i64)))).rep w.heap [z2c] x0.Sieves z2v) (a_x0:At w p_x0 [.int .i64 (x0.Sets.Shape.Objects),z28,z29,z2a,z2b,z2d,z2e,z2c]) {y:((List Int))} (hm:impl_classifier_tops x0=some y) :
  Calls Tryz.prog 123 #[.pointer (some (p_x0))] w (impl_classifier_tops_post w y):=by
 refine Cm (S:=Unit) Tryz.func123 rfl Tryz.ntmps123 rfl hm fun o ho hB=>?_
 clear hm
 refine wq <| Wq rfl (cr [] w) <| Qa (As rfl) <| fun wd1 hC2=>anz <| wq <| W_region rfl <| WL.lit0 (sInt .i64) u22z info2 fun v3 wd4 f5 hC6 o7=>?_
 replace o7:=OE.low (G:=[]) o7 (hB.trans hC2).size
 have hT8:=hC2.trans hC6
 replace hB:=(hB.trans hT8)
 refine Wb (Av v3 rfl) <| anz <| wq <| wq <| Wq rfl (cr [] wd4) <| Qa (Mp rfl) <| Qa (Nk rfl) <| Qa (Fp fa151_1 rfl) <| Qa (La na149 (At.keep0 a_x0 hB) rfl rfl) <| Qa (Ln sl149 (kB z2f hB) rfl) <| Qa (Mi rfl) <| fun wd9 p0d=>anz <| Wf (S1:=(List Int)×Int) (fun s r w'=>match s with | (s0_3,s0_14)=>∃ (v11:Value) (f12:List Nat),Chg [] w w'∧OE [] w.heap.size w' (sOwn 2 (sInt .i64)) [v11] (s0_3) f12∧∃ F,r=updL F [(0,.pointer (some (p_x0))),(3,v11),(12,z2c),(13,.int .i64 ((x0.Sieves.length:Int))),(14,.int .i64 (s0_14))]) (impl_classifier_tops_T w) ho ⟨_,_,(hB.trans p0d),(ko o7 p0d),fe rfl⟩ ?_ ?_
 rintro ⟨s0_3,s0_14⟩ _ p21 ⟨v11,f12,hB,nb,F,rfl⟩ o ho
 replace ho:impl_classifier_tops_L0 x0 s0_3 s0_14=some o:=ho
 unfold impl_classifier_tops_L0 at ho
 refine wq <| Wq rfl (cr [] p21) <| Qa (Bl rfl rfl) <| fun p2a nd=>anz <| wq <| W_cond (b:=decide (s0_14 < (x0.Sieves.length:Int))) rfl ?_ ?_
 intro p1g
 rw [p1g] at ho
 refine W_skip <| anz <| wq <| W_block <| wq <| Wq rfl nd <| Qa (Mi rfl) <| ?_
 obtain ⟨e18,hx19e,ho⟩:=bs ho
 have hx19:=idx_some hx19e
 refine Qa (Ix sl149 (kB z2f hB) hx19 rfl rfl rfl) <| ?_
 obtain ⟨u20,fu21,hu22,p1h,hs24⟩:=one_get rfl z2f hx19.1 hx19.2
 refine Qa (Ld na118 (hB.cell0 hu22) rfl) <| Qa (Ai rfl) <| Qa (Av u20 rfl) <| fun nn jw=>anz <| wq <| Wq rfl jw <| Qa (Mv u20 rfl) <| Qa (Ln sl118 (kB p1h hB) rfl) <| Qa (Mi rfl) <| fun p6x p22=>anz <| Wf (S1:=(List Int)×Int) (fun s r w'=>match s with | (s1_3,s1_21)=>∃ (v29:Value) (f30:List Nat),Chg [] w w'∧OE [] w.heap.size w' (sOwn 2 (sInt .i64)) [v29] (s1_3) f30∧∃ F,r=updL F [(0,.pointer (some (p_x0))),(3,v29),(4,.int .i64 (s0_14)),(12,z2c),(13,.int .i64 ((x0.Sieves.length:Int))),(14,.int .i64 (s0_14)),(19,u20),(20,.int .i64 ((e18.length:Int))),(21,.int .i64 (s1_21))]) (impl_classifier_tops_T w) ho ⟨_,_,(hB.trans p22),(ko nb p22),fe rfl⟩ ?_ ?_
 rintro ⟨s1_3,s1_21⟩ _ nj ⟨v29,f30,hB,js,F,rfl⟩ o ho
 replace ho:impl_classifier_tops_L1 x0 s0_14 e18 s1_3 s1_21=some o:=ho
 unfold impl_classifier_tops_L1 at ho
 refine wq <| Wq rfl (cr [] nj) <| Qa (Bl rfl rfl) <| fun p1x k1=>anz <| wq <| W_cond (b:=decide (s1_21 < (e18.length:Int))) rfl ?_ ?_
 intro p1j
 rw [p1j] at ho
 refine W_skip <| anz <| wq <| W_block <| wq <| Wq rfl k1 <| Qa (Mi rfl) <| ?_
 obtain ⟨e36,hx37e,ho⟩:=bs ho
 have hx37:=idx_some hx37e
 refine Qa (Ix sl118 (kB p1h hB) hx37 rfl rfl rfl) <| ?_
 obtain ⟨u38,fu39,hu40,p5e,hs42⟩:=one_get rfl p1h hx37.1 hx37.2
 refine Qa (Ld na114 (hB.cell0 hu40) rfl) <| Qa (Ai rfl) <| Qa (Av u38 rfl) <| fun p6y p5f=>anz <| wq <| Wq rfl p5f <| Qa (Mp rfl) <| Qa (Nk rfl) <| ?_
 have at45:At w (p_x0.add 0) [.int .i64 (x0.Sets.Shape.Objects),z28,z29,z2a,z2b,z2d,z2e]:=At.sub a_x0 0 7
 refine Qa (Fp fa151_0 rfl) <| ?_
 have at46:At w ((p_x0.add 0).add 0) [.int .i64 (x0.Sets.Shape.Objects),z28,z29,z2a,z2b]:=At.sub at45 0 5
 refine Qa (Fp fa66_0 rfl) <| Qa (Mi rfl) <| Qa (Mv u38 rfl) <| Qa (If Tryz.underlying114 rfl u38 rfl) <| ?_
 obtain ⟨y47,p5g,ho⟩:=bs ho
 refine Qc Tryz.func191 rfl rfl (fun _ hC=>impl_all_calls (kp _ z32 (hB.trans hC)) (kp _ z33 (hB.trans hC)) (kp _ z34 (hB.trans hC)) (kp _ z35 (hB.trans hC)) (At.keep0 at46 (hB.trans hC)) (kp _ p5e (hB.trans hC)) p5g) <| fun p3w nl=>anz <| W_cond (b:=y47) rfl ?_ ?_
 intro p1k
 rw [p1k] at ho
 refine W_region rfl <| Wb (Mv v29 rfl) <| Wb (Mi rfl) <| WL.lit1 u22z info2 zr2 sz2 rfl fun b52 p5i p5j p6 p5k=>?_
 replace p6:Row p5i b52 [.int .i64 (s1_21)] 2:=p6
 have d58:=dl (onw p5k) (sl _ (kp _ js.1 nl))
 have p23:=nl.trans p5j
 replace js:=ko js p23
 replace hB:=(hB.trans p23)
 obtain ⟨n66,hn67,ho⟩:=bs ho
 have hn67a:=fits_some hn67
 refine WL.append1 (E:=(sInt .i64)) _ _ u22z info2 zr2 sz2 rfl rfl rfl js rfl p6 ⟨rfl,rfl⟩ List.nodup_nil (fun _ h=>nomatch h) (fun _ h=>nomatch h) (by rw [by2]; exact hn67a.1) hn67a.2 hB.size fun v60 p5l p7 p24 o64 hs65=>?_
 replace p6:=Row.keep p6 p24 (d58 _ (ms rfl))
 replace hB:=hB.then p24 js.2.2
 refine Wb (Av v60 rfl) <| inBlk_n <| anz <| Wq rfl (cr [] p5l) <| Qa (Ba rfl rfl) <| Qa (Mi rfl) <| fun p6z p25=>?_
 cases ho
 exact ⟨_,_,(hB.trans p25),(ko o64 p25),fe rfl⟩
 intro p1k
 rw [p1k] at ho
 refine W_skip <| inBlk_n <| anz <| Wq rfl nl <| Qa (Ba rfl rfl) <| Qa (Mi rfl) <| fun p70 p26=>?_
 cases ho
 exact ⟨_,_,(hB.trans p26),(ko js p26),fe rfl⟩
 intro p1j
 rw [p1j] at ho
 refine W_exit <| andThen_x <| ?_
 cases ho
 exact ⟨rfl,⟨_,_,(hB.trans k1),(ko js k1),fe rfl⟩⟩
 rintro ⟨s1_3,s1_21⟩ _ p5n ⟨v29,f30,hB,js,F,rfl⟩ ho
 dsimp only at ho
 refine inBlk_n <| anz <| Wq rfl (cr [] p5n) <| Qa (Ba rfl rfl) <| Qa (Mi rfl) <| fun p71 p27=>?_
 cases ho
 exact ⟨_,_,(hB.trans p27),(ko js p27),fe rfl⟩
 intro p1g
 rw [p1g] at ho
 refine W_exit <| andThen_x <| ?_
 cases ho
 exact ⟨rfl,⟨_,_,(hB.trans nd),(ko nb nd),fe rfl⟩⟩
 rintro ⟨s0_3,s0_14⟩ _ p5o ⟨v11,f12,hB,nb,F,rfl⟩ ho
 dsimp only at ho
 refine anz <| wq <| Wq rfl (cr [] p5o) <| Qa (Mv v11 rfl) <| Qa (Av v11 rfl) <| fun p72 p28=>anz <| ?_
 cases ho
 exact W_ret ⟨_,res_1 Tryz.results123,_,_,rfl,(hB.trans p28),(ko nb p28)⟩

theorem slices_Clone___bool_bool__calls {w:World} {x0:(List Bool)} {v_x0:Value} {f_x0:List Nat} (h_x0:(sImm sBool).rep w.heap [v_x0] x0 f_x0) {y:(List Bool)} (hm:slices_Clone___bool_bool_ x0=some y) :
    Calls Tryz.prog 210 #[v_x0] w (fun e w'=>∃ (v0:Value) (f0:List Nat),e = .returned (v0)∧Chg [] w w'∧OE [] w.heap.size w' (sOwn 4 sBool) [v0] y f0):=by
  obtain ⟨n,hn,hm⟩:=bs hm
  have hf:=fits_some hn
  cases hm
  have h0:=h_x0
  obtain ⟨base,cap,hv,hr⟩:=h0
  obtain rfl:v_x0 = .slice base x0.length cap:=by simpa using hv
  refine calls_of_W (args:=[.slice base x0.length cap]) Tryz.func210 rfl Tryz.ntmps210 (Nat.le_of_ble_eq_true rfl) ?_
  refine wq <| Wq rfl (cr [] w) <| Qa (As rfl) <| fun wd1 hC1=>anz <| wq <| wq <| Wq rfl hC1 <| Qa (Ms rfl) <| Qa (Bz Tryz.underlying138 rfl rfl) <| fun wd2 hC2=>anz <| W_cond (b:=base.isNone) rfl ?_ ?_
  · intro hb
    obtain rfl:x0=[]:=by
      rcases hr with ⟨h,_⟩ | ⟨b,off,cur,e,fz,f',h1,_⟩
      · exact h
      · rw [h1] at hb; cases hb
    refine wq <| Wq rfl hC2 <| Qa (As rfl) <| fun wd3 hC3=>anz <| ?_
    exact W_ret ⟨.inr rfl,_,res_1 Tryz.results210,_,_,rfl,hC3,nil_OE⟩
  · intro hb
    refine W_skip <| anz <| wq <| W_region rfl <| WL.lit0 sBool Tryz.underlying138 info4 fun v3 wd4 f5 hC6 o7=>?_
    replace o7:=OE.low (G:=[]) o7 hC2.size
    have hT:=hC2.trans hC6
    refine Wb (Ms rfl) <| WL.appendS (E:=sBool) _ _ sBool_nofp Tryz.underlying138 info4 zr4 sz4 rfl rfl rfl o7 rfl (kp _ h_x0 hT) (by rw [by4]; simpa using hf.1) (by simpa using hf.2) hT.size fun v9 p73 f11 pl nb hs14=>?_
    refine Wb (Av v9 rfl) <| anz <| W_ret ⟨.inr rfl,_,res_1 Tryz.results210,_,_,rfl,hT.then pl o7.2.2,nb⟩

abbrev impl_coverage_is_post (w:World) (x:(Bool)) (e:Ending) (w':World):Prop:=e = .returned (.bool x)∧Chg [] w w'
abbrev impl_coverage_is_T (w:World):=Tm Tryz.prog Tryz.f152 23 (impl_coverage_is_post w)
theorem impl_coverage_is_calls {w:World} {x0:MCoverage} {p_x0:Addr} {p_x0_Classifier:Addr} {z1h:Value} {z1t:List Nat} {z1i:Value} {z1u:List Nat} {z1j:Value} {z1v:List Nat} {z1k:Value} {z1w:List Nat} {z1l:Value} {z1x:List Nat} {z1f:Value} {z1y:List Nat} {z1d:Value} {z20:List Nat} {p_x0_C:Addr} {zy:Value} {z17:List Nat} {zt:Value} {z18:List Nat} {z10:Value} {z19:List Nat} {z11:Value} {z1a:List Nat} {ze:Value} {z8:List Nat} {p_x0_Count:Addr} {x1:Int} {x2:(List Int)} {v_x2:Value} {f_x2:List Nat} (z1m:(sImm (sInt .i64)).rep w.heap [z1h] x0.Classifier.Sets.Shape.From z1t) (z1n:(sImm (sInt .i64)).rep w.heap [z1i] x0.Classifier.Sets.Shape.To z1u) (z1o:(sImm (sInt .i64)).rep w.heap [z1j] x0.Classifier.Sets.Shape.Identity z1v) (z1p:(sImm (sImm (sInt .i64))).rep w.heap [z1k] x0.Classifier.Sets.Shape.Composites z1w) (z1q:(sImm (sInt .i64)).rep w.heap [z1l] x0.Classifier.Sets.Sizes z1x) (z1g:(sImm (sImm (sInt .i64))).rep w.heap [z1f] x0.Classifier.Sets.Actions z1y) (z1e:(sImm (sImm (sImm (sInt .i64)))).rep w.heap [z1d] x0.Classifier.Sieves z20) (a_x0_Classifier:At w p_x0_Classifier [.int .i64 (x0.Classifier.Sets.Shape.Objects),z1h,z1i,z1j,z1k,z1l,z1f,z1d]) (z16:(sImm (sInt .i64)).rep w.heap [zy] x0.C.From z17) (z12:(sImm (sInt .i64)).rep w.heap [zt] x0.C.To z18) (z1b:(sImm (sInt .i64)).rep w.heap [z10] x0.C.Identity z19) (z1c:(sImm (sImm (sInt .i64))).rep w.heap [z11] x0.C.Composites z1a) (a_x0_C:At w p_x0_C [.int .i64 (x0.C.Objects),zy,zt,z10,z11]) (zj:(sImm (sImm sBool)).rep w.heap [ze] x0.Covers z8) (a_x0_Count:At w p_x0_Count [.int .i64 (x0.Count)]) (a_x0:At w p_x0 [.pointer (some (p_x0_Classifier)),.pointer (some (p_x0_C)),ze,.pointer (some (p_x0_Count))]) (h_x2:(sImm (sInt .i64)).rep w.heap [v_x2] x2 f_x2) {y:(Bool)} (hm:impl_coverage_is x0 x1 x2=some y) :
  Calls Tryz.prog 152 #[.pointer (some (p_x0)),.int .i64 (x1),v_x2] w (impl_coverage_is_post w y):=by
 refine Cm (S:=Unit) Tryz.func152 rfl Tryz.ntmps152 rfl hm fun o ho hB=>?_
 clear hm
 refine wq <| Wq rfl (cr [] w) <| Qa (Ab rfl) <| fun wd1 hC2=>anz <| wq <| Wqd rfl (by kernel_rfl) hC2 <| Qa (Mp rfl) <| Qa (Nk rfl) <| Qa (Fp fa144_2 rfl) <| Qa (La na97 (At.keep0 a_x0 hB) rfl rfl) <| Qa (Mi rfl) <| ?_
 obtain ⟨e3,hx4e,ho⟩:=bs ho
 have hx4:=idx_some hx4e
 refine Qa (Ix sl97 (kB zj hB) hx4 rfl rfl rfl) <| ?_
 obtain ⟨u5,fu6,hu7,hr8,hs9⟩:=one_get rfl zj hx4.1 hx4.2
 refine Qa (Ld na138 (hB.cell0 hu7) rfl) <| Qa (Mp rfl) <| Qa (Nk rfl) <| Qa (F0 fa144_0 rfl) <| Qa (Lb na141 (At.keep0 a_x0 hB) rfl rfl) <| Qa (Mi rfl) <| Qa (Mv v_x2 rfl) <| ?_
 obtain ⟨y10,p5p,ho⟩:=bs ho
 refine Qc Tryz.func113 rfl rfl (fun _ hC=>impl_classifier_number_calls (kp _ z1m (hB.trans hC)) (kp _ z1n (hB.trans hC)) (kp _ z1o (hB.trans hC)) (kp _ z1p (hB.trans hC)) (kp _ z1q (hB.trans hC)) (kp _ z1g (hB.trans hC)) (kp _ z1e (hB.trans hC)) (At.keep0 a_x0_Classifier (hB.trans hC)) (kp _ h_x2 (hB.trans hC)) p5p) <| ?_
 obtain ⟨e12,hx13e,ho⟩:=bs ho
 have hx13:=idx_some hx13e
 refine Qa (Ix sl138 (kB hr8 hB) hx13 rfl rfl rfl) <| Qa (Eb na4 (kB hr8 hB) hx13 rfl) <| Qa (Ab rfl) <| fun p21 p5q=>anz <| ?_
 cases ho
 exact W_ret ⟨_,res_1 Tryz.results152,rfl,(hB.trans p5q)⟩

abbrev impl_coverage_locally_post (w:World) (x:(Bool)) (e:Ending) (w':World):Prop:=e = .returned (.bool x)∧Chg [] w w'
abbrev impl_coverage_locally_T (w:World):=Tm Tryz.prog Tryz.f211 36 (impl_coverage_locally_post w)
theorem impl_coverage_locally_calls {w:World} {x0:MCoverage} {p_x0:Addr} {p_x0_Classifier:Addr} {z1h:Value} {z1t:List Nat} {z1i:Value} {z1u:List Nat} {z1j:Value} {z1v:List Nat} {z1k:Value} {z1w:List Nat} {z1l:Value} {z1x:List Nat} {z1f:Value} {z1y:List Nat} {z1d:Value} {z20:List Nat} {p_x0_C:Addr} {zy:Value} {z17:List Nat} {zt:Value} {z18:List Nat} {z10:Value} {z19:List Nat} {z11:Value} {z1a:List Nat} {ze:Value} {z8:List Nat} {p_x0_Count:Addr} {x1:(List Int)} {v_x1:Value} {f_x1:List Nat} {x2:(List Int)} {v_x2:Value} {f_x2:List Nat} (z1m:(sImm (sInt .i64)).rep w.heap [z1h] x0.Classifier.Sets.Shape.From z1t) (z1n:(sImm (sInt .i64)).rep w.heap [z1i] x0.Classifier.Sets.Shape.To z1u) (z1o:(sImm (sInt .i64)).rep w.heap [z1j] x0.Classifier.Sets.Shape.Identity z1v) (z1p:(sImm (sImm (sInt .i64))).rep w.heap [z1k] x0.Classifier.Sets.Shape.Composites z1w) (z1q:(sImm (sInt .i64)).rep w.heap [z1l] x0.Classifier.Sets.Sizes z1x) (z1g:(sImm (sImm (sInt .i64))).rep w.heap [z1f] x0.Classifier.Sets.Actions z1y) (z1e:(sImm (sImm (sImm (sInt .i64)))).rep w.heap [z1d] x0.Classifier.Sieves z20) (a_x0_Classifier:At w p_x0_Classifier [.int .i64 (x0.Classifier.Sets.Shape.Objects),z1h,z1i,z1j,z1k,z1l,z1f,z1d]) (z16:(sImm (sInt .i64)).rep w.heap [zy] x0.C.From z17) (z12:(sImm (sInt .i64)).rep w.heap [zt] x0.C.To z18) (z1b:(sImm (sInt .i64)).rep w.heap [z10] x0.C.Identity z19) (z1c:(sImm (sImm (sInt .i64))).rep w.heap [z11] x0.C.Composites z1a) (a_x0_C:At w p_x0_C [.int .i64 (x0.C.Objects),zy,zt,z10,z11]) (zj:(sImm (sImm sBool)).rep w.heap [ze] x0.Covers z8) (a_x0_Count:At w p_x0_Count [.int .i64 (x0.Count)]) (a_x0:At w p_x0 [.pointer (some (p_x0_Classifier)),.pointer (some (p_x0_C)),ze,.pointer (some (p_x0_Count))]) (h_x1:(sImm (sInt .i64)).rep w.heap [v_x1] x1 f_x1) (h_x2:(sImm (sInt .i64)).rep w.heap [v_x2] x2 f_x2) {y:(Bool)} (hm:impl_coverage_locally x0 x1 x2=some y) :
  Calls Tryz.prog 211 #[.pointer (some (p_x0)),v_x1,v_x2] w (impl_coverage_locally_post w y):=by
 refine Cm (S:=Unit) Tryz.func211 rfl Tryz.ntmps211 rfl hm fun o ho hB=>?_
 clear hm
 refine wq <| Wq rfl (cr [] w) <| Qa (Ab rfl) <| fun wd1 hC2=>anz <| wq <| wq <| Wq rfl hC2 <| Qa (Mv v_x2 rfl) <| Qa (Ln sl114 (kB h_x2 hB) rfl) <| Qa (Mi rfl) <| fun wd3 hC4=>anz <| Wf (S1:=Int) (fun (s0_11:Int) r w'=>Chg [] w w'∧∃ F,r=updL F [(0,.pointer (some (p_x0))),(1,v_x1),(9,v_x2),(10,.int .i64 ((x2.length:Int))),(11,.int .i64 (s0_11))]) (impl_coverage_locally_T w) ho ⟨(hB.trans hC4),fe rfl⟩ ?_ ?_
 rintro s0_11 _ wd5 ⟨hB,F,rfl⟩ o ho
 replace ho:impl_coverage_locally_L0 x0 x1 x2 s0_11=some o:=ho
 unfold impl_coverage_locally_L0 at ho
 refine wq <| Wq rfl (cr [] wd5) <| Qa (Bl rfl rfl) <| fun wd6 hC7=>anz <| wq <| W_cond (b:=decide (s0_11 < (x2.length:Int))) rfl ?_ ?_
 intro hb8
 rw [hb8] at ho
 refine W_skip <| anz <| wq <| W_block <| wq <| Wq rfl hC7 <| ?_
 obtain ⟨e9,hx10e,ho⟩:=bs ho
 have hx10:=idx_some hx10e
 refine Qa (Ix sl114 (kB h_x2 hB) hx10 rfl rfl rfl) <| Qa (Ei na2 (kB h_x2 hB) hx10 rfl) <| Qa (Ai rfl) <| fun p75 pl=>anz <| wq <| ?_
 obtain ⟨e13,hx14e,ho⟩:=bs ho
 have hx14:=idx_some hx14e
 obtain ⟨y15,p5r,ho⟩:=bs ho
 refine W_any (m:=18) (U:=.replicate 18 []) (S:=[sV (.pointer (some (p_x0))),sV (.pointer (some (p_x0))),sV (.pointer (some (p_x0))),sV (.pointer (some (p_x0.add 1))),sV (.pointer (some (p_x0_C))),sV (.pointer (some (p_x0_C))),sV (.pointer (some (p_x0_C.add 2))),sV (zt),sV (.int .i64 (e9)),sV (.pointer (some (elA (zt) 1 (e9)))),sV (.int .i64 (e13)),sV (.pointer (some (p_x0))),sV (.pointer (some (p_x0))),sV (.pointer (some (p_x0.add 1))),sV (.pointer (some (p_x0_C))),sV (.int .i64 (e9)),sV (v_x1),sO (sOwn 2 (sInt .i64)) (y15)]) (Z:=[]) hmix rfl (by decide) (by decide +kernel) (fun _ _ _ h=>np_out h) (by decide) rfl (by decide +kernel) (stable_all (by repeat first | exact stable_nil | refine stable_cons stable_val ?_ | refine stable_cons stable_own ?_)) ?_ ?_
 refine owes_cons ?_ <| owes_cons ?_ <| owes_cons ?_ <| owes_cons ?_ <| owes_cons ?_ <| owes_cons ?_ <| owes_cons ?_ <| owes_cons ?_ <| owes_cons ?_ <| owes_cons ?_ <| owes_cons ?_ <| owes_cons ?_ <| owes_cons ?_ <| owes_cons ?_ <| owes_cons ?_ <| owes_cons ?_ <| owes_cons ?_ <| owes_cons ?_ <| owes_nil
 exact Oh rfl rfl rfl [(0,.pointer (some (p_x0)))] pl rfl rfl fun _=>Mp rfl
 exact Oh rfl rfl rfl [(0,.pointer (some (p_x0)))] pl rfl rfl fun _=>Mp rfl
 exact Ov rfl rfl rfl [] [(16,.pointer (some (p_x0)))] [1] pl rfl rfl (by decide +kernel) rfl fun _=>Nk rfl
 exact Ov rfl rfl rfl [] [(17,.pointer (some (p_x0)))] [2] pl rfl rfl (by decide +kernel) rfl fun _=>Fp fa144_1 rfl
 exact Ov rfl rfl rfl [] [(18,.pointer (some (p_x0.add 1)))] [3] pl rfl rfl (by decide +kernel) rfl fun _=>La na131 (At.keep0 a_x0 hB) rfl rfl
 exact Ov rfl rfl rfl [] [(19,.pointer (some (p_x0_C)))] [4] pl rfl rfl (by decide +kernel) rfl fun _=>Nk rfl
 exact Ov rfl rfl rfl [] [(20,.pointer (some (p_x0_C)))] [5] pl rfl rfl (by decide +kernel) rfl fun _=>Fp fa32_2 rfl
 exact Ov rfl rfl rfl [] [(21,.pointer (some (p_x0_C.add 2)))] [6] pl rfl rfl (by decide +kernel) rfl fun _=>La na22 (At.keep0 a_x0_C hB) rfl rfl
 exact Oh rfl rfl rfl [(8,.int .i64 (e9))] pl rfl rfl fun _=>Mi rfl
 exact Ov rfl rfl rfl [] [(22,zt),(23,.int .i64 (e9))] [7,8] pl rfl rfl (by decide +kernel) rfl fun _=>Ix sl22 (kB z12 hB) hx14 rfl rfl rfl
 exact Ov rfl rfl rfl [] [(24,.pointer (some (elA (zt) 1 (e9))))] [9] pl rfl rfl (by decide +kernel) rfl fun _=>Ei na2 (kB z12 hB) hx14 rfl
 exact Oh rfl rfl rfl [(0,.pointer (some (p_x0)))] pl rfl rfl fun _=>Mp rfl
 exact Ov rfl rfl rfl [] [(26,.pointer (some (p_x0)))] [11] pl rfl rfl (by decide +kernel) rfl fun _=>Nk rfl
 exact Ov rfl rfl rfl [] [(27,.pointer (some (p_x0)))] [12] pl rfl rfl (by decide +kernel) rfl fun _=>Fp fa144_1 rfl
 exact Ov rfl rfl rfl [] [(28,.pointer (some (p_x0.add 1)))] [13] pl rfl rfl (by decide +kernel) rfl fun _=>La na131 (At.keep0 a_x0 hB) rfl rfl
 exact Oh rfl rfl rfl [(8,.int .i64 (e9))] pl rfl rfl fun _=>Mi rfl
 exact Oh rfl rfl rfl [(1,v_x1)] pl rfl rfl fun _=>Mv v_x1 rfl
 refine Owes.mem rfl rfl rfl <| fun g r wr hCr H hot=>?_
 have hC:=pl.trans hCr
 obtain ⟨F,rfl⟩:=fr (r:=r) (l:=[(29,.pointer (some (p_x0_C))),(30,.int .i64 (e9)),(31,v_x1)]) ⟨(H 14 (by decide +kernel) 29 rfl),(H 15 (by decide +kernel) 30 rfl),(H 16 (by decide +kernel) 31 rfl),trivial⟩
 exact OpW.own (op_callF Tryz.func153 rfl rfl) (impl_Category_pull_calls (kp _ z16 (hB.trans hC)) (kp _ z12 (hB.trans hC)) (kp _ z1b (hB.trans hC)) (kp _ z1c (hB.trans hC)) (At.keep0 a_x0_C (hB.trans hC)) (kp _ h_x1 (hB.trans hC)) p5r)
 rintro g r p17 ⟨p5s,hdone,hot,hfresh,hdis⟩
 have nc:OwnV (sOwn 2 (sInt .i64)) (y15) _ _ _:=hdone 17 (by decide) (by decide) 32 rfl
 generalize hvv17:r 32=v17 at nc
 have hfo19:=hfresh 17 (by decide)
 have hdd:=hdis
 obtain ⟨F,rfl⟩:=fw hdone hot [(0,.pointer (some (p_x0))),(1,v_x1),(9,v_x2),(10,.int .i64 ((x2.length:Int))),(11,.int .i64 (s0_11))] [(15,.pointer (some (p_x0))),(25,.int .i64 (e13))] [0,10] rfl rfl rfl rfl (z:=[(32,v17)]) ⟨hvv17,trivial⟩
 obtain ⟨f18,hgf18⟩ : ∃ k,k=g 17:=⟨_,rfl⟩
 rw [← hgf18] at nc hfo19
 replace nc:OE [] w.heap.size p17 (sOwn 2 (sInt .i64)) [v17] (y15) f18:=⟨nc.1,nc.2,fun b hb=>.inr (Nat.le_trans (hB.trans pl).size (hfo19 b hb).1)⟩
 have p5u:=(pl.trans p5s)
 replace hB:=(hB.trans p5u)
 obtain ⟨y23,p5v,ho⟩:=bs ho
 refine WL.call rfl (op_callF Tryz.func152 rfl rfl) (impl_coverage_is_calls (kp _ z1m hB) (kp _ z1n hB) (kp _ z1o hB) (kp _ z1p hB) (kp _ z1q hB) (kp _ z1g hB) (kp _ z1e hB) (At.keep0 a_x0_Classifier hB) (kp _ z16 hB) (kp _ z12 hB) (kp _ z1b hB) (kp _ z1c hB) (At.keep0 a_x0_C hB) (kp _ zj hB) (At.keep0 a_x0_Count hB) (At.keep0 a_x0 hB) ((Le.own (Le.refl _) 2).le nc.1) p5v) <| ?_
 rintro _ nn ⟨rfl,jw⟩
 refine ⟨_,rfl,?_⟩
 refine Wb (Nt rfl) <| anz <| W_cond (b:=!(y23)) rfl ?_ ?_
 intro p1l
 rw [p1l] at ho
 refine wq <| Wq rfl jw <| Qa (Ab rfl) <| fun p76 p5w=>anz <| ?_
 cases ho
 exact W_ret ⟨_,res_1 Tryz.results211,rfl,(hB.trans p5w)⟩
 intro p1l
 rw [p1l] at ho
 refine W_skip <| inBlk_n <| anz <| Wq rfl jw <| Qa (Ba rfl rfl) <| Qa (Mi rfl) <| fun p77 p5x=>?_
 cases ho
 exact ⟨(hB.trans p5x),fe rfl⟩
 intro hb8
 rw [hb8] at ho
 refine W_exit <| andThen_x <| ?_
 cases ho
 exact ⟨rfl,⟨(hB.trans hC7),fe rfl⟩⟩
 rintro s0_11 _ nj ⟨hB,F,rfl⟩ ho
 refine anz <| wq <| Wq rfl (cr [] nj) <| Qa (Ab rfl) <| fun p1x k1=>anz <| ?_
 cases ho
 exact W_ret ⟨_,res_1 Tryz.results211,rfl,(hB.trans k1)⟩
end Go.Proofs.YtcmckiiafgcmjaaGreat
