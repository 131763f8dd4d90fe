/- Models, printed by a program: what each function computes, on plain data. No condition. -/
import Derived.Test.YtdlhbbhdfnnmnaaGreatLj
import Derived.Test.YtdlhbbhdfnnmnaaGreatLn
namespace Go.Proofs.YtdlhbbhdfnnmnaaGreat
open Go Go.Li
set_option linter.unusedVariables false
structure MCategory where
  Objects : Int
  From : (List Int)
  To : (List Int)
  Identity : (List Int)
  Composites : (List (List Int))
structure MSetFunctor where
  Shape : MCategory
  Sizes : (List Int)
  Actions : (List (List Int))
structure MPart where
  Members : (List (List Int))
structure MSetMap where
  Source : MSetFunctor
  Target : MSetFunctor
  Parts : (List (List Int))
structure MEnds where
  From : Int
  To : Int
structure MClassifier where
  Sets : MSetFunctor
  Sieves : (List (List (List Int)))
structure MTopology where
  Shape : MCategory
  Covers : (List (List (List Int)))
structure ML27Table where
  C : MCategory
  Lists : (List (List (List Int)))
  Pulls : (List (List Int))
  Tops : (List Int)
structure MCoverage where
  Classifier : MClassifier
  C : MCategory
  Covers : (List (List Bool))
  Count : Int
noncomputable def laws_szInt64S (x0 : (List Int)) (x1 : Int) : Option (Int) :=
  retM (S := Unit) (bif decide (w64 (x1 - (x0.length : Int)) < (0 : Int)) then (some (Out.ret (((-1 : Int))))) else (some (Out.ret ((w64 (x1 - (x0.length : Int)))))))
noncomputable def laws_szInt64SS_L0 (x0 : (List (List Int))) (s0_1 : Int) (s0_5 : Int) : Option (Out (Int × Int) (Int)) :=
  (bif decide (s0_5 < (x0.length : Int)) then ((idx x0 (s0_5)) >>= fun e16 => ((laws_szInt64S e16 (s0_1)) >>= fun y23 => (bif decide (y23 < (0 : Int)) then (some (Out.ret (((-1 : Int))))) else (some (Out.norm (y23, w64 (s0_5 + (1 : Int)))))))) else (some (Out.exit 0 (s0_1, s0_5))))
noncomputable def laws_szInt64SS (x0 : (List (List Int))) (x1 : Int) : Option (Int) :=
  retM (S := Unit) (bif decide (w64 (x1 - (x0.length : Int)) < (0 : Int)) then (some (Out.ret (((-1 : Int))))) else (lbind (blockM 0 (loopM (fun s => laws_szInt64SS_L0 x0 s.1 s.2) (w64 (x1 - (x0.length : Int)), (0 : Int)))) (fun (s0_1, s0_5) => (some (Out.ret (s0_1))))))
noncomputable def laws_szCategory (x0 : MCategory) (x1 : Int) : Option (Int) :=
  retM (S := Unit) ((laws_szInt64S x0.From (x1)) >>= fun y8 => (bif decide (y8 < (0 : Int)) then (some (Out.ret (((-1 : Int))))) else ((laws_szInt64S x0.To (y8)) >>= fun y17 => (bif decide (y17 < (0 : Int)) then (some (Out.ret (((-1 : Int))))) else ((laws_szInt64S x0.Identity (y17)) >>= fun y26 => (bif decide (y26 < (0 : Int)) then (some (Out.ret (((-1 : Int))))) else ((laws_szInt64SS x0.Composites (y26)) >>= fun y35 => (bif decide (y35 < (0 : Int)) then (some (Out.ret (((-1 : Int))))) else (some (Out.ret (y35)))))))))))
noncomputable def laws_szSetFunctor (x0 : MSetFunctor) (x1 : Int) : Option (Int) :=
  retM (S := Unit) ((laws_szCategory x0.Shape (x1)) >>= fun y8 => (bif decide (y8 < (0 : Int)) then (some (Out.ret (((-1 : Int))))) else ((laws_szInt64S x0.Sizes (y8)) >>= fun y17 => (bif decide (y17 < (0 : Int)) then (some (Out.ret (((-1 : Int))))) else ((laws_szInt64SS x0.Actions (y17)) >>= fun y26 => (bif decide (y26 < (0 : Int)) then (some (Out.ret (((-1 : Int))))) else (some (Out.ret (y26)))))))))
noncomputable def laws_szPart (x0 : MPart) (x1 : Int) : Option (Int) :=
  retM (S := Unit) ((laws_szInt64SS x0.Members (x1)) >>= fun y8 => (bif decide (y8 < (0 : Int)) then (some (Out.ret (((-1 : Int))))) else (some (Out.ret (y8)))))
noncomputable def laws_toInt64S_L0 (x0 : (List Int)) (s0_4 : Int) (s0_o9 : (List Int)) : Option (Out (Int × (List Int)) ((List Int))) :=
  (bif decide (s0_4 < (x0.length : Int)) then ((idx x0 (s0_4)) >>= fun e17 => ((idx s0_o9 (s0_4)) >>= fun e19 => (some (Out.norm (w64 (s0_4 + (1 : Int)), s0_o9.set (s0_4).toNat (e17)))))) else (some (Out.exit 0 (s0_4, s0_o9))))
noncomputable def laws_toInt64S (x0 : (List Int)) : Option ((List Int)) :=
  retM (S := Unit) ((mk 8 ((x0.length : Int))) >>= fun n3 => (lbind (blockM 0 (loopM (fun s => laws_toInt64S_L0 x0 s.1 s.2) ((0 : Int), List.replicate n3 (0 : Int)))) (fun (s0_4, s0_o9) => (some (Out.ret (s0_o9))))))
noncomputable def laws_toInt64SS_L0 (x0 : (List (List Int))) (s0_4 : Int) (s0_o9 : (List (List Int))) : Option (Out (Int × (List (List Int))) ((List (List Int)))) :=
  (bif decide (s0_4 < (x0.length : Int)) then ((idx x0 (s0_4)) >>= fun e18 => ((laws_toInt64S e18) >>= fun y25 => ((idx s0_o9 (s0_4)) >>= fun e34 => (some (Out.norm (w64 (s0_4 + (1 : Int)), s0_o9.set (s0_4).toNat y25)))))) else (some (Out.exit 0 (s0_4, s0_o9))))
noncomputable def laws_toInt64SS (x0 : (List (List Int))) : Option ((List (List Int))) :=
  retM (S := Unit) ((mk 24 ((x0.length : Int))) >>= fun n3 => (lbind (blockM 0 (loopM (fun s => laws_toInt64SS_L0 x0 s.1 s.2) ((0 : Int), List.replicate n3 []))) (fun (s0_4, s0_o9) => (some (Out.ret (s0_o9))))))
noncomputable def laws_toCategory (x0 : MCategory) : Option (MCategory) :=
  retM (S := Unit) ((laws_toInt64S x0.From) >>= fun y29 => ((laws_toInt64S x0.To) >>= fun y44 => ((laws_toInt64S x0.Identity) >>= fun y60 => ((laws_toInt64SS x0.Composites) >>= fun y77 => (some (Out.ret ((MCategory.mk x0.Objects y29 y44 y60 y77))))))))
noncomputable def laws_toSetFunctor (x0 : MSetFunctor) : Option (MSetFunctor) :=
  retM (S := Unit) ((laws_toCategory x0.Shape) >>= fun y25 => ((laws_toInt64S x0.Sizes) >>= fun y64 => ((laws_toInt64SS x0.Actions) >>= fun y83 => (some (Out.ret ((MSetFunctor.mk y25 y64 y83)))))))
noncomputable def laws_toPart (x0 : MPart) : Option (MPart) :=
  retM (S := Unit) ((laws_toInt64SS x0.Members) >>= fun y25 => (some (Out.ret ((MPart.mk y25)))))
noncomputable def spec_l01In (x0 : Int) (x1 : Int) (x2 : Int) : Option (Bool) :=
  retM (S := Unit) (((bif decide (x0 ≥ x1) then (some (decide (x0 ≤ x2))) else (some (false)))) >>= fun g3 => (some (Out.ret (g3))))
noncomputable def spec_l01Map_L0 (x0 : Int) (x1 : (List Int)) (s0_5 : Int) : Option (Out (Int) (Bool)) :=
  (bif decide (s0_5 < (x1.length : Int)) then ((((idx x1 (s0_5)) >>= fun e11 => (bif decide (e11 < (0 : Int)) then (some (true)) else ((idx x1 (s0_5)) >>= fun e14 => (some (decide (e14 ≥ x0))))))) >>= fun g9 => (bif g9 then (some (Out.ret (false))) else (some (Out.norm (w64 (s0_5 + (1 : Int))))))) else (some (Out.exit 0 (s0_5))))
noncomputable def spec_l01Map (x0 : Int) (x1 : (List Int)) : Option (Bool) :=
  retM (S := Unit) (lbind (blockM 0 (loopM (spec_l01Map_L0 x0 x1) ((0 : Int)))) (fun s0_5 => (some (Out.ret (true)))))
noncomputable def spec_l02Ends (x0 : (List Int)) (x1 : Int) (x2 : Int) : Option (Bool) :=
  retM (S := Unit) (((bif ((x0.length : Int)) == (x1) then ((spec_l01Map (x2) x0) >>= fun y6 => (some (y6))) else (some (false)))) >>= fun g3 => (some (Out.ret (g3))))
noncomputable def spec_IsShape_L0 (x0 : MCategory) (s0_4 : Int) : Option (Out (Int) (Bool)) :=
  (bif decide (s0_4 < x0.Objects) then ((((idx x0.Identity (s0_4)) >>= fun e45 => ((idx x0.From (e45)) >>= fun e47 => (bif (e47) != (s0_4) then (some (true)) else ((idx x0.Identity (s0_4)) >>= fun e50 => ((idx x0.To (e50)) >>= fun e52 => (some ((e52) != (s0_4))))))))) >>= fun g43 => (bif g43 then (some (Out.ret (false))) else (some (Out.norm (w64 (s0_4 + (1 : Int))))))) else (some (Out.exit 0 (s0_4))))
noncomputable def spec_IsShape_L2 (x0 : MCategory) (s1_5 : Int) (s2_6 : Int) : Option (Out (Int) (Bool)) :=
  (bif decide (s2_6 < (x0.From.length : Int)) then ((idx x0.Composites (s1_5)) >>= fun e86 => ((idx e86 (s2_6)) >>= fun e93 => ((idx x0.To (s1_5)) >>= fun e97 => ((idx x0.From (s2_6)) >>= fun e99 => (bif (e97) != (e99) then (bif (e93) != ((-1 : Int)) then (some (Out.ret (false))) else (some (Out.norm (w64 (s2_6 + (1 : Int)))))) else (((bif decide (e93 < (0 : Int)) then (some (true)) else (bif decide (e93 ≥ (x0.From.length : Int)) then (some (true)) else ((idx x0.From (e93)) >>= fun e115 => ((idx x0.From (s1_5)) >>= fun e117 => (bif (e115) != (e117) then (some (true)) else ((idx x0.To (e93)) >>= fun e120 => ((idx x0.To (s2_6)) >>= fun e122 => (some ((e120) != (e122))))))))))) >>= fun g111 => (bif g111 then (some (Out.ret (false))) else (some (Out.norm (w64 (s2_6 + (1 : Int)))))))))))) else (some (Out.exit 4 (s2_6))))
noncomputable def spec_IsShape_L1 (x0 : MCategory) (s1_5 : Int) : Option (Out (Int) (Bool)) :=
  (bif decide (s1_5 < (x0.From.length : Int)) then ((idx x0.Composites (s1_5)) >>= fun e68 => (bif ((e68.length : Int)) != ((x0.From.length : Int)) then (some (Out.ret (false))) else (lbind (blockM 4 (loopM (spec_IsShape_L2 x0 s1_5) ((0 : Int)))) (fun s2_6 => (some (Out.norm (w64 (s1_5 + (1 : Int))))))))) else (some (Out.exit 2 (s1_5))))
noncomputable def spec_IsShape (x0 : MCategory) : Option (Bool) :=
  retM (S := Unit) ((((spec_l01In (x0.Objects) ((0 : Int)) ((8 : Int))) >>= fun y12 => (bif !(y12) then (some (true)) else (bif decide ((x0.From.length : Int) > (40 : Int)) then (some (true)) else ((spec_l02Ends x0.From ((x0.From.length : Int)) (x0.Objects)) >>= fun y16 => (bif !(y16) then (some (true)) else ((spec_l02Ends x0.To ((x0.From.length : Int)) (x0.Objects)) >>= fun y19 => (bif !(y19) then (some (true)) else (some (((x0.Composites.length : Int)) != ((x0.From.length : Int)))))))))))) >>= fun g10 => (bif g10 then (some (Out.ret (false))) else (((bif ((x0.Identity.length : Int)) != (x0.Objects) then (some (true)) else ((spec_l01Map ((x0.From.length : Int)) x0.Identity) >>= fun y30 => (some (!(y30)))))) >>= fun g27 => (bif g27 then (some (Out.ret (false))) else (lbind (blockM 0 (loopM (spec_IsShape_L0 x0) ((0 : Int)))) (fun s0_4 => (lbind (blockM 2 (loopM (spec_IsShape_L1 x0) ((0 : Int)))) (fun s1_5 => (some (Out.ret (true)))))))))))
noncomputable def spec_l02Fault_L0 (x0 : MCategory) (s0_7 : Int) : Option (Out (Int) (Int × Int × Int × Int)) :=
  (bif decide (s0_7 < (x0.From.length : Int)) then ((((idx x0.From (s0_7)) >>= fun e18 => ((idx x0.Identity (e18)) >>= fun e20 => ((idx x0.Composites (e20)) >>= fun e22 => ((idx e22 (s0_7)) >>= fun e29 => (bif (e29) != (s0_7) then (some (true)) else ((idx x0.Composites (s0_7)) >>= fun e32 => ((idx x0.To (s0_7)) >>= fun e39 => ((idx x0.Identity (e39)) >>= fun e41 => ((idx e32 (e41)) >>= fun e43 => (some ((e43) != (s0_7))))))))))))) >>= fun g16 => (bif g16 then (some (Out.ret ((((1 : Int)), s0_7, ((0 : Int)), ((0 : Int)))))) else (some (Out.norm (w64 (s0_7 + (1 : Int))))))) else (some (Out.exit 0 (s0_7))))
noncomputable def spec_l02Fault_L3 (x0 : MCategory) (s1_8 : Int) (s2_9 : Int) (s3_10 : Int) : Option (Out (Int) (Int × Int × Int × Int)) :=
  (bif decide (s3_10 < (x0.From.length : Int)) then ((((idx x0.To (s2_9)) >>= fun e82 => ((idx x0.From (s3_10)) >>= fun e84 => (bif (e82) == (e84) then ((idx x0.Composites (s1_8)) >>= fun e87 => ((idx e87 (s2_9)) >>= fun e94 => ((idx x0.Composites (e94)) >>= fun e96 => ((idx e96 (s3_10)) >>= fun e103 => ((idx x0.Composites (s1_8)) >>= fun e105 => ((idx x0.Composites (s2_9)) >>= fun e112 => ((idx e112 (s3_10)) >>= fun e119 => ((idx e105 (e119)) >>= fun e121 => (some ((e103) != (e121))))))))))) else (some (false)))))) >>= fun g80 => (bif g80 then (some (Out.ret ((((2 : Int)), s1_8, s2_9, s3_10)))) else (some (Out.norm (w64 (s3_10 + (1 : Int))))))) else (some (Out.exit 6 (s3_10))))
noncomputable def spec_l02Fault_L2 (x0 : MCategory) (s1_8 : Int) (s2_9 : Int) : Option (Out (Int) (Int × Int × Int × Int)) :=
  (bif decide (s2_9 < (x0.From.length : Int)) then ((idx x0.To (s1_8)) >>= fun e65 => ((idx x0.From (s2_9)) >>= fun e67 => (bif (e65) != (e67) then (some (Out.norm (w64 (s2_9 + (1 : Int))))) else (lbind (blockM 6 (loopM (spec_l02Fault_L3 x0 s1_8 s2_9) ((0 : Int)))) (fun s3_10 => (some (Out.norm (w64 (s2_9 + (1 : Int)))))))))) else (some (Out.exit 4 (s2_9))))
noncomputable def spec_l02Fault_L1 (x0 : MCategory) (s1_8 : Int) : Option (Out (Int) (Int × Int × Int × Int)) :=
  (bif decide (s1_8 < (x0.From.length : Int)) then (lbind (blockM 4 (loopM (spec_l02Fault_L2 x0 s1_8) ((0 : Int)))) (fun s2_9 => (some (Out.norm (w64 (s1_8 + (1 : Int))))))) else (some (Out.exit 2 (s1_8))))
noncomputable def spec_l02Fault (x0 : MCategory) : Option (Int × Int × Int × Int) :=
  retM (S := Unit) (lbind (blockM 0 (loopM (spec_l02Fault_L0 x0) ((0 : Int)))) (fun s0_7 => (lbind (blockM 2 (loopM (spec_l02Fault_L1 x0) ((0 : Int)))) (fun s1_8 => (some (Out.ret ((((0 : Int)), ((0 : Int)), ((0 : Int)), ((0 : Int))))))))))
noncomputable def spec_l02Is (x0 : MCategory) : Option (Bool) :=
  retM (S := Unit) ((spec_IsShape x0) >>= fun y8 => (bif !(y8) then (some (Out.ret (false))) else ((spec_l02Fault x0) >>= fun y15 => (some (Out.ret (((y15.1) == ((0 : Int)))))))))
noncomputable def spec_l19Shape_L0 (x0 : MSetFunctor) (s0_3 : Int) : Option (Out (Int) (Bool)) :=
  (bif decide (s0_3 < (x0.Sizes.length : Int)) then ((idx x0.Sizes (s0_3)) >>= fun e25 => ((spec_l01In (e25) ((0 : Int)) ((16 : Int))) >>= fun y27 => (bif !(y27) then (some (Out.ret (false))) else (some (Out.norm (w64 (s0_3 + (1 : Int)))))))) else (some (Out.exit 0 (s0_3))))
noncomputable def spec_l19Shape_L1 (x0 : MSetFunctor) (s1_4 : Int) : Option (Out (Int) (Bool)) :=
  (bif decide (s1_4 < (x0.Actions.length : Int)) then ((((idx x0.Actions (s1_4)) >>= fun e45 => ((idx x0.Shape.From (s1_4)) >>= fun e52 => ((idx x0.Sizes (e52)) >>= fun e54 => (bif ((e45.length : Int)) != (e54) then (some (true)) else ((idx x0.Shape.To (s1_4)) >>= fun e57 => ((idx x0.Sizes (e57)) >>= fun e59 => ((idx x0.Actions (s1_4)) >>= fun e61 => ((spec_l01Map (e59) e61) >>= fun y68 => (some (!(y68)))))))))))) >>= fun g43 => (bif g43 then (some (Out.ret (false))) else (some (Out.norm (w64 (s1_4 + (1 : Int))))))) else (some (Out.exit 2 (s1_4))))
noncomputable def spec_l19Shape (x0 : MSetFunctor) : Option (Bool) :=
  retM (S := Unit) ((((spec_l02Is x0.Shape) >>= fun y10 => (bif !(y10) then (some (true)) else (bif ((x0.Sizes.length : Int)) != (x0.Shape.Objects) then (some (true)) else (some (((x0.Actions.length : Int)) != ((x0.Shape.From.length : Int)))))))) >>= fun g8 => (bif g8 then (some (Out.ret (false))) else (lbind (blockM 0 (loopM (spec_l19Shape_L0 x0) ((0 : Int)))) (fun s0_3 => (lbind (blockM 2 (loopM (spec_l19Shape_L1 x0) ((0 : Int)))) (fun s1_4 => (some (Out.ret (true)))))))))
noncomputable def spec_l19Fault_L1 (x0 : MSetFunctor) (s0_7 : Int) (s1_8 : Int) : Option (Out (Int) (Int × Int × Int × Int)) :=
  ((idx x0.Sizes (s0_7)) >>= fun e31 => (bif decide (s1_8 < e31) then ((idx x0.Shape.Identity (s0_7)) >>= fun e36 => ((idx x0.Actions (e36)) >>= fun e38 => ((idx e38 (s1_8)) >>= fun e45 => (bif (e45) != (s1_8) then (some (Out.ret ((((1 : Int)), s0_7, s1_8, ((0 : Int)))))) else (some (Out.norm (w64 (s1_8 + (1 : Int))))))))) else (some (Out.exit 2 (s1_8)))))
noncomputable def spec_l19Fault_L0 (x0 : MSetFunctor) (s0_7 : Int) : Option (Out (Int) (Int × Int × Int × Int)) :=
  (bif decide (s0_7 < x0.Shape.Objects) then (lbind (blockM 2 (loopM (spec_l19Fault_L1 x0 s0_7) ((0 : Int)))) (fun s1_8 => (some (Out.norm (w64 (s0_7 + (1 : Int))))))) else (some (Out.exit 0 (s0_7))))
noncomputable def spec_l19Fault_L4 (x0 : MSetFunctor) (s2_9 : Int) (s3_10 : Int) (s4_11 : Int) : Option (Out (Int) (Int × Int × Int × Int)) :=
  ((idx x0.Shape.From (s2_9)) >>= fun e85 => ((idx x0.Sizes (e85)) >>= fun e87 => (bif decide (s4_11 < e87) then ((idx x0.Shape.Composites (s2_9)) >>= fun e92 => ((idx e92 (s3_10)) >>= fun e99 => ((idx x0.Actions (e99)) >>= fun e101 => ((idx e101 (s4_11)) >>= fun e108 => ((idx x0.Actions (s3_10)) >>= fun e110 => ((idx x0.Actions (s2_9)) >>= fun e117 => ((idx e117 (s4_11)) >>= fun e124 => ((idx e110 (e124)) >>= fun e126 => (bif (e108) != (e126) then (some (Out.ret ((((2 : Int)), s2_9, s3_10, s4_11)))) else (some (Out.norm (w64 (s4_11 + (1 : Int)))))))))))))) else (some (Out.exit 8 (s4_11))))))
noncomputable def spec_l19Fault_L3 (x0 : MSetFunctor) (s2_9 : Int) (s3_10 : Int) : Option (Out (Int) (Int × Int × Int × Int)) :=
  (bif decide (s3_10 < (x0.Shape.From.length : Int)) then ((idx x0.Shape.To (s2_9)) >>= fun e72 => ((idx x0.Shape.From (s3_10)) >>= fun e74 => (bif (e72) != (e74) then (some (Out.norm (w64 (s3_10 + (1 : Int))))) else (lbind (blockM 8 (loopM (spec_l19Fault_L4 x0 s2_9 s3_10) ((0 : Int)))) (fun s4_11 => (some (Out.norm (w64 (s3_10 + (1 : Int)))))))))) else (some (Out.exit 6 (s3_10))))
noncomputable def spec_l19Fault_L2 (x0 : MSetFunctor) (s2_9 : Int) : Option (Out (Int) (Int × Int × Int × Int)) :=
  (bif decide (s2_9 < (x0.Shape.From.length : Int)) then (lbind (blockM 6 (loopM (spec_l19Fault_L3 x0 s2_9) ((0 : Int)))) (fun s3_10 => (some (Out.norm (w64 (s2_9 + (1 : Int))))))) else (some (Out.exit 4 (s2_9))))
noncomputable def spec_l19Fault (x0 : MSetFunctor) : Option (Int × Int × Int × Int) :=
  retM (S := Unit) (lbind (blockM 0 (loopM (spec_l19Fault_L0 x0) ((0 : Int)))) (fun s0_7 => (lbind (blockM 4 (loopM (spec_l19Fault_L2 x0) ((0 : Int)))) (fun s2_9 => (some (Out.ret ((((0 : Int)), ((0 : Int)), ((0 : Int)), ((0 : Int))))))))))
noncomputable def spec_l19Is (x0 : MSetFunctor) : Option (Bool) :=
  retM (S := Unit) ((spec_l19Shape x0) >>= fun y8 => (bif !(y8) then (some (Out.ret (false))) else ((spec_l19Fault x0) >>= fun y15 => (some (Out.ret (((y15.1) == ((0 : Int)))))))))
noncomputable def spec_l02Rises_L0 (x0 : (List Int)) (s0_3 : Int) : Option (Out (Int) (Bool)) :=
  (bif decide (s0_3 < (x0.length : Int)) then ((idx x0 (s0_3)) >>= fun e9 => ((idx x0 (w64 (s0_3 - (1 : Int)))) >>= fun e11 => (bif decide (e9 ≤ e11) then (some (Out.ret (false))) else (some (Out.norm (w64 (s0_3 + (1 : Int)))))))) else (some (Out.exit 0 (s0_3))))
noncomputable def spec_l02Rises (x0 : (List Int)) : Option (Bool) :=
  retM (S := Unit) (lbind (blockM 0 (loopM (spec_l02Rises_L0 x0) ((1 : Int)))) (fun s0_3 => (some (Out.ret (true)))))
noncomputable def spec_l01Has_L0 (x0 : (List Int)) (x1 : Int) (s0_5 : Int) : Option (Out (Int) (Bool)) :=
  (bif decide (s0_5 < (x0.length : Int)) then ((idx x0 (s0_5)) >>= fun e9 => (bif (e9) == (x1) then (some (Out.ret (true))) else (some (Out.norm (w64 (s0_5 + (1 : Int))))))) else (some (Out.exit 0 (s0_5))))
noncomputable def spec_l01Has (x0 : (List Int)) (x1 : Int) : Option (Bool) :=
  retM (S := Unit) (lbind (blockM 0 (loopM (spec_l01Has_L0 x0 x1) ((0 : Int)))) (fun s0_5 => (some (Out.ret (false)))))
noncomputable def spec_l25Part_L0 (x0 : MSetFunctor) (x1 : (List (List Int))) (s0_5 : Int) : Option (Out (Int) (Bool)) :=
  (bif decide (s0_5 < (x1.length : Int)) then ((((idx x1 (s0_5)) >>= fun e21 => ((spec_l02Rises e21) >>= fun y28 => (bif !(y28) then (some (true)) else ((idx x0.Sizes (s0_5)) >>= fun e31 => ((idx x1 (s0_5)) >>= fun e33 => ((spec_l01Map (e31) e33) >>= fun y40 => (some (!(y40)))))))))) >>= fun g19 => (bif g19 then (some (Out.ret (false))) else (some (Out.norm (w64 (s0_5 + (1 : Int))))))) else (some (Out.exit 0 (s0_5))))
noncomputable def spec_l25Part_L2 (x0 : MSetFunctor) (x1 : (List (List Int))) (s1_6 : Int) (e56 : Int) (e58 : Int) (s2_9 : Int) : Option (Out (Int) (Bool)) :=
  ((idx x1 (e56)) >>= fun e65 => (bif decide (s2_9 < (e65.length : Int)) then ((idx x1 (e58)) >>= fun e75 => ((idx x0.Actions (s1_6)) >>= fun e82 => ((idx x1 (e56)) >>= fun e89 => ((idx e89 (s2_9)) >>= fun e96 => ((idx e82 (e96)) >>= fun e98 => ((spec_l01Has e75 (e98)) >>= fun y100 => (bif !(y100) then (some (Out.ret (false))) else (some (Out.norm (w64 (s2_9 + (1 : Int)))))))))))) else (some (Out.exit 4 (s2_9)))))
noncomputable def spec_l25Part_L1 (x0 : MSetFunctor) (x1 : (List (List Int))) (s1_6 : Int) : Option (Out (Int) (Bool)) :=
  (bif decide (s1_6 < (x0.Actions.length : Int)) then ((idx x0.Shape.From (s1_6)) >>= fun e56 => ((idx x0.Shape.To (s1_6)) >>= fun e58 => (lbind (blockM 4 (loopM (spec_l25Part_L2 x0 x1 s1_6 e56 e58) ((0 : Int)))) (fun s2_9 => (some (Out.norm (w64 (s1_6 + (1 : Int))))))))) else (some (Out.exit 2 (s1_6))))
noncomputable def spec_l25Part (x0 : MSetFunctor) (x1 : (List (List Int))) : Option (Bool) :=
  retM (S := Unit) (bif ((x1.length : Int)) != ((x0.Sizes.length : Int)) then (some (Out.ret (false))) else (lbind (blockM 0 (loopM (spec_l25Part_L0 x0 x1) ((0 : Int)))) (fun s0_5 => (lbind (blockM 2 (loopM (spec_l25Part_L1 x0 x1) ((0 : Int)))) (fun s1_6 => (some (Out.ret (true))))))))
noncomputable def spec_IsPart (x0 : MSetFunctor) (x1 : MPart) : Option (Bool) :=
  retM (S := Unit) ((((spec_l19Is x0) >>= fun y18 => (bif y18 then ((spec_l25Part x0 x1.Members) >>= fun y21 => (some (y21))) else (some (false))))) >>= fun g16 => (some (Out.ret (g16))))
noncomputable def spec_l25Out_L0 (x0 : MCategory) (x1 : Int) (s0_5 : (List Int)) (s0_6 : Int) : Option (Out ((List Int) × Int) ((List Int))) :=
  (bif decide (s0_6 < (x0.From.length : Int)) then ((idx x0.From (s0_6)) >>= fun e25 => (bif (e25) == (x1) then ((fits 8 (s0_5.length + 1)) >>= fun n45 => (some (Out.norm (s0_5 ++ [s0_6], w64 (s0_6 + (1 : Int)))))) else (some (Out.norm (s0_5, w64 (s0_6 + (1 : Int))))))) else (some (Out.exit 0 (s0_5, s0_6))))
noncomputable def spec_l25Out (x0 : MCategory) (x1 : Int) : Option ((List Int)) :=
  retM (S := Unit) (lbind (blockM 0 (loopM (fun s => spec_l25Out_L0 x0 x1 s.1 s.2) (([] : (List Int)), (0 : Int)))) (fun (s0_5, s0_6) => (some (Out.ret (s0_5)))))
noncomputable def spec_l01Same_L0 (x0 : (List Int)) (x1 : (List Int)) (s0_5 : Int) : Option (Out (Int) (Bool)) :=
  (bif decide (s0_5 < (x0.length : Int)) then ((idx x0 (s0_5)) >>= fun e14 => ((idx x1 (s0_5)) >>= fun e16 => (bif (e14) != (e16) then (some (Out.ret (false))) else (some (Out.norm (w64 (s0_5 + (1 : Int)))))))) else (some (Out.exit 0 (s0_5))))
noncomputable def spec_l01Same (x0 : (List Int)) (x1 : (List Int)) : Option (Bool) :=
  retM (S := Unit) (bif ((x0.length : Int)) != ((x1.length : Int)) then (some (Out.ret (false))) else (lbind (blockM 0 (loopM (spec_l01Same_L0 x0 x1) ((0 : Int)))) (fun s0_5 => (some (Out.ret (true))))))
noncomputable def spec_l05Place_L0 (x0 : (List (List Int))) (x1 : (List Int)) (s0_5 : Int) : Option (Out (Int) (Int)) :=
  (bif decide (s0_5 < (x0.length : Int)) then ((idx x0 (s0_5)) >>= fun e9 => ((spec_l01Same e9 x1) >>= fun y16 => (bif y16 then (some (Out.ret (s0_5))) else (some (Out.norm (w64 (s0_5 + (1 : Int)))))))) else (some (Out.exit 0 (s0_5))))
noncomputable def spec_l05Place (x0 : (List (List Int))) (x1 : (List Int)) : Option (Int) :=
  retM (S := Unit) (lbind (blockM 0 (loopM (spec_l05Place_L0 x0 x1) ((0 : Int)))) (fun s0_5 => (some (Out.ret (((-1 : Int)))))))
noncomputable def spec_l01Own (x0 : (List Int)) : Option ((List Int)) :=
  retM (S := Unit) ((fits 8 ((([] : (List Int))).length + x0.length)) >>= fun n15 => (some (Out.ret ((([] : (List Int)) ++ x0)))))
noncomputable def spec_l02Then (x0 : MCategory) (x1 : Int) (x2 : Int) : Option (Int) :=
  retM (S := Unit) ((idx x0.Composites (x1)) >>= fun e8 => ((idx e8 (x2)) >>= fun e15 => (some (Out.ret (e15)))))
noncomputable def spec_l25Close_L1 (x0 : MCategory) (x1 : (List Int)) (s0_6 : Int) (s1_7 : Int) (s1_o14 : (List Bool)) : Option (Out (Int × (List Bool)) ((List Int))) :=
  (bif decide (s1_7 < (x0.From.length : Int)) then ((idx x1 (s0_6)) >>= fun e31 => ((idx x0.To (e31)) >>= fun e33 => ((idx x0.From (s1_7)) >>= fun e35 => (bif (e33) == (e35) then ((idx x1 (s0_6)) >>= fun e40 => ((spec_l02Then x0 (e40) (s1_7)) >>= fun y45 => ((idx s1_o14 (y45)) >>= fun e49 => (some (Out.norm (w64 (s1_7 + (1 : Int)), s1_o14.set (y45).toNat (true))))))) else (some (Out.norm (w64 (s1_7 + (1 : Int)), s1_o14))))))) else (some (Out.exit 2 (s1_7, s1_o14))))
noncomputable def spec_l25Close_L0 (x0 : MCategory) (x1 : (List Int)) (s0_6 : Int) (s0_o14 : (List Bool)) : Option (Out (Int × (List Bool)) ((List Int))) :=
  (bif decide (s0_6 < (x1.length : Int)) then (lbind (blockM 2 (loopM (fun s => spec_l25Close_L1 x0 x1 s0_6 s.1 s.2) ((0 : Int), s0_o14))) (fun (s1_7, s1_o14) => (some (Out.norm (w64 (s0_6 + (1 : Int)), s1_o14))))) else (some (Out.exit 0 (s0_6, s0_o14))))
noncomputable def spec_l25Close_L2 (s0_o14 : (List Bool)) (s2_8 : (List Int)) (s2_9 : Int) : Option (Out ((List Int) × Int) ((List Int))) :=
  (bif decide (s2_9 < (s0_o14.length : Int)) then ((idx s0_o14 (s2_9)) >>= fun e80 => (bif e80 then ((fits 8 (s2_8.length + 1)) >>= fun n100 => (some (Out.norm (s2_8 ++ [s2_9], w64 (s2_9 + (1 : Int)))))) else (some (Out.norm (s2_8, w64 (s2_9 + (1 : Int))))))) else (some (Out.exit 4 (s2_8, s2_9))))
noncomputable def spec_l25Close (x0 : MCategory) (x1 : (List Int)) : Option ((List Int)) :=
  retM (S := Unit) ((mk 1 ((x0.From.length : Int))) >>= fun n8 => (lbind (blockM 0 (loopM (fun s => spec_l25Close_L0 x0 x1 s.1 s.2) ((0 : Int), List.replicate n8 false))) (fun (s0_6, s0_o14) => (lbind (blockM 4 (loopM (fun s => spec_l25Close_L2 s0_o14 s.1 s.2) (([] : (List Int)), (0 : Int)))) (fun (s2_8, s2_9) => (some (Out.ret (s2_8))))))))
noncomputable def spec_l25Grow_L0 (rc : MCategory → (List Int) → (List Int) → (List (List Int)) → Option ((List (List Int)))) (x0 : MCategory) (x1 : (List Int)) (x2 : (List Int)) (s0_3 : (List (List Int))) (s0_9 : Int) : Option (Out ((List (List Int)) × Int) ((List (List Int)))) :=
  (bif decide (s0_9 < (x1.length : Int)) then ((idx x1 (s0_9)) >>= fun e95 => ((spec_l01Has x2 (e95)) >>= fun y97 => (bif !(y97) then ((spec_l01Own x2) >>= fun y102 => ((idx x1 (s0_9)) >>= fun e107 => ((fits 8 (y102.length + 1)) >>= fun n112 => ((spec_l25Close x0 (y102 ++ [e107])) >>= fun y117 => ((rc x0 x1 y117 s0_3) >>= fun y158 => (some (Out.norm (y158, w64 (s0_9 + (1 : Int)))))))))) else (some (Out.norm (s0_3, w64 (s0_9 + (1 : Int)))))))) else (some (Out.exit 0 (s0_3, s0_9))))
noncomputable def spec_l25Grow_S (rc : MCategory → (List Int) → (List Int) → (List (List Int)) → Option ((List (List Int)))) (x0 : MCategory) (x1 : (List Int)) (x2 : (List Int)) (x3 : (List (List Int))) : Option ((List (List Int))) :=
  retM (S := Unit) ((((spec_l05Place x3 x2) >>= fun y24 => (bif decide (y24 ≥ (0 : Int)) then (some (true)) else (some (decide ((x3.length : Int) > (16 : Int))))))) >>= fun g22 => (bif g22 then (some (Out.ret (x3))) else ((fits 24 (x3.length + 1)) >>= fun n54 => (lbind (blockM 0 (loopM (fun s => spec_l25Grow_L0 rc x0 x1 x2 s.1 s.2) (x3 ++ [x2], (0 : Int)))) (fun (s0_3, s0_9) => (some (Out.ret (s0_3))))))))
noncomputable def spec_l25Grow : Nat → MCategory → (List Int) → (List Int) → (List (List Int)) → Option ((List (List Int)))
  | 0 => fun _ _ _ _ => none
  | n + 1 => spec_l25Grow_S (spec_l25Grow n)
noncomputable def spec_l01Less_L0 (x0 : (List Int)) (x1 : (List Int)) (s0_5 : Int) : Option (Out (Int) (Bool)) :=
  (((bif decide (s0_5 < (x0.length : Int)) then (some (decide (s0_5 < (x1.length : Int)))) else (some (false)))) >>= fun g6 => (bif g6 then ((idx x0 (s0_5)) >>= fun e12 => ((idx x1 (s0_5)) >>= fun e14 => (bif (e12) != (e14) then ((idx x0 (s0_5)) >>= fun e19 => ((idx x1 (s0_5)) >>= fun e21 => (some (Out.ret ((decide (e19 < e21))))))) else (some (Out.norm (w64 (s0_5 + (1 : Int)))))))) else (some (Out.exit 0 (s0_5)))))
noncomputable def spec_l01Less (x0 : (List Int)) (x1 : (List Int)) : Option (Bool) :=
  retM (S := Unit) (lbind (blockM 0 (loopM (spec_l01Less_L0 x0 x1) ((0 : Int)))) (fun s0_5 => (some (Out.ret ((decide ((x0.length : Int) < (x1.length : Int))))))))
noncomputable def spec_l25Sorted_L1 (s1_5 : Int) (s1_o14 : (List (List Int))) : Option (Out (Int × (List (List Int))) ((List (List Int)))) :=
  (((bif decide (s1_5 > (0 : Int)) then ((idx s1_o14 (s1_5)) >>= fun e44 => ((idx s1_o14 (w64 (s1_5 - (1 : Int)))) >>= fun e51 => ((spec_l01Less e44 e51) >>= fun y58 => (some (y58))))) else (some (false)))) >>= fun g41 => (bif g41 then ((idx s1_o14 (s1_5)) >>= fun e63 => ((idx s1_o14 (w64 (s1_5 - (1 : Int)))) >>= fun e72 => ((idx s1_o14 (s1_5)) >>= fun e79 => ((idx (s1_o14.set (s1_5).toNat e72) (w64 (s1_5 - (1 : Int)))) >>= fun e93 => (some (Out.norm (w64 (s1_5 - (1 : Int)), (s1_o14.set (s1_5).toNat e72).set (w64 (s1_5 - (1 : Int))).toNat e63))))))) else (some (Out.exit 2 (s1_5, s1_o14)))))
noncomputable def spec_l25Sorted_L0 (s0_4 : Int) (s0_o14 : (List (List Int))) : Option (Out (Int × (List (List Int))) ((List (List Int)))) :=
  (bif decide (s0_4 < (s0_o14.length : Int)) then (lbind (blockM 2 (loopM (fun s => spec_l25Sorted_L1 s.1 s.2) (s0_4, s0_o14))) (fun (s1_5, s1_o14) => (some (Out.norm (w64 (s0_4 + (1 : Int)), s1_o14))))) else (some (Out.exit 0 (s0_4, s0_o14))))
noncomputable def spec_l25Sorted (x0 : (List (List Int))) : Option ((List (List Int))) :=
  retM (S := Unit) ((fits 24 ((([] : (List (List Int)))).length + x0.length)) >>= fun n16 => (lbind (blockM 0 (loopM (fun s => spec_l25Sorted_L0 s.1 s.2) ((1 : Int), ([] : (List (List Int))) ++ x0))) (fun (s0_4, s0_o14) => (some (Out.ret (s0_o14))))))
noncomputable def spec_l25All (x0 : MCategory) (x1 : Int) : Option ((List (List Int)) × Bool) :=
  retM (S := Unit) ((spec_l25Out x0 (x1)) >>= fun y8 => ((spec_l25Grow 32 x0 y8 (([] : (List Int))) (([] : (List (List Int))))) >>= fun y28 => ((spec_l25Sorted y28) >>= fun y45 => (some (Out.ret ((y45, (decide ((y28.length : Int) ≤ (16 : Int))))))))))
noncomputable def spec_l25Lists_L0 (x0 : MCategory) (s0_4 : (List (List (List Int)))) (s0_5 : Int) : Option (Out ((List (List (List Int))) × Int) ((List (List (List Int))) × Bool)) :=
  (bif decide (s0_5 < x0.Objects) then ((spec_l25All x0 (s0_5)) >>= fun y29 => (bif !(y29.2) then (some (Out.ret ((([]), false)))) else ((fits 24 (s0_4.length + 1)) >>= fun n63 => (some (Out.norm (s0_4 ++ [y29.1], w64 (s0_5 + (1 : Int)))))))) else (some (Out.exit 0 (s0_4, s0_5))))
noncomputable def spec_l25Lists (x0 : MCategory) : Option ((List (List (List Int))) × Bool) :=
  retM (S := Unit) (lbind (blockM 0 (loopM (fun s => spec_l25Lists_L0 x0 s.1 s.2) (([] : (List (List (List Int)))), (0 : Int)))) (fun (s0_4, s0_5) => (some (Out.ret ((s0_4, true))))))
noncomputable def spec_l25Value_L0 (x0 : MSetFunctor) (x1 : (List (List Int))) (x2 : Int) (x3 : Int) (s0_9 : (List Int)) (s0_10 : Int) : Option (Out ((List Int) × Int) ((List Int))) :=
  (bif decide (s0_10 < (x0.Actions.length : Int)) then ((((idx x0.Shape.From (s0_10)) >>= fun e27 => (bif (e27) == (x2) then ((idx x0.Shape.To (s0_10)) >>= fun e30 => ((idx x1 (e30)) >>= fun e32 => ((idx x0.Actions (s0_10)) >>= fun e39 => ((idx e39 (x3)) >>= fun e46 => ((spec_l01Has e32 (e46)) >>= fun y48 => (some (y48))))))) else (some (false))))) >>= fun g25 => (bif g25 then ((fits 8 (s0_9.length + 1)) >>= fun n68 => (some (Out.norm (s0_9 ++ [s0_10], w64 (s0_10 + (1 : Int)))))) else (some (Out.norm (s0_9, w64 (s0_10 + (1 : Int))))))) else (some (Out.exit 0 (s0_9, s0_10))))
noncomputable def spec_l25Value (x0 : MSetFunctor) (x1 : (List (List Int))) (x2 : Int) (x3 : Int) : Option ((List Int)) :=
  retM (S := Unit) (lbind (blockM 0 (loopM (fun s => spec_l25Value_L0 x0 x1 x2 x3 s.1 s.2) (([] : (List Int)), (0 : Int)))) (fun (s0_9, s0_10) => (some (Out.ret (s0_9)))))
noncomputable def spec_l01Own2_L0 (x0 : (List (List Int))) (s0_3 : (List (List Int))) (s0_4 : Int) : Option (Out ((List (List Int)) × Int) ((List (List Int)))) :=
  (bif decide (s0_4 < (x0.length : Int)) then ((idx x0 (s0_4)) >>= fun e18 => ((spec_l01Own e18) >>= fun y25 => ((fits 24 (s0_3.length + 1)) >>= fun n49 => (some (Out.norm (s0_3 ++ [y25], w64 (s0_4 + (1 : Int)))))))) else (some (Out.exit 0 (s0_3, s0_4))))
noncomputable def spec_l01Own2 (x0 : (List (List Int))) : Option ((List (List Int))) :=
  retM (S := Unit) (lbind (blockM 0 (loopM (fun s => spec_l01Own2_L0 x0 s.1 s.2) (([] : (List (List Int))), (0 : Int)))) (fun (s0_3, s0_4) => (some (Out.ret (s0_3)))))
noncomputable def spec_l02Own (x0 : MCategory) : Option (MCategory) :=
  retM (S := Unit) ((spec_l01Own x0.From) >>= fun y16 => ((spec_l01Own x0.To) >>= fun y21 => ((spec_l01Own x0.Identity) >>= fun y26 => ((spec_l01Own2 x0.Composites) >>= fun y31 => (some (Out.ret ((MCategory.mk x0.Objects y16 y21 y26 y31))))))))
noncomputable def spec_l25Pull_L0 (x0 : MCategory) (x1 : Int) (x2 : (List Int)) (s0_7 : (List Int)) (s0_8 : Int) : Option (Out ((List Int) × Int) ((List Int))) :=
  (bif decide (s0_8 < (x0.From.length : Int)) then ((((idx x0.To (x1)) >>= fun e27 => ((idx x0.From (s0_8)) >>= fun e29 => (bif (e27) == (e29) then ((spec_l02Then x0 (x1) (s0_8)) >>= fun y32 => ((spec_l01Has x2 (y32)) >>= fun y34 => (some (y34)))) else (some (false)))))) >>= fun g25 => (bif g25 then ((fits 8 (s0_7.length + 1)) >>= fun n54 => (some (Out.norm (s0_7 ++ [s0_8], w64 (s0_8 + (1 : Int)))))) else (some (Out.norm (s0_7, w64 (s0_8 + (1 : Int))))))) else (some (Out.exit 0 (s0_7, s0_8))))
noncomputable def spec_l25Pull (x0 : MCategory) (x1 : Int) (x2 : (List Int)) : Option ((List Int)) :=
  retM (S := Unit) (lbind (blockM 0 (loopM (fun s => spec_l25Pull_L0 x0 x1 x2 s.1 s.2) (([] : (List Int)), (0 : Int)))) (fun (s0_7, s0_8) => (some (Out.ret (s0_7)))))
noncomputable def spec_l25Make_L0 (x1 : (List (List (List Int)))) (s0_6 : Int) (s0_b47_5 : (List Int)) : Option (Out (Int × (List Int)) (MSetFunctor)) :=
  (bif decide (s0_6 < (x1.length : Int)) then ((idx x1 (s0_6)) >>= fun e101 => ((fits 8 (s0_b47_5.length + 1)) >>= fun n129 => (some (Out.norm (w64 (s0_6 + (1 : Int)), s0_b47_5 ++ [(e101.length : Int)]))))) else (some (Out.exit 0 (s0_6, s0_b47_5))))
noncomputable def spec_l25Make_L2 (x0 : MCategory) (x1 : (List (List (List Int)))) (s1_7 : Int) (s2_8 : (List Int)) (s2_9 : Int) : Option (Out ((List Int) × Int) (MSetFunctor)) :=
  ((idx x0.From (s1_7)) >>= fun e258 => ((idx x1 (e258)) >>= fun e260 => (bif decide (s2_9 < (e260.length : Int)) then ((idx x0.To (s1_7)) >>= fun e270 => ((idx x1 (e270)) >>= fun e272 => ((idx x0.From (s1_7)) >>= fun e279 => ((idx x1 (e279)) >>= fun e281 => ((idx e281 (s2_9)) >>= fun e288 => ((spec_l25Pull x0 (s1_7) e288) >>= fun y295 => ((spec_l05Place e272 y295) >>= fun y300 => ((fits 8 (s2_8.length + 1)) >>= fun n336 => (some (Out.norm (s2_8 ++ [y300], w64 (s2_9 + (1 : Int))))))))))))) else (some (Out.exit 4 (s2_8, s2_9))))))
noncomputable def spec_l25Make_L1 (x0 : MCategory) (x1 : (List (List (List Int)))) (s1_7 : Int) (s1_b47_6 : (List (List Int))) : Option (Out (Int × (List (List Int))) (MSetFunctor)) :=
  (bif decide (s1_7 < (x0.From.length : Int)) then (lbind (blockM 4 (loopM (fun s => spec_l25Make_L2 x0 x1 s1_7 s.1 s.2) (([] : (List Int)), (0 : Int)))) (fun (s2_8, s2_9) => ((fits 24 (s1_b47_6.length + 1)) >>= fun n376 => (some (Out.norm (w64 (s1_7 + (1 : Int)), s1_b47_6 ++ [s2_8])))))) else (some (Out.exit 2 (s1_7, s1_b47_6))))
noncomputable def spec_l25Make (x0 : MCategory) (x1 : (List (List (List Int)))) : Option (MSetFunctor) :=
  retM (S := Unit) ((spec_l02Own x0) >>= fun y16 => (lbind (blockM 0 (loopM (fun s => spec_l25Make_L0 x1 s.1 s.2) ((0 : Int), []))) (fun (s0_6, s0_b47_5) => (lbind (blockM 2 (loopM (fun s => spec_l25Make_L1 x0 x1 s.1 s.2) ((0 : Int), []))) (fun (s1_7, s1_b47_6) => (some (Out.ret ((MSetFunctor.mk y16 s0_b47_5 s1_b47_6)))))))))
noncomputable def spec_l19Own (x0 : MSetFunctor) : Option (MSetFunctor) :=
  retM (S := Unit) ((spec_l02Own x0.Shape) >>= fun y16 => ((spec_l01Own x0.Sizes) >>= fun y30 => ((spec_l01Own2 x0.Actions) >>= fun y56 => (some (Out.ret ((MSetFunctor.mk y16 y30 y56)))))))
noncomputable def spec_l19Make (x0 : MSetFunctor) (x1 : MSetFunctor) (x2 : (List (List Int))) : Option (MSetMap) :=
  retM (S := Unit) ((spec_l19Own x0) >>= fun y25 => ((spec_l19Own x1) >>= fun y45 => ((spec_l01Own2 x2) >>= fun y152 => (some (Out.ret ((MSetMap.mk y25 y45 y152)))))))
noncomputable def impl_Category_arrows (x0 : MCategory) : Option (Int) :=
  retM (S := Unit) (some (Out.ret (((x0.From.length : Int)))))
noncomputable def impl_inRange (x0 : Int) (x1 : Int) (x2 : Int) : Option (Bool) :=
  retM (S := Unit) (((bif decide (x0 ≥ x1) then (some (decide (x0 ≤ x2))) else (some (false)))) >>= fun g3 => (some (Out.ret (g3))))
noncomputable def impl_within_L0 (x0 : (List Int)) (x1 : Int) (s0_9 : Int) : Option (Out (Int) (Bool)) :=
  (bif decide (s0_9 < (x0.length : Int)) then ((idx x0 (s0_9)) >>= fun e9 => ((impl_inRange (e9) ((0 : Int)) (w64 (x1 - (1 : Int)))) >>= fun y13 => (bif !(y13) then (some (Out.ret (false))) else (some (Out.norm (w64 (s0_9 + (1 : Int)))))))) else (some (Out.exit 0 (s0_9))))
noncomputable def impl_within (x0 : (List Int)) (x1 : Int) : Option (Bool) :=
  retM (S := Unit) (lbind (blockM 0 (loopM (impl_within_L0 x0 x1) ((0 : Int)))) (fun s0_9 => (some (Out.ret (true)))))
noncomputable def impl_Category_ends (x0 : MCategory) (x1 : Int) : Option (MEnds) :=
  retM (S := Unit) ((idx x0.From (x1)) >>= fun e8 => ((idx x0.To (x1)) >>= fun e10 => (some (Out.ret ((MEnds.mk e8 e10))))))
noncomputable def impl_Category_isShape_L0 (x0 : MCategory) (s0_88 : Int) : Option (Out (Int) (Bool)) :=
  (bif decide (s0_88 < (x0.Identity.length : Int)) then ((idx x0.Identity (s0_88)) >>= fun e41 => ((impl_Category_ends x0 (e41)) >>= fun y45 => (bif !((y45.From) == (s0_88) && (y45.To) == (s0_88)) then (some (Out.ret (false))) else (some (Out.norm (w64 (s0_88 + (1 : Int)))))))) else (some (Out.exit 0 (s0_88))))
noncomputable def impl_Category_isShape_L2 (x0 : MCategory) (y3 : Int) (s1_106 : Int) (e61 : (List Int)) (s2_117 : Int) : Option (Out (Int) (Bool)) :=
  (bif decide (s2_117 < (e61.length : Int)) then ((idx e61 (s2_117)) >>= fun e81 => ((idx x0.To (s1_106)) >>= fun e85 => ((idx x0.From (s2_117)) >>= fun e87 => (bif (e85) != (e87) then (bif (e81) != ((-1 : Int)) then (some (Out.ret (false))) else (some (Out.norm (w64 (s2_117 + (1 : Int)))))) else ((((impl_inRange (e81) ((0 : Int)) (w64 (y3 - (1 : Int)))) >>= fun y101 => (bif !(y101) then (some (true)) else ((impl_Category_ends x0 (e81)) >>= fun y104 => ((idx x0.From (s1_106)) >>= fun e106 => ((idx x0.To (s2_117)) >>= fun e108 => (some (!((y104.From) == (e106) && (y104.To) == (e108)))))))))) >>= fun g99 => (bif g99 then (some (Out.ret (false))) else (some (Out.norm (w64 (s2_117 + (1 : Int))))))))))) else (some (Out.exit 4 (s2_117))))
noncomputable def impl_Category_isShape_L1 (x0 : MCategory) (y3 : Int) (s1_106 : Int) : Option (Out (Int) (Bool)) :=
  (bif decide (s1_106 < (x0.Composites.length : Int)) then ((idx x0.Composites (s1_106)) >>= fun e61 => (bif ((e61.length : Int)) != (y3) then (some (Out.ret (false))) else (lbind (blockM 4 (loopM (impl_Category_isShape_L2 x0 y3 s1_106 e61) ((0 : Int)))) (fun s2_117 => (some (Out.norm (w64 (s1_106 + (1 : Int))))))))) else (some (Out.exit 2 (s1_106))))
noncomputable def impl_Category_isShape (x0 : MCategory) : Option (Bool) :=
  retM (S := Unit) ((impl_Category_arrows x0) >>= fun y3 => ((((impl_inRange (x0.Objects) ((0 : Int)) ((8 : Int))) >>= fun y9 => (bif !(y9) then (some (true)) else (bif decide (y3 > (40 : Int)) then (some (true)) else (bif ((x0.To.length : Int)) != (y3) then (some (true)) else ((impl_within x0.From (x0.Objects)) >>= fun y14 => (bif !(y14) then (some (true)) else ((impl_within x0.To (x0.Objects)) >>= fun y17 => (some (!(y17))))))))))) >>= fun g7 => (bif g7 then (some (Out.ret (false))) else (((bif ((x0.Identity.length : Int)) != (x0.Objects) then (some (true)) else ((impl_within x0.Identity (y3)) >>= fun y27 => (bif !(y27) then (some (true)) else (some (((x0.Composites.length : Int)) != (y3))))))) >>= fun g24 => (bif g24 then (some (Out.ret (false))) else (lbind (blockM 0 (loopM (impl_Category_isShape_L0 x0) ((0 : Int)))) (fun s0_88 => (lbind (blockM 2 (loopM (impl_Category_isShape_L1 x0 y3) ((0 : Int)))) (fun s1_106 => (some (Out.ret (true))))))))))))
noncomputable def impl_Category_then (x0 : MCategory) (x1 : Int) (x2 : Int) : Option (Int) :=
  retM (S := Unit) ((idx x0.Composites (x1)) >>= fun e3 => ((idx e3 (x2)) >>= fun e10 => (some (Out.ret (e10)))))
noncomputable def impl_Category_fault_L0 (x0 : MCategory) (y3 : Int) (s0_7 : Int) : Option (Out (Int) (Int × Int × Int × Int)) :=
  (bif decide (s0_7 < y3) then ((((idx x0.From (s0_7)) >>= fun e15 => ((idx x0.Identity (e15)) >>= fun e17 => ((impl_Category_then x0 (e17) (s0_7)) >>= fun y19 => (bif (y19) != (s0_7) then (some (true)) else ((idx x0.To (s0_7)) >>= fun e22 => ((idx x0.Identity (e22)) >>= fun e24 => ((impl_Category_then x0 (s0_7) (e24)) >>= fun y26 => (some ((y26) != (s0_7))))))))))) >>= fun g13 => (bif g13 then (some (Out.ret ((((1 : Int)), s0_7, ((0 : Int)), ((0 : Int)))))) else (some (Out.norm (w64 (s0_7 + (1 : Int))))))) else (some (Out.exit 0 (s0_7))))
noncomputable def impl_Category_fault_L3 (x0 : MCategory) (y3 : Int) (s1_8 : Int) (s2_9 : Int) (s3_10 : Int) : Option (Out (Int) (Int × Int × Int × Int)) :=
  (bif decide (s3_10 < y3) then ((((impl_Category_then x0 (s2_9) (s3_10)) >>= fun y63 => (bif decide (y63 ≥ (0 : Int)) then ((impl_Category_then x0 (s1_8) (s2_9)) >>= fun y66 => ((impl_Category_then x0 (y66) (s3_10)) >>= fun y68 => ((impl_Category_then x0 (s2_9) (s3_10)) >>= fun y70 => ((impl_Category_then x0 (s1_8) (y70)) >>= fun y72 => (some ((y68) != (y72))))))) else (some (false))))) >>= fun g61 => (bif g61 then (some (Out.ret ((((2 : Int)), s1_8, s2_9, s3_10)))) else (some (Out.norm (w64 (s3_10 + (1 : Int))))))) else (some (Out.exit 6 (s3_10))))
noncomputable def impl_Category_fault_L2 (x0 : MCategory) (y3 : Int) (s1_8 : Int) (s2_9 : Int) : Option (Out (Int) (Int × Int × Int × Int)) :=
  (bif decide (s2_9 < y3) then ((impl_Category_then x0 (s1_8) (s2_9)) >>= fun y48 => (bif decide (y48 < (0 : Int)) then (some (Out.norm (w64 (s2_9 + (1 : Int))))) else (lbind (blockM 6 (loopM (impl_Category_fault_L3 x0 y3 s1_8 s2_9) ((0 : Int)))) (fun s3_10 => (some (Out.norm (w64 (s2_9 + (1 : Int))))))))) else (some (Out.exit 4 (s2_9))))
noncomputable def impl_Category_fault_L1 (x0 : MCategory) (y3 : Int) (s1_8 : Int) : Option (Out (Int) (Int × Int × Int × Int)) :=
  (bif decide (s1_8 < y3) then (lbind (blockM 4 (loopM (impl_Category_fault_L2 x0 y3 s1_8) ((0 : Int)))) (fun s2_9 => (some (Out.norm (w64 (s1_8 + (1 : Int))))))) else (some (Out.exit 2 (s1_8))))
noncomputable def impl_Category_fault (x0 : MCategory) : Option (Int × Int × Int × Int) :=
  retM (S := Unit) ((impl_Category_arrows x0) >>= fun y3 => (lbind (blockM 0 (loopM (impl_Category_fault_L0 x0 y3) ((0 : Int)))) (fun s0_7 => (lbind (blockM 2 (loopM (impl_Category_fault_L1 x0 y3) ((0 : Int)))) (fun s1_8 => (some (Out.ret ((((0 : Int)), ((0 : Int)), ((0 : Int)), ((0 : Int)))))))))))
noncomputable def impl_Category_isCategory (x0 : MCategory) : Option (Bool) :=
  retM (S := Unit) ((impl_Category_isShape x0) >>= fun y3 => (bif !(y3) then (some (Out.ret (false))) else ((impl_Category_fault x0) >>= fun y10 => (some (Out.ret (((y10.1) == ((0 : Int)))))))))
noncomputable def impl_isMapOf (x0 : (List Int)) (x1 : Int) (x2 : Int) : Option (Bool) :=
  retM (S := Unit) (((bif ((x0.length : Int)) == (x1) then ((impl_within x0 (x2)) >>= fun y6 => (some (y6))) else (some (false)))) >>= fun g3 => (some (Out.ret (g3))))
noncomputable def impl_SetFunctor_isShape_L0 (x0 : MSetFunctor) (s0_47 : Int) : Option (Out (Int) (Bool)) :=
  (bif decide (s0_47 < (x0.Actions.length : Int)) then ((idx x0.Actions (s0_47)) >>= fun e28 => ((idx x0.Shape.From (s0_47)) >>= fun e37 => ((idx x0.Sizes (e37)) >>= fun e39 => ((idx x0.Shape.To (s0_47)) >>= fun e41 => ((idx x0.Sizes (e41)) >>= fun e43 => ((impl_isMapOf e28 (e39) (e43)) >>= fun y45 => (bif !(y45) then (some (Out.ret (false))) else (some (Out.norm (w64 (s0_47 + (1 : Int)))))))))))) else (some (Out.exit 0 (s0_47))))
noncomputable def impl_SetFunctor_isShape (x0 : MSetFunctor) : Option (Bool) :=
  retM (S := Unit) ((((impl_Category_isCategory x0.Shape) >>= fun y8 => (bif !(y8) then (some (true)) else (bif ((x0.Sizes.length : Int)) != (x0.Shape.Objects) then (some (true)) else ((impl_within x0.Sizes ((17 : Int))) >>= fun y12 => (bif !(y12) then (some (true)) else ((impl_Category_arrows x0.Shape) >>= fun y15 => (some (((x0.Actions.length : Int)) != (y15)))))))))) >>= fun g6 => (bif g6 then (some (Out.ret (false))) else (lbind (blockM 0 (loopM (impl_SetFunctor_isShape_L0 x0) ((0 : Int)))) (fun s0_47 => (some (Out.ret (true)))))))
noncomputable def impl_SetFunctor_fault_L1 (s0_25 : Int) (e16 : (List Int)) (s1_38 : Int) : Option (Out (Int) (Int × Int × Int × Int)) :=
  (bif decide (s1_38 < (e16.length : Int)) then ((idx e16 (s1_38)) >>= fun e29 => (bif (e29) != (s1_38) then (some (Out.ret ((((1 : Int)), s0_25, s1_38, ((0 : Int)))))) else (some (Out.norm (w64 (s1_38 + (1 : Int))))))) else (some (Out.exit 2 (s1_38))))
noncomputable def impl_SetFunctor_fault_L0 (x0 : MSetFunctor) (s0_25 : Int) : Option (Out (Int) (Int × Int × Int × Int)) :=
  (bif decide (s0_25 < (x0.Shape.Identity.length : Int)) then ((idx x0.Shape.Identity (s0_25)) >>= fun e12 => ((idx x0.Actions (e12)) >>= fun e16 => (lbind (blockM 2 (loopM (impl_SetFunctor_fault_L1 s0_25 e16) ((0 : Int)))) (fun s1_38 => (some (Out.norm (w64 (s0_25 + (1 : Int))))))))) else (some (Out.exit 0 (s0_25))))
noncomputable def impl_SetFunctor_fault_L4 (x0 : MSetFunctor) (s2_55 : Int) (s3_62 : Int) (e65 : Int) (e74 : (List Int)) (s4_77 : Int) : Option (Out (Int) (Int × Int × Int × Int)) :=
  (bif decide (s4_77 < (e74.length : Int)) then ((idx e74 (s4_77)) >>= fun e87 => ((idx x0.Actions (e65)) >>= fun e91 => ((idx e91 (s4_77)) >>= fun e98 => ((idx x0.Actions (s3_62)) >>= fun e100 => ((idx e100 (e87)) >>= fun e107 => (bif (e98) != (e107) then (some (Out.ret ((((2 : Int)), s2_55, s3_62, s4_77)))) else (some (Out.norm (w64 (s4_77 + (1 : Int))))))))))) else (some (Out.exit 8 (s4_77))))
noncomputable def impl_SetFunctor_fault_L3 (x0 : MSetFunctor) (s2_55 : Int) (e50 : (List Int)) (s3_62 : Int) : Option (Out (Int) (Int × Int × Int × Int)) :=
  (bif decide (s3_62 < (e50.length : Int)) then ((idx e50 (s3_62)) >>= fun e65 => (bif decide (e65 < (0 : Int)) then (some (Out.norm (w64 (s3_62 + (1 : Int))))) else ((idx x0.Actions (s2_55)) >>= fun e74 => (lbind (blockM 8 (loopM (impl_SetFunctor_fault_L4 x0 s2_55 s3_62 e65 e74) ((0 : Int)))) (fun s4_77 => (some (Out.norm (w64 (s3_62 + (1 : Int)))))))))) else (some (Out.exit 6 (s3_62))))
noncomputable def impl_SetFunctor_fault_L2 (x0 : MSetFunctor) (s2_55 : Int) : Option (Out (Int) (Int × Int × Int × Int)) :=
  (bif decide (s2_55 < (x0.Shape.Composites.length : Int)) then ((idx x0.Shape.Composites (s2_55)) >>= fun e50 => (lbind (blockM 6 (loopM (impl_SetFunctor_fault_L3 x0 s2_55 e50) ((0 : Int)))) (fun s3_62 => (some (Out.norm (w64 (s2_55 + (1 : Int)))))))) else (some (Out.exit 4 (s2_55))))
noncomputable def impl_SetFunctor_fault (x0 : MSetFunctor) : Option (Int × Int × Int × Int) :=
  retM (S := Unit) (lbind (blockM 0 (loopM (impl_SetFunctor_fault_L0 x0) ((0 : Int)))) (fun s0_25 => (lbind (blockM 4 (loopM (impl_SetFunctor_fault_L2 x0) ((0 : Int)))) (fun s2_55 => (some (Out.ret ((((0 : Int)), ((0 : Int)), ((0 : Int)), ((0 : Int))))))))))
noncomputable def impl_SetFunctor_isSetFunctor (x0 : MSetFunctor) : Option (Bool) :=
  retM (S := Unit) ((impl_SetFunctor_isShape x0) >>= fun y3 => (bif !(y3) then (some (Out.ret (false))) else ((impl_SetFunctor_fault x0) >>= fun y10 => (some (Out.ret (((y10.1) == ((0 : Int)))))))))
noncomputable def impl_rising_L0 (x0 : (List Int)) (s0_3 : Int) : Option (Out (Int) (Bool)) :=
  (bif decide (s0_3 < (x0.length : Int)) then ((idx x0 (w64 (s0_3 - (1 : Int)))) >>= fun e9 => ((idx x0 (s0_3)) >>= fun e11 => (bif decide (e9 ≥ e11) then (some (Out.ret (false))) else (some (Out.norm (w64 (s0_3 + (1 : Int)))))))) else (some (Out.exit 0 (s0_3))))
noncomputable def impl_rising (x0 : (List Int)) : Option (Bool) :=
  retM (S := Unit) (lbind (blockM 0 (loopM (impl_rising_L0 x0) ((1 : Int)))) (fun s0_3 => (some (Out.ret (true)))))
noncomputable def impl_has_L0 (x0 : (List Int)) (x1 : Int) (s0_9 : Int) : Option (Out (Int) (Bool)) :=
  (bif decide (s0_9 < (x0.length : Int)) then ((idx x0 (s0_9)) >>= fun e9 => (bif (e9) == (x1) then (some (Out.ret (true))) else (some (Out.norm (w64 (s0_9 + (1 : Int))))))) else (some (Out.exit 0 (s0_9))))
noncomputable def impl_has (x0 : (List Int)) (x1 : Int) : Option (Bool) :=
  retM (S := Unit) (lbind (blockM 0 (loopM (impl_has_L0 x0 x1) ((0 : Int)))) (fun s0_9 => (some (Out.ret (false)))))
noncomputable def impl_SetFunctor_isPart_L0 (x0 : MSetFunctor) (x1 : MPart) (s0_23 : Int) : Option (Out (Int) (Bool)) :=
  (bif decide (s0_23 < (x1.Members.length : Int)) then ((idx x1.Members (s0_23)) >>= fun e19 => ((((impl_rising e19) >>= fun y30 => (bif !(y30) then (some (true)) else ((idx x0.Sizes (s0_23)) >>= fun e33 => ((impl_within e19 (e33)) >>= fun y35 => (some (!(y35)))))))) >>= fun g28 => (bif g28 then (some (Out.ret (false))) else (some (Out.norm (w64 (s0_23 + (1 : Int)))))))) else (some (Out.exit 0 (s0_23))))
noncomputable def impl_SetFunctor_isPart_L2 (x0 : MSetFunctor) (x1 : MPart) (s1_49 : Int) (e51 : (List Int)) (e63 : (List Int)) (s2_67 : Int) : Option (Out (Int) (Bool)) :=
  (bif decide (s2_67 < (e63.length : Int)) then ((idx e63 (s2_67)) >>= fun e76 => ((idx x0.Shape.To (s1_49)) >>= fun e81 => ((idx x1.Members (e81)) >>= fun e83 => ((idx e51 (e76)) >>= fun e90 => ((impl_has e83 (e90)) >>= fun y92 => (bif !(y92) then (some (Out.ret (false))) else (some (Out.norm (w64 (s2_67 + (1 : Int))))))))))) else (some (Out.exit 4 (s2_67))))
noncomputable def impl_SetFunctor_isPart_L1 (x0 : MSetFunctor) (x1 : MPart) (s1_49 : Int) : Option (Out (Int) (Bool)) :=
  (bif decide (s1_49 < (x0.Actions.length : Int)) then ((idx x0.Actions (s1_49)) >>= fun e51 => ((idx x0.Shape.From (s1_49)) >>= fun e61 => ((idx x1.Members (e61)) >>= fun e63 => (lbind (blockM 4 (loopM (impl_SetFunctor_isPart_L2 x0 x1 s1_49 e51 e63) ((0 : Int)))) (fun s2_67 => (some (Out.norm (w64 (s1_49 + (1 : Int)))))))))) else (some (Out.exit 2 (s1_49))))
noncomputable def impl_SetFunctor_isPart (x0 : MSetFunctor) (x1 : MPart) : Option (Bool) :=
  retM (S := Unit) (bif ((x1.Members.length : Int)) != ((x0.Sizes.length : Int)) then (some (Out.ret (false))) else (lbind (blockM 0 (loopM (impl_SetFunctor_isPart_L0 x0 x1) ((0 : Int)))) (fun s0_23 => (lbind (blockM 2 (loopM (impl_SetFunctor_isPart_L1 x0 x1) ((0 : Int)))) (fun s1_49 => (some (Out.ret (true))))))))
noncomputable def impl_areParts_L0 (x0 : MSetFunctor) (x1 : (List MPart)) (s0_12 : Int) : Option (Out (Int) (Bool)) :=
  (bif decide (s0_12 < (x1.length : Int)) then ((idx x1 (s0_12)) >>= fun e16 => ((impl_SetFunctor_isPart x0 e16) >>= fun y32 => (bif !(y32) then (some (Out.ret (false))) else (some (Out.norm (w64 (s0_12 + (1 : Int)))))))) else (some (Out.exit 0 (s0_12))))
noncomputable def impl_areParts (x0 : MSetFunctor) (x1 : (List MPart)) : Option (Bool) :=
  retM (S := Unit) ((impl_SetFunctor_isSetFunctor x0) >>= fun y3 => (bif !(y3) then (some (Out.ret (false))) else (lbind (blockM 0 (loopM (impl_areParts_L0 x0 x1) ((0 : Int)))) (fun s0_12 => (some (Out.ret (true)))))))
noncomputable def impl_clone (x0 : (List Int)) : Option ((List Int)) :=
  retM (S := Unit) ((fits 8 ((([] : (List Int))).length + x0.length)) >>= fun n15 => (some (Out.ret ((([] : (List Int)) ++ x0)))))
noncomputable def impl_clones_L0 (x0 : (List (List Int))) (s0_3 : (List (List Int))) (s0_11 : Int) : Option (Out ((List (List Int)) × Int) ((List (List Int)))) :=
  (bif decide (s0_11 < (x0.length : Int)) then ((idx x0 (s0_11)) >>= fun e20 => ((impl_clone e20) >>= fun y29 => ((fits 24 (s0_3.length + 1)) >>= fun n53 => (some (Out.norm (s0_3 ++ [y29], w64 (s0_11 + (1 : Int)))))))) else (some (Out.exit 0 (s0_3, s0_11))))
noncomputable def impl_clones (x0 : (List (List Int))) : Option ((List (List Int))) :=
  retM (S := Unit) ((mk 24 ((x0.length : Int))) >>= fun n3 => (lbind (blockM 0 (loopM (fun s => impl_clones_L0 x0 s.1 s.2) (([] : (List (List Int))), (0 : Int)))) (fun (s0_3, s0_11) => (some (Out.ret (s0_3))))))
noncomputable def impl_Category_copy (x0 : MCategory) : Option (MCategory) :=
  retM (S := Unit) ((impl_clone x0.From) >>= fun y8 => ((impl_clone x0.To) >>= fun y13 => ((impl_clone x0.Identity) >>= fun y18 => ((impl_clones x0.Composites) >>= fun y23 => (some (Out.ret ((MCategory.mk x0.Objects y8 y13 y18 y23))))))))
noncomputable def impl_Category_outOf_L0 (x0 : MCategory) (x1 : Int) (s0_5 : (List Int)) (s0_14 : Int) : Option (Out ((List Int) × Int) ((List Int))) :=
  (bif decide (s0_14 < (x0.From.length : Int)) then ((idx x0.From (s0_14)) >>= fun e18 => (bif (e18) == (x1) then ((fits 8 (s0_5.length + 1)) >>= fun n39 => (some (Out.norm (s0_5 ++ [s0_14], w64 (s0_14 + (1 : Int)))))) else (some (Out.norm (s0_5, w64 (s0_14 + (1 : Int))))))) else (some (Out.exit 0 (s0_5, s0_14))))
noncomputable def impl_Category_outOf (x0 : MCategory) (x1 : Int) : Option ((List Int)) :=
  retM (S := Unit) (lbind (blockM 0 (loopM (fun s => impl_Category_outOf_L0 x0 x1 s.1 s.2) (([] : (List Int)), (0 : Int)))) (fun (s0_5, s0_14) => (some (Out.ret (s0_5)))))
noncomputable def impl_marked_L0 (x0 : (List Bool)) (s0_3 : (List Int)) (s0_9 : Int) : Option (Out ((List Int) × Int) ((List Int))) :=
  (bif decide (s0_9 < (x0.length : Int)) then ((idx x0 (s0_9)) >>= fun e18 => (bif e18 then ((fits 8 (s0_3.length + 1)) >>= fun n39 => (some (Out.norm (s0_3 ++ [s0_9], w64 (s0_9 + (1 : Int)))))) else (some (Out.norm (s0_3, w64 (s0_9 + (1 : Int))))))) else (some (Out.exit 0 (s0_3, s0_9))))
noncomputable def impl_marked (x0 : (List Bool)) : Option ((List Int)) :=
  retM (S := Unit) (lbind (blockM 0 (loopM (fun s => impl_marked_L0 x0 s.1 s.2) (([] : (List Int)), (0 : Int)))) (fun (s0_3, s0_9) => (some (Out.ret (s0_3)))))
noncomputable def impl_Category_sieveOf_L1 (x0 : MCategory) (e21 : Int) (y27 : (List Int)) (s1_29 : Int) (s1_o13 : (List Bool)) : Option (Out (Int × (List Bool)) ((List Int))) :=
  (bif decide (s1_29 < (y27.length : Int)) then ((idx y27 (s1_29)) >>= fun e41 => ((impl_Category_then x0 (e21) (e41)) >>= fun y45 => ((idx s1_o13 (y45)) >>= fun e49 => (some (Out.norm (w64 (s1_29 + (1 : Int)), s1_o13.set (y45).toNat (true))))))) else (some (Out.exit 2 (s1_29, s1_o13))))
noncomputable def impl_Category_sieveOf_L0 (x0 : MCategory) (x1 : (List Int)) (s0_15 : Int) (s0_o13 : (List Bool)) : Option (Out (Int × (List Bool)) ((List Int))) :=
  (bif decide (s0_15 < (x1.length : Int)) then ((idx x1 (s0_15)) >>= fun e21 => ((idx x0.To (e21)) >>= fun e25 => ((impl_Category_outOf x0 (e25)) >>= fun y27 => (lbind (blockM 2 (loopM (fun s => impl_Category_sieveOf_L1 x0 e21 y27 s.1 s.2) ((0 : Int), s0_o13))) (fun (s1_29, s1_o13) => (some (Out.norm (w64 (s0_15 + (1 : Int)), s1_o13)))))))) else (some (Out.exit 0 (s0_15, s0_o13))))
noncomputable def impl_Category_sieveOf (x0 : MCategory) (x1 : (List Int)) : Option ((List Int)) :=
  retM (S := Unit) ((impl_Category_arrows x0) >>= fun y3 => ((mk 1 (y3)) >>= fun n7 => (lbind (blockM 0 (loopM (fun s => impl_Category_sieveOf_L0 x0 x1 s.1 s.2) ((0 : Int), List.replicate n7 false))) (fun (s0_15, s0_o13) => ((impl_marked s0_o13) >>= fun y61 => (some (Out.ret (y61))))))))
noncomputable def impl_compare_L0 (x0 : (List Int)) (x1 : (List Int)) (s0_8 : Int) : Option (Out (Int) (Int)) :=
  (bif decide (s0_8 < (x0.length : Int)) then (bif (s0_8) == ((x1.length : Int)) then (some (Out.ret (((1 : Int))))) else ((idx x0 (s0_8)) >>= fun e16 => ((idx x1 (s0_8)) >>= fun e18 => (bif (e16) != (e18) then ((idx x0 (s0_8)) >>= fun e23 => ((idx x1 (s0_8)) >>= fun e25 => (bif decide (e23 < e25) then (some (Out.ret (((-1 : Int))))) else (some (Out.ret (((1 : Int)))))))) else (some (Out.norm (w64 (s0_8 + (1 : Int))))))))) else (some (Out.exit 0 (s0_8))))
noncomputable def impl_compare (x0 : (List Int)) (x1 : (List Int)) : Option (Int) :=
  retM (S := Unit) (lbind (blockM 0 (loopM (impl_compare_L0 x0 x1) ((0 : Int)))) (fun s0_8 => (bif decide ((x0.length : Int) < (x1.length : Int)) then (some (Out.ret (((-1 : Int))))) else (some (Out.ret (((0 : Int))))))))
noncomputable def impl_same (x0 : (List Int)) (x1 : (List Int)) : Option (Bool) :=
  retM (S := Unit) ((impl_compare x0 x1) >>= fun y3 => (some (Out.ret (((y3) == ((0 : Int)))))))
noncomputable def impl_Category_sieves_1 (x0 : (List Int)) (x1 : (List Int)) : Option (Bool) :=
  retM (S := Unit) ((impl_same x1 x0) >>= fun y3 => (some (Out.ret (y3))))
noncomputable def slices_IndexFunc___impl_sieve_impl_sieve__L0 (x0 : (List (List Int))) (x1 : ((List Int) → Option (Bool))) (s0_8 : Int) : Option (Out (Int) (Int)) :=
  (bif decide (s0_8 < (x0.length : Int)) then ((idx x0 (s0_8)) >>= fun e11 => ((x1 e11) >>= fun y18 => (bif y18 then (some (Out.ret (s0_8))) else (some (Out.norm (w64 (s0_8 + (1 : Int)))))))) else (some (Out.exit 0 (s0_8))))
noncomputable def slices_IndexFunc___impl_sieve_impl_sieve_ (x0 : (List (List Int))) (x1 : ((List Int) → Option (Bool))) : Option (Int) :=
  retM (S := Unit) (lbind (blockM 0 (loopM (slices_IndexFunc___impl_sieve_impl_sieve__L0 x0 x1) ((0 : Int)))) (fun s0_8 => (some (Out.ret (((-1 : Int)))))))
noncomputable def slices_ContainsFunc___impl_sieve_impl_sieve_ (x0 : (List (List Int))) (x1 : ((List Int) → Option (Bool))) : Option (Bool) :=
  retM (S := Unit) ((slices_IndexFunc___impl_sieve_impl_sieve_ x0 x1) >>= fun y3 => (some (Out.ret ((decide (y3 ≥ (0 : Int)))))))
noncomputable def impl_Category_sieves_2 (x0 : (List Int)) (x1 : (List Int)) : Option (Int) :=
  retM (S := Unit) ((impl_compare x0 x1) >>= fun y3 => (some (Out.ret (y3))))
open Classical in
noncomputable def sortM_impl_Category_sieves_2 (x0 : List (List Int)) : Option (List (List Int)) :=
  if x0 ≠ [] ∧ x0.length < 4611686018427387904 ∧ ∀ x ∈ x0, ∀ y ∈ x0, impl_Category_sieves_2 x y = some (lexCmp x y) then some (x0.mergeSort lexLe) else none
noncomputable def impl_Category_sieves_L1 (x0 : MCategory) (s0_7 : Int) (y27 : (List Int)) (s1_6 : (List (List Int))) (s1_23 : Int) : Option (Out ((List (List Int)) × Int) ((List (List Int)) × Bool)) :=
  (bif decide (s1_23 < (y27.length : Int)) then ((idx y27 (s1_23)) >>= fun e44 => ((idx s1_6 (s0_7)) >>= fun e48 => ((impl_clone e48) >>= fun y55 => ((fits 8 (y55.length + 1)) >>= fun n81 => ((impl_Category_sieveOf x0 (y55 ++ [e44])) >>= fun y87 => ((slices_ContainsFunc___impl_sieve_impl_sieve_ s1_6 (fun a0 => impl_Category_sieves_1 a0 y87)) >>= fun y115 => (bif y115 then (some (Out.norm (s1_6, w64 (s1_23 + (1 : Int))))) else (bif ((s1_6.length : Int)) == ((16 : Int)) then (some (Out.ret ((([]), false)))) else ((fits 24 (s1_6.length + 1)) >>= fun n144 => (some (Out.norm (s1_6 ++ [y87], w64 (s1_23 + (1 : Int)))))))))))))) else (some (Out.exit 2 (s1_6, s1_23))))
noncomputable def impl_Category_sieves_L0 (x0 : MCategory) (x1 : Int) (s0_6 : (List (List Int))) (s0_7 : Int) : Option (Out ((List (List Int)) × Int) ((List (List Int)) × Bool)) :=
  (bif decide (s0_7 < (s0_6.length : Int)) then ((impl_Category_outOf x0 (x1)) >>= fun y27 => (lbind (blockM 2 (loopM (fun s => impl_Category_sieves_L1 x0 s0_7 y27 s.1 s.2) (s0_6, (0 : Int)))) (fun (s1_6, s1_23) => (some (Out.norm (s1_6, w64 (s0_7 + (1 : Int)))))))) else (some (Out.exit 0 (s0_6, s0_7))))
noncomputable def impl_Category_sieves (x0 : MCategory) (x1 : Int) : Option ((List (List Int)) × Bool) :=
  retM (S := Unit) (lbind (blockM 0 (loopM (fun s => impl_Category_sieves_L0 x0 x1 s.1 s.2) ([([] : (List Int))], (0 : Int)))) (fun (s0_6, s0_7) => ((sortM_impl_Category_sieves_2 s0_6) >>= fun y157 => (some (Out.ret ((y157, true)))))))
noncomputable def impl_Category_pull_L0 (x0 : MCategory) (x1 : Int) (x2 : (List Int)) (y11 : (List Int)) (s0_7 : (List Int)) (s0_21 : Int) : Option (Out ((List Int) × Int) ((List Int))) :=
  (bif decide (s0_21 < (y11.length : Int)) then ((idx y11 (s0_21)) >>= fun e28 => ((impl_Category_then x0 (x1) (e28)) >>= fun y32 => ((impl_has x2 (y32)) >>= fun y34 => (bif y34 then ((fits 8 (s0_7.length + 1)) >>= fun n54 => (some (Out.norm (s0_7 ++ [e28], w64 (s0_21 + (1 : Int)))))) else (some (Out.norm (s0_7, w64 (s0_21 + (1 : Int))))))))) else (some (Out.exit 0 (s0_7, s0_21))))
noncomputable def impl_Category_pull (x0 : MCategory) (x1 : Int) (x2 : (List Int)) : Option ((List Int)) :=
  retM (S := Unit) ((idx x0.To (x1)) >>= fun e9 => ((impl_Category_outOf x0 (e9)) >>= fun y11 => (lbind (blockM 0 (loopM (fun s => impl_Category_pull_L0 x0 x1 x2 y11 s.1 s.2) (([] : (List Int)), (0 : Int)))) (fun (s0_7, s0_21) => (some (Out.ret (s0_7)))))))
noncomputable def impl_classifier_number_1 (x0 : (List Int)) (x1 : (List Int)) : Option (Bool) :=
  retM (S := Unit) ((impl_same x1 x0) >>= fun y3 => (some (Out.ret (y3))))
noncomputable def impl_classifier_number (x0 : MClassifier) (x1 : Int) (x2 : (List Int)) : Option (Int) :=
  retM (S := Unit) ((idx x0.Sieves (x1)) >>= fun e8 => ((slices_IndexFunc___impl_sieve_impl_sieve_ e8 (fun a0 => impl_classifier_number_1 a0 x2)) >>= fun y15 => (some (Out.ret (y15)))))
noncomputable def impl_Category_classifier_L0 (x0 : MCategory) (s0_5 : Int) (s0_b26_5 : (List Int)) (s0_b26_7 : (List (List (List Int)))) : Option (Out (Int × (List Int) × (List (List (List Int)))) ((Option MClassifier) × Bool)) :=
  (bif decide (s0_5 < x0.Objects) then ((impl_Category_sieves x0 (s0_5)) >>= fun y70 => (bif !(y70.2) then (some (Out.ret ((none, (false))))) else ((fits 24 (s0_b26_7.length + 1)) >>= fun n111 => ((fits 8 (s0_b26_5.length + 1)) >>= fun n146 => (some (Out.norm (w64 (s0_5 + (1 : Int)), s0_b26_5 ++ [(y70.1.length : Int)], s0_b26_7 ++ [y70.1]))))))) else (some (Out.exit 0 (s0_5, s0_b26_5, s0_b26_7))))
noncomputable def impl_Category_classifier_L2 (x0 : MCategory) (y3 : MCategory) (s0_b26_5 : (List Int)) (s0_b26_7 : (List (List (List Int)))) (s1_61 : Int) (s1_b26_6 : (List (List Int))) (e218 : (List (List Int))) (s2_9 : (List Int)) (s2_79 : Int) : Option (Out ((List Int) × Int) ((Option MClassifier) × Bool)) :=
  (bif decide (s2_79 < (e218.length : Int)) then ((idx e218 (s2_79)) >>= fun e270 => ((idx x0.To (s1_61)) >>= fun e279 => ((impl_Category_pull x0 (s1_61) e270) >>= fun y281 => ((impl_classifier_number (MClassifier.mk (MSetFunctor.mk y3 s0_b26_5 s1_b26_6) s0_b26_7) (e279) y281) >>= fun y286 => ((fits 8 (s2_9.length + 1)) >>= fun n320 => (some (Out.norm (s2_9 ++ [y286], w64 (s2_79 + (1 : Int)))))))))) else (some (Out.exit 4 (s2_9, s2_79))))
noncomputable def impl_Category_classifier_L1 (x0 : MCategory) (y3 : MCategory) (s0_b26_5 : (List Int)) (s0_b26_7 : (List (List (List Int)))) (s1_61 : Int) (s1_b26_6 : (List (List Int))) : Option (Out (Int × (List (List Int))) ((Option MClassifier) × Bool)) :=
  (bif decide (s1_61 < (x0.From.length : Int)) then ((idx x0.From (s1_61)) >>= fun e216 => ((idx s0_b26_7 (e216)) >>= fun e218 => (lbind (blockM 4 (loopM (fun s => impl_Category_classifier_L2 x0 y3 s0_b26_5 s0_b26_7 s1_61 s1_b26_6 e218 s.1 s.2) (([] : (List Int)), (0 : Int)))) (fun (s2_9, s2_79) => ((fits 24 (s1_b26_6.length + 1)) >>= fun n358 => (some (Out.norm (w64 (s1_61 + (1 : Int)), s1_b26_6 ++ [s2_9])))))))) else (some (Out.exit 2 (s1_61, s1_b26_6))))
noncomputable def impl_Category_classifier (x0 : MCategory) : Option ((Option MClassifier) × Bool) :=
  retM (S := Unit) ((impl_Category_copy x0) >>= fun y3 => (lbind (blockM 0 (loopM (fun s => impl_Category_classifier_L0 x0 s.1 s.2.1 s.2.2) ((0 : Int), [], []))) (fun (s0_5, s0_b26_5, s0_b26_7) => (lbind (blockM 2 (loopM (fun s => impl_Category_classifier_L1 x0 y3 s0_b26_5 s0_b26_7 s.1 s.2) ((0 : Int), []))) (fun (s1_61, s1_b26_6) => (some (Out.ret (((some (MClassifier.mk (MSetFunctor.mk y3 s0_b26_5 s1_b26_6) s0_b26_7)), (true))))))))))
noncomputable def impl_SetFunctor_holding_L0 (x0 : MSetFunctor) (x1 : MPart) (x3 : Int) (y16 : (List Int)) (s0_9 : (List Int)) (s0_19 : Int) : Option (Out ((List Int) × Int) ((List Int))) :=
  (bif decide (s0_19 < (y16.length : Int)) then ((idx y16 (s0_19)) >>= fun e36 => ((idx x0.Shape.To (e36)) >>= fun e41 => ((idx x1.Members (e41)) >>= fun e43 => ((idx x0.Actions (e36)) >>= fun e50 => ((idx e50 (x3)) >>= fun e57 => ((impl_has e43 (e57)) >>= fun y59 => (bif y59 then ((fits 8 (s0_9.length + 1)) >>= fun n80 => (some (Out.norm (s0_9 ++ [e36], w64 (s0_19 + (1 : Int)))))) else (some (Out.norm (s0_9, w64 (s0_19 + (1 : Int)))))))))))) else (some (Out.exit 0 (s0_9, s0_19))))
noncomputable def impl_SetFunctor_holding (x0 : MSetFunctor) (x1 : MPart) (x2 : Int) (x3 : Int) : Option ((List Int)) :=
  retM (S := Unit) ((impl_Category_outOf x0.Shape (x2)) >>= fun y16 => (lbind (blockM 0 (loopM (fun s => impl_SetFunctor_holding_L0 x0 x1 x3 y16 s.1 s.2) (([] : (List Int)), (0 : Int)))) (fun (s0_9, s0_19) => (some (Out.ret (s0_9))))))
noncomputable def impl_SetFunctor_copy (x0 : MSetFunctor) : Option (MSetFunctor) :=
  retM (S := Unit) ((impl_Category_copy x0.Shape) >>= fun y9 => ((impl_clone x0.Sizes) >>= fun y23 => ((impl_clones x0.Actions) >>= fun y44 => (some (Out.ret ((MSetFunctor.mk y9 y23 y44)))))))
noncomputable def impl_setMap (x0 : MSetFunctor) (x1 : MSetFunctor) (x2 : (List (List Int))) : Option (MSetMap) :=
  retM (S := Unit) ((impl_SetFunctor_copy x0) >>= fun y8 => ((impl_SetFunctor_copy x1) >>= fun y52 => ((impl_clones x2) >>= fun y132 => (some (Out.ret ((MSetMap.mk y8 y52 y132)))))))
noncomputable def laws_eqInt64S_L0 (x0 : (List Int)) (x1 : (List Int)) (s0_5 : Int) : Option (Out (Int) (Bool)) :=
  (bif decide (s0_5 < (x0.length : Int)) then ((idx x0 (s0_5)) >>= fun e14 => ((idx x1 (s0_5)) >>= fun e16 => (bif (e14) != (e16) then (some (Out.ret (false))) else (some (Out.norm (w64 (s0_5 + (1 : Int)))))))) else (some (Out.exit 0 (s0_5))))
noncomputable def laws_eqInt64S (x0 : (List Int)) (x1 : (List Int)) : Option (Bool) :=
  retM (S := Unit) (bif ((x0.length : Int)) != ((x1.length : Int)) then (some (Out.ret (false))) else (lbind (blockM 0 (loopM (laws_eqInt64S_L0 x0 x1) ((0 : Int)))) (fun s0_5 => (some (Out.ret (true))))))
noncomputable def laws_eqInt64SS_L0 (x0 : (List (List Int))) (x1 : (List (List Int))) (s0_5 : Int) : Option (Out (Int) (Bool)) :=
  (bif decide (s0_5 < (x0.length : Int)) then ((idx x0 (s0_5)) >>= fun e14 => ((idx x1 (s0_5)) >>= fun e21 => ((laws_eqInt64S e14 e21) >>= fun y28 => (bif !(y28) then (some (Out.ret (false))) else (some (Out.norm (w64 (s0_5 + (1 : Int))))))))) else (some (Out.exit 0 (s0_5))))
noncomputable def laws_eqInt64SS (x0 : (List (List Int))) (x1 : (List (List Int))) : Option (Bool) :=
  retM (S := Unit) (bif ((x0.length : Int)) != ((x1.length : Int)) then (some (Out.ret (false))) else (lbind (blockM 0 (loopM (laws_eqInt64SS_L0 x0 x1) ((0 : Int)))) (fun s0_5 => (some (Out.ret (true))))))
noncomputable def laws_eqCategory (x0 : MCategory) (x1 : MCategory) : Option (Bool) :=
  retM (S := Unit) (bif (x0.Objects) != (x1.Objects) then (some (Out.ret (false))) else ((laws_eqInt64S x0.From x1.From) >>= fun y21 => (bif !(y21) then (some (Out.ret (false))) else ((laws_eqInt64S x0.To x1.To) >>= fun y28 => (bif !(y28) then (some (Out.ret (false))) else ((laws_eqInt64S x0.Identity x1.Identity) >>= fun y35 => (bif !(y35) then (some (Out.ret (false))) else ((laws_eqInt64SS x0.Composites x1.Composites) >>= fun y42 => (bif !(y42) then (some (Out.ret (false))) else (some (Out.ret (true))))))))))))
noncomputable def laws_eqSetFunctor (x0 : MSetFunctor) (x1 : MSetFunctor) : Option (Bool) :=
  retM (S := Unit) ((laws_eqCategory x0.Shape x1.Shape) >>= fun y16 => (bif !(y16) then (some (Out.ret (false))) else ((laws_eqInt64S x0.Sizes x1.Sizes) >>= fun y23 => (bif !(y23) then (some (Out.ret (false))) else ((laws_eqInt64SS x0.Actions x1.Actions) >>= fun y30 => (bif !(y30) then (some (Out.ret (false))) else (some (Out.ret (true)))))))))
noncomputable def laws_eqSetMap (x0 : MSetMap) (x1 : MSetMap) : Option (Bool) :=
  retM (S := Unit) ((laws_eqSetFunctor x0.Source x1.Source) >>= fun y16 => (bif !(y16) then (some (Out.ret (false))) else ((laws_eqSetFunctor x0.Target x1.Target) >>= fun y23 => (bif !(y23) then (some (Out.ret (false))) else ((laws_eqInt64SS x0.Parts x1.Parts) >>= fun y30 => (bif !(y30) then (some (Out.ret (false))) else (some (Out.ret (true)))))))))
noncomputable def laws_eqPart (x0 : MPart) (x1 : MPart) : Option (Bool) :=
  retM (S := Unit) ((laws_eqInt64SS x0.Members x1.Members) >>= fun y16 => (bif !(y16) then (some (Out.ret (false))) else (some (Out.ret (true)))))
noncomputable def laws_markInt64S_L0 (s0_1 : Int) (s0_5 : Int) (s0_o_x0 : (List Int)) : Option (Out (Int × Int × (List Int)) (Int × (List Int))) :=
  (bif decide (s0_5 < (s0_o_x0.length : Int)) then ((idx s0_o_x0 (s0_5)) >>= fun e9 => (some (Out.norm (w64 (s0_1 + (1 : Int)), w64 (s0_5 + (1 : Int)), s0_o_x0.set (s0_5).toNat (s0_1))))) else (some (Out.exit 0 (s0_1, s0_5, s0_o_x0))))
noncomputable def laws_markInt64S (x0 : (List Int)) (x1 : Int) : Option (Int × (List Int)) :=
  retM (S := Unit) (lbind (blockM 0 (loopM (fun s => laws_markInt64S_L0 s.1 s.2.1 s.2.2) (x1, (0 : Int), x0))) (fun (s0_1, s0_5, s0_o_x0) => (some (Out.ret ((s0_1, s0_o_x0))))))
noncomputable def laws_markInt64SS_L0 (s0_1 : Int) (s0_5 : Int) (s0_o_x0 : (List (List Int))) : Option (Out (Int × Int × (List (List Int))) (Int × (List (List Int)))) :=
  (bif decide (s0_5 < (s0_o_x0.length : Int)) then ((idx s0_o_x0 (s0_5)) >>= fun e10 => ((laws_markInt64S e10 (s0_1)) >>= fun y22 => (some (Out.norm (y22.1, w64 (s0_5 + (1 : Int)), s0_o_x0.set (s0_5).toNat y22.2))))) else (some (Out.exit 0 (s0_1, s0_5, s0_o_x0))))
noncomputable def laws_markInt64SS (x0 : (List (List Int))) (x1 : Int) : Option (Int × (List (List Int))) :=
  retM (S := Unit) (lbind (blockM 0 (loopM (fun s => laws_markInt64SS_L0 s.1 s.2.1 s.2.2) (x1, (0 : Int), x0))) (fun (s0_1, s0_5, s0_o_x0) => (some (Out.ret ((s0_1, s0_o_x0))))))
noncomputable def laws_markCategory (x0 : MCategory) (x1 : Int) : Option (Int × (List Int) × (List Int) × (List Int) × (List (List Int))) :=
  retM (S := Unit) ((laws_markInt64S x0.From (x1)) >>= fun y12 => ((laws_markInt64S x0.To (y12.1)) >>= fun y23 => ((laws_markInt64S x0.Identity (y23.1)) >>= fun y34 => ((laws_markInt64SS x0.Composites (y34.1)) >>= fun y45 => (some (Out.ret ((y45.1, y12.2, y23.2, y34.2, y45.2))))))))
noncomputable def laws_markSetFunctor (x0 : MSetFunctor) (x1 : Int) : Option (Int × (List Int) × (List Int) × (List Int) × (List (List Int)) × (List Int) × (List (List Int))) :=
  retM (S := Unit) ((laws_markCategory x0.Shape (x1)) >>= fun y14 => ((laws_markInt64S x0.Sizes (y14.1)) >>= fun y45 => ((laws_markInt64SS x0.Actions (y45.1)) >>= fun y58 => (some (Out.ret ((y58.1, y14.2.1, y14.2.2.1, y14.2.2.2.1, y14.2.2.2.2, y45.2, y58.2)))))))
noncomputable def laws_markPart (x0 : MPart) (x1 : Int) : Option (Int × (List (List Int))) :=
  retM (S := Unit) ((laws_markInt64SS x0.Members (x1)) >>= fun y9 => (some (Out.ret ((y9.1, y9.2)))))
noncomputable def laws_markSetMap (x0 : MSetMap) (x1 : Int) : Option (Int × (List Int) × (List Int) × (List Int) × (List (List Int)) × (List Int) × (List (List Int)) × (List Int) × (List Int) × (List Int) × (List (List Int)) × (List Int) × (List (List Int)) × (List (List Int))) :=
  retM (S := Unit) ((laws_markSetFunctor x0.Source (x1)) >>= fun y21 => ((laws_markSetFunctor x0.Target (y21.1)) >>= fun y101 => ((laws_markInt64SS x0.Parts (y101.1)) >>= fun y181 => (some (Out.ret ((y181.1, y21.2.1, y21.2.2.1, y21.2.2.2.1, y21.2.2.2.2.1, y21.2.2.2.2.2.1, y21.2.2.2.2.2.2, y101.2.1, y101.2.2.1, y101.2.2.2.1, y101.2.2.2.2.1, y101.2.2.2.2.2.1, y101.2.2.2.2.2.2, y181.2)))))))
noncomputable def laws_heldInt64S_L0 (x0 : (List Int)) (s0_1 : Int) (s0_5 : Int) : Option (Out (Int × Int) (Int)) :=
  (bif decide (s0_5 < (x0.length : Int)) then ((idx x0 (s0_5)) >>= fun e9 => (bif (e9) != (s0_1) then (some (Out.ret (((-1 : Int))))) else (some (Out.norm (w64 (s0_1 + (1 : Int)), w64 (s0_5 + (1 : Int))))))) else (some (Out.exit 0 (s0_1, s0_5))))
noncomputable def laws_heldInt64S (x0 : (List Int)) (x1 : Int) : Option (Int) :=
  retM (S := Unit) (lbind (blockM 0 (loopM (fun s => laws_heldInt64S_L0 x0 s.1 s.2) (x1, (0 : Int)))) (fun (s0_1, s0_5) => (some (Out.ret (s0_1)))))
noncomputable def laws_heldInt64SS_L0 (x0 : (List (List Int))) (s0_1 : Int) (s0_5 : Int) : Option (Out (Int × Int) (Int)) :=
  (bif decide (s0_5 < (x0.length : Int)) then ((idx x0 (s0_5)) >>= fun e9 => ((laws_heldInt64S e9 (s0_1)) >>= fun y16 => (bif decide (y16 < (0 : Int)) then (some (Out.ret (((-1 : Int))))) else (some (Out.norm (y16, w64 (s0_5 + (1 : Int)))))))) else (some (Out.exit 0 (s0_1, s0_5))))
noncomputable def laws_heldInt64SS (x0 : (List (List Int))) (x1 : Int) : Option (Int) :=
  retM (S := Unit) (lbind (blockM 0 (loopM (fun s => laws_heldInt64SS_L0 x0 s.1 s.2) (x1, (0 : Int)))) (fun (s0_1, s0_5) => (some (Out.ret (s0_1)))))
noncomputable def laws_heldCategory (x0 : MCategory) (x1 : Int) : Option (Int) :=
  retM (S := Unit) ((laws_heldInt64S x0.From (x1)) >>= fun y8 => (bif decide (y8 < (0 : Int)) then (some (Out.ret (((-1 : Int))))) else ((laws_heldInt64S x0.To (y8)) >>= fun y17 => (bif decide (y17 < (0 : Int)) then (some (Out.ret (((-1 : Int))))) else ((laws_heldInt64S x0.Identity (y17)) >>= fun y26 => (bif decide (y26 < (0 : Int)) then (some (Out.ret (((-1 : Int))))) else ((laws_heldInt64SS x0.Composites (y26)) >>= fun y35 => (bif decide (y35 < (0 : Int)) then (some (Out.ret (((-1 : Int))))) else (some (Out.ret (y35)))))))))))
noncomputable def laws_heldSetFunctor (x0 : MSetFunctor) (x1 : Int) : Option (Int) :=
  retM (S := Unit) ((laws_heldCategory x0.Shape (x1)) >>= fun y8 => (bif decide (y8 < (0 : Int)) then (some (Out.ret (((-1 : Int))))) else ((laws_heldInt64S x0.Sizes (y8)) >>= fun y17 => (bif decide (y17 < (0 : Int)) then (some (Out.ret (((-1 : Int))))) else ((laws_heldInt64SS x0.Actions (y17)) >>= fun y26 => (bif decide (y26 < (0 : Int)) then (some (Out.ret (((-1 : Int))))) else (some (Out.ret (y26)))))))))
noncomputable def laws_heldSetMap (x0 : MSetMap) (x1 : Int) : Option (Int) :=
  retM (S := Unit) ((laws_heldSetFunctor x0.Source (x1)) >>= fun y8 => (bif decide (y8 < (0 : Int)) then (some (Out.ret (((-1 : Int))))) else ((laws_heldSetFunctor x0.Target (y8)) >>= fun y17 => (bif decide (y17 < (0 : Int)) then (some (Out.ret (((-1 : Int))))) else ((laws_heldInt64SS x0.Parts (y17)) >>= fun y26 => (bif decide (y26 < (0 : Int)) then (some (Out.ret (((-1 : Int))))) else (some (Out.ret (y26)))))))))
noncomputable def laws_szSetMap (x0 : MSetMap) (x1 : Int) : Option (Int) :=
  retM (S := Unit) ((laws_szSetFunctor x0.Source (x1)) >>= fun y8 => (bif decide (y8 < (0 : Int)) then (some (Out.ret (((-1 : Int))))) else ((laws_szSetFunctor x0.Target (y8)) >>= fun y17 => (bif decide (y17 < (0 : Int)) then (some (Out.ret (((-1 : Int))))) else ((laws_szInt64SS x0.Parts (y17)) >>= fun y26 => (bif decide (y26 < (0 : Int)) then (some (Out.ret (((-1 : Int))))) else (some (Out.ret (y26)))))))))
noncomputable def laws_toSetMap (x0 : MSetMap) : Option (MSetMap) :=
  retM (S := Unit) ((laws_toSetFunctor x0.Source) >>= fun y25 => ((laws_toSetFunctor x0.Target) >>= fun y85 => ((laws_toInt64SS x0.Parts) >>= fun y181 => (some (Out.ret ((MSetMap.mk y25 y85 y181)))))))
noncomputable def spec_l01Same2_L0 (x0 : (List (List Int))) (x1 : (List (List Int))) (s0_5 : Int) : Option (Out (Int) (Bool)) :=
  (bif decide (s0_5 < (x0.length : Int)) then ((idx x0 (s0_5)) >>= fun e14 => ((idx x1 (s0_5)) >>= fun e21 => ((spec_l01Same e14 e21) >>= fun y28 => (bif !(y28) then (some (Out.ret (false))) else (some (Out.norm (w64 (s0_5 + (1 : Int))))))))) else (some (Out.exit 0 (s0_5))))
noncomputable def spec_l01Same2 (x0 : (List (List Int))) (x1 : (List (List Int))) : Option (Bool) :=
  retM (S := Unit) (bif ((x0.length : Int)) != ((x1.length : Int)) then (some (Out.ret (false))) else (lbind (blockM 0 (loopM (spec_l01Same2_L0 x0 x1) ((0 : Int)))) (fun s0_5 => (some (Out.ret (true))))))
noncomputable def spec_l02Same (x0 : MCategory) (x1 : MCategory) : Option (Bool) :=
  retM (S := Unit) (((bif (x0.Objects) == (x1.Objects) then ((spec_l01Same x0.From x1.From) >>= fun y19 => (bif y19 then ((spec_l01Same x0.To x1.To) >>= fun y22 => (bif y22 then ((spec_l01Same x0.Identity x1.Identity) >>= fun y25 => (bif y25 then ((spec_l01Same2 x0.Composites x1.Composites) >>= fun y28 => (some (y28))) else (some (false)))) else (some (false)))) else (some (false)))) else (some (false)))) >>= fun g16 => (some (Out.ret (g16))))
noncomputable def spec_l19Between (x0 : MSetFunctor) (x1 : MSetFunctor) : Option (Bool) :=
  retM (S := Unit) ((((spec_l19Is x0) >>= fun y18 => (bif y18 then ((spec_l19Is x1) >>= fun y21 => (bif y21 then ((spec_l02Same x0.Shape x1.Shape) >>= fun y24 => (some (y24))) else (some (false)))) else (some (false))))) >>= fun g16 => (some (Out.ret (g16))))
noncomputable def spec_l19Parts_L0 (x0 : MSetFunctor) (x1 : MSetFunctor) (x2 : (List (List Int))) (s0_7 : Int) : Option (Out (Int) (Bool)) :=
  (bif decide (s0_7 < (x2.length : Int)) then ((((idx x2 (s0_7)) >>= fun e30 => ((idx x0.Sizes (s0_7)) >>= fun e37 => (bif ((e30.length : Int)) != (e37) then (some (true)) else ((idx x1.Sizes (s0_7)) >>= fun e40 => ((idx x2 (s0_7)) >>= fun e42 => ((spec_l01Map (e40) e42) >>= fun y49 => (some (!(y49)))))))))) >>= fun g28 => (bif g28 then (some (Out.ret (false))) else (some (Out.norm (w64 (s0_7 + (1 : Int))))))) else (some (Out.exit 0 (s0_7))))
noncomputable def spec_l19Parts (x0 : MSetFunctor) (x1 : MSetFunctor) (x2 : (List (List Int))) : Option (Bool) :=
  retM (S := Unit) (bif ((x2.length : Int)) != ((x0.Sizes.length : Int)) then (some (Out.ret (false))) else (lbind (blockM 0 (loopM (spec_l19Parts_L0 x0 x1 x2) ((0 : Int)))) (fun s0_7 => (some (Out.ret (true))))))
noncomputable def spec_l19Unnatural_L1 (x0 : MSetFunctor) (x1 : MSetFunctor) (x2 : (List (List Int))) (s0_8 : Int) (e23 : Int) (e25 : Int) (s1_11 : Int) : Option (Out (Int) (Int × Int)) :=
  ((idx x0.Sizes (e23)) >>= fun e33 => (bif decide (s1_11 < e33) then ((idx x2 (e25)) >>= fun e38 => ((idx x0.Actions (s0_8)) >>= fun e45 => ((idx e45 (s1_11)) >>= fun e52 => ((idx e38 (e52)) >>= fun e54 => ((idx x1.Actions (s0_8)) >>= fun e56 => ((idx x2 (e23)) >>= fun e63 => ((idx e63 (s1_11)) >>= fun e70 => ((idx e56 (e70)) >>= fun e72 => (bif (e54) != (e72) then (some (Out.ret ((s0_8, s1_11)))) else (some (Out.norm (w64 (s1_11 + (1 : Int)))))))))))))) else (some (Out.exit 2 (s1_11)))))
noncomputable def spec_l19Unnatural_L0 (x0 : MSetFunctor) (x1 : MSetFunctor) (x2 : (List (List Int))) (s0_8 : Int) : Option (Out (Int) (Int × Int)) :=
  (bif decide (s0_8 < (x0.Actions.length : Int)) then ((idx x0.Shape.From (s0_8)) >>= fun e23 => ((idx x0.Shape.To (s0_8)) >>= fun e25 => (lbind (blockM 2 (loopM (spec_l19Unnatural_L1 x0 x1 x2 s0_8 e23 e25) ((0 : Int)))) (fun s1_11 => (some (Out.norm (w64 (s0_8 + (1 : Int))))))))) else (some (Out.exit 0 (s0_8))))
noncomputable def spec_l19Unnatural (x0 : MSetFunctor) (x1 : MSetFunctor) (x2 : (List (List Int))) : Option (Int × Int) :=
  retM (S := Unit) (lbind (blockM 0 (loopM (spec_l19Unnatural_L0 x0 x1 x2) ((0 : Int)))) (fun s0_8 => (some (Out.ret ((((-1 : Int)), ((0 : Int))))))))
noncomputable def spec_l19IsMap (x0 : MSetMap) : Option (Bool) :=
  retM (S := Unit) ((((spec_l19Between x0.Source x0.Target) >>= fun y10 => (bif !(y10) then (some (true)) else ((spec_l19Parts x0.Source x0.Target x0.Parts) >>= fun y13 => (some (!(y13))))))) >>= fun g8 => (bif g8 then (some (Out.ret (false))) else ((spec_l19Unnatural x0.Source x0.Target x0.Parts) >>= fun y20 => (some (Out.ret ((decide (y20.1 < (0 : Int)))))))))
noncomputable def spec_l19Same (x0 : MSetFunctor) (x1 : MSetFunctor) : Option (Bool) :=
  retM (S := Unit) ((((spec_l02Same x0.Shape x1.Shape) >>= fun y18 => (bif y18 then ((spec_l01Same x0.Sizes x1.Sizes) >>= fun y21 => (bif y21 then ((spec_l01Same2 x0.Actions x1.Actions) >>= fun y24 => (some (y24))) else (some (false)))) else (some (false))))) >>= fun g16 => (some (Out.ret (g16))))
noncomputable def spec_l25Tops_L0 (x0 : MCategory) (x1 : (List (List (List Int)))) (s0_5 : (List Int)) (s0_6 : Int) : Option (Out ((List Int) × Int) ((List Int))) :=
  (bif decide (s0_6 < (x1.length : Int)) then ((idx x1 (s0_6)) >>= fun e25 => ((spec_l25Out x0 (s0_6)) >>= fun y32 => ((spec_l05Place e25 y32) >>= fun y37 => ((fits 8 (s0_5.length + 1)) >>= fun n57 => (some (Out.norm (s0_5 ++ [y37], w64 (s0_6 + (1 : Int))))))))) else (some (Out.exit 0 (s0_5, s0_6))))
noncomputable def spec_l25Tops (x0 : MCategory) (x1 : (List (List (List Int)))) : Option ((List Int)) :=
  retM (S := Unit) (lbind (blockM 0 (loopM (fun s => spec_l25Tops_L0 x0 x1 s.1 s.2) (([] : (List Int)), (0 : Int)))) (fun (s0_5, s0_6) => (some (Out.ret (s0_5)))))
noncomputable def spec_PartOfMap_L1 (x0 : MSetMap) (y120 : (List Int)) (s0_9 : Int) (s1_10 : (List Int)) (s1_11 : Int) : Option (Out ((List Int) × Int) (MPart × Int)) :=
  ((idx x0.Parts (s0_9)) >>= fun e185 => (bif decide (s1_11 < (e185.length : Int)) then ((idx x0.Parts (s0_9)) >>= fun e195 => ((idx e195 (s1_11)) >>= fun e202 => ((idx y120 (s0_9)) >>= fun e204 => (bif (e202) == (e204) then ((fits 8 (s1_10.length + 1)) >>= fun n227 => (some (Out.norm (s1_10 ++ [s1_11], w64 (s1_11 + (1 : Int)))))) else (some (Out.norm (s1_10, w64 (s1_11 + (1 : Int))))))))) else (some (Out.exit 2 (s1_10, s1_11)))))
noncomputable def spec_PartOfMap_L0 (x0 : MSetMap) (y120 : (List Int)) (s0_8 : (List (List Int))) (s0_9 : Int) : Option (Out ((List (List Int)) × Int) (MPart × Int)) :=
  (bif decide (s0_9 < (x0.Parts.length : Int)) then (lbind (blockM 2 (loopM (fun s => spec_PartOfMap_L1 x0 y120 s0_9 s.1 s.2) (([] : (List Int)), (0 : Int)))) (fun (s1_10, s1_11) => ((fits 24 (s0_8.length + 1)) >>= fun n258 => (some (Out.norm (s0_8 ++ [s1_10], w64 (s0_9 + (1 : Int)))))))) else (some (Out.exit 0 (s0_8, s0_9))))
noncomputable def spec_PartOfMap (x0 : MSetMap) : Option (MPart × Int) :=
  retM (S := Unit) ((spec_l19IsMap x0) >>= fun y16 => (bif !(y16) then (some (Out.ret (((MPart.mk ([])), ((1 : Int)))))) else ((spec_l25Lists x0.Source.Shape) >>= fun y38 => (bif !(y38.2) then (some (Out.ret (((MPart.mk ([])), ((3 : Int)))))) else ((spec_l25Make x0.Source.Shape y38.1) >>= fun y58 => ((spec_l19Same x0.Target y58) >>= fun y111 => (bif !(y111) then (some (Out.ret (((MPart.mk ([])), ((5 : Int)))))) else ((spec_l25Tops x0.Source.Shape y38.1) >>= fun y120 => (lbind (blockM 0 (loopM (fun s => spec_PartOfMap_L0 x0 y120 s.1 s.2) (([] : (List (List Int))), (0 : Int)))) (fun (s0_8, s0_9) => (some (Out.ret (((MPart.mk s0_8), ((0 : Int))))))))))))))))
noncomputable def impl_areSetFunctors_L0 (x0 : (List MSetFunctor)) (s0_7 : Int) : Option (Out (Int) (Bool)) :=
  (bif decide (s0_7 < (x0.length : Int)) then ((idx x0 (s0_7)) >>= fun e9 => ((impl_SetFunctor_isSetFunctor e9) >>= fun y27 => (bif !(y27) then (some (Out.ret (false))) else (some (Out.norm (w64 (s0_7 + (1 : Int)))))))) else (some (Out.exit 0 (s0_7))))
noncomputable def impl_areSetFunctors (x0 : (List MSetFunctor)) : Option (Bool) :=
  retM (S := Unit) (lbind (blockM 0 (loopM (impl_areSetFunctors_L0 x0) ((0 : Int)))) (fun s0_7 => (some (Out.ret (true)))))
noncomputable def impl_sameCategory_L0 (x0 : MCategory) (x1 : MCategory) (s0_69 : Int) : Option (Out (Int) (Bool)) :=
  (bif decide (s0_69 < (x0.Composites.length : Int)) then ((idx x0.Composites (s0_69)) >>= fun e28 => ((idx x1.Composites (s0_69)) >>= fun e35 => ((impl_same e28 e35) >>= fun y42 => (bif !(y42) then (some (Out.ret (false))) else (some (Out.norm (w64 (s0_69 + (1 : Int))))))))) else (some (Out.exit 0 (s0_69))))
noncomputable def impl_sameCategory (x0 : MCategory) (x1 : MCategory) : Option (Bool) :=
  retM (S := Unit) (((bif (x0.Objects) != (x1.Objects) then (some (true)) else ((impl_same x0.From x1.From) >>= fun y6 => (bif !(y6) then (some (true)) else ((impl_same x0.To x1.To) >>= fun y9 => (bif !(y9) then (some (true)) else ((impl_same x0.Identity x1.Identity) >>= fun y12 => (bif !(y12) then (some (true)) else (some (((x0.Composites.length : Int)) != ((x1.Composites.length : Int)))))))))))) >>= fun g3 => (bif g3 then (some (Out.ret (false))) else (lbind (blockM 0 (loopM (impl_sameCategory_L0 x0 x1) ((0 : Int)))) (fun s0_69 => (some (Out.ret (true)))))))
noncomputable def impl_SetMap_fits_L0 (x0 : MSetMap) (s0_22 : Int) : Option (Out (Int) (Bool)) :=
  (bif decide (s0_22 < (x0.Parts.length : Int)) then ((idx x0.Parts (s0_22)) >>= fun e15 => ((idx x0.Source.Sizes (s0_22)) >>= fun e25 => ((idx x0.Target.Sizes (s0_22)) >>= fun e28 => ((impl_isMapOf e15 (e25) (e28)) >>= fun y30 => (bif !(y30) then (some (Out.ret (false))) else (some (Out.norm (w64 (s0_22 + (1 : Int)))))))))) else (some (Out.exit 0 (s0_22))))
noncomputable def impl_SetMap_fits (x0 : MSetMap) : Option (Bool) :=
  retM (S := Unit) (bif ((x0.Parts.length : Int)) != ((x0.Source.Sizes.length : Int)) then (some (Out.ret (false))) else (lbind (blockM 0 (loopM (impl_SetMap_fits_L0 x0) ((0 : Int)))) (fun s0_22 => (some (Out.ret (true))))))
noncomputable def impl_SetMap_isShape (x0 : MSetMap) : Option (Bool) :=
  retM (S := Unit) ((((impl_areSetFunctors [x0.Source, x0.Target]) >>= fun y14 => (bif y14 then ((impl_sameCategory x0.Source.Shape x0.Target.Shape) >>= fun y21 => (bif y21 then ((impl_SetMap_fits x0) >>= fun y24 => (some (y24))) else (some (false)))) else (some (false))))) >>= fun g12 => (some (Out.ret (g12))))
noncomputable def impl_SetMap_unnatural_L1 (x0 : MSetMap) (s0_17 : Int) (e16 : (List Int)) (s1_29 : Int) : Option (Out (Int) (Int × Int)) :=
  (bif decide (s1_29 < (e16.length : Int)) then ((idx e16 (s1_29)) >>= fun e29 => ((idx x0.Source.Shape.To (s0_17)) >>= fun e33 => ((idx x0.Parts (e33)) >>= fun e35 => ((idx e35 (e29)) >>= fun e42 => ((idx x0.Target.Actions (s0_17)) >>= fun e45 => ((idx x0.Source.Shape.From (s0_17)) >>= fun e52 => ((idx x0.Parts (e52)) >>= fun e54 => ((idx e54 (s1_29)) >>= fun e61 => ((idx e45 (e61)) >>= fun e63 => (bif (e42) != (e63) then (some (Out.ret ((s0_17, s1_29)))) else (some (Out.norm (w64 (s1_29 + (1 : Int))))))))))))))) else (some (Out.exit 2 (s1_29))))
noncomputable def impl_SetMap_unnatural_L0 (x0 : MSetMap) (s0_17 : Int) : Option (Out (Int) (Int × Int)) :=
  (bif decide (s0_17 < (x0.Source.Shape.From.length : Int)) then ((idx x0.Source.Actions (s0_17)) >>= fun e16 => (lbind (blockM 2 (loopM (impl_SetMap_unnatural_L1 x0 s0_17 e16) ((0 : Int)))) (fun s1_29 => (some (Out.norm (w64 (s0_17 + (1 : Int)))))))) else (some (Out.exit 0 (s0_17))))
noncomputable def impl_SetMap_unnatural (x0 : MSetMap) : Option (Int × Int) :=
  retM (S := Unit) (lbind (blockM 0 (loopM (impl_SetMap_unnatural_L0 x0) ((0 : Int)))) (fun s0_17 => (some (Out.ret ((((-1 : Int)), ((0 : Int))))))))
noncomputable def impl_SetMap_isNatural (x0 : MSetMap) : Option (Bool) :=
  retM (S := Unit) ((impl_SetMap_isShape x0) >>= fun y3 => (bif !(y3) then (some (Out.ret (false))) else ((impl_SetMap_unnatural x0) >>= fun y10 => (some (Out.ret ((decide (y10.1 < (0 : Int)))))))))
noncomputable def impl_sameSets_L0 (x0 : MSetFunctor) (x1 : MSetFunctor) (s0_44 : Int) : Option (Out (Int) (Bool)) :=
  (bif decide (s0_44 < (x0.Actions.length : Int)) then ((idx x0.Actions (s0_44)) >>= fun e26 => ((idx x1.Actions (s0_44)) >>= fun e33 => ((impl_same e26 e33) >>= fun y40 => (bif !(y40) then (some (Out.ret (false))) else (some (Out.norm (w64 (s0_44 + (1 : Int))))))))) else (some (Out.exit 0 (s0_44))))
noncomputable def impl_sameSets (x0 : MSetFunctor) (x1 : MSetFunctor) : Option (Bool) :=
  retM (S := Unit) ((((impl_sameCategory x0.Shape x1.Shape) >>= fun y7 => (bif !(y7) then (some (true)) else ((impl_same x0.Sizes x1.Sizes) >>= fun y10 => (bif !(y10) then (some (true)) else (some (((x0.Actions.length : Int)) != ((x1.Actions.length : Int))))))))) >>= fun g3 => (bif g3 then (some (Out.ret (false))) else (lbind (blockM 0 (loopM (impl_sameSets_L0 x0 x1) ((0 : Int)))) (fun s0_44 => (some (Out.ret (true)))))))
noncomputable def impl_sieve_isGreatest (x0 : (List Int)) (x1 : MCategory) (x2 : Int) : Option (Bool) :=
  retM (S := Unit) ((idx x1.Identity (x2)) >>= fun e3 => ((impl_has x0 (e3)) >>= fun y5 => (some (Out.ret (y5)))))
noncomputable def impl_all (x0 : MCategory) (x1 : Int) (x2 : (List Int)) : Option (Bool) :=
  retM (S := Unit) ((((impl_sieve_isGreatest x2 x0 (x1)) >>= fun y7 => (some (y7)))) >>= fun g5 => (some (Out.ret (g5))))
noncomputable def impl_classifier_tops_L1 (x0 : MClassifier) (s0_14 : Int) (e18 : (List (List Int))) (s1_3 : (List Int)) (s1_21 : Int) : Option (Out ((List Int) × Int) ((List Int))) :=
  (bif decide (s1_21 < (e18.length : Int)) then ((idx e18 (s1_21)) >>= fun e36 => ((impl_all x0.Sets.Shape (s0_14) e36) >>= fun y47 => (bif y47 then ((fits 8 (s1_3.length + 1)) >>= fun n66 => (some (Out.norm (s1_3 ++ [s1_21], w64 (s1_21 + (1 : Int)))))) else (some (Out.norm (s1_3, w64 (s1_21 + (1 : Int)))))))) else (some (Out.exit 2 (s1_3, s1_21))))
noncomputable def impl_classifier_tops_L0 (x0 : MClassifier) (s0_3 : (List Int)) (s0_14 : Int) : Option (Out ((List Int) × Int) ((List Int))) :=
  (bif decide (s0_14 < (x0.Sieves.length : Int)) then ((idx x0.Sieves (s0_14)) >>= fun e18 => (lbind (blockM 2 (loopM (fun s => impl_classifier_tops_L1 x0 s0_14 e18 s.1 s.2) (s0_3, (0 : Int)))) (fun (s1_3, s1_21) => (some (Out.norm (s1_3, w64 (s0_14 + (1 : Int)))))))) else (some (Out.exit 0 (s0_3, s0_14))))
noncomputable def impl_classifier_tops (x0 : MClassifier) : Option ((List Int)) :=
  retM (S := Unit) (lbind (blockM 0 (loopM (fun s => impl_classifier_tops_L0 x0 s.1 s.2) (([] : (List Int)), (0 : Int)))) (fun (s0_3, s0_14) => (some (Out.ret (s0_3)))))
noncomputable def impl_PartOfMap_1 (x0 : Int) (x1 : Int) (x2 : MSetMap) (x3 : (List Int)) : Option (Bool) :=
  retM (S := Unit) ((idx x2.Parts (x0)) >>= fun e3 => ((idx e3 (x1)) >>= fun e10 => ((idx x3 (x0)) >>= fun e12 => (some (Out.ret (((e10) == (e12))))))))
noncomputable def impl_partOf_L1 (x1 : (Int → Int → Option (Bool))) (s0_16 : Int) (e32 : Int) (s1_8 : (List Int)) (s1_23 : Int) : Option (Out ((List Int) × Int) (MPart)) :=
  (bif decide (s1_23 < e32) then ((x1 (s0_16) (s1_23)) >>= fun y62 => (bif y62 then ((fits 8 (s1_8.length + 1)) >>= fun n84 => (some (Out.norm (s1_8 ++ [s1_23], w64 (s1_23 + (1 : Int)))))) else (some (Out.norm (s1_8, w64 (s1_23 + (1 : Int))))))) else (some (Out.exit 2 (s1_8, s1_23))))
noncomputable def impl_partOf_L0 (x0 : MSetFunctor) (x1 : (Int → Int → Option (Bool))) (s0_16 : Int) (s0_b8_0 : (List (List Int))) : Option (Out (Int × (List (List Int))) (MPart)) :=
  (bif decide (s0_16 < (x0.Sizes.length : Int)) then ((idx x0.Sizes (s0_16)) >>= fun e32 => (lbind (blockM 2 (loopM (fun s => impl_partOf_L1 x1 s0_16 e32 s.1 s.2) (([] : (List Int)), (0 : Int)))) (fun (s1_8, s1_23) => ((fits 24 (s0_b8_0.length + 1)) >>= fun n113 => (some (Out.norm (w64 (s0_16 + (1 : Int)), s0_b8_0 ++ [s1_8]))))))) else (some (Out.exit 0 (s0_16, s0_b8_0))))
noncomputable def impl_partOf (x0 : MSetFunctor) (x1 : (Int → Int → Option (Bool))) : Option (MPart) :=
  retM (S := Unit) (lbind (blockM 0 (loopM (fun s => impl_partOf_L0 x0 x1 s.1 s.2) ((0 : Int), []))) (fun (s0_16, s0_b8_0) => (some (Out.ret ((MPart.mk s0_b8_0))))))
noncomputable def impl_PartOfMap (x0 : MSetMap) : Option (MPart × Int) :=
  retM (S := Unit) ((impl_SetMap_isNatural x0) >>= fun y16 => (bif !(y16) then (some (Out.ret (((MPart.mk ([])), ((1 : Int)))))) else ((impl_Category_classifier x0.Source.Shape) >>= fun y25 => (match y25.1 with | none => (bif !(y25.2) then (some (Out.ret (((MPart.mk ([])), ((3 : Int)))))) else none) | some m32 => (bif !(y25.2) then (some (Out.ret (((MPart.mk ([])), ((3 : Int)))))) else ((impl_sameSets m32.Sets x0.Target) >>= fun y119 => (bif !(y119) then (some (Out.ret (((MPart.mk ([])), ((5 : Int)))))) else ((impl_classifier_tops m32) >>= fun y128 => ((impl_partOf x0.Source (fun a0 a1 => impl_PartOfMap_1 (a0) (a1) x0 y128)) >>= fun y168 => (some (Out.ret ((y168, ((0 : Int)))))))))))))))
noncomputable def laws_heldPart (x0 : MPart) (x1 : Int) : Option (Int) :=
  retM (S := Unit) ((laws_heldInt64SS x0.Members (x1)) >>= fun y8 => (bif decide (y8 < (0 : Int)) then (some (Out.ret (((-1 : Int))))) else (some (Out.ret (y8)))))
noncomputable def laws_FnExactPartOfMap (x0 : MSetMap) : Option (Bool) :=
  retM (S := Unit) ((laws_szSetMap x0 ((1048576 : Int))) >>= fun y10 => (bif decide (y10 < (0 : Int)) then (some (Out.ret (true))) else ((laws_toSetMap x0) >>= fun y19 => ((spec_PartOfMap y19) >>= fun y154 => ((laws_toSetMap x0) >>= fun y202 => ((impl_PartOfMap y202) >>= fun y390 => ((((laws_eqPart y390.1 y154.1) >>= fun y446 => (bif !(y446) then (some (true)) else (some ((y390.2) != (y154.2)))))) >>= fun g444 => (bif g444 then (some (Out.ret (false))) else ((laws_toSetMap x0) >>= fun y454 => ((laws_eqSetMap y202 y454) >>= fun y758 => (bif !(y758) then (some (Out.ret (false))) else ((laws_markSetMap y202 ((1 : Int))) >>= fun y768 => (((bif decide (y768.1 < (0 : Int)) then (some (true)) else ((laws_eqPart y390.1 y154.1) >>= fun y958 => (bif !(y958) then (some (true)) else (some ((y390.2) != (y154.2))))))) >>= fun g955 => (bif g955 then (some (Out.ret (false))) else ((laws_markPart y390.1 ((1 : Int))) >>= fun y969 => ((laws_heldPart (MPart.mk y969.2) ((1 : Int))) >>= fun y982 => (bif decide (y982 < (0 : Int)) then (some (Out.ret (false))) else (bif (y982) != (y969.1) then (some (Out.ret (false))) else ((laws_toSetMap x0) >>= fun y996 => ((impl_PartOfMap y996) >>= fun y1183 => ((((laws_eqPart y1183.1 y154.1) >>= fun y1241 => (bif !(y1241) then (some (true)) else (some ((y1183.2) != (y154.2)))))) >>= fun g1239 => (bif g1239 then (some (Out.ret (false))) else ((laws_heldPart (MPart.mk y969.2) ((1 : Int))) >>= fun y1251 => (bif decide (y1251 < (0 : Int)) then (some (Out.ret (false))) else (bif (y1251) != (y969.1) then (some (Out.ret (false))) else (some (Out.ret (true))))))))))))))))))))))))))))
noncomputable def laws_szInt64SSS_L0 (x0 : (List (List (List Int)))) (s0_1 : Int) (s0_5 : Int) : Option (Out (Int × Int) (Int)) :=
  (bif decide (s0_5 < (x0.length : Int)) then ((idx x0 (s0_5)) >>= fun e16 => ((laws_szInt64SS e16 (s0_1)) >>= fun y23 => (bif decide (y23 < (0 : Int)) then (some (Out.ret (((-1 : Int))))) else (some (Out.norm (y23, w64 (s0_5 + (1 : Int)))))))) else (some (Out.exit 0 (s0_1, s0_5))))
noncomputable def laws_szInt64SSS (x0 : (List (List (List Int)))) (x1 : Int) : Option (Int) :=
  retM (S := Unit) (bif decide (w64 (x1 - (x0.length : Int)) < (0 : Int)) then (some (Out.ret (((-1 : Int))))) else (lbind (blockM 0 (loopM (fun s => laws_szInt64SSS_L0 x0 s.1 s.2) (w64 (x1 - (x0.length : Int)), (0 : Int)))) (fun (s0_1, s0_5) => (some (Out.ret (s0_1))))))
noncomputable def laws_szTopology (x0 : MTopology) (x1 : Int) : Option (Int) :=
  retM (S := Unit) ((laws_szCategory x0.Shape (x1)) >>= fun y8 => (bif decide (y8 < (0 : Int)) then (some (Out.ret (((-1 : Int))))) else ((laws_szInt64SSS x0.Covers (y8)) >>= fun y17 => (bif decide (y17 < (0 : Int)) then (some (Out.ret (((-1 : Int))))) else (some (Out.ret (y17)))))))
noncomputable def laws_toInt64SSS_L0 (x0 : (List (List (List Int)))) (s0_4 : Int) (s0_o9 : (List (List (List Int)))) : Option (Out (Int × (List (List (List Int)))) ((List (List (List Int))))) :=
  (bif decide (s0_4 < (x0.length : Int)) then ((idx x0 (s0_4)) >>= fun e18 => ((laws_toInt64SS e18) >>= fun y25 => ((idx s0_o9 (s0_4)) >>= fun e34 => (some (Out.norm (w64 (s0_4 + (1 : Int)), s0_o9.set (s0_4).toNat y25)))))) else (some (Out.exit 0 (s0_4, s0_o9))))
noncomputable def laws_toInt64SSS (x0 : (List (List (List Int)))) : Option ((List (List (List Int)))) :=
  retM (S := Unit) ((mk 24 ((x0.length : Int))) >>= fun n3 => (lbind (blockM 0 (loopM (fun s => laws_toInt64SSS_L0 x0 s.1 s.2) ((0 : Int), List.replicate n3 []))) (fun (s0_4, s0_o9) => (some (Out.ret (s0_o9))))))
noncomputable def laws_toTopology (x0 : MTopology) : Option (MTopology) :=
  retM (S := Unit) ((laws_toCategory x0.Shape) >>= fun y25 => ((laws_toInt64SSS x0.Covers) >>= fun y64 => (some (Out.ret ((MTopology.mk y25 y64))))))
noncomputable def spec_l25Sieve_L1 (x0 : MCategory) (x2 : (List Int)) (s0_7 : Int) (s1_8 : Int) : Option (Out (Int) (Bool)) :=
  (bif decide (s1_8 < (x0.From.length : Int)) then ((((idx x2 (s0_7)) >>= fun e43 => ((idx x0.To (e43)) >>= fun e45 => ((idx x0.From (s1_8)) >>= fun e47 => (bif (e45) == (e47) then ((idx x2 (s0_7)) >>= fun e50 => ((spec_l02Then x0 (e50) (s1_8)) >>= fun y52 => ((spec_l01Has x2 (y52)) >>= fun y54 => (some (!(y54)))))) else (some (false))))))) >>= fun g41 => (bif g41 then (some (Out.ret (false))) else (some (Out.norm (w64 (s1_8 + (1 : Int))))))) else (some (Out.exit 2 (s1_8))))
noncomputable def spec_l25Sieve_L0 (x0 : MCategory) (x1 : Int) (x2 : (List Int)) (s0_7 : Int) : Option (Out (Int) (Bool)) :=
  (bif decide (s0_7 < (x2.length : Int)) then ((idx x2 (s0_7)) >>= fun e26 => ((idx x0.From (e26)) >>= fun e28 => (bif (e28) != (x1) then (some (Out.ret (false))) else (lbind (blockM 2 (loopM (spec_l25Sieve_L1 x0 x2 s0_7) ((0 : Int)))) (fun s1_8 => (some (Out.norm (w64 (s0_7 + (1 : Int)))))))))) else (some (Out.exit 0 (s0_7))))
noncomputable def spec_l25Sieve (x0 : MCategory) (x1 : Int) (x2 : (List Int)) : Option (Bool) :=
  retM (S := Unit) ((((spec_l02Rises x2) >>= fun y10 => (bif !(y10) then (some (true)) else ((spec_l01Map ((x0.From.length : Int)) x2) >>= fun y13 => (some (!(y13))))))) >>= fun g8 => (bif g8 then (some (Out.ret (false))) else (lbind (blockM 0 (loopM (spec_l25Sieve_L0 x0 x1 x2) ((0 : Int)))) (fun s0_7 => (some (Out.ret (true)))))))
noncomputable def spec_l27Shape_L1 (x0 : MTopology) (s0_3 : Int) (s1_4 : Int) : Option (Out (Int) (Bool)) :=
  ((idx x0.Covers (s0_3)) >>= fun e27 => (bif decide (s1_4 < (e27.length : Int)) then ((((idx x0.Covers (s0_3)) >>= fun e39 => ((idx e39 (s1_4)) >>= fun e46 => ((spec_l25Sieve x0.Shape (s0_3) e46) >>= fun y53 => (bif !(y53) then (some (true)) else (bif decide (s1_4 > (0 : Int)) then ((idx x0.Covers (s0_3)) >>= fun e57 => ((idx e57 (w64 (s1_4 - (1 : Int)))) >>= fun e64 => ((idx x0.Covers (s0_3)) >>= fun e71 => ((idx e71 (s1_4)) >>= fun e78 => ((spec_l01Less e64 e78) >>= fun y85 => (some (!(y85)))))))) else (some (false)))))))) >>= fun g37 => (bif g37 then (some (Out.ret (false))) else (some (Out.norm (w64 (s1_4 + (1 : Int))))))) else (some (Out.exit 2 (s1_4)))))
noncomputable def spec_l27Shape_L0 (x0 : MTopology) (s0_3 : Int) : Option (Out (Int) (Bool)) :=
  (bif decide (s0_3 < (x0.Covers.length : Int)) then (lbind (blockM 2 (loopM (spec_l27Shape_L1 x0 s0_3) ((0 : Int)))) (fun s1_4 => (some (Out.norm (w64 (s0_3 + (1 : Int))))))) else (some (Out.exit 0 (s0_3))))
noncomputable def spec_l27Shape (x0 : MTopology) : Option (Bool) :=
  retM (S := Unit) ((((spec_l02Is x0.Shape) >>= fun y10 => (bif !(y10) then (some (true)) else (some (((x0.Covers.length : Int)) != (x0.Shape.Objects)))))) >>= fun g8 => (bif g8 then (some (Out.ret (false))) else (lbind (blockM 0 (loopM (spec_l27Shape_L0 x0) ((0 : Int)))) (fun s0_3 => (some (Out.ret (true)))))))
noncomputable def spec_l02Object (x0 : MCategory) (x1 : Int) : Option (Bool) :=
  retM (S := Unit) (((bif decide (x1 ≥ (0 : Int)) then (some (decide (x1 < x0.Objects))) else (some (false)))) >>= fun g8 => (some (Out.ret (g8))))
noncomputable def spec_l27Make (x0 : MCategory) : Option (ML27Table × Bool) :=
  retM (S := Unit) ((spec_l25Lists x0) >>= fun y24 => (bif !(y24.2) then (some (Out.ret (((ML27Table.mk (MCategory.mk ((0 : Int)) ([]) ([]) ([]) ([])) ([]) ([]) ([])), false)))) else ((spec_l25Make x0 y24.1) >>= fun y43 => ((spec_l25Tops x0 y24.1) >>= fun y63 => (some (Out.ret (((ML27Table.mk x0 y24.1 y43.Actions y63), true))))))))
noncomputable def spec_l09Find_L0 (x0 : (List (List Int))) (x1 : (List Int)) (s0_5 : Int) : Option (Out (Int) (Int)) :=
  (bif decide (s0_5 < (x0.length : Int)) then ((idx x0 (s0_5)) >>= fun e9 => ((spec_l01Same e9 x1) >>= fun y16 => (bif y16 then (some (Out.ret (s0_5))) else (some (Out.norm (w64 (s0_5 + (1 : Int)))))))) else (some (Out.exit 0 (s0_5))))
noncomputable def spec_l09Find (x0 : (List (List Int))) (x1 : (List Int)) : Option (Int) :=
  retM (S := Unit) (lbind (blockM 0 (loopM (spec_l09Find_L0 x0 x1) ((0 : Int)))) (fun s0_5 => (some (Out.ret (((-1 : Int)))))))
noncomputable def spec_l27Marks_L1 (x0 : ML27Table) (x1 : (List (List (List Int)))) (s0_6 : Int) (s1_8 : Int) (s1_o38 : (List Bool)) : Option (Out (Int × (List Bool)) ((List (List Bool)))) :=
  ((idx x1 (s0_6)) >>= fun e48 => (bif decide (s1_8 < (e48.length : Int)) then ((idx x0.Lists (s0_6)) >>= fun e58 => ((idx x1 (s0_6)) >>= fun e65 => ((idx e65 (s1_8)) >>= fun e72 => ((spec_l09Find e58 e72) >>= fun y82 => ((idx s1_o38 (y82)) >>= fun e86 => (some (Out.norm (w64 (s1_8 + (1 : Int)), s1_o38.set (y82).toNat (true))))))))) else (some (Out.exit 2 (s1_8, s1_o38)))))
noncomputable def spec_l27Marks_L0 (x0 : ML27Table) (x1 : (List (List (List Int)))) (s0_5 : (List (List Bool))) (s0_6 : Int) : Option (Out ((List (List Bool)) × Int) ((List (List Bool)))) :=
  (bif decide (s0_6 < (x0.Lists.length : Int)) then ((idx x0.Lists (s0_6)) >>= fun e25 => ((mk 1 ((e25.length : Int))) >>= fun n32 => (lbind (blockM 2 (loopM (fun s => spec_l27Marks_L1 x0 x1 s0_6 s.1 s.2) ((0 : Int), List.replicate n32 false))) (fun (s1_8, s1_o38) => ((fits 24 (s0_5.length + 1)) >>= fun n111 => (some (Out.norm (s0_5 ++ [s1_o38], w64 (s0_6 + (1 : Int)))))))))) else (some (Out.exit 0 (s0_5, s0_6))))
noncomputable def spec_l27Marks (x0 : ML27Table) (x1 : (List (List (List Int)))) : Option ((List (List Bool))) :=
  retM (S := Unit) (lbind (blockM 0 (loopM (fun s => spec_l27Marks_L0 x0 x1 s.1 s.2) (([] : (List (List Bool))), (0 : Int)))) (fun (s0_5, s0_6) => (some (Out.ret (s0_5)))))
noncomputable def spec_l27Read (x0 : MTopology) : Option (ML27Table × (List (List Bool)) × Int) :=
  retM (S := Unit) ((spec_l27Shape x0) >>= fun y26 => (bif !(y26) then (some (Out.ret (((ML27Table.mk (MCategory.mk ((0 : Int)) ([]) ([]) ([]) ([])) ([]) ([]) ([])), ([]), ((1 : Int)))))) else ((spec_l27Make x0.Shape) >>= fun y35 => (bif !(y35.2) then (some (Out.ret (((ML27Table.mk (MCategory.mk ((0 : Int)) ([]) ([]) ([]) ([])) ([]) ([]) ([])), ([]), ((3 : Int)))))) else ((spec_l27Marks y35.1 x0.Covers) >>= fun y142 => (some (Out.ret ((y35.1, y142, ((0 : Int)))))))))))
noncomputable def spec_l27Local_L0 (x0 : ML27Table) (x1 : (List (List Bool))) (x4 : Int) (e15 : (List Int)) (s0_12 : Int) : Option (Out (Int) (Bool)) :=
  (bif decide (s0_12 < (e15.length : Int)) then ((idx e15 (s0_12)) >>= fun e30 => ((idx x0.C.To (e30)) >>= fun e32 => ((idx x1 (e32)) >>= fun e34 => ((idx e15 (s0_12)) >>= fun e41 => ((idx x0.Pulls (e41)) >>= fun e43 => ((idx e43 (x4)) >>= fun e50 => ((idx e34 (e50)) >>= fun e52 => (bif !(e52) then (some (Out.ret (false))) else (some (Out.norm (w64 (s0_12 + (1 : Int))))))))))))) else (some (Out.exit 0 (s0_12))))
noncomputable def spec_l27Local (x0 : ML27Table) (x1 : (List (List Bool))) (x2 : Int) (x3 : Int) (x4 : Int) : Option (Bool) :=
  retM (S := Unit) ((idx x0.Lists (x2)) >>= fun e8 => ((idx e8 (x3)) >>= fun e15 => (lbind (blockM 0 (loopM (spec_l27Local_L0 x0 x1 x4 e15) ((0 : Int)))) (fun s0_12 => (some (Out.ret (true)))))))
noncomputable def spec_l27Step_L2 (x0 : ML27Table) (x1 : (List (List Bool))) (s0_5 : Int) (s1_6 : Int) (s2_7 : Int) : Option (Out (Int) (Bool × (List (List Bool)))) :=
  (bif decide (s2_7 < (x0.Pulls.length : Int)) then ((((idx x0.C.From (s2_7)) >>= fun e103 => (bif (e103) == (s0_5) then ((idx x0.C.To (s2_7)) >>= fun e106 => ((idx x1 (e106)) >>= fun e108 => ((idx x0.Pulls (s2_7)) >>= fun e115 => ((idx e115 (s1_6)) >>= fun e122 => ((idx e108 (e122)) >>= fun e124 => (some (!(e124)))))))) else (some (false))))) >>= fun g101 => (bif g101 then ((idx x0.C.To (s2_7)) >>= fun e129 => ((idx x1 (e129)) >>= fun e131 => ((idx x0.Pulls (s2_7)) >>= fun e138 => ((idx e138 (s1_6)) >>= fun e145 => ((idx e131 (e145)) >>= fun e150 => (some (Out.ret ((true, x1.set (e129).toNat (e131.set (e145).toNat (true))))))))))) else (some (Out.norm (w64 (s2_7 + (1 : Int))))))) else (some (Out.exit 4 (s2_7))))
noncomputable def spec_l27Step_L3 (x0 : ML27Table) (x1 : (List (List Bool))) (s0_5 : Int) (s1_6 : Int) (s3_8 : Int) : Option (Out (Int) (Bool × (List (List Bool)))) :=
  ((idx x1 (s0_5)) >>= fun e174 => (bif decide (s3_8 < (e174.length : Int)) then ((((idx x1 (s0_5)) >>= fun e186 => ((idx e186 (s3_8)) >>= fun e193 => (bif !(e193) then ((spec_l27Local x0 x1 (s0_5) (s1_6) (s3_8)) >>= fun y196 => (some (y196))) else (some (false)))))) >>= fun g184 => (bif g184 then ((idx x1 (s0_5)) >>= fun e201 => ((idx e201 (s3_8)) >>= fun e208 => (some (Out.ret ((true, x1.set (s0_5).toNat (e201.set (s3_8).toNat (true)))))))) else (some (Out.norm (w64 (s3_8 + (1 : Int))))))) else (some (Out.exit 6 (s3_8)))))
noncomputable def spec_l27Step_L1 (x0 : ML27Table) (x1 : (List (List Bool))) (s0_5 : Int) (s1_6 : Int) : Option (Out (Int) (Bool × (List (List Bool)))) :=
  ((idx x1 (s0_5)) >>= fun e70 => (bif decide (s1_6 < (e70.length : Int)) then ((idx x1 (s0_5)) >>= fun e80 => ((idx e80 (s1_6)) >>= fun e87 => (bif !(e87) then (some (Out.norm (w64 (s1_6 + (1 : Int))))) else (lbind (blockM 4 (loopM (spec_l27Step_L2 x0 x1 s0_5 s1_6) ((0 : Int)))) (fun s2_7 => (lbind (blockM 6 (loopM (spec_l27Step_L3 x0 x1 s0_5 s1_6) ((0 : Int)))) (fun s3_8 => (some (Out.norm (w64 (s1_6 + (1 : Int)))))))))))) else (some (Out.exit 2 (s1_6)))))
noncomputable def spec_l27Step_L0 (x0 : ML27Table) (x1 : (List (List Bool))) (s0_5 : Int) : Option (Out (Int) (Bool × (List (List Bool)))) :=
  (bif decide (s0_5 < (x1.length : Int)) then ((idx x1 (s0_5)) >>= fun e23 => ((idx x0.Tops (s0_5)) >>= fun e30 => ((idx e23 (e30)) >>= fun e32 => (bif !(e32) then ((idx x1 (s0_5)) >>= fun e37 => ((idx x0.Tops (s0_5)) >>= fun e44 => ((idx e37 (e44)) >>= fun e49 => (some (Out.ret ((true, x1.set (s0_5).toNat (e37.set (e44).toNat (true))))))))) else (lbind (blockM 2 (loopM (spec_l27Step_L1 x0 x1 s0_5) ((0 : Int)))) (fun s1_6 => (some (Out.norm (w64 (s0_5 + (1 : Int))))))))))) else (some (Out.exit 0 (s0_5))))
noncomputable def spec_l27Step (x0 : ML27Table) (x1 : (List (List Bool))) : Option (Bool × (List (List Bool))) :=
  retM (S := Unit) (lbind (blockM 0 (loopM (spec_l27Step_L0 x0 x1) ((0 : Int)))) (fun s0_5 => (some (Out.ret ((false, x1))))))
noncomputable def spec_l27Is_L0 (x1 : (List (List Bool))) (s0_5 : (List (List Bool))) (s0_6 : Int) : Option (Out ((List (List Bool)) × Int) (Bool)) :=
  (bif decide (s0_6 < (x1.length : Int)) then ((idx x1 (s0_6)) >>= fun e33 => ((fits 1 ((([] : (List Bool))).length + e33.length)) >>= fun n46 => ((fits 24 (s0_5.length + 1)) >>= fun n67 => (some (Out.norm (s0_5 ++ [([] : (List Bool)) ++ e33], w64 (s0_6 + (1 : Int)))))))) else (some (Out.exit 0 (s0_5, s0_6))))
noncomputable def spec_l27Is (x0 : ML27Table) (x1 : (List (List Bool))) : Option (Bool) :=
  retM (S := Unit) (lbind (blockM 0 (loopM (fun s => spec_l27Is_L0 x1 s.1 s.2) (([] : (List (List Bool))), (0 : Int)))) (fun (s0_5, s0_6) => ((spec_l27Step x0 s0_5) >>= fun y76 => (some (Out.ret ((!(y76.1))))))))
noncomputable def impl_Category_isSieve_L1 (x0 : MCategory) (x2 : (List Int)) (e23 : Int) (y36 : (List Int)) (s1_46 : Int) : Option (Out (Int) (Bool)) :=
  (bif decide (s1_46 < (y36.length : Int)) then ((idx y36 (s1_46)) >>= fun e48 => ((impl_Category_then x0 (e23) (e48)) >>= fun y52 => ((impl_has x2 (y52)) >>= fun y54 => (bif !(y54) then (some (Out.ret (false))) else (some (Out.norm (w64 (s1_46 + (1 : Int))))))))) else (some (Out.exit 2 (s1_46))))
noncomputable def impl_Category_isSieve_L0 (x0 : MCategory) (x1 : Int) (x2 : (List Int)) (s0_23 : Int) : Option (Out (Int) (Bool)) :=
  (bif decide (s0_23 < (x2.length : Int)) then ((idx x2 (s0_23)) >>= fun e23 => ((idx x0.From (e23)) >>= fun e27 => (bif (e27) != (x1) then (some (Out.ret (false))) else ((idx x0.To (e23)) >>= fun e34 => ((impl_Category_outOf x0 (e34)) >>= fun y36 => (lbind (blockM 2 (loopM (impl_Category_isSieve_L1 x0 x2 e23 y36) ((0 : Int)))) (fun s1_46 => (some (Out.norm (w64 (s0_23 + (1 : Int)))))))))))) else (some (Out.exit 0 (s0_23))))
noncomputable def impl_Category_isSieve (x0 : MCategory) (x1 : Int) (x2 : (List Int)) : Option (Bool) :=
  retM (S := Unit) ((((impl_rising x2) >>= fun y5 => (bif !(y5) then (some (true)) else ((impl_Category_arrows x0) >>= fun y8 => ((impl_within x2 (y8)) >>= fun y10 => (some (!(y10)))))))) >>= fun g3 => (bif g3 then (some (Out.ret (false))) else (lbind (blockM 0 (loopM (impl_Category_isSieve_L0 x0 x1 x2) ((0 : Int)))) (fun s0_23 => (some (Out.ret (true)))))))
noncomputable def impl_Topology_hasForm_L1 (x0 : MTopology) (s0_31 : Int) (e22 : (List (List Int))) (s1_38 : Int) : Option (Out (Int) (Bool)) :=
  (bif decide (s1_38 < (e22.length : Int)) then ((idx e22 (s1_38)) >>= fun e37 => ((((impl_Category_isSieve x0.Shape (s0_31) e37) >>= fun y48 => (bif !(y48) then (some (true)) else (bif decide (s1_38 > (0 : Int)) then ((idx e22 (w64 (s1_38 - (1 : Int)))) >>= fun e52 => ((impl_compare e52 e37) >>= fun y59 => (some (decide (y59 ≥ (0 : Int)))))) else (some (false)))))) >>= fun g46 => (bif g46 then (some (Out.ret (false))) else (some (Out.norm (w64 (s1_38 + (1 : Int)))))))) else (some (Out.exit 2 (s1_38))))
noncomputable def impl_Topology_hasForm_L0 (x0 : MTopology) (s0_31 : Int) : Option (Out (Int) (Bool)) :=
  (bif decide (s0_31 < (x0.Covers.length : Int)) then ((idx x0.Covers (s0_31)) >>= fun e22 => (lbind (blockM 2 (loopM (impl_Topology_hasForm_L1 x0 s0_31 e22) ((0 : Int)))) (fun s1_38 => (some (Out.norm (w64 (s0_31 + (1 : Int)))))))) else (some (Out.exit 0 (s0_31))))
noncomputable def impl_Topology_hasForm (x0 : MTopology) : Option (Bool) :=
  retM (S := Unit) ((((impl_Category_isCategory x0.Shape) >>= fun y8 => (bif !(y8) then (some (true)) else (some (((x0.Covers.length : Int)) != (x0.Shape.Objects)))))) >>= fun g6 => (bif g6 then (some (Out.ret (false))) else (lbind (blockM 0 (loopM (impl_Topology_hasForm_L0 x0) ((0 : Int)))) (fun s0_31 => (some (Out.ret (true)))))))
noncomputable def impl_coverageOf_L0 (m10 : MClassifier) (s0_26 : Int) (s0_b107_2 : (List (List Bool))) : Option (Out (Int × (List (List Bool))) ((Option MCoverage) × Bool)) :=
  (bif decide (s0_26 < (m10.Sieves.length : Int)) then ((idx m10.Sieves (s0_26)) >>= fun e187 => ((mk 1 ((e187.length : Int))) >>= fun n196 => ((fits 24 (s0_b107_2.length + 1)) >>= fun n237 => (some (Out.norm (w64 (s0_26 + (1 : Int)), s0_b107_2 ++ [List.replicate n196 false])))))) else (some (Out.exit 0 (s0_26, s0_b107_2))))
noncomputable def impl_coverageOf (x0 : MCategory) : Option ((Option MCoverage) × Bool) :=
  retM (S := Unit) ((impl_Category_classifier x0) >>= fun y3 => (match y3.1 with | none => (bif !(y3.2) then (some (Out.ret ((none, (false))))) else none) | some m10 => (bif !(y3.2) then (some (Out.ret ((none, (false))))) else (lbind (blockM 0 (loopM (fun s => impl_coverageOf_L0 m10 s.1 s.2) ((0 : Int), []))) (fun (s0_26, s0_b107_2) => (some (Out.ret (((some (MCoverage.mk m10 x0 s0_b107_2 (((0 : Int))))), (true))))))))))
noncomputable def sync_atomic_Int64_Add (x0 : Int) (x1 : Int) : Option (Int × Int) :=
  retM (S := Unit) (some (Out.ret (((w64 (x0 + x1)), (w64 (x0 + x1))))))
noncomputable def impl_coverage_mark (x0 : MCoverage) (x1 : Int) (x2 : Int) : Option ((List (List Bool)) × Int) :=
  finM (R := ((List (List Bool)) × Int)) ((idx x0.Covers (x1)) >>= fun e23 => ((idx e23 (x2)) >>= fun e30 => (bif !(e30) then ((idx x0.Covers (x1)) >>= fun e35 => ((idx e35 (x2)) >>= fun e42 => ((sync_atomic_Int64_Add x0.Count ((1 : Int))) >>= fun y58 => (some (Out.norm ((x0.Covers.set (x1).toNat (e35.set (x2).toNat (true)), y58.2))))))) else (some (Out.norm ((x0.Covers, x0.Count)))))))
noncomputable def impl_Topology_coverage_L1 (e24 : (List (List Int))) : Option (Out (Unit) ((Option MCoverage) × Bool)) :=
  (bif decide ((0 : Int) < (e24.length : Int)) then ((idx e24 ((0 : Int))) >>= fun e39 => none) else (some (Out.exit 2 ())))
noncomputable def impl_Topology_coverage_L0 (x0 : MTopology) (s0_24 : Int) : Option (Out (Int) ((Option MCoverage) × Bool)) :=
  (bif decide (s0_24 < (x0.Covers.length : Int)) then ((idx x0.Covers (s0_24)) >>= fun e24 => (lbind (blockM 2 (loopM (fun _ => impl_Topology_coverage_L1 e24) ())) (fun _ => (some (Out.norm (w64 (s0_24 + (1 : Int)))))))) else (some (Out.exit 0 (s0_24))))
noncomputable def impl_Topology_coverage_L3 (x0 : MTopology) (m11 : MCoverage) (s2_24 : Int) (e214 : (List (List Int))) (s3_31 : Int) (s3_b83_0 : Int) (s3_o82 : (List (List Bool))) : Option (Out (Int × Int × (List (List Bool))) ((Option MCoverage) × Bool)) :=
  (bif decide (s3_31 < (e214.length : Int)) then ((idx e214 (s3_31)) >>= fun e285 => ((impl_classifier_number m11.Classifier (s2_24) e285) >>= fun y294 => ((impl_coverage_mark (MCoverage.mk m11.Classifier x0.Shape s3_o82 s3_b83_0) (s2_24) (y294)) >>= fun y299 => (some (Out.norm (w64 (s3_31 + (1 : Int)), y299.2, y299.1)))))) else (some (Out.exit 2 (s3_31, s3_b83_0, s3_o82))))
noncomputable def impl_Topology_coverage_L2 (x0 : MTopology) (m11 : MCoverage) (s2_24 : Int) (s2_b83_0 : Int) (s2_o82 : (List (List Bool))) : Option (Out (Int × Int × (List (List Bool))) ((Option MCoverage) × Bool)) :=
  (bif decide (s2_24 < (x0.Covers.length : Int)) then ((idx x0.Covers (s2_24)) >>= fun e214 => (lbind (blockM 2 (loopM (fun s => impl_Topology_coverage_L3 x0 m11 s2_24 e214 s.1 s.2.1 s.2.2) ((0 : Int), s2_b83_0, s2_o82))) (fun (s3_31, s3_b83_0, s3_o82) => (some (Out.norm (w64 (s2_24 + (1 : Int)), s3_b83_0, s3_o82)))))) else (some (Out.exit 0 (s2_24, s2_b83_0, s2_o82))))
noncomputable def impl_Topology_coverage (x0 : MTopology) : Option ((Option MCoverage) × Bool) :=
  retM (S := Unit) ((impl_coverageOf x0.Shape) >>= fun y4 => (match y4.1 with | none => (bif !(y4.2) then (some (Out.ret ((none, (false))))) else (lbind (blockM 0 (loopM (impl_Topology_coverage_L0 x0) ((0 : Int)))) (fun s0_24 => (some (Out.ret ((none, (true)))))))) | some m11 => (bif !(y4.2) then (some (Out.ret ((none, (false))))) else (lbind (blockM 0 (loopM (fun s => impl_Topology_coverage_L2 x0 m11 s.1 s.2.1 s.2.2) ((0 : Int), m11.Count, m11.Covers))) (fun (s2_24, s2_b83_0, s2_o82) => (some (Out.ret (((some (MCoverage.mk m11.Classifier x0.Shape s2_o82 s2_b83_0)), (true))))))))))
noncomputable def slices_Clone___bool_bool_ (x0 : (List Bool)) : Option (List Bool) := (fits 1 x0.length) >>= fun _ => some x0
noncomputable def impl_coverage_is (x0 : MCoverage) (x1 : Int) (x2 : (List Int)) : Option (Bool) :=
  retM (S := Unit) ((idx x0.Covers (x1)) >>= fun e3 => ((impl_classifier_number x0.Classifier (x1) x2) >>= fun y10 => ((idx e3 (y10)) >>= fun e12 => (some (Out.ret (e12))))))
noncomputable def impl_coverage_locally_L0 (x0 : MCoverage) (x1 : (List Int)) (x2 : (List Int)) (s0_11 : Int) : Option (Out (Int) (Bool)) :=
  (bif decide (s0_11 < (x2.length : Int)) then ((idx x2 (s0_11)) >>= fun e9 => ((idx x0.C.To (e9)) >>= fun e13 => ((impl_Category_pull x0.C (e9) x1) >>= fun y15 => ((impl_coverage_is x0 (e13) y15) >>= fun y23 => (bif !(y23) then (some (Out.ret (false))) else (some (Out.norm (w64 (s0_11 + (1 : Int)))))))))) else (some (Out.exit 0 (s0_11))))
noncomputable def impl_coverage_locally (x0 : MCoverage) (x1 : (List Int)) (x2 : (List Int)) : Option (Bool) :=
  retM (S := Unit) (lbind (blockM 0 (loopM (impl_coverage_locally_L0 x0 x1 x2) ((0 : Int)))) (fun s0_11 => (some (Out.ret (true)))))
noncomputable def laws_eqInt64SSS_L0 (x0 : (List (List (List Int)))) (x1 : (List (List (List Int)))) (s0_5 : Int) : Option (Out (Int) (Bool)) :=
  (bif decide (s0_5 < (x0.length : Int)) then ((idx x0 (s0_5)) >>= fun e14 => ((idx x1 (s0_5)) >>= fun e21 => ((laws_eqInt64SS e14 e21) >>= fun y28 => (bif !(y28) then (some (Out.ret (false))) else (some (Out.norm (w64 (s0_5 + (1 : Int))))))))) else (some (Out.exit 0 (s0_5))))
noncomputable def laws_eqInt64SSS (x0 : (List (List (List Int)))) (x1 : (List (List (List Int)))) : Option (Bool) :=
  retM (S := Unit) (bif ((x0.length : Int)) != ((x1.length : Int)) then (some (Out.ret (false))) else (lbind (blockM 0 (loopM (laws_eqInt64SSS_L0 x0 x1) ((0 : Int)))) (fun s0_5 => (some (Out.ret (true))))))
noncomputable def laws_eqTopology (x0 : MTopology) (x1 : MTopology) : Option (Bool) :=
  retM (S := Unit) ((laws_eqCategory x0.Shape x1.Shape) >>= fun y16 => (bif !(y16) then (some (Out.ret (false))) else ((laws_eqInt64SSS x0.Covers x1.Covers) >>= fun y23 => (bif !(y23) then (some (Out.ret (false))) else (some (Out.ret (true)))))))
noncomputable def laws_markInt64SSS_L0 (s0_1 : Int) (s0_5 : Int) (s0_o_x0 : (List (List (List Int)))) : Option (Out (Int × Int × (List (List (List Int)))) (Int × (List (List (List Int))))) :=
  (bif decide (s0_5 < (s0_o_x0.length : Int)) then ((idx s0_o_x0 (s0_5)) >>= fun e10 => ((laws_markInt64SS e10 (s0_1)) >>= fun y22 => (some (Out.norm (y22.1, w64 (s0_5 + (1 : Int)), s0_o_x0.set (s0_5).toNat y22.2))))) else (some (Out.exit 0 (s0_1, s0_5, s0_o_x0))))
noncomputable def laws_markInt64SSS (x0 : (List (List (List Int)))) (x1 : Int) : Option (Int × (List (List (List Int)))) :=
  retM (S := Unit) (lbind (blockM 0 (loopM (fun s => laws_markInt64SSS_L0 s.1 s.2.1 s.2.2) (x1, (0 : Int), x0))) (fun (s0_1, s0_5, s0_o_x0) => (some (Out.ret ((s0_1, s0_o_x0))))))
noncomputable def laws_markTopology (x0 : MTopology) (x1 : Int) : Option (Int × (List Int) × (List Int) × (List Int) × (List (List Int)) × (List (List (List Int)))) :=
  retM (S := Unit) ((laws_markCategory x0.Shape (x1)) >>= fun y13 => ((laws_markInt64SSS x0.Covers (y13.1)) >>= fun y40 => (some (Out.ret ((y40.1, y13.2.1, y13.2.2.1, y13.2.2.2.1, y13.2.2.2.2, y40.2))))))
noncomputable def spec_l27Covers_L1 (x0 : ML27Table) (x1 : (List (List Bool))) (s0_6 : Int) (s1_7 : (List (List Int))) (s1_8 : Int) : Option (Out ((List (List Int)) × Int) (MTopology)) :=
  ((idx x1 (s0_6)) >>= fun e170 => (bif decide (s1_8 < (e170.length : Int)) then ((idx x1 (s0_6)) >>= fun e180 => ((idx e180 (s1_8)) >>= fun e187 => (bif e187 then ((idx x0.Lists (s0_6)) >>= fun e192 => ((idx e192 (s1_8)) >>= fun e199 => ((spec_l01Own e199) >>= fun y206 => ((fits 24 (s1_7.length + 1)) >>= fun n246 => (some (Out.norm (s1_7 ++ [y206], w64 (s1_8 + (1 : Int))))))))) else (some (Out.norm (s1_7, w64 (s1_8 + (1 : Int)))))))) else (some (Out.exit 2 (s1_7, s1_8)))))
noncomputable def spec_l27Covers_L0 (x0 : ML27Table) (x1 : (List (List Bool))) (s0_6 : Int) (s0_b59_5 : (List (List (List Int)))) : Option (Out (Int × (List (List (List Int)))) (MTopology)) :=
  (bif decide (s0_6 < (x1.length : Int)) then (lbind (blockM 2 (loopM (fun s => spec_l27Covers_L1 x0 x1 s0_6 s.1 s.2) (([] : (List (List Int))), (0 : Int)))) (fun (s1_7, s1_8) => ((fits 24 (s0_b59_5.length + 1)) >>= fun n286 => (some (Out.norm (w64 (s0_6 + (1 : Int)), s0_b59_5 ++ [s1_7])))))) else (some (Out.exit 0 (s0_6, s0_b59_5))))
noncomputable def spec_l27Covers (x0 : ML27Table) (x1 : (List (List Bool))) : Option (MTopology) :=
  retM (S := Unit) ((spec_l02Own x0.C) >>= fun y16 => (lbind (blockM 0 (loopM (fun s => spec_l27Covers_L0 x0 x1 s.1 s.2) ((0 : Int), ([] : (List (List (List Int))))))) (fun (s0_6, s0_b59_5) => (some (Out.ret ((MTopology.mk y16 s0_b59_5)))))))
noncomputable def impl_coverage_topology_L1 (e81 : (List (List Int))) (e103 : (List Bool)) (s1_6 : (List (List Int))) (s1_37 : Int) : Option (Out ((List (List Int)) × Int) (MTopology)) :=
  (bif decide (s1_37 < (e103.length : Int)) then ((idx e103 (s1_37)) >>= fun e147 => (bif e147 then ((idx e81 (s1_37)) >>= fun e154 => ((impl_clone e154) >>= fun y161 => ((fits 24 (s1_6.length + 1)) >>= fun n199 => (some (Out.norm (s1_6 ++ [y161], w64 (s1_37 + (1 : Int)))))))) else (some (Out.norm (s1_6, w64 (s1_37 + (1 : Int))))))) else (some (Out.exit 2 (s1_6, s1_37))))
noncomputable def impl_coverage_topology_L0 (x0 : MCoverage) (s0_23 : Int) (s0_b35_5 : (List (List (List Int)))) : Option (Out (Int × (List (List (List Int)))) (MTopology)) :=
  (bif decide (s0_23 < (x0.Classifier.Sieves.length : Int)) then ((idx x0.Classifier.Sieves (s0_23)) >>= fun e81 => ((idx x0.Covers (s0_23)) >>= fun e103 => (lbind (blockM 2 (loopM (fun s => impl_coverage_topology_L1 e81 e103 s.1 s.2) (([] : (List (List Int))), (0 : Int)))) (fun (s1_6, s1_37) => ((fits 24 (s0_b35_5.length + 1)) >>= fun n237 => (some (Out.norm (w64 (s0_23 + (1 : Int)), s0_b35_5 ++ [s1_6])))))))) else (some (Out.exit 0 (s0_23, s0_b35_5))))
noncomputable def impl_coverage_topology (x0 : MCoverage) : Option (MTopology) :=
  retM (S := Unit) ((impl_Category_copy x0.C) >>= fun y8 => (lbind (blockM 0 (loopM (fun s => impl_coverage_topology_L0 x0 s.1 s.2) ((0 : Int), []))) (fun (s0_23, s0_b35_5) => (some (Out.ret ((MTopology.mk y8 s0_b35_5)))))))
noncomputable def laws_heldInt64SSS_L0 (x0 : (List (List (List Int)))) (s0_1 : Int) (s0_5 : Int) : Option (Out (Int × Int) (Int)) :=
  (bif decide (s0_5 < (x0.length : Int)) then ((idx x0 (s0_5)) >>= fun e9 => ((laws_heldInt64SS e9 (s0_1)) >>= fun y16 => (bif decide (y16 < (0 : Int)) then (some (Out.ret (((-1 : Int))))) else (some (Out.norm (y16, w64 (s0_5 + (1 : Int)))))))) else (some (Out.exit 0 (s0_1, s0_5))))
noncomputable def laws_heldInt64SSS (x0 : (List (List (List Int)))) (x1 : Int) : Option (Int) :=
  retM (S := Unit) (lbind (blockM 0 (loopM (fun s => laws_heldInt64SSS_L0 x0 s.1 s.2) (x1, (0 : Int)))) (fun (s0_1, s0_5) => (some (Out.ret (s0_1)))))
noncomputable def laws_heldTopology (x0 : MTopology) (x1 : Int) : Option (Int) :=
  retM (S := Unit) ((laws_heldCategory x0.Shape (x1)) >>= fun y8 => (bif decide (y8 < (0 : Int)) then (some (Out.ret (((-1 : Int))))) else ((laws_heldInt64SSS x0.Covers (y8)) >>= fun y17 => (bif decide (y17 < (0 : Int)) then (some (Out.ret (((-1 : Int))))) else (some (Out.ret (y17)))))))
end Go.Proofs.YtdlhbbhdfnnmnaaGreat
