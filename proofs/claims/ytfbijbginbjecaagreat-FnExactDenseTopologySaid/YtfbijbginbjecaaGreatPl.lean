/- Topologies by marks: what the reference's table and the program's coverage give. No condition beside those that each theorem names. -/
import Derived.Test.YtfbijbginbjecaaGreatPk
namespace Go.Proofs.YtfbijbginbjecaaGreat
open Go Go.Li
set_option linter.unusedSectionVars false

def marksP (ls:List (List (List Int))) (p:Int→List Int→Bool):List (List Bool):=mapI ls.length fun x=>(gl ls x).map (p x)
def covP (ls:List (List (List Int))) (p:Int→List Int→Bool):List (List (List Int)):=mapI ls.length fun x=>(gl ls x).filter (p x)
theorem gl_mapI {α:Type} {n:Nat} {g:Int→List α} {x:Int} (h0:0≤x) (h1:x < n):gl (mapI n g) x=g x:=by
  have:=gl_eq (mapI_get g (show x.toNat < n by omega))
  rwa [Int.toNat_of_nonneg h0] at this
theorem gl_marks {ls:List (List (List Int))} {p:Int→List Int→Bool} {x:Int} (h0:0≤x) (h1:x < ls.length):gl (marksP ls p) x=(gl ls x).map (p x):=gl_mapI h0 h1
theorem marks_length (ls:List (List (List Int))) (p:Int→List Int→Bool):(marksP ls p).length=ls.length:=mapI_length _ _
theorem gr_get {l:List (List Int)} {i:Nat} (h:i < l.length):l[i]? = some (gr l i):=by
  unfold gr; rw [List.getD_eq_getElem?_getD,Int.toNat_natCast,List.getElem?_eq_getElem h]; rfl
section
variable {c : MCategory} (H : Cat c)
include H
theorem specCovers {ls:List (List (List Int))} {p:Int→List Int→Bool} {u:List (List Int)} {v:List Int} (hs:CatSmall c) (h:Lists c c.Objects.toNat ls):spec_l27Covers (ML27Table.mk c ls u v) (marksP ls p)=some (MTopology.mk c (covP ls p)):=by
  have ho:=H.o0
  have ho8:=H.o8
  have hm:=H.m
  have hlen:=h.len
  unfold spec_l27Covers
  dsimp only
  rw [specOwnC hs,some_bind']
  refine (congrArg retM (map_loop ls.length (fun x=>(gl ls x).filter (p x)) (fun acc i=>((i:Int),acc)) rfl ?_ ?_)).trans rfl
  · intro i acc hi ha
    have st:=Lists.sv H h (i:=(i:Int)) (by omega) (by omega)
    have hl:=st.len
    show spec_l27Covers_L0 (ML27Table.mk c ls u v) (marksP ls p) i acc=_
    unfold spec_l27Covers_L0
    rw [marks_length,decT (by omega),cond_true]
    refine (fold_loop (gl ls i) (fun acc s=>if p i s then acc ++ [s] else acc) (fun j acc=>acc.length≤j) (fun acc j=>(acc,(j:Int))) [] rfl (Nat.le_refl _) ?_ ?_ ?_).trans ?_
    · intro j s acc _ hacc
      split
      · rw [List.length_append,List.length_singleton]; omega
      · omega
    · intro j s acc2 hsj hacc
      have hj:=getElem?_lt hsj
      have hsl:=(SvList.sv H st s (List.mem_of_getElem? hsj)).len
      have hmk:((gl ls i).map (p i))[j]? = some (p i s):=by rw [List.getElem?_map,hsj]; rfl
      show spec_l27Covers_L1 (ML27Table.mk c ls u v) (marksP ls p) i acc2 j=_
      unfold spec_l27Covers_L1
      rw [idx_gl (by omega) (by rw [marks_length]; omega),some_bind',gl_marks (by omega) (by omega),List.length_map,decT (by omega),cond_true,some_bind',idx_nat,hmk,some_bind',w64_nat (by omega)]
      cases p i s with
      | false => rw [cond_false]; rfl
      | true =>
        dsimp only
        rw [cond_true,idx_gl (by omega) (by omega),some_bind',idx_nat,hsj,some_bind',specOwn0 s (by omega),some_bind',fits_ok (by omega) (by omega),some_bind']
        rfl
    · intro acc2 _
      show spec_l27Covers_L1 (ML27Table.mk c ls u v) (marksP ls p) i acc2 _=_
      unfold spec_l27Covers_L1
      rw [idx_gl (by omega) (by rw [marks_length]; omega),some_bind',gl_marks (by omega) (by omega),List.length_map,decF (by omega),cond_false]
    · dsimp only
      rw [fits_ok (by omega) (by omega),some_bind',w64_nat (by omega)]
      have:=foldl_filter (p i) (fun s:List Int=>s) (gl ls i) []
      rw [List.map_id',List.nil_append] at this
      rw [this]
  · intro acc ha
    show spec_l27Covers_L0 (ML27Table.mk c ls u v) (marksP ls p) _ acc=_
    unfold spec_l27Covers_L0
    rw [marks_length,decF (by omega),cond_false]

theorem implTopology {k:MCoverage} {ls:List (List (List Int))} {p:Int→List Int→Bool} (hc:k.C=c) (hk:k.Classifier.Sieves=ls) (hv:k.Covers=marksP ls p) (hs:CatSmall c) (h:Lists c c.Objects.toNat ls):impl_coverage_topology k=some (MTopology.mk c (covP ls p)):=by
  have ho:=H.o0
  have ho8:=H.o8
  have hm:=H.m
  have hlen:=h.len
  unfold impl_coverage_topology
  rw [hc,implCopy hs,some_bind']
  refine (congrArg retM (map_loop ls.length (fun x=>(gl ls x).filter (p x)) (fun acc i=>((i:Int),acc)) rfl ?_ ?_)).trans rfl
  · intro i acc hi ha
    have st:=Lists.sv H h (i:=(i:Int)) (by omega) (by omega)
    have hl:=st.len
    show impl_coverage_topology_L0 k i acc=_
    unfold impl_coverage_topology_L0
    rw [hk,hv,decT (by omega),cond_true,idx_gl (by omega) (by omega),some_bind',idx_gl (by omega) (by rw [marks_length]; omega),some_bind',gl_marks (by omega) (by omega)]
    refine (fold_loop (gl ls i) (fun acc s=>if p i s then acc ++ [s] else acc) (fun j acc=>acc.length≤j) (fun acc j=>(acc,(j:Int))) [] rfl (Nat.le_refl _) ?_ ?_ ?_).trans ?_
    · intro j s acc _ hacc
      split
      · rw [List.length_append,List.length_singleton]; omega
      · omega
    · intro j s acc2 hsj hacc
      have hj:=getElem?_lt hsj
      have hsl:=(SvList.sv H st s (List.mem_of_getElem? hsj)).len
      have hmk:((gl ls i).map (p i))[j]? = some (p i s):=by rw [List.getElem?_map,hsj]; rfl
      show impl_coverage_topology_L1 (gl ls i) ((gl ls i).map (p i)) acc2 j=_
      unfold impl_coverage_topology_L1
      rw [List.length_map,decT (by omega),cond_true,idx_nat,hmk,some_bind',w64_nat (by omega)]
      cases p i s with
      | false => rw [cond_false]; rfl
      | true =>
        rw [cond_true,idx_nat,hsj,some_bind',implClone H s (by omega),some_bind',fits_ok (by omega) (by omega),some_bind']
        rfl
    · intro acc2 _
      show impl_coverage_topology_L1 (gl ls i) ((gl ls i).map (p i)) acc2 _=_
      unfold impl_coverage_topology_L1
      rw [List.length_map,decF (by omega),cond_false]
    · dsimp only
      rw [fits_ok (by omega) (by omega),some_bind',w64_nat (by omega)]
      have:=foldl_filter (p i) (fun s:List Int=>s) (gl ls i) []
      rw [List.map_id',List.nil_append] at this
      rw [this]
  · intro acc ha
    show impl_coverage_topology_L0 k _ acc=_
    unfold impl_coverage_topology_L0
    rw [hk,decF (by omega),cond_false]

theorem specCategory {ls:List (List (List Int))} (hs:CatSmall c) (hcat:catB c=true) (h:Lists c c.Objects.toNat ls):spec_l27Category c=some (ML27Table.mk c ls (acts c ls) (tops c ls),marksP ls (fun _ _=>false),0):=by
  have ho:=H.o0
  have ho8:=H.o8
  have hlen:=h.len
  unfold spec_l27Category
  rw [specIs hs,some_bind',hcat,Bool.not_true,cond_false,specTable H hs h,some_bind']
  simp only [Bool.not_true,cond_false]
  refine (congrArg retM (map_loop ls.length (fun x=>(gl ls x).map (fun _=>false)) (fun acc i=>(acc,(i:Int))) rfl ?_ ?_)).trans rfl
  · intro i acc hi ha
    have hl:=(Lists.sv H h (i:=(i:Int)) (by omega) (by omega)).len
    show spec_l27Category_L0 _ acc i=_
    unfold spec_l27Category_L0
    dsimp only
    rw [decT (by omega),cond_true,idx_gl (by omega) (by omega),some_bind',mk_ok (by omega) (by omega),some_bind',fits_ok (by omega) (by omega),some_bind',w64_nat (by omega),List.map_const']
  · intro acc ha
    show spec_l27Category_L0 _ acc _=_
    unfold spec_l27Category_L0
    dsimp only
    rw [decF (by omega),cond_false]
theorem implCoverage {ls:List (List (List Int))} (hs:CatSmall c) (h:Lists c c.Objects.toNat ls) :
    impl_coverageOf c=some (some (MCoverage.mk (MClassifier.mk (MSetFunctor.mk c (sizesOf ls) (acts c ls)) ls) c (marksP ls (fun _ _=>false)) 0),true):=by
  have ho:=H.o0
  have ho8:=H.o8
  have hlen:=h.len
  unfold impl_coverageOf
  rw [implClassifier H hs h,some_bind']
  simp only [Bool.not_true,cond_false]
  refine (congrArg retM (map_loop ls.length (fun x=>(gl ls x).map (fun _=>false)) (fun acc i=>((i:Int),acc)) rfl ?_ ?_)).trans rfl
  · intro i acc hi ha
    have hl:=(Lists.sv H h (i:=(i:Int)) (by omega) (by omega)).len
    show impl_coverageOf_L0 _ i acc=_
    unfold impl_coverageOf_L0
    dsimp only
    rw [decT (by omega),cond_true,idx_gl (by omega) (by omega),some_bind',mk_ok (by omega) (by omega),some_bind',fits_ok (by omega) (by omega),some_bind',w64_nat (by omega),List.map_const']
  · intro acc ha
    show impl_coverageOf_L0 _ _ acc=_
    unfold impl_coverageOf_L0
    dsimp only
    rw [decF (by omega),cond_false]

def rowM (L:List (List Int)) (q:List Int→Bool) (j:Nat):List Bool:=(L.take j).map q ++ (L.drop j).map fun _=>false
theorem rowM_length (L:List (List Int)) (q:List Int→Bool) (j:Nat):(rowM L q j).length=L.length:=by
  have _:=H
  unfold rowM; rw [List.length_append,List.length_map,List.length_map,← List.length_append,List.take_append_drop]
theorem rowM_get {L:List (List Int)} {q:List Int→Bool} {j:Nat} (h:j < L.length):(rowM L q j)[j]? = some false:=by
  have _:=H
  unfold rowM
  rw [List.getElem?_append_right (by simp; omega)]
  simp only [List.length_map,List.length_take]
  rw [show j - min j L.length=0 by omega,List.drop_eq_getElem_cons h]; rfl
theorem rowM_succ {L:List (List Int)} {q:List Int→Bool} {j:Nat} {s:List Int} (h:L[j]? = some s):rowM L q (j + 1)=if q s then (rowM L q j).set j true else rowM L q j:=by
  have _:=H
  have hj:=getElem?_lt h
  have e:L.drop j=s :: L.drop (j + 1):=by
    rw [List.drop_eq_getElem_cons hj]; congr 1
    rw [List.getElem?_eq_getElem hj] at h; exact Option.some.inj h
  unfold rowM
  rw [take_succ_get h,e,List.map_append,List.append_assoc,List.map_cons]
  cases hq:q s with
  | true =>
    rw [if_pos rfl,List.set_append_right _ _ (by simp; omega)]
    simp only [List.length_map,List.length_take]
    rw [show j - min j L.length=0 by omega]
    simp
  | false =>
    rw [if_neg (by simp)]
    simp
def rowX (ls:List (List (List Int))) (q:Int→List Int→Bool) (i j:Nat) (x:Int):List Bool:=if x < i then (gl ls x).map (q x) else if x=i then rowM (gl ls x) (q x) j else (gl ls x).map fun _=>false
def marksX (ls:List (List (List Int))) (q:Int→List Int→Bool) (i j:Nat):List (List Bool):=mapI ls.length (rowX ls q i j)
theorem marksX_set {ls:List (List (List Int))} {q:Int→List Int→Bool} {i j:Nat} {s:List Int} (hi:i < ls.length) (h:(gl ls i)[j]? = some s) :
    marksX ls q i (j + 1)=if q i s then (marksX ls q i j).set i ((rowM (gl ls i) (q i) j).set j true) else marksX ls q i j:=by
  have hr:=rowM_succ H (q:=q i) h
  apply List.ext_getElem?
  intro x
  unfold marksX
  by_cases hx:x < ls.length
  · rw [mapI_get _ hx]
    by_cases e:x=i
    · subst e
      have e1:rowX ls q x (j + 1) x=rowM (gl ls x) (q x) (j + 1):=by unfold rowX; rw [if_neg (by omega),if_pos rfl]
      have e2:rowX ls q x j x=rowM (gl ls x) (q x) j:=by unfold rowX; rw [if_neg (by omega),if_pos rfl]
      rw [e1,hr]
      split
      · rw [List.getElem?_set,if_pos rfl,if_pos (by rw [mapI_length]; exact hx)]
      · rw [mapI_get _ hx,e2]
    · have e1:rowX ls q i (j + 1) x=rowX ls q i j x:=by
        unfold rowX
        split
        · rfl
        · rw [if_neg (by omega),if_neg (by omega)]
      rw [e1]
      split
      · rw [List.getElem?_set,if_neg (fun h=>e h.symm),mapI_get _ hx]
      · rw [mapI_get _ hx]
  · rw [List.getElem?_eq_none (by rw [mapI_length]; omega),List.getElem?_eq_none (by split <;> simp only [List.length_set,mapI_length] <;> omega)]
theorem marksX_next {ls:List (List (List Int))} {q:Int→List Int→Bool} {i:Nat}:marksX ls q i (gl ls i).length=marksX ls q (i + 1) 0:=by
  have _:=H
  refine mapI_congr fun x _=>?_
  unfold rowX
  by_cases h1:x < i
  · rw [if_pos (by omega),if_pos (by omega)]
  · by_cases h2:x=i
    · subst h2
      rw [if_neg (by omega),if_pos rfl,if_pos (by omega)]
      unfold rowM; simp
    · rw [if_neg (by omega),if_neg (by omega),if_neg (by omega)]
      by_cases h3:x=i + 1
      · subst h3
        rw [if_pos rfl]; unfold rowM; simp
      · rw [if_neg (by omega)]
theorem marksX_zero {ls:List (List (List Int))} {q:Int→List Int→Bool}:marksX ls q 0 0=marksP ls fun _ _=>false:=by
  have _:=H
  refine mapI_congr fun x _=>?_
  unfold rowX
  rw [if_neg (by omega)]
  split
  · unfold rowM; simp
  · rfl
theorem marksX_all {ls:List (List (List Int))} {q:Int→List Int→Bool}:marksX ls q ls.length 0=marksP ls q:=by
  have _:=H
  refine mapI_congr fun x hx=>?_
  unfold rowX
  rw [if_pos (by omega)]

theorem chosen {ls:List (List (List Int))} {cov:Int→List Int→Option Bool} {q:Int→List Int→Bool} (hs:CatSmall c) (hcat:catB c=true) (h:Lists c c.Objects.toNat ls)
    (hq : ∀ i:Nat,i < ls.length→∀ s∈gl ls i,cov i s=some (q i s)):impl_chosenTopology c cov=some (MTopology.mk c (covP ls q),0):=by
  have ho:=H.o0
  have ho8:=H.o8
  have hlen:=h.len
  unfold impl_chosenTopology
  rw [implIs hs,some_bind',hcat,Bool.not_true,cond_false,implCoverage H hs h,some_bind']
  simp only [Bool.not_true,cond_false]
  generalize hm24:MCoverage.mk (MClassifier.mk (MSetFunctor.mk c (sizesOf ls) (acts c ls)) ls) c (marksP ls (fun _ _=>false)) 0=m24
  have hsv:m24.Classifier.Sieves=ls:=by rw [← hm24]
  -- a row
  have row : ∀ (S:Type) (f:Int×Int×List (List Bool)→Option (Out S (MTopology×Int))) (i:Nat),i < ls.length→∀ (m j:Nat) (cnt:Int),(gl ls i).length - j=m→j≤(gl ls i).length→
      ∃ cnt',lbind (blockM 2 (loopM (fun s=>impl_chosenTopology_L1 c cov m24 (i:Int) (gl ls i) s.1 s.2.1 s.2.2) ((j:Int),cnt,marksX ls q i j))) f=f (((gl ls i).length:Int),cnt',marksX ls q i (gl ls i).length):=by
    intro S f i hi m
    have hl:=(Lists.sv H h (i:=(i:Int)) (by omega) (by omega)).len
    induction m with
    | zero =>
      intro j cnt hd hj
      obtain rfl:j=(gl ls i).length:=by omega
      exact ⟨cnt,lb_end (by show impl_chosenTopology_L1 c cov m24 (i:Int) (gl ls i) _ cnt _=_; unfold impl_chosenTopology_L1; rw [decF (by omega),cond_false])⟩
    | succ m ih =>
      intro j cnt hd hj
      have hlt:j < (gl ls i).length:=by omega
      have hsj:(gl ls i)[j]? = some ((gl ls i)[j]):=List.getElem?_eq_getElem hlt
      have hqs:=hq i hi _ (List.getElem_mem hlt)
      have hset:=marksX_set H (q:=q) hi hsj
      have hb : ∃ cnt',impl_chosenTopology_L1 c cov m24 (i:Int) (gl ls i) (j:Int) cnt (marksX ls q i j)=some (.norm (((j + 1:Nat):Int),cnt',marksX ls q i (j + 1))):=by
        unfold impl_chosenTopology_L1
        rw [decT (by omega),cond_true,idx_nat,hsj,some_bind',hqs,some_bind',w64_nat (by omega),hset]
        cases hqv:q i ((gl ls i)[j]) with
        | false => exact ⟨cnt,by rw [cond_false]; rfl⟩
        | true =>
          rw [cond_true]
          have hmk:impl_coverage_mark (MCoverage.mk m24.Classifier c (marksX ls q i j) cnt) (i:Int) (j:Int)=some ((marksX ls q i j).set i ((rowM (gl ls i) (q i) j).set j true),w64 (cnt + 1)):=by
            unfold impl_coverage_mark
            dsimp only
            have hrow:idx (marksX ls q i j) (i:Int)=some (rowM (gl ls i) (q i) j):=by
              rw [idx_nat,marksX,mapI_get _ hi]
              unfold rowX
              rw [if_neg (by omega),if_pos rfl]
            rw [hrow,some_bind',idx_nat,rowM_get H hlt,some_bind',Bool.not_false,cond_true,some_bind',idx_nat,rowM_get H hlt,some_bind',Int.toNat_natCast,Int.toNat_natCast]
            rfl
          rw [hmk,some_bind']
          exact ⟨w64 (cnt + 1),rfl⟩
      obtain ⟨cnt1,hb⟩:=hb
      obtain ⟨cnt2,h2⟩:=ih (j + 1) cnt1 (by omega) (by omega)
      exact ⟨cnt2,by rw [lb_step (s':=(((j + 1:Nat):Int),cnt1,marksX ls q i (j + 1))) hb]; exact h2⟩
  have rows : ∀ (S:Type) (f:Int×Int×List (List Bool)→Option (Out S (MTopology×Int))) (m i:Nat) (cnt:Int),ls.length - i=m→i≤ls.length→
      ∃ cnt',lbind (blockM 0 (loopM (fun s=>impl_chosenTopology_L0 c cov m24 s.1 s.2.1 s.2.2) ((i:Int),cnt,marksX ls q i 0))) f=f ((ls.length:Int),cnt',marksX ls q ls.length 0):=by
    intro S f m
    induction m with
    | zero =>
      intro i cnt hd hi
      obtain rfl:i=ls.length:=by omega
      exact ⟨cnt,lb_end (by show impl_chosenTopology_L0 c cov m24 _ cnt _=_; unfold impl_chosenTopology_L0; rw [hsv,decF (by omega),cond_false])⟩
    | succ m ih =>
      intro i cnt hd hi
      have hi':i < ls.length:=by omega
      obtain ⟨cnt1,h1⟩:=row _ (fun s=>(some (Out.norm (w64 ((i:Int) + (1:Int)),s.2.1,s.2.2)))) i hi' (gl ls i).length 0 cnt rfl (Nat.zero_le _)
      have hb:impl_chosenTopology_L0 c cov m24 (i:Int) cnt (marksX ls q i 0)=some (.norm (((i + 1:Nat):Int),cnt1,marksX ls q (i + 1) 0)):=by
        unfold impl_chosenTopology_L0
        rw [hsv,decT (by omega),cond_true,idx_gl (by omega) (by omega),some_bind']
        refine Eq.trans h1 ?_
        dsimp only
        rw [w64_nat (by omega),marksX_next H]
      obtain ⟨cnt2,h2⟩:=ih (i + 1) cnt1 (by omega) (by omega)
      exact ⟨cnt2,by rw [lb_step (s':=(((i + 1:Nat):Int),cnt1,marksX ls q (i + 1) 0)) hb]; exact h2⟩
  obtain ⟨cnt',hr⟩:=rows Unit (fun s=>((impl_coverage_topology (MCoverage.mk (MClassifier.mk (MSetFunctor.mk c (sizesOf ls) (acts c ls)) ls) c s.2.2 s.2.1))>>=fun y340=>(some (Out.ret ((y340,((0:Int)))))))) ls.length 0 0 rfl (Nat.zero_le _)
  rw [marksX_zero H,marksX_all H] at hr
  refine (congrArg retM hr).trans ?_
  dsimp only
  rw [implTopology H (k:=MCoverage.mk (MClassifier.mk (MSetFunctor.mk c (sizesOf ls) (acts c ls)) ls) c (marksP ls q) cnt') rfl rfl rfl hs h,some_bind']; rfl
end
end Go.Proofs.YtfbijbginbjecaaGreat
