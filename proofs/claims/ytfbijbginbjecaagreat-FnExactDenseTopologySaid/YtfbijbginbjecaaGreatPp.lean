/- The dense topology: the reference and the program give alike; the law, on plain data, answers true. No condition but that the lists are no longer than a machine holds. -/
import Derived.Test.YtfbijbginbjecaaGreatPm
import Derived.Test.YtfbijbginbjecaaGreatZ11
namespace Go.Proofs.YtfbijbginbjecaaGreat
open Go Go.Li
set_option linter.unusedSectionVars false

def belowB (c:MCategory) (s:List Int) (a:Int):Bool:=(ns c.From.length).any fun b=>(gi c.From b == gi c.To a) && hasB s (gk c.Composites a b)
def denseB (c:MCategory) (x:Int) (s:List Int):Bool:=!((ns c.From.length).any fun a=>(gi c.From a == x) && !belowB c s a)
theorem pull_below (c:MCategory) (s:List Int) (a:Int):((pullS c a s).length == 0) = !belowB c s a:=by
  have h:=any_filter' (ns c.From.length) (fun b=>gi c.From b == gi c.To a) fun b=>hasB s (gk c.Composites a b)
  unfold belowB
  rw [← h]
  unfold pullS outS
  rw [Bool.eq_iff_iff,beq_iff_eq,List.length_eq_zero_iff,List.filter_eq_nil_iff,Bool.not_eq_true',List.any_eq_false]
section
variable {c : MCategory} (H : Cat c)
include H
theorem dense_in {S:Type} {f:Bool×Int→Option (Out S Bool)} {a:Int} {s:List Int} (h0:0≤a) (h1:a < c.From.length) (hs:s.length≤1048576000) : ∀ (n j:Nat),c.From.length - j=n→j≤c.From.length→(∀ b b',f (b,b')=f (b,0))→
    lbind (blockM 2 (loopM (fun t=>spec_l27Dense_L1 c s a t.1 t.2) (false,(j:Int)))) f=f (((ns c.From.length).drop j).any fun b=>(gi c.From b == gi c.To a) && hasB s (gk c.Composites a b),0):=by
  have hm:=H.m
  intro n
  induction n with
  | zero =>
    intro j hd hj hf
    obtain rfl:j=c.From.length:=by omega
    rw [List.drop_of_length_le (by rw [ns_length]; exact Nat.le_refl _),lb_end (e:=(false,(c.From.length:Int))) (by
      show spec_l27Dense_L1 c s a false _=_
      unfold spec_l27Dense_L1
      rw [decF (by omega),cond_false,some_bind',cond_false]),hf]
    rfl
  | succ n ih =>
    intro j hd hj hf
    have hlt:j < c.From.length:=by omega
    have hdr:(ns c.From.length).drop j=(j:Int) :: (ns c.From.length).drop (j + 1):=by
      rw [List.drop_eq_getElem_cons (by rw [ns_length]; exact hlt)]
      congr 1
      have:=ns_get (List.getElem?_eq_getElem (show j < (ns c.From.length).length by rw [ns_length]; exact hlt))
      exact this.1
    rw [hdr,List.any_cons]
    have hb:spec_l27Dense_L1 c s a false (j:Int)=some (.norm ((gi c.From j == gi c.To a) && hasB s (gk c.Composites a j),((j + 1:Nat):Int))):=by
      unfold spec_l27Dense_L1
      rw [decT (by omega),cond_true,some_bind',Bool.not_false,cond_true,H.idxF (by omega) (by omega),some_bind',H.idxT h0 h1,some_bind']
      by_cases e:gi c.From j=gi c.To a
      · rw [beqT e,cond_true,H.thenS h0 h1 (by omega) (by omega),some_bind',specHas _ _ hs,some_bind',some_bind',Bool.true_and,w64_nat (by omega)]
      · rw [beqF e,cond_false,some_bind',Bool.false_and,w64_nat (by omega)]
    rw [lb_step (s':=((gi c.From j == gi c.To a) && hasB s (gk c.Composites a j),((j + 1:Nat):Int))) hb]
    cases hp:(gi c.From j == gi c.To a) && hasB s (gk c.Composites a j) with
    | false => rw [Bool.false_or]; exact ih (j + 1) (by omega) (by omega) hf
    | true =>
      rw [Bool.true_or,lb_end (e:=(true,((j + 1:Nat):Int))) (by
        show spec_l27Dense_L1 c s a true _=_
        unfold spec_l27Dense_L1
        rw [Bool.not_true]
        cases decide (((j + 1:Nat):Int) < (c.From.length:Int)) <;> rfl),hf]
theorem specDense {x:Int} {s:List Int} (hs:s.length≤1048576000):spec_l27Dense c x s=some (denseB c x s):=by
  have hm:=H.m
  unfold spec_l27Dense
  refine (congrArg retM (for_anyb (ns c.From.length) (fun a=>(gi c.From a == x) && !belowB c s a) (fun i=>(i:Int)) rfl ?_ ?_ (e:=(c.From.length:Int)) (y:=false) ?_)).trans ?_
  · intro i a ha hp
    obtain ⟨rfl,hi⟩:=ns_get ha
    unfold spec_l27Dense_L0
    rw [decT (by omega),cond_true,H.idxF (by omega) (by omega),some_bind',w64_nat (by omega)]
    by_cases e:gi c.From i=x
    · rw [bneF e,cond_false]
      rw [beqT e,Bool.true_and,Bool.not_eq_false'] at hp
      refine (dense_in H (by omega) (by omega) hs _ 0 rfl (Nat.zero_le _) fun _ _=>rfl).trans ?_
      rw [List.drop_zero]
      show (bif !(belowB c s i) then _ else _)=_
      rw [hp]; rfl
    · rw [bneT e,cond_true]
  · intro i a ha hp
    obtain ⟨rfl,hi⟩:=ns_get ha
    unfold spec_l27Dense_L0
    rw [decT (by omega),cond_true,H.idxF (by omega) (by omega),some_bind',w64_nat (by omega)]
    rw [Bool.and_eq_true,beq_iff_eq,Bool.not_eq_true'] at hp
    rw [bneF hp.1,cond_false]
    refine (dense_in H (by omega) (by omega) hs _ 0 rfl (Nat.zero_le _) fun _ _=>rfl).trans ?_
    rw [List.drop_zero]
    show (bif !(belowB c s i) then _ else _)=_
    rw [hp.2]; rfl
  · unfold spec_l27Dense_L0
    rw [ns_length,decF (by omega),cond_false]
  · unfold denseB
    cases (ns c.From.length).any fun a=>(gi c.From a == x) && !belowB c s a <;> rfl
theorem implDense {x:Int} {s:List Int} (hs:s.length≤1048576000):impl_DenseTopology_1 x s c=some (denseB c x s):=by
  have hm:=H.m
  have hol:=outS_len c x
  unfold impl_DenseTopology_1
  rw [implOut (by omega),some_bind']
  refine (congrArg retM (for_anyb (outS c x) (fun a=>!belowB c s a) (fun i=>(i:Int)) rfl ?_ ?_ (e:=((outS c x).length:Int)) (y:=false) ?_)).trans ?_
  · intro i a ha hp
    have hi:=getElem?_lt ha
    have ham:=outS_mem.1 (List.mem_of_getElem? ha)
    have hpb:=pull_below c s a
    rw [hp] at hpb
    unfold impl_DenseTopology_1_L0
    rw [decT (by omega),cond_true,idx_nat,ha,some_bind',implPull H.toShape ham.1.1 ham.1.2 s hs,some_bind',w64_nat (by omega),beqF (by have:=beq_eq_false_iff_ne.1 hpb; omega),cond_false]
  · intro i a ha hp
    have hi:=getElem?_lt ha
    have ham:=outS_mem.1 (List.mem_of_getElem? ha)
    have hpb:=pull_below c s a
    rw [hp] at hpb
    unfold impl_DenseTopology_1_L0
    rw [decT (by omega),cond_true,idx_nat,ha,some_bind',implPull H.toShape ham.1.1 ham.1.2 s hs,some_bind',beqT (by have:=beq_iff_eq.1 hpb; omega),cond_true]
  · unfold impl_DenseTopology_1_L0
    rw [decF (by omega),cond_false]
  · unfold denseB outS
    rw [any_filter']
    cases (ns c.From.length).any fun a=>(gi c.From a == x) && !belowB c s a <;> rfl
theorem marksX_put {ls:List (List (List Int))} {q:Int→List Int→Bool} {i j:Nat} {s:List Int} (hi:i < ls.length) (h:(gl ls i)[j]? = some s) :
    (marksX ls q i j).set i ((rowM (gl ls i) (q i) j).set j (q i s))=marksX ls q i (j + 1):=by
  rw [marksX_set H hi h]
  cases hq:q i s with
  | true => rw [if_pos rfl]
  | false =>
    rw [if_neg (by simp)]
    have h1:(rowM (gl ls i) (q i) j).set j false=rowM (gl ls i) (q i) j:=by
      apply List.ext_getElem?
      intro k
      rw [List.getElem?_set]
      split
      · next e=>subst e; rw [rowM_get H (getElem?_lt h),rowM_length H,if_pos (getElem?_lt h)]
      · rfl
    rw [h1]
    apply List.ext_getElem?
    intro k
    rw [List.getElem?_set]
    split
    · next e=>subst e; rw [marksX_get H hi,if_pos (by unfold marksX; rw [mapI_length]; exact hi)]
    · rfl
theorem specDenseT {ls:List (List (List Int))} (hs:CatSmall c) (hcat:catB c=true) (h:Lists c c.Objects.toNat ls):spec_DenseTopology c=some (MTopology.mk c (covP ls (denseB c)),0):=by
  have ho:=H.o0
  have ho8:=H.o8
  have hm:=H.m
  have hlen:=h.len
  unfold spec_DenseTopology
  rw [specCategory H hs hcat h,some_bind']
  dsimp only
  rw [bneF rfl,cond_false]
  refine (congrArg retM (for_all ls (fun i=>((i:Int),marksX ls (denseB c) i 0)) (by rw [marksX_zero H]; rfl) ?_ (e:=((ls.length:Int),marksX ls (denseB c) ls.length 0)) ?_)).trans ?_
  · intro i L hi
    have hi:=getElem?_lt hi
    have st:=Lists.sv H h (i:=(i:Int)) (by omega) (by omega)
    have hl:=st.len
    show spec_DenseTopology_L0 _ _ (i:Int) (marksX ls (denseB c) i 0)=_
    unfold spec_DenseTopology_L0
    rw [decT (by unfold marksX; rw [mapI_length]; omega),cond_true]
    refine (for_all (gl ls i) (fun j=>((j:Int),marksX ls (denseB c) i j)) rfl ?_ (e:=(((gl ls i).length:Int),marksX ls (denseB c) i (gl ls i).length)) ?_).trans ?_
    · intro j s hj
      have hlt:=getElem?_lt hj
      have hsl:=(SvList.sv H st s (List.mem_of_getElem? hj)).len
      show spec_DenseTopology_L1 _ _ (i:Int) (j:Int) (marksX ls (denseB c) i j)=_
      unfold spec_DenseTopology_L1
      dsimp only
      rw [idx_nat,marksX_get H hi,some_bind',rowM_length H,decT (by omega),cond_true,some_bind',idx_gl (by omega) (by omega),some_bind',idx_nat,hj,some_bind',specDense H (by omega),some_bind',idx_nat,rowM_get H hlt,some_bind',w64_nat (by omega),Int.toNat_natCast,Int.toNat_natCast,marksX_put H hi hj]
    · show spec_DenseTopology_L1 _ _ (i:Int) _ _=_
      unfold spec_DenseTopology_L1
      rw [idx_nat,marksX_get H hi,some_bind',rowM_length H,decF (by omega),cond_false]
    · dsimp only
      rw [w64_nat (by omega),marksX_next H]
  · show spec_DenseTopology_L0 _ _ _ _=_
    unfold spec_DenseTopology_L0
    rw [decF (by unfold marksX; rw [mapI_length]; omega),cond_false]
  · dsimp only
    rw [marksX_all H,specCovers H hs h,some_bind']; rfl
end
theorem dense_alike:Alike spec_DenseTopology impl_DenseTopology:=by
  intro c hc
  have hs:=catSmall_of hc
  cases hcat:catB c with
  | false =>
    refine ⟨topZ,1,?_,?_,topZ_small⟩
    · unfold spec_DenseTopology spec_l27Category
      rw [specIs hs,some_bind',hcat]; rfl
    · unfold impl_DenseTopology impl_chosenTopology
      rw [implIs hs,some_bind',hcat]; rfl
  | true =>
    have H:=cat_of hcat
    rcases scan H c.Objects.toNat with ⟨ls,h⟩ | ⟨k,ls,hk,h,hn⟩
    · refine ⟨_,_,specDenseT H hs hcat h,?_,cov_small H hc h⟩
      unfold impl_DenseTopology
      rw [chosen H (q:=denseB c) hs hcat h fun i hi s hsm=>?_,some_bind']
      · rfl
      · have ho:=H.o0
        have hm:=H.m
        have hlen:=h.len
        have:=(SvList.sv H (Lists.sv H h (i:=(i:Int)) (by omega) (by omega)) s hsm).len
        exact implDense H (by omega)
    · have hy:=specCategoryNo H hs hcat hk h hn
      refine ⟨topZ,3,?_,?_,topZ_small⟩
      · unfold spec_DenseTopology
        rw [hy,some_bind']; rfl
      · unfold impl_DenseTopology
        rw [chosenNo H hs hcat hk h hn,some_bind']; rfl
theorem dense_law {x0:MCategory} (hl:CatLens x0) (h:Alike spec_DenseTopology impl_DenseTopology):laws_FnExactDenseTopology x0=some true:=by
  unfold laws_FnExactDenseTopology
  rw [szCat hl,some_bind']
  by_cases hc:(catSize x0:Int)≤1048576
  · rw [if_pos hc,decF (by omega),cond_false]
    have hc':catSize x0≤1048576:=by omega
    obtain ⟨t,e,hs,hi,ht,hcells⟩:=h x0 hc'
    obtain ⟨n,a,b,c,d,k,hn,hm,hh⟩:=held_marked ht hcells
    have hsm:=catSmall_of hc'
    have hmk:=markCat hsm (k:=1) (by omega) (by rw [s2_eq]; unfold catSize at hc'; omega)
    simp only [toCat hc',hs,hi,some_bind',eqTop_self ht,eqCat_self hsm,hmk,hm,hh,Bool.not_true,cond_false,bne_self_eq_false,decF (show ¬ n < 0 by omega)]
    rw [decF (by omega)]
    rfl
  · rw [if_neg hc,decT (by omega),cond_true]; rfl
end Go.Proofs.YtfbijbginbjecaaGreat
