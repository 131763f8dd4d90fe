/- All sieves at all objects, the classifier, the table of the reference. No condition beside those that each theorem names. -/
import Derived.Test.YtjfahghkjblgjaaGreatPj
namespace Go.Li
open Go
def mapI {β:Type} (n:Nat) (g:Int→β):List β:=(ns n).map g
theorem mapI_length {β:Type} (n:Nat) (g:Int→β):(mapI n g).length=n:=by simp [mapI,ns_length]
theorem mapI_succ {β:Type} (n:Nat) (g:Int→β):mapI (n+1) g=mapI n g++[g n]:=by
 unfold mapI ns
 rw [List.range_succ]; simp
theorem mapI_get {β:Type} {n i:Nat} (g:Int→β) (h:i < n):(mapI n g)[i]? = some (g i):=by
 unfold mapI ns
 simp [h]
theorem mapI_mem {β:Type} {n:Nat} {g:Int→β} {y:β}:y∈mapI n g↔∃ x:Int,(0≤x∧x < n)∧g x=y:=by
 unfold mapI; simp only [List.mem_map,ns_mem]
theorem map_loop {S S1 R β:Type} {body:S1→Option (Out S1 R)} {k:Nat} {f:S1→Option (Out S R)} {s0':S1} (n:Nat) (g:Int→β) (pk:List β→Nat→S1) (e0:pk [] 0=s0')
  (step:∀ i acc,i < n→acc.length=i→body (pk acc i)=some (.norm (pk (acc++[g i]) (i+1)))) (last:∀ acc,acc.length=n→body (pk acc n)=some (.exit k (pk acc n))) :
  lbind (blockM k (loopM body s0')) f=f (pk (mapI n g) n):=by
 rw [← e0]
 refine for_all (ns n) (fun i=>pk (mapI i g) i) rfl ?_ ?_
 ·intro i x hx
  obtain ⟨rfl,hi⟩:=ns_get hx
  rw [step i _ hi (mapI_length i g),mapI_succ]
 ·rw [ns_length]; exact last _ (mapI_length n g)
def gl {α:Type} (l:List (List α)) (j:Int):List α:=l.getD j.toNat []
theorem idx_gl {α:Type} {l:List (List α)} {j:Int} (h0:0≤j) (h1:j < l.length):idx l j=some (gl l j):=by
 rw [idx_lt h0 h1]; unfold gl; rw [List.getD_eq_getElem?_getD,List.getElem?_eq_getElem (by omega)]; rfl
theorem gl_get {α:Type} {l:List (List α)} {i:Nat} (h:i < l.length):l[i]? = some (gl l i):=by
 unfold gl; rw [List.getD_eq_getElem?_getD,Int.toNat_natCast,List.getElem?_eq_getElem h]; rfl
theorem mapI_gl {α β:Type} (l:List (List α)) (g:List α→β):mapI l.length (fun i=>g (gl l i))=l.map g:=by
 apply List.ext_getElem?
 intro i
 by_cases h:i < l.length
 ·rw [mapI_get _ h,List.getElem?_map,gl_get h]; rfl
 ·rw [List.getElem?_eq_none (by rw [mapI_length]; omega),List.getElem?_eq_none (by rw [List.length_map]; omega)]
end Go.Li
namespace Go.Proofs.YtjfahghkjblgjaaGreat
open Go Go.Li
set_option linter.unusedSectionVars false
theorem specOwn0 (l:List Int) (hl:l.length≤1048576):spec_l01Own l=some l:=by
 unfold spec_l01Own
 rw [fits_ok (by simp; omega) (by simp; omega),some_bind',List.nil_append]; rfl
theorem specOwn2 (l:List (List Int)) (hl:l.length≤1048576) (hr:∀ y∈l,y.length≤1048576):spec_l01Own2 l=some l:=by
 unfold spec_l01Own2
 refine (congrArg retM (map_loop l.length (gr l) (fun acc i=>(acc,(i:Int))) rfl ?_ ?_)).trans ?_
 ·intro i acc hi ha
  show spec_l01Own2_L0 l acc i=_
  unfold spec_l01Own2_L0
  rw [decT (by omega),cond_true,idx_gr (by omega) (by omega),some_bind',specOwn0 _ (hr _ (gr_mem (by omega) (by omega))),some_bind',fits_ok (by omega) (by omega),some_bind',w64_nat (by omega)]
 ·intro acc ha
  show spec_l01Own2_L0 l acc _=_
  unfold spec_l01Own2_L0
  rw [decF (by omega),cond_false]
 ·show some (mapI l.length (gr l))=_
  have:=mapI_gl l (fun x=>x)
  rw [List.map_id'] at this
  exact congrArg some this
theorem specOwnC {c:MCategory} (h:CatSmall c):spec_l02Own c=some c:=by
 unfold spec_l02Own
 rw [specOwn0 _ h.f,some_bind',specOwn0 _ h.t,some_bind',specOwn0 _ h.i,some_bind',specOwn2 _ h.k h.r,some_bind']; rfl
theorem implCopy {c:MCategory} (h:CatSmall c):impl_Category_copy c=some c:=by
 have h1:∀ l:List Int,l.length≤1048576→impl_clone l=some l:=fun l hl=>specOwn0 l hl
 have hk:=h.k
 unfold impl_Category_copy
 rw [h1 _ h.f,some_bind',h1 _ h.t,some_bind',h1 _ h.i,some_bind']
 have:impl_clones c.Composites=some c.Composites:=by
  unfold impl_clones
  rw [mk_ok (by omega) (by omega),some_bind']
  refine (congrArg retM (map_loop c.Composites.length (gr c.Composites) (fun acc i=>(acc,(i:Int))) rfl ?_ ?_)).trans ?_
  ·intro i acc hi ha
   show impl_clones_L0 c.Composites acc i=_
   unfold impl_clones_L0
   rw [decT (by omega),cond_true,idx_gr (by omega) (by omega),some_bind',h1 _ (h.r _ (gr_mem (by omega) (by omega))),some_bind',fits_ok (by omega) (by omega),some_bind',w64_nat (by omega)]
  ·intro acc ha
   show impl_clones_L0 c.Composites acc _=_
   unfold impl_clones_L0
   rw [decF (by omega),cond_false]
  ·have:=mapI_gl c.Composites (fun x=>x)
   rw [List.map_id'] at this
   exact congrArg some this
 rw [this,some_bind']; rfl
structure Lists (c:MCategory) (k:Nat) (ls:List (List (List Int))):Prop where
 len:ls.length=k
 found:∀ i:Nat,i < k→Found c i (some (gl ls i))
section
variable {c:MCategory} (H:Cat c)
include H
theorem found_sv {x:Int} {L:List (List Int)} (h:Found c x (some L)):SvList c x L:=by
 cases h with
 | few F h hl=>
  have hp:=List.mergeSort_perm F lexLe
  exact ⟨fun s=>by rw [hp.mem_iff]; exact h.mem s,hp.nodup_iff.2 h.nodup,by rw [hp.length_eq]; exact hl⟩
theorem Lists.sv {k:Nat} {ls:List (List (List Int))} (h:Lists c k ls) {i:Int} (h0:0≤i) (h1:i < k):SvList c i (gl ls i):=by
 have:=h.found i.toNat (by omega)
 rw [Int.toNat_of_nonneg h0] at this
 exact found_sv H this
def act (c:MCategory) (ls:List (List (List Int))) (a:Int):List Int:=(gl ls (gi c.From a)).map fun s=>placeS (gl ls (gi c.To a)) (pullS c a s)
def acts (c:MCategory) (ls:List (List (List Int))):List (List Int):=mapI c.From.length (act c ls)
end
end Go.Proofs.YtjfahghkjblgjaaGreat
