/- All sieves at all objects, the classifier, the table of the reference. No condition beside those that each theorem names. -/
import Derived.Test.YtkhdhnpokfibjaaGreatPj
namespace Go.Li
open Go
def mapI {β:Type} (n:Nat) (g:Int→β):List β:=(ns n).map g
theorem dP {β:Type} (n:Nat) (g:Int→β):(mapI n g).length=n:=by simp [mapI,fB]
theorem mapI_succ {β:Type} (n:Nat) (g:Int→β):mapI (n+1) g=mapI n g++[g n]:=by
 unfold mapI ns
 rw [List.range_succ]; simp
theorem mapI_get {β:Type} {n i:Nat} (g:Int→β) (h:i < n):(mapI n g)[i]? = some (g i):=by
 unfold mapI ns
 simp [h]
theorem mapI_mem {β:Type} {n:Nat} {g:Int→β} {y:β}:y∈mapI n g↔∃ x:Int,(0≤x∧x < n)∧g x=y:=by
 unfold mapI; simp only [List.mem_map,ns_mem]
theorem mapI_congr {β:Type} {n:Nat} {g h:Int→β} (e:∀ i:Nat,i < n→g i=h i):mapI n g=mapI n h:=by
 apply List.map_congr_left
 intro x hx
 have:=ns_mem.1 hx
 have:=e x.toNat (by omega)
 rwa [Int.toNat_of_nonneg (by omega)] at this
theorem map_loop {S S1 R β:Type} {body:S1→Option (Out S1 R)} {k:Nat} {f:S1→Option (Out S R)} {s0':S1} (n:Nat) (g:Int→β) (pk:List β→Nat→S1) (e0:pk [] 0=s0')
  (step:∀ i acc,i < n→acc.length=i→body (pk acc i)=some (.norm (pk (acc++[g i]) (i+1)))) (last:∀ acc,acc.length=n→body (pk acc n)=some (.exit k (pk acc n))) :
  lbind (blockM k (loopM body s0')) f=f (pk (mapI n g) n):=by
 rw [← e0]
 refine for_all (ns n) (fun i=>pk (mapI i g) i) rfl ?_ ?_
 ·intro i x hx
  obtain ⟨rfl,hi⟩:=ns_get hx
  rw [step i _ hi (dP i g),mapI_succ]
 ·rw [fB]; exact last _ (dP n g)
def gl {α:Type} (l:List (List α)) (j:Int):List α:=l.getD j.toNat []
theorem gl_get {α:Type} {l:List (List α)} {i:Nat} (h:i < l.length):l[i]? = some (gl l i):=by
 unfold gl; rw [List.getD_eq_getElem?_getD,Int.toNat_natCast,List.getElem?_eq_getElem h]; rfl
theorem mapI_gl {α β:Type} (l:List (List α)) (g:List α→β):mapI l.length (fun i=>g (gl l i))=l.map g:=by
 apply List.ext_getElem?
 intro i
 by_cases h:i < l.length
 ·rw [mapI_get _ h,List.getElem?_map,gl_get h]; rfl
 ·rw [List.getElem?_eq_none (by rw [dP]; omega),List.getElem?_eq_none (by rw [List.length_map]; omega)]
end Go.Li
namespace Go.Proofs.YtkhdhnpokfibjaaGreat
open Go Go.Li
set_option linter.unusedSectionVars false
theorem specOwn0 (l:List Int) (hl:l.length≤1048576):eK l=some l:=by
 unfold eK
 rw [fA (by simp; omega) (by simp; omega),aH,List.nil_append]; rfl
theorem specOwn2 (l:List (List Int)) (hl:l.length≤1048576) (hr:∀ y∈l,y.length≤1048576):lN l=some l:=by
 unfold lN
 refine (congrArg retM (map_loop l.length (gr l) (fun acc i=>(acc,(i:Int))) rfl ?_ ?_)).trans ?_
 ·intro i acc hi ha
  show jO l acc i=_
  unfold jO
  rw [decT (by omega),cond_true,idx_gr (by omega) (by omega),aH,specOwn0 _ (hr _ (gr_mem (by omega) (by omega))),aH,fA (by omega) (by omega),aH,cP (by omega)]
 ·intro acc ha
  show jO l acc _=_
  unfold jO
  rw [decF (by omega),cond_false]
 ·show some (mapI l.length (gr l))=_
  have:=mapI_gl l (fun x=>x)
  rw [List.map_id'] at this
  exact congrArg some this
theorem specOwnC {c:aI} (h:CatSmall c):jY c=some c:=by
 unfold jY
 rw [specOwn0 _ h.f,aH,specOwn0 _ h.t,aH,specOwn0 _ h.i,aH,specOwn2 _ h.k h.r,aH]; rfl
theorem implCopy {c:aI} (h:CatSmall c):iG c=some c:=by
 have h1:∀ l:List Int,l.length≤1048576→gP l=some l:=fun l hl=>specOwn0 l hl
 have hk:=h.k
 unfold iG
 rw [h1 _ h.f,aH,h1 _ h.t,aH,h1 _ h.i,aH]
 have:pF c.aF=some c.aF:=by
  unfold pF
  rw [mk_ok (by omega) (by omega),aH]
  refine (congrArg retM (map_loop c.aF.length (gr c.aF) (fun acc i=>(acc,(i:Int))) rfl ?_ ?_)).trans ?_
  ·intro i acc hi ha
   show kL c.aF acc i=_
   unfold kL
   rw [decT (by omega),cond_true,idx_gr (by omega) (by omega),aH,h1 _ (h.r _ (gr_mem (by omega) (by omega))),aH,fA (by omega) (by omega),aH,cP (by omega)]
  ·intro acc ha
   show kL c.aF acc _=_
   unfold kL
   rw [decF (by omega),cond_false]
  ·have:=mapI_gl c.aF (fun x=>x)
   rw [List.map_id'] at this
   exact congrArg some this
 rw [this,aH]; rfl
structure Lists (c:aI) (k:Nat) (ls:List (List (List Int))):Prop where
 len:ls.length=k
 found:∀ i:Nat,i < k→Found c i (some (gl ls i))
section
variable {c:aI} (H:Cat c)
include H
theorem found_sv {x:Int} {L:List (List Int)} (h:Found c x (some L)):SvList c x L:=by
 cases h with
 | few F h hl=>
  have hp:=List.mergeSort_perm F lexLe
  exact ⟨fun s=>by rw [hp.mem_iff]; exact h.mem s,hp.nodup_iff.2 h.nodup,by rw [hp.length_eq]; exact hl⟩
theorem Lists.sv {k:Nat} {ls:List (List (List Int))} (h:Lists c k ls) {i:Int} (h0:0≤i) (h1:i < k):SvList c i (gl ls i):=by
 have:=h.found i.toNat (by omega)
 rw [Int.toNat_of_nonneg h0] at this
 exact found_sv H this
end
end Go.Proofs.YtkhdhnpokfibjaaGreat
