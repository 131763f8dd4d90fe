/- Images of lists of numbers; lists without repeats. No condition beside those that each theorem names. -/
import Derived.Test.YtcnehblmgfbfoaaGreatKq
set_option linter.unusedVariables false
set_option linter.unusedSectionVars false
set_option linter.unusedSimpArgs false
namespace Go.Proofs.YtcnehblmgfbfoaaGreat
open Go Go.Li
theorem Tp {n k:Nat} (h:k < (ns n).length):(ns n)[k]=(k:Int):=(c8 (List.getElem?_eq_getElem h)).1
def tP (n:Nat) (l:List Int):List Bool:=(ns n).map fun z=>decide (z∈l)
theorem K2 {n k:Nat} {l:List Int} (h:k < (tP n l).length):(tP n l)[k]=decide ((k:Int)∈l):=by
 simp only [tP,List.getElem_map,Tp]
theorem Q9 {n:Nat} {l:List Int} {y:Int} (h0:0≤y) (h1:y < n):(tP n l).set y.toNat true=tP n (l++[y]):=by
 unfold tP
 refine List.ext_getElem (by simp) fun k hk rX=>?_
 rw [List.getElem_set,List.getElem_map,List.getElem_map,Tp]
 by_cases e:y.toNat=k
 ·rw [if_pos e]
  have:(k:Int)=y:=by omega
  rw [this]; simp
 ·rw [if_neg e]
  have:(k:Int)≠y:=by omega
  simp [this]
theorem OG {n:Nat} {l:List Int} (hn:n≤1048576) (hl:l.length≤1048576) (h:∀ y∈l,0≤y∧y < n):qT (n:Int) l=some ((ns n).filter fun z=>decide (z∈l)):=by
 have EB:∀ m,(tP n m).length=n:=fun m=>by unfold tP; rw [List.length_map,cH]
 unfold qT
 rw [C5 (by omega) (by omega),aA]
 have h0:List.replicate n false=tP n []:=by
  refine List.ext_getElem (by rw [EB]; simp) fun k hk rX=>?_
  rw [K2]; simp
 rw [h0]
 refine (congrArg ao (du l (fun i=>((i:Int),tP n (l.take i))) rfl (fun i y hy=>?_) (e:=((l.length:Int),tP n l)) ?_)).trans ?_
 ·have hi:=bf hy
  have hb:=h y (List.mem_of_getElem? hy)
  show lD l (i:Int) (tP n (l.take i))=_
  unfold lD
  rw [aw (by omega),cond_true,bn,hy,aA,sU hb.1 (by rw [EB]; exact hb.2),aA,bB (by omega),Q9 hb.1 hb.2,List.take_add_one,hy]; rfl
 ·show lD l (l.length:Int) (tP n (l.take l.length))=_
  unfold lD
  rw [aX (by omega),cond_false,List.take_length]
 ·dsimp only
  rw [Mt _ (by rw [EB]; omega),aA]
  show some (Gt (tP n l))=_
  unfold Gt
  rw [EB]
  congr 1
  refine List.filter_congr fun z hz=>?_
  obtain ⟨z0,z1⟩:=dv.1 hz
  have hk:z.toNat < (tP n l).length:=by rw [EB]; omega
  rw [List.getD_eq_getElem?_getD,List.getElem?_eq_getElem hk]
  show (tP n l)[z.toNat]=_
  rw [K2]
  have:((z.toNat:Nat):Int)=z:=by omega
  rw [this]
theorem cover:∀ {K l:List Int},K.Nodup→(∀ y∈K,y∈l)→K.length≤l.length:=by
 intro K
 induction K with
 | nil=>intro l _ _; exact Nat.zero_le _
 | cons a K ih=>
  intro l hn h
  rw [List.nodup_cons] at hn
  have ha:=h a (by simp)
  have:=ih (l:=l.erase a) hn.2 fun y hy=>(List.mem_erase_of_ne (fun e=>hn.1 (by rw [← e]; exact hy))).2 (h y (by simp [hy]))
  rw [List.length_erase_of_mem ha] at this
  have hl:0 < l.length:=List.length_pos_of_mem ha
  rw [List.length_cons]; omega
theorem aam:∀ {l:List Int},¬ l.Nodup→∃ y,y∈l∧y∈l.erase y:=by
 intro l
 induction l with
 | nil=>intro h; exact absurd List.nodup_nil h
 | cons a l ih=>
  intro h
  by_cases ha:a∈l
  ·exact ⟨a,by simp,by rw [List.erase_cons_head]; exact ha⟩
  ·obtain ⟨y,h1,h2⟩:=ih fun hn=>h (List.nodup_cons.2 ⟨ha,hn⟩)
   have mc:a≠y:=fun e=>ha (by rw [e]; exact h1)
   exact ⟨y,by simp [h1],by rw [List.erase_cons_tail (by simpa using mc)]; simp [h2]⟩
theorem OH {n:Nat} {l:List Int} (h:∀ y∈l,0≤y∧y < n):((ns n).filter fun z=>decide (z∈l)).length=l.length↔l.Nodup:=by
 have hm:∀ z,(z∈(ns n).filter fun z=>decide (z∈l))↔z∈l:=fun z=>by
  rw [List.mem_filter,decide_eq_true_eq,dv]
  exact ⟨fun k=>k.2,fun k=>⟨h z k,k⟩⟩
 have cp:((ns n).filter fun z=>decide (z∈l)).Nodup:=sx
 constructor
 ·intro e
  refine Classical.byContradiction fun hn=>?_
  obtain ⟨y,h1,h2⟩:=aam hn
  have hc:((ns n).filter fun z=>decide (z∈l)).length≤(l.erase y).length:=cover cp fun z hz=>by
   have wz:=(hm z).1 hz
   by_cases e2:z=y
   ·rw [e2]; exact h2
   ·exact (List.mem_erase_of_ne e2).2 wz
  rw [List.length_erase_of_mem h1] at hc
  have:=List.length_pos_of_mem h1
  omega
 ·intro hl
  exact ((List.perm_ext_iff_of_nodup cp hl).2 hm).length_eq
end Go.Proofs.YtcnehblmgfbfoaaGreat
