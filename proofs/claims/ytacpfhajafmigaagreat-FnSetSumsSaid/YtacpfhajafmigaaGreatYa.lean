/- Classes kept as forests of numbers: roots, halved paths, joined roots; how many classes there are. No condition beside those that each theorem names. -/
import Derived.Test.YtacpfhajafmigaaGreatVm
namespace Go.Proofs.YtacpfhajafmigaaGreat
open Go Go.Li
def Jw (J:List Int):Prop:=∀ x:Int,0≤x→x < J.length→0≤gi J x∧gi J x≤x
def rtF (J:List Int):Nat→Int→Int
 | 0,x=>x
 | k+1,x=>if gi J x=x then x else rtF J k (gi J x)
def rt (J:List Int) (x:Int):Int:=rtF J (x.toNat+1) x
theorem rtF_more {J:List Int} (hJ:Jw J):∀ (n:Nat) (x:Int) (k:Nat),x.toNat=n→0≤x→x < J.length→x.toNat < k→rtF J k x=rtF J (x.toNat+1) x:=by
 intro n
 induction n using Nat.strongRecOn with
 | ind n ih=>
  intro x k hn x0 x1 hk
  obtain ⟨j,rfl⟩ : ∃ j,k=j+1:=⟨k - 1,by omega⟩
  have h:=hJ x x0 x1
  unfold rtF
  split
  ·rfl
  ·rename_i hne
   have hlt:gi J x < x:=by omega
   rw [ih (gi J x).toNat (by omega) (gi J x) j rfl h.1 (by omega) (by omega),ih (gi J x).toNat (by omega) (gi J x) x.toNat rfl h.1 (by omega) (by omega)]
section
variable {J:List Int} (hJ:Jw J)
include hJ
theorem rt_root {x:Int} (x0:0≤x) (x1:x < J.length) (h:gi J x=x):rt J x=x:=by
 have _:=hJ
 have _:=x0
 have _:=x1
 unfold rt rtF
 rw [if_pos h]
theorem rt_step {x:Int} (x0:0≤x) (x1:x < J.length):rt J x=rt J (gi J x):=by
 have h:=hJ x x0 x1
 by_cases e:gi J x=x
 ·rw [e]
 ·unfold rt
  rw [show rtF J (x.toNat+1) x=rtF J x.toNat (gi J x) by rw [rtF,if_neg e]]
  exact rtF_more hJ _ (gi J x) x.toNat rfl h.1 (by omega) (by omega)
theorem rt_uniq {R:Int→Int} (h1:∀ x:Int,0≤x→x < J.length→R x=R (gi J x)) (h2:∀ x:Int,0≤x→x < J.length→gi J x=x→R x=x):∀ (n:Nat) (x:Int),x.toNat=n→0≤x→x < J.length→rt J x=R x:=by
 intro n
 induction n using Nat.strongRecOn with
 | ind n ih=>
  intro x hn x0 x1
  have h:=hJ x x0 x1
  by_cases e:gi J x=x
  ·rw [rt_root hJ x0 x1 e,h2 x x0 x1 e]
  ·rw [rt_step hJ x0 x1,h1 x x0 x1]
   exact ih _ (by omega) _ rfl h.1 (by omega)
theorem rt_ok:∀ (n:Nat) (x:Int),x.toNat=n→0≤x→x < J.length→(0≤rt J x∧rt J x≤x)∧gi J (rt J x)=rt J x:=by
 intro n
 induction n using Nat.strongRecOn with
 | ind n ih=>
  intro x hn x0 x1
  have h:=hJ x x0 x1
  by_cases e:gi J x=x
  ·rw [rt_root hJ x0 x1 e]; exact ⟨⟨x0,Int.le_refl _⟩,e⟩
  ·rw [rt_step hJ x0 x1]
   have:=ih _ (by omega) (gi J x) rfl h.1 (by omega)
   exact ⟨⟨this.1.1,by omega⟩,this.2⟩
theorem rt_lt {x:Int} (x0:0≤x) (x1:x < J.length):0≤rt J x∧rt J x≤x:=(rt_ok hJ _ x rfl x0 x1).1
theorem rt_fix {x:Int} (x0:0≤x) (x1:x < J.length):gi J (rt J x)=rt J x:=(rt_ok hJ _ x rfl x0 x1).2
theorem rt_idem {x:Int} (x0:0≤x) (x1:x < J.length):rt J (rt J x)=rt J x:=by
 have h:=rt_lt hJ x0 x1
 exact rt_root hJ h.1 (by omega) (rt_fix hJ x0 x1)
theorem halve {x:Int} (x0:0≤x) (x1:x < J.length):Jw (J.set x.toNat (gi J (gi J x)))∧∀ z:Int,0≤z→z < J.length→rt (J.set x.toNat (gi J (gi J x))) z=rt J z:=by
 have hx:=hJ x x0 x1
 have hx2:=hJ (gi J x) hx.1 (by omega)
 have key:∀ z:Int,0≤z→gi (J.set x.toNat (gi J (gi J x))) z=if z=x then gi J (gi J x) else gi J z:=fun z z0=>gi_setI x0 x1 z0
 have hJ':Jw (J.set x.toNat (gi J (gi J x))):=by
  intro z z0 z1
  rw [List.length_set] at z1
  rw [key z z0]
  split
  ·omega
  ·exact hJ z z0 z1
 refine ⟨hJ',fun z z0 z1=>rt_uniq hJ' (fun y y0 y1=>?_) (fun y y0 y1 h=>?_) _ z rfl z0 (by rw [List.length_set]; exact z1)⟩
 ·rw [List.length_set] at y1
  rw [key y y0]
  split
  ·rename_i e
   rw [e,rt_step hJ x0 x1,rt_step hJ hx.1 (by omega)]
  ·exact rt_step hJ y0 y1
 ·rw [List.length_set] at y1
  rw [key y y0] at h
  split at h
  ·rename_i e
   exact rt_root hJ y0 y1 (by rw [e]; omega)
  ·exact rt_root hJ y0 y1 h
theorem joined {a b:Int} (a0:0≤a) (a1:a≤b) (b1:b < J.length) (ha:gi J a=a) (hb:gi J b=b):Jw (J.set b.toNat a)∧∀ z:Int,0≤z→z < J.length→rt (J.set b.toNat a) z=if rt J z=b then a else rt J z:=by
 have key:∀ z:Int,0≤z→gi (J.set b.toNat a) z=if z=b then a else gi J z:=fun z z0=>gi_setI (by omega) b1 z0
 have hJ':Jw (J.set b.toNat a):=by
  intro z z0 z1
  rw [List.length_set] at z1
  rw [key z z0]
  split
  ·omega
  ·exact hJ z z0 z1
 refine ⟨hJ',fun z z0 z1=>rt_uniq (R:=fun z=>if rt J z=b then a else rt J z) hJ' (fun y y0 y1=>?_) (fun y y0 y1 h=>?_) _ z rfl z0 (by rw [List.length_set]; exact z1)⟩
 ·rw [List.length_set] at y1
  rw [key y y0]
  by_cases e:y=b
  ·simp only [if_pos e]
   rw [e,rt_root hJ (by omega) b1 hb,if_pos rfl,rt_root hJ a0 (by omega) ha]
   split <;> rfl
  ·simp only [if_neg e]
   rw [← rt_step hJ y0 y1]
 ·rw [List.length_set] at y1
  rw [key y y0] at h
  try dsimp only
  split at h
  ·rename_i e
   rw [e,rt_root hJ (by omega) b1 hb,if_pos rfl]
   omega
  ·rename_i e
   rw [rt_root hJ y0 y1 h,if_neg e]
end
structure Jp (n:Nat) (ps:List (Int×Int)) (J:List Int):Prop where
 len:J.length=n
 jn:Jw J
 one:∀ p∈ps,rt J p.1=rt J p.2
 all:∀ c:Int→Int,(∀ p∈ps,c p.1=c p.2)→∀ x:Int,0≤x→x < n→c (rt J x)=c x
theorem Jp.mono {n:Nat} {ps:List (Int×Int)} {J J':List Int} (h:Jp n ps J) (hl:J'.length=n) (hj:Jw J') (hr:∀ z:Int,0≤z→z < n→rt J' z=rt J z) (hp:∀ p∈ps,(0≤p.1∧p.1 < n)∧0≤p.2∧p.2 < n):Jp n ps J':=
 ⟨hl,hj,fun p hm=>by rw [hr _ (hp p hm).1.1 (hp p hm).1.2,hr _ (hp p hm).2.1 (hp p hm).2.2]; exact h.one p hm,fun c hc x x0 x1=>by rw [hr x x0 x1]; exact h.all c hc x x0 x1⟩
theorem Jp.join {n:Nat} {ps:List (Int×Int)} {J J':List Int} (h:Jp n ps J) {u v a b:Int} (u0:0≤u) (u1:u < n) (v0:0≤v) (v1:v < n) (hab:rt J u=a∧rt J v=b∨rt J u=b∧rt J v=a) (hl:J'.length=n) (hj:Jw J')
  (hr:∀ z:Int,0≤z→z < n→rt J' z=if rt J z=b then a else rt J z) (hp:∀ p∈ps,(0≤p.1∧p.1 < n)∧0≤p.2∧p.2 < n):Jp n (ps++[(u,v)]) J':=by
 refine ⟨hl,hj,fun p hm=>?_,fun c hc x x0 x1=>?_⟩
 ·rcases List.mem_append.1 hm with hm | hm
  ·rw [hr _ (hp p hm).1.1 (hp p hm).1.2,hr _ (hp p hm).2.1 (hp p hm).2.2,h.one p hm]
  ·rw [List.mem_singleton.1 hm]
   dsimp only
   rw [hr u u0 u1,hr v v0 v1]
   rcases hab with ⟨e1,e2⟩ | ⟨e1,e2⟩
   ·rw [e1,e2,if_pos rfl]; split <;> rfl
   ·rw [e1,e2,if_pos rfl]; split <;> rfl
 ·have hall:=h.all c (fun p hm=>hc p (List.mem_append_left _ hm))
  have huv:c u=c v:=hc (u,v) (List.mem_append_right _ (List.mem_singleton.2 rfl))
  have hu:=hall u u0 u1
  have hv:=hall v v0 v1
  have hx:=hall x x0 x1
  rw [hr x x0 x1]
  split
  ·rename_i e
   rw [e] at hx
   rcases hab with ⟨e1,e2⟩ | ⟨e1,e2⟩
   ·rw [e1] at hu; rw [e2] at hv; rw [← hx,hu,huv,← hv]
   ·rw [e1] at hu; rw [e2] at hv; rw [← hx,hv,← huv,← hu]
  ·exact hx
def Dst (l:List Int) (k:Nat):Prop:=∃ r:List Int,r.Nodup∧r.length=k∧∀ y,y∈r↔y∈l
theorem Dst.uniq {l l':List Int} {k k':Nat} (h:Dst l k) (h':Dst l' k') (e:∀ y,y∈l↔y∈l'):k=k':=by
 obtain ⟨r,hn,rfl,hm⟩:=h
 obtain ⟨r',hn',rfl,hm'⟩:=h'
 refine ((List.perm_ext_iff_of_nodup hn hn').2 fun y=>?_).length_eq
 rw [hm,hm',e]
theorem Dst.side {lt lf lg:List Int} {kt kf kg:Nat} (ht:Dst lt kt) (hf:Dst lf kf) (hg:Dst lg kg) (F G:Int→Int)
  (m:∀ y,y∈lt↔(∃ z∈lf,F z=y)∨∃ z∈lg,G z=y) (fi:∀ z∈lf,∀ w∈lf,F z=F w→z=w) (gj:∀ z∈lg,∀ w∈lg,G z=G w→z=w) (fg:∀ z∈lf,∀ w∈lg,F z≠G w):kt=kf+kg:=by
 obtain ⟨r,hn,rfl,hm⟩:=hf
 obtain ⟨s,hn',rfl,hm'⟩:=hg
 have hd:Dst lt (r.length+s.length):=by
  refine ⟨r.map F++s.map G,List.nodup_append.2 ⟨?_,?_,?_⟩,by simp,fun y=>?_⟩
  ·exact List.pairwise_map.2 (hn.imp_of_mem fun {a b} ha hb hab e=>hab (fi a ((hm a).1 ha) b ((hm b).1 hb) e))
  ·exact List.pairwise_map.2 (hn'.imp_of_mem fun {a b} ha hb hab e=>hab (gj a ((hm' a).1 ha) b ((hm' b).1 hb) e))
  ·intro a ha b hb e
   obtain ⟨z,hz,rfl⟩:=List.mem_map.1 ha
   obtain ⟨w,hw,rfl⟩:=List.mem_map.1 hb
   exact fg z ((hm z).1 hz) w ((hm' w).1 hw) e
  ·rw [List.mem_append,List.mem_map,List.mem_map,m]
   constructor
   ·rintro (⟨z,hz,e⟩ | ⟨z,hz,e⟩)
    ·exact .inl ⟨z,(hm z).1 hz,e⟩
    ·exact .inr ⟨z,(hm' z).1 hz,e⟩
   ·rintro (⟨z,hz,e⟩ | ⟨z,hz,e⟩)
    ·exact .inl ⟨z,(hm z).2 hz,e⟩
    ·exact .inr ⟨z,(hm' z).2 hz,e⟩
 exact ht.uniq hd fun y=>Iff.rfl
end Go.Proofs.YtacpfhajafmigaaGreat
