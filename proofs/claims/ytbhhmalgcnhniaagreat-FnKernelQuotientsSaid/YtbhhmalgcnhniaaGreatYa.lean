/- Classes kept as forests of numbers: roots, halved paths, joined roots; how many classes there are. No condition beside those that each theorem names. -/
import Derived.Test.YtbhhmalgcnhniaaGreatVj
set_option linter.unusedVariables false
set_option linter.unusedSectionVars false
set_option linter.unusedSimpArgs false
namespace Go.Proofs.YtbhhmalgcnhniaaGreat
open Go Go.Li
set_option linter.unusedVariables false
set_option linter.unusedSectionVars false
set_option linter.unusedSimpArgs false
def Jw (J:List Int):Prop:=∀ x:Int,0≤x→x < J.length→0≤gi J x∧gi J x≤x
def Du (J:List Int):Nat→Int→Int
 | 0,x=>x
 | k+1,x=>if gi J x=x then x else Du J k (gi J x)
def rt (J:List Int) (x:Int):Int:=Du J (x.toNat+1) x
theorem PN {J:List Int} (hJ:Jw J):∀ (n:Nat) (x:Int) (k:Nat),x.toNat=n→0≤x→x < J.length→x.toNat < k→Du J k x=Du J (x.toNat+1) x:=by
 intro n
 induction n using Nat.strongRecOn with
 | ind n ih=>
  intro x k hn x0 x1 hk
  obtain ⟨j,rfl⟩ : ∃ j,k=j+1:=⟨k - 1,by omega⟩
  have h:=hJ x x0 x1
  unfold Du
  split
  ·rfl
  ·rename_i iv
   have av:gi J x < x:=by omega
   rw [ih (gi J x).toNat (by omega) (gi J x) j rfl h.1 (by omega) (by omega),ih (gi J x).toNat (by omega) (gi J x) x.toNat rfl h.1 (by omega) (by omega)]
section
variable {J:List Int} (hJ:Jw J)
include hJ
theorem qn {x:Int} (x0:0≤x) (x1:x < J.length) (h:gi J x=x):rt J x=x:=by
 have _:=hJ
 have _:=x0
 have _:=x1
 unfold rt Du
 rw [if_pos h]
theorem sU {x:Int} (x0:0≤x) (x1:x < J.length):rt J x=rt J (gi J x):=by
 have h:=hJ x x0 x1
 by_cases e:gi J x=x
 ·rw [e]
 ·unfold rt
  rw [show Du J (x.toNat+1) x=Du J x.toNat (gi J x) by rw [Du,if_neg e]]
  exact PN hJ _ (gi J x) x.toNat rfl h.1 (by omega) (by omega)
theorem I8 {R:Int→Int} (h1:∀ x:Int,0≤x→x < J.length→R x=R (gi J x)) (h2:∀ x:Int,0≤x→x < J.length→gi J x=x→R x=x):∀ (n:Nat) (x:Int),x.toNat=n→0≤x→x < J.length→rt J x=R x:=by
 intro n
 induction n using Nat.strongRecOn with
 | ind n ih=>
  intro x hn x0 x1
  have h:=hJ x x0 x1
  by_cases e:gi J x=x
  ·rw [qn hJ x0 x1 e,h2 x x0 x1 e]
  ·rw [sU hJ x0 x1,h1 x x0 x1]
   exact ih _ (by omega) _ rfl h.1 (by omega)
theorem QV:∀ (n:Nat) (x:Int),x.toNat=n→0≤x→x < J.length→(0≤rt J x∧rt J x≤x)∧gi J (rt J x)=rt J x:=by
 intro n
 induction n using Nat.strongRecOn with
 | ind n ih=>
  intro x hn x0 x1
  have h:=hJ x x0 x1
  by_cases e:gi J x=x
  ·rw [qn hJ x0 x1 e]; exact ⟨⟨x0,Int.le_refl _⟩,e⟩
  ·rw [sU hJ x0 x1]
   have:=ih _ (by omega) (gi J x) rfl h.1 (by omega)
   exact ⟨⟨this.1.1,by omega⟩,this.2⟩
theorem Bc {x:Int} (x0:0≤x) (x1:x < J.length):0≤rt J x∧rt J x≤x:=(QV hJ _ x rfl x0 x1).1
theorem Hc {x:Int} (x0:0≤x) (x1:x < J.length):gi J (rt J x)=rt J x:=(QV hJ _ x rfl x0 x1).2
theorem Bd {x:Int} (x0:0≤x) (x1:x < J.length):rt J (rt J x)=rt J x:=by
 have h:=Bc hJ x0 x1
 exact qn hJ h.1 (by omega) (Hc hJ x0 x1)
theorem Xy {x:Int} (x0:0≤x) (x1:x < J.length):Jw (J.set x.toNat (gi J (gi J x)))∧∀ z:Int,0≤z→z < J.length→rt (J.set x.toNat (gi J (gi J x))) z=rt J z:=by
 have hx:=hJ x x0 x1
 have hx2:=hJ (gi J x) hx.1 (by omega)
 have key:∀ z:Int,0≤z→gi (J.set x.toNat (gi J (gi J x))) z=if z=x then gi J (gi J x) else gi J z:=fun z z0=>jo x0 x1 z0
 have Nn:Jw (J.set x.toNat (gi J (gi J x))):=by
  intro z z0 z1
  rw [List.length_set] at z1
  rw [key z z0]
  split
  ·omega
  ·exact hJ z z0 z1
 refine ⟨Nn,fun z z0 z1=>I8 Nn (fun y y0 y1=>?_) (fun y y0 y1 h=>?_) _ z rfl z0 (by rw [List.length_set]; exact z1)⟩
 ·rw [List.length_set] at y1
  rw [key y y0]
  split
  ·rename_i e
   rw [e,sU hJ x0 x1,sU hJ hx.1 (by omega)]
  ·exact sU hJ y0 y1
 ·rw [List.length_set] at y1
  rw [key y y0] at h
  split at h
  ·rename_i e
   exact qn hJ y0 y1 (by rw [e]; omega)
  ·exact qn hJ y0 y1 h
theorem MN {a b:Int} (a0:0≤a) (a1:a≤b) (b1:b < J.length) (ha:gi J a=a) (hb:gi J b=b):Jw (J.set b.toNat a)∧∀ z:Int,0≤z→z < J.length→rt (J.set b.toNat a) z=if rt J z=b then a else rt J z:=by
 have key:∀ z:Int,0≤z→gi (J.set b.toNat a) z=if z=b then a else gi J z:=fun z z0=>jo (by omega) b1 z0
 have Nn:Jw (J.set b.toNat a):=by
  intro z z0 z1
  rw [List.length_set] at z1
  rw [key z z0]
  split
  ·omega
  ·exact hJ z z0 z1
 refine ⟨Nn,fun z z0 z1=>I8 (R:=fun z=>if rt J z=b then a else rt J z) Nn (fun y y0 y1=>?_) (fun y y0 y1 h=>?_) _ z rfl z0 (by rw [List.length_set]; exact z1)⟩
 ·rw [List.length_set] at y1
  rw [key y y0]
  by_cases e:y=b
  ·simp only [if_pos e]
   rw [e,qn hJ (by omega) b1 hb,if_pos rfl,qn hJ a0 (by omega) ha]
   split <;> rfl
  ·simp only [if_neg e]
   rw [← sU hJ y0 y1]
 ·rw [List.length_set] at y1
  rw [key y y0] at h
  try dsimp only
  split at h
  ·rename_i e
   rw [e,qn hJ (by omega) b1 hb,if_pos rfl]
   omega
  ·rename_i e
   rw [qn hJ y0 y1 h,if_neg e]
end
structure Jp (n:Nat) (ps:List (Int×Int)) (J:List Int):Prop where
 len:J.length=n
 jn:Jw J
 one:∀ p∈ps,rt J p.1=rt J p.2
 all:∀ c:Int→Int,(∀ p∈ps,c p.1=c p.2)→∀ x:Int,0≤x→x < n→c (rt J x)=c x
theorem Jp.mono {n:Nat} {ps:List (Int×Int)} {J J':List Int} (h:Jp n ps J) (hl:J'.length=n) (hj:Jw J') (hr:∀ z:Int,0≤z→z < n→rt J' z=rt J z) (hp:∀ p∈ps,(0≤p.1∧p.1 < n)∧0≤p.2∧p.2 < n):Jp n ps J':=
 ⟨hl,hj,fun p hm=>by rw [hr _ (hp p hm).1.1 (hp p hm).1.2,hr _ (hp p hm).2.1 (hp p hm).2.2]; exact h.one p hm,fun c hc x x0 x1=>by rw [hr x x0 x1]; exact h.all c hc x x0 x1⟩
theorem Jp.join {n:Nat} {ps:List (Int×Int)} {J J':List Int} (h:Jp n ps J) {u v a b:Int} (u0:0≤u) (u1:u < n) (v0:0≤v) (v1:v < n) (mi:rt J u=a∧rt J v=b∨rt J u=b∧rt J v=a) (hl:J'.length=n) (hj:Jw J')
  (hr:∀ z:Int,0≤z→z < n→rt J' z=if rt J z=b then a else rt J z) (hp:∀ p∈ps,(0≤p.1∧p.1 < n)∧0≤p.2∧p.2 < n):Jp n (ps++[(u,v)]) J':=by
 refine ⟨hl,hj,fun p hm=>?_,fun c hc x x0 x1=>?_⟩
 ·rcases List.mem_append.1 hm with hm | hm
  ·rw [hr _ (hp p hm).1.1 (hp p hm).1.2,hr _ (hp p hm).2.1 (hp p hm).2.2,h.one p hm]
  ·rw [List.mem_singleton.1 hm]
   dsimp only
   rw [hr u u0 u1,hr v v0 v1]
   rcases mi with ⟨e1,e2⟩ | ⟨e1,e2⟩
   ·rw [e1,e2,if_pos rfl]; split <;> rfl
   ·rw [e1,e2,if_pos rfl]; split <;> rfl
 ·have cq:=h.all c (fun p hm=>hc p (List.mem_append_left _ hm))
  have Y1:c u=c v:=hc (u,v) (List.mem_append_right _ (List.mem_singleton.2 rfl))
  have hu:=cq u u0 u1
  have hv:=cq v v0 v1
  have hx:=cq x x0 x1
  rw [hr x x0 x1]
  split
  ·rename_i e
   rw [e] at hx
   rcases mi with ⟨e1,e2⟩ | ⟨e1,e2⟩
   ·rw [e1] at hu; rw [e2] at hv; rw [← hx,hu,Y1,← hv]
   ·rw [e1] at hu; rw [e2] at hv; rw [← hx,hv,← Y1,← hu]
  ·exact hx
def EJ (l:List Int) (k:Nat):Prop:=∃ r:List Int,r.Nodup∧r.length=k∧∀ y,y∈r↔y∈l
theorem EJ.uniq {l l':List Int} {k k':Nat} (h:EJ l k) (h':EJ l' k') (e:∀ y,y∈l↔y∈l'):k=k':=by
 obtain ⟨r,hn,rfl,hm⟩:=h
 obtain ⟨r',r7,rfl,qb⟩:=h'
 refine ((List.perm_ext_iff_of_nodup hn r7).2 fun y=>?_).length_eq
 rw [hm,qb,e]
theorem EJ.side {lt lf lg:List Int} {kt kf kg:Nat} (ht:EJ lt kt) (hf:EJ lf kf) (hg:EJ lg kg) (F G:Int→Int)
  (m:∀ y,y∈lt↔(∃ z∈lf,F z=y)∨∃ z∈lg,G z=y) (fi:∀ z∈lf,∀ w∈lf,F z=F w→z=w) (gj:∀ z∈lg,∀ w∈lg,G z=G w→z=w) (fg:∀ z∈lf,∀ w∈lg,F z≠G w):kt=kf+kg:=by
 obtain ⟨r,hn,rfl,hm⟩:=hf
 obtain ⟨s,r7,rfl,qb⟩:=hg
 have hd:EJ lt (r.length+s.length):=by
  refine ⟨r.map F++s.map G,List.nodup_append.2 ⟨?_,?_,?_⟩,by simp,fun y=>?_⟩
  ·exact List.pairwise_map.2 (hn.imp_of_mem fun {a b} ha hb mi e=>mi (fi a ((hm a).1 ha) b ((hm b).1 hb) e))
  ·exact List.pairwise_map.2 (r7.imp_of_mem fun {a b} ha hb mi e=>mi (gj a ((qb a).1 ha) b ((qb b).1 hb) e))
  ·intro a ha b hb e
   obtain ⟨z,hz,rfl⟩:=List.mem_map.1 ha
   obtain ⟨w,hw,rfl⟩:=List.mem_map.1 hb
   exact fg z ((hm z).1 hz) w ((qb w).1 hw) e
  ·rw [List.mem_append,List.mem_map,List.mem_map,m]
   constructor
   ·rintro (⟨z,hz,e⟩ | ⟨z,hz,e⟩)
    ·exact .inl ⟨z,(hm z).1 hz,e⟩
    ·exact .inr ⟨z,(qb z).1 hz,e⟩
   ·rintro (⟨z,hz,e⟩ | ⟨z,hz,e⟩)
    ·exact .inl ⟨z,(hm z).2 hz,e⟩
    ·exact .inr ⟨z,(qb z).2 hz,e⟩
 exact ht.uniq hd fun y=>Iff.rfl
end Go.Proofs.YtbhhmalgcnhniaaGreat
namespace Go.Proofs.YtbhhmalgcnhniaaGreat
open Go Go.Li
set_option linter.unusedVariables false
set_option linter.unusedSectionVars false
set_option linter.unusedSimpArgs false
theorem sy {l:List (Int×Int)} {a b c:Int}:ie (rq l a b) c=if c=a then some b else ie l c:=by
 induction l with
 | nil=>
  unfold rq ie ie
  cases h:a == c with
  | true=>rw [cond_true,if_pos (by simpa using h:a=c).symm]
  | false=>rw [cond_false,if_neg (fun e=>by rw [e] at h; simp at h)]
 | cons p l ih=>
  unfold rq
  cases h:p.1 == a with
  | true=>
   have e:p.1=a:=by simpa using h
   rw [cond_true]
   unfold ie
   cases h2:a == c with
   | true=>rw [cond_true,if_pos (by simpa using h2:a=c).symm]
   | false=>rw [cond_false,if_neg (fun e=>by rw [e] at h2; simp at h2),e,h2,cond_false]
  | false=>
   rw [cond_false]
   unfold ie
   rw [ih]
   cases h2:p.1 == c with
   | true=>
    have e:p.1=c:=by simpa using h2
    rw [cond_true,cond_true,if_neg (fun e2=>by rw [e,e2] at h; simp at h)]
   | false=>rfl
theorem Pr {l:List (Int×Int)} {a b:Int} (h:ie l a=none):(rq l a b).length=l.length+1:=by
 induction l with
 | nil=>rfl
 | cons p l ih=>
  unfold ie at h
  unfold rq
  cases h2:p.1 == a with
  | true=>rw [h2,cond_true] at h; cases h
  | false=>rw [h2,cond_false] at h; rw [cond_false,List.length_cons,ih h,List.length_cons]
section
variable {J:List Int} (hl:J.length≤1048576) (hJ:Jw J)
include hl hJ
theorem Bb {x:Int} (x0:0≤x) (x1:x < J.length):Ok (cX J x) fun y=>y.1=rt J x∧y.2.length=J.length∧Jw y.2∧∀ z:Int,0≤z→z < J.length→rt y.2 z=rt J z:=by
 have _:=hl
 unfold cX
 refine ew (ol (fun s:Int×List Int=>(0≤s.1∧s.1 < J.length)∧s.2.length=J.length∧Jw s.2∧(∀ z:Int,0≤z→z < J.length→rt s.2 z=rt J z)∧rt J s.1=rt J x) (fun s=>s.1.toNat) ⟨⟨x0,x1⟩,rfl,hJ,fun _ _ _=>rfl,rfl⟩ ?_)
 rintro ⟨s,K⟩ ⟨⟨s0,s1⟩,hk,hK,hr,hx⟩
 dsimp only at s0 s1 hk hK hr hx
 have s2:s < K.length:=by omega
 show Ok (kA s K) _
 unfold kA
 have h1:=hK s s0 s2
 have h2:=hK (gi K s) h1.1 (by omega)
 refine oe (aZ s0 s2) (oc (fun iv=>?_) fun he=>?_)
 ·have ama:gi K s≠s:=by simpa using iv
  have hh:=Xy hK s0 s2
  refine oe (aZ s0 s2) (oe (aZ h1.1 (by omega)) (oe (aZ s0 s2) (oe (aZ s0 (by rw [List.length_set]; exact s2)) (os ?_))))
  rw [jo s0 s2 s0,if_pos rfl]
  refine ⟨⟨⟨h2.1,by omega⟩,by rw [List.length_set]; exact hk,hh.1,fun z z0 z1=>by rw [hh.2 z z0 (by omega)]; exact hr z z0 z1,?_⟩,by dsimp only; omega⟩
  rw [← hx,← hr s s0 s1,← hr (gi K (gi K s)) h2.1 (by omega),sU hK s0 s2,sU hK h1.1 (by omega)]
 ·have rC:gi K s=s:=by simpa using he
  refine os ⟨rfl,os ⟨?_,hk,hK,hr⟩⟩
  rw [← hx,← hr s s0 s1,qn hK s0 s2 rC]
end
end Go.Proofs.YtbhhmalgcnhniaaGreat
