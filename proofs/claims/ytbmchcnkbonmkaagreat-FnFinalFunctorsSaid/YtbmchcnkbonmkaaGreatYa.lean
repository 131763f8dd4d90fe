/- Classes kept as forests of numbers: roots, halved paths, joined roots; how many classes there are. No condition beside those that each theorem names. -/
import Derived.Test.YtbmchcnkbonmkaaGreatVj
namespace Go.Proofs.YtbmchcnkbonmkaaGreat
open Go Go.Li
def Jw (J:List Int):Prop:=∀ x:Int,0≤x→x < J.length→0≤gi J x∧gi J x≤x
def E9 (J:List Int):Nat→Int→Int
 | 0,x=>x
 | k+1,x=>if gi J x=x then x else E9 J k (gi J x)
def rt (J:List Int) (x:Int):Int:=E9 J (x.toNat+1) x
theorem Sb {J:List Int} (hJ:Jw J):∀ (n:Nat) (x:Int) (k:Nat),x.toNat=n→0≤x→x < J.length→x.toNat < k→E9 J k x=E9 J (x.toNat+1) x:=by
 intro n
 induction n using Nat.strongRecOn with
 | ind n ih=>
  intro x k hn x0 x1 hk
  obtain ⟨j,rfl⟩ : ∃ j,k=j+1:=⟨k - 1,by omega⟩
  have h:=hJ x x0 x1
  unfold E9
  split
  ·rfl
  ·rename_i jx
   have bc:gi J x < x:=by omega
   rw [ih (gi J x).toNat (by omega) (gi J x) j rfl h.1 (by omega) (by omega),ih (gi J x).toNat (by omega) (gi J x) x.toNat rfl h.1 (by omega) (by omega)]
section
variable {J:List Int} (hJ:Jw J)
include hJ
theorem tF {x:Int} (x0:0≤x) (x1:x < J.length) (h:gi J x=x):rt J x=x:=by
 have _:=hJ
 have _:=x0
 have _:=x1
 unfold rt E9
 rw [if_pos h]
theorem u7 {x:Int} (x0:0≤x) (x1:x < J.length):rt J x=rt J (gi J x):=by
 have h:=hJ x x0 x1
 by_cases e:gi J x=x
 ·rw [e]
 ·unfold rt
  rw [show E9 J (x.toNat+1) x=E9 J x.toNat (gi J x) by rw [E9,if_neg e]]
  exact Sb hJ _ (gi J x) x.toNat rfl h.1 (by omega) (by omega)
theorem Lz {R:Int→Int} (h1:∀ x:Int,0≤x→x < J.length→R x=R (gi J x)) (h2:∀ x:Int,0≤x→x < J.length→gi J x=x→R x=x):∀ (n:Nat) (x:Int),x.toNat=n→0≤x→x < J.length→rt J x=R x:=by
 intro n
 induction n using Nat.strongRecOn with
 | ind n ih=>
  intro x hn x0 x1
  have h:=hJ x x0 x1
  by_cases e:gi J x=x
  ·rw [tF hJ x0 x1 e,h2 x x0 x1 e]
  ·rw [u7 hJ x0 x1,h1 x x0 x1]
   exact ih _ (by omega) _ rfl h.1 (by omega)
theorem TF:∀ (n:Nat) (x:Int),x.toNat=n→0≤x→x < J.length→(0≤rt J x∧rt J x≤x)∧gi J (rt J x)=rt J x:=by
 intro n
 induction n using Nat.strongRecOn with
 | ind n ih=>
  intro x hn x0 x1
  have h:=hJ x x0 x1
  by_cases e:gi J x=x
  ·rw [tF hJ x0 x1 e]; exact ⟨⟨x0,Int.le_refl _⟩,e⟩
  ·rw [u7 hJ x0 x1]
   have:=ih _ (by omega) (gi J x) rfl h.1 (by omega)
   exact ⟨⟨this.1.1,by omega⟩,this.2⟩
theorem TG {x:Int} (x0:0≤x) (x1:x < J.length):0≤rt J x∧rt J x≤x:=(TF hJ _ x rfl x0 x1).1
theorem Pz {x:Int} (x0:0≤x) (x1:x < J.length):gi J (rt J x)=rt J x:=(TF hJ _ x rfl x0 x1).2
theorem ZZ {x:Int} (x0:0≤x) (x1:x < J.length):Jw (J.set x.toNat (gi J (gi J x)))∧∀ z:Int,0≤z→z < J.length→rt (J.set x.toNat (gi J (gi J x))) z=rt J z:=by
 have hx:=hJ x x0 x1
 have hx2:=hJ (gi J x) hx.1 (by omega)
 have key:∀ z:Int,0≤z→gi (J.set x.toNat (gi J (gi J x))) z=if z=x then gi J (gi J x) else gi J z:=fun z z0=>iy x0 x1 z0
 have PB:Jw (J.set x.toNat (gi J (gi J x))):=by
  intro z z0 z1
  rw [List.length_set] at z1
  rw [key z z0]
  split
  ·omega
  ·exact hJ z z0 z1
 refine ⟨PB,fun z z0 z1=>Lz PB (fun y y0 y1=>?_) (fun y y0 y1 h=>?_) _ z rfl z0 (by rw [List.length_set]; exact z1)⟩
 ·rw [List.length_set] at y1
  rw [key y y0]
  split
  ·rename_i e
   rw [e,u7 hJ x0 x1,u7 hJ hx.1 (by omega)]
  ·exact u7 hJ y0 y1
 ·rw [List.length_set] at y1
  rw [key y y0] at h
  split at h
  ·rename_i e
   exact tF hJ y0 y1 (by rw [e]; omega)
  ·exact tF hJ y0 y1 h
theorem JN {a b:Int} (a0:0≤a) (a1:a≤b) (b1:b < J.length) (ha:gi J a=a) (hb:gi J b=b):Jw (J.set b.toNat a)∧∀ z:Int,0≤z→z < J.length→rt (J.set b.toNat a) z=if rt J z=b then a else rt J z:=by
 have key:∀ z:Int,0≤z→gi (J.set b.toNat a) z=if z=b then a else gi J z:=fun z z0=>iy (by omega) b1 z0
 have PB:Jw (J.set b.toNat a):=by
  intro z z0 z1
  rw [List.length_set] at z1
  rw [key z z0]
  split
  ·omega
  ·exact hJ z z0 z1
 refine ⟨PB,fun z z0 z1=>Lz (R:=fun z=>if rt J z=b then a else rt J z) PB (fun y y0 y1=>?_) (fun y y0 y1 h=>?_) _ z rfl z0 (by rw [List.length_set]; exact z1)⟩
 ·rw [List.length_set] at y1
  rw [key y y0]
  by_cases e:y=b
  ·simp only [if_pos e]
   rw [e,tF hJ (by omega) b1 hb,if_pos rfl,tF hJ a0 (by omega) ha]
   split <;> rfl
  ·simp only [if_neg e]
   rw [← u7 hJ y0 y1]
 ·rw [List.length_set] at y1
  rw [key y y0] at h
  try dsimp only
  split at h
  ·rename_i e
   rw [e,tF hJ (by omega) b1 hb,if_pos rfl]
   omega
  ·rename_i e
   rw [tF hJ y0 y1 h,if_neg e]
end
structure Jp (n:Nat) (ps:List (Int×Int)) (J:List Int):Prop where
 len:J.length=n
 jn:Jw J
 one:∀ p∈ps,rt J p.1=rt J p.2
 all:∀ c:Int→Int,(∀ p∈ps,c p.1=c p.2)→∀ x:Int,0≤x→x < n→c (rt J x)=c x
theorem Jp.mono {n:Nat} {ps:List (Int×Int)} {J J':List Int} (h:Jp n ps J) (hl:J'.length=n) (hj:Jw J') (hr:∀ z:Int,0≤z→z < n→rt J' z=rt J z) (hp:∀ p∈ps,(0≤p.1∧p.1 < n)∧0≤p.2∧p.2 < n):Jp n ps J':=
 ⟨hl,hj,fun p hm=>by rw [hr _ (hp p hm).1.1 (hp p hm).1.2,hr _ (hp p hm).2.1 (hp p hm).2.2]; exact h.one p hm,fun c hc x x0 x1=>by rw [hr x x0 x1]; exact h.all c hc x x0 x1⟩
theorem Jp.join {n:Nat} {ps:List (Int×Int)} {J J':List Int} (h:Jp n ps J) {u v a b:Int} (u0:0≤u) (u1:u < n) (v0:0≤v) (v1:v < n) (nu:rt J u=a∧rt J v=b∨rt J u=b∧rt J v=a) (hl:J'.length=n) (hj:Jw J')
  (hr:∀ z:Int,0≤z→z < n→rt J' z=if rt J z=b then a else rt J z) (hp:∀ p∈ps,(0≤p.1∧p.1 < n)∧0≤p.2∧p.2 < n):Jp n (ps++[(u,v)]) J':=by
 refine ⟨hl,hj,fun p hm=>?_,fun c hc x x0 x1=>?_⟩
 ·rcases List.mem_append.1 hm with hm | hm
  ·rw [hr _ (hp p hm).1.1 (hp p hm).1.2,hr _ (hp p hm).2.1 (hp p hm).2.2,h.one p hm]
  ·rw [List.mem_singleton.1 hm]
   dsimp only
   rw [hr u u0 u1,hr v v0 v1]
   rcases nu with ⟨e1,e2⟩ | ⟨e1,e2⟩
   ·rw [e1,e2,if_pos rfl]; split <;> rfl
   ·rw [e1,e2,if_pos rfl]; split <;> rfl
 ·have de:=h.all c (fun p hm=>hc p (List.mem_append_left _ hm))
  have huv:c u=c v:=hc (u,v) (List.mem_append_right _ (List.mem_singleton.2 rfl))
  have hu:=de u u0 u1
  have hv:=de v v0 v1
  have hx:=de x x0 x1
  rw [hr x x0 x1]
  split
  ·rename_i e
   rw [e] at hx
   rcases nu with ⟨e1,e2⟩ | ⟨e1,e2⟩
   ·rw [e1] at hu; rw [e2] at hv; rw [← hx,hu,huv,← hv]
   ·rw [e1] at hu; rw [e2] at hv; rw [← hx,hv,← huv,← hu]
  ·exact hx
def DC (l:List Int) (k:Nat):Prop:=∃ r:List Int,r.Nodup∧r.length=k∧∀ y,y∈r↔y∈l
theorem DC.uniq {l l':List Int} {k k':Nat} (h:DC l k) (h':DC l' k') (e:∀ y,y∈l↔y∈l'):k=k':=by
 obtain ⟨r,hn,rfl,hm⟩:=h
 obtain ⟨r',tP,rfl,s7⟩:=h'
 refine ((List.perm_ext_iff_of_nodup hn tP).2 fun y=>?_).length_eq
 rw [hm,s7,e]
theorem DC.side {lt lf lg:List Int} {kt kf kg:Nat} (ht:DC lt kt) (hf:DC lf kf) (hg:DC lg kg) (F G:Int→Int)
  (m:∀ y,y∈lt↔(∃ z∈lf,F z=y)∨∃ z∈lg,G z=y) (fi:∀ z∈lf,∀ w∈lf,F z=F w→z=w) (gj:∀ z∈lg,∀ w∈lg,G z=G w→z=w) (fg:∀ z∈lf,∀ w∈lg,F z≠G w):kt=kf+kg:=by
 obtain ⟨r,hn,rfl,hm⟩:=hf
 obtain ⟨s,tP,rfl,s7⟩:=hg
 have hd:DC lt (r.length+s.length):=by
  refine ⟨r.map F++s.map G,List.nodup_append.2 ⟨?_,?_,?_⟩,by simp,fun y=>?_⟩
  ·exact List.pairwise_map.2 (hn.imp_of_mem fun {a b} ha hb nu e=>nu (fi a ((hm a).1 ha) b ((hm b).1 hb) e))
  ·exact List.pairwise_map.2 (tP.imp_of_mem fun {a b} ha hb nu e=>nu (gj a ((s7 a).1 ha) b ((s7 b).1 hb) e))
  ·intro a ha b hb e
   obtain ⟨z,hz,rfl⟩:=List.mem_map.1 ha
   obtain ⟨w,hw,rfl⟩:=List.mem_map.1 hb
   exact fg z ((hm z).1 hz) w ((s7 w).1 hw) e
  ·rw [List.mem_append,List.mem_map,List.mem_map,m]
   constructor
   ·rintro (⟨z,hz,e⟩ | ⟨z,hz,e⟩)
    ·exact .inl ⟨z,(hm z).1 hz,e⟩
    ·exact .inr ⟨z,(s7 z).1 hz,e⟩
   ·rintro (⟨z,hz,e⟩ | ⟨z,hz,e⟩)
    ·exact .inl ⟨z,(hm z).2 hz,e⟩
    ·exact .inr ⟨z,(s7 z).2 hz,e⟩
 exact ht.uniq hd fun y=>Iff.rfl
end Go.Proofs.YtbmchcnkbonmkaaGreat
namespace Go.Proofs.YtbmchcnkbonmkaaGreat
open Go Go.Li
theorem JO {l:List (Int×Int)} {a b c:Int}:nr (vl l a b) c=if c=a then some b else nr l c:=by
 induction l with
 | nil=>
  unfold vl nr nr
  cases h:a == c with
  | true=>rw [cond_true,if_pos (by simpa using h:a=c).symm]
  | false=>rw [cond_false,if_neg (fun e=>by rw [e] at h; simp at h)]
 | cons p l ih=>
  unfold vl
  cases h:p.1 == a with
  | true=>
   have e:p.1=a:=by simpa using h
   rw [cond_true]
   unfold nr
   cases h2:a == c with
   | true=>rw [cond_true,if_pos (by simpa using h2:a=c).symm]
   | false=>rw [cond_false,if_neg (fun e=>by rw [e] at h2; simp at h2),e,h2,cond_false]
  | false=>
   rw [cond_false]
   unfold nr
   rw [ih]
   cases h2:p.1 == c with
   | true=>
    have e:p.1=c:=by simpa using h2
    rw [cond_true,cond_true,if_neg (fun e2=>by rw [e,e2] at h; simp at h)]
   | false=>rfl
theorem Sd {l:List (Int×Int)} {a b:Int} (h:nr l a=none):(vl l a b).length=l.length+1:=by
 induction l with
 | nil=>rfl
 | cons p l ih=>
  unfold nr at h
  unfold vl
  cases h2:p.1 == a with
  | true=>rw [h2,cond_true] at h; cases h
  | false=>rw [h2,cond_false] at h; rw [cond_false,List.length_cons,ih h,List.length_cons]
section
variable {J:List Int} (hl:J.length≤1048576) (hJ:Jw J)
include hl hJ
theorem Gb {x:Int} (x0:0≤x) (x1:x < J.length):Ok (gH J x) fun y=>y.1=rt J x∧y.2.length=J.length∧Jw y.2∧∀ z:Int,0≤z→z < J.length→rt y.2 z=rt J z:=by
 have _:=hl
 unfold gH
 refine jb (ol (fun s:Int×List Int=>(0≤s.1∧s.1 < J.length)∧s.2.length=J.length∧Jw s.2∧(∀ z:Int,0≤z→z < J.length→rt s.2 z=rt J z)∧rt J s.1=rt J x) (fun s=>s.1.toNat) ⟨⟨x0,x1⟩,rfl,hJ,fun _ _ _=>rfl,rfl⟩ ?_)
 rintro ⟨s,K⟩ ⟨⟨s0,s1⟩,hk,hK,hr,hx⟩
 dsimp only at s0 s1 hk hK hr hx
 have s2:s < K.length:=by omega
 show Ok (lR s K) _
 unfold lR
 have h1:=hK s s0 s2
 have h2:=hK (gi K s) h1.1 (by omega)
 refine oe (bI s0 s2) (oc (fun jx=>?_) fun he=>?_)
 ·have apj:gi K s≠s:=by simpa using jx
  have hh:=ZZ hK s0 s2
  refine oe (bI s0 s2) (oe (bI h1.1 (by omega)) (oe (bI s0 s2) (oe (bI s0 (by rw [List.length_set]; exact s2)) (os ?_))))
  rw [iy s0 s2 s0,if_pos rfl]
  refine ⟨⟨⟨h2.1,by omega⟩,by rw [List.length_set]; exact hk,hh.1,fun z z0 z1=>by rw [hh.2 z z0 (by omega)]; exact hr z z0 z1,?_⟩,by dsimp only; omega⟩
  rw [← hx,← hr s s0 s1,← hr (gi K (gi K s)) h2.1 (by omega),u7 hK s0 s2,u7 hK h1.1 (by omega)]
 ·have sR:gi K s=s:=by simpa using he
  refine os ⟨rfl,os ⟨?_,hk,hK,hr⟩⟩
  rw [← hx,← hr s s0 s1,tF hK s0 s2 sR]
end
theorem UI {n:Nat} {ps:List (Int×Int)} {J:List Int} (hn:n≤1048576) (h:Jp n ps J) (hp:∀ p∈ps,(0≤p.1∧p.1 < n)∧0≤p.2∧p.2 < n) {u v:Int} (u0:0≤u) (u1:u < n) (v0:0≤v) (v1:v < n) :
  Ok (jF J u v) fun y=>Jp n (ps++[(u,v)]) y.2:=by
 have hl:=h.len
 unfold jF
 refine jb (ob (Gb (by omega) h.jn u0 (by omega)) fun y hy=>ob (Gb (by omega) hy.2.2.1 v0 (by omega)) fun z hz=>?_)
 obtain ⟨y1,yl,yj,yr⟩:=hy
 obtain ⟨z1,zl,zj,zr⟩:=hz
 have ru:=TG h.jn u0 (by omega)
 have rv:=TG h.jn v0 (by omega)
 have ez:z.1=rt J v:=by rw [z1,yr v v0 (by omega)]
 have fu:=Pz zj (x:=u) u0 (by omega)
 have fv:=Pz zj (x:=v) v0 (by omega)
 have er:∀ w:Int,0≤w→w < n→rt z.2 w=rt J w:=fun w w0 w1=>by rw [zr w w0 (by omega),yr w w0 (by omega)]
 rw [er u u0 u1] at fu
 rw [er v v0 v1] at fv
 rw [y1,ez]
 by_cases bc:rt J v > rt J u
 ·rw [if_pos bc,if_neg (by omega)]
  have hj:=JN zj ru.1 (show rt J u≤rt J v by omega) (by omega) fu fv
  refine oe (bI rv.1 (by omega)) (os ?_)
  exact h.join u0 u1 v0 v1 (.inl ⟨rfl,rfl⟩) (by dsimp only; rw [List.length_set]; omega) hj.1 (fun w w0 w1=>by rw [← er w w0 w1]; exact hj.2 w w0 (by omega)) hp
 ·rw [if_neg bc]
  by_cases hle:rt J v < rt J u
  ·rw [if_pos hle]
   have hj:=JN zj rv.1 (show rt J v≤rt J u by omega) (by omega) fv fu
   refine oe (bI ru.1 (by omega)) (os ?_)
   exact h.join u0 u1 v0 v1 (.inr ⟨rfl,rfl⟩) (by dsimp only; rw [List.length_set]; omega) hj.1 (fun w w0 w1=>by rw [← er w w0 w1]; exact hj.2 w w0 (by omega)) hp
  ·rw [if_neg hle]
   have e:rt J u=rt J v:=by omega
   have hj:=JN zj ru.1 (show rt J u≤rt J u by omega) (by omega) fu fu
   refine oe (bI ru.1 (by omega)) (os ?_)
   exact h.join u0 u1 v0 v1 (.inl ⟨rfl,e.symm⟩) (by dsimp only; rw [List.length_set]; omega) hj.1 (fun w w0 w1=>by rw [← er w w0 w1]; exact hj.2 w w0 (by omega)) hp
structure Nm (l:List Int) (i:Int) (m:List (Int×Int)) (o seen:List Int):Prop where
 nd:seen.Nodup
 ml:m.length=seen.length
 ol:o.length=l.length
 no:∀ y,nr m y=none↔y ∉ seen
 v:∀ y j,nr m y=some j→0≤j∧j < seen.length
 mem:∀ y,y∈seen↔∃ j:Int,0≤j∧j < i∧gi l j=y
 low:∀ j:Int,0≤j→j < i→0≤gi o j∧gi o j < seen.length
 top:seen.length≠0→∃ j:Int,0≤j∧j < i∧gi o j+1=seen.length
theorem PC {l:List Int} (hl:l.length≤1048576):Ok (qD l) fun o=>∃ seen m,Nm l l.length m o seen:=by
 unfold qD
 rw [zF (by omega) (by omega),aD]
 refine jb (ol (fun s:Int×List (Int×Int)×List Int=>(0≤s.1∧s.1≤l.length)∧∃ seen,Nm l s.1 s.2.1 s.2.2 seen) (fun s=>(l.length - s.1).toNat) ⟨⟨by show (0:Int)≤0; omega,by show (0:Int)≤_; omega⟩,[],?_⟩ ?_)
 ·refine ⟨List.nodup_nil,rfl,by simp,fun y=>⟨fun _ h=>(nomatch h),fun _=>rfl⟩,fun y j h=>(nomatch h),fun y=>⟨fun h=>(nomatch h),?_⟩,?_,fun h=>absurd rfl h⟩
  ·rintro ⟨j,j0,j1,_⟩
   have:j < 0:=j1
   omega
  ·intro j j0 j1
   have:j < 0:=j1
   omega
 rintro ⟨s,m,o⟩ ⟨⟨s0,s1⟩,seen,hN⟩
 dsimp only at s0 s1 hN
 show Ok (pZ l s m o) _
 unfold pZ
 refine od (fun h=>?_) fun h=>os ⟨rfl,os ⟨seen,m,by rw [show (l.length:Int)=s by omega]; exact hN⟩⟩
 have gp:=hN.ol
 refine oe (bI s0 h) (oc (fun hb=>?_) fun hb=>?_)
 ·have TH:nr m (gi l s)=none:=by
   cases hg:nr m (gi l s) with
   | none=>rfl
   | some j=>rw [hg] at hb; simp at hb
  have yo:=hN.ml
  refine oe (bI s0 (by omega)) (os ⟨⟨⟨by dsimp only; rw [w1 s0 h (by omega)]; omega,by dsimp only; rw [w1 s0 h (by omega)]; omega⟩,seen++[gi l s],?_⟩,by dsimp only; rw [w1 s0 h (by omega)]; omega⟩)
  rw [w1 s0 h (by omega)]
  have KQ:=(hN.no _).1 TH
  refine ⟨List.nodup_append.2 ⟨hN.nd,by simp,fun a ha b hb e=>KQ (by rw [← List.mem_singleton.1 hb,← e]; exact ha)⟩,by rw [Sd TH,List.length_append,yo]; rfl,by rw [List.length_set]; exact gp,fun y=>?_,fun y j hy=>?_,fun y=>?_,fun j j0 j1=>?_,fun _=>⟨s,s0,by omega,?_⟩⟩
  ·rw [JO]
   split
   ·rename_i e; rw [e]; simp
   ·rename_i e; rw [hN.no y]; simp [e]
  ·rw [JO] at hy
   rw [List.length_append,List.length_singleton]
   split at hy
   ·cases hy; omega
   ·have:=hN.v y j hy; omega
  ·rw [List.mem_append,hN.mem y,List.mem_singleton]
   constructor
   ·rintro (⟨j,j0,j1,e⟩ | e)
    ·exact ⟨j,j0,by omega,e⟩
    ·exact ⟨s,s0,by omega,e.symm⟩
   ·rintro ⟨j,j0,j1,e⟩
    by_cases hj:j=s
    ·exact .inr (by rw [← e,hj])
    ·exact .inl ⟨j,j0,by omega,e⟩
  ·rw [iy s0 (by omega) j0,List.length_append,List.length_singleton]
   split
   ·omega
   ·rename_i e
    have:=hN.low j j0 (by omega)
    omega
  ·rw [iy s0 (by omega) s0,if_pos rfl,List.length_append,List.length_singleton]
   omega
 ·obtain ⟨c,hc⟩ : ∃ c,nr m (gi l s)=some c:=by
   cases hg:nr m (gi l s) with
   | none=>rw [hg] at hb; simp at hb
   | some j=>exact ⟨j,rfl⟩
  have yo:=hN.ml
  have hv:=hN.v _ _ hc
  have E3:gi l s∈seen:=Classical.byContradiction fun hn=>by rw [(hN.no _).2 hn] at hc; cases hc
  refine oe (bI s0 (by omega)) (os ⟨⟨⟨by dsimp only; rw [w1 s0 h (by omega)]; omega,by dsimp only; rw [w1 s0 h (by omega)]; omega⟩,seen,?_⟩,by dsimp only; rw [w1 s0 h (by omega)]; omega⟩)
  rw [w1 s0 h (by omega),hc]
  refine ⟨hN.nd,yo,by rw [List.length_set]; exact gp,hN.no,hN.v,fun y=>?_,fun j j0 j1=>?_,fun jx=>?_⟩
  ·rw [hN.mem y]
   constructor
   ·rintro ⟨j,j0,j1,e⟩; exact ⟨j,j0,by omega,e⟩
   ·rintro ⟨j,j0,j1,e⟩
    by_cases hj:j=s
    ·rw [hj] at e
     rw [← e]
     exact (hN.mem _).1 E3
    ·exact ⟨j,j0,by omega,e⟩
  ·rw [iy s0 (by omega) j0]
   split
   ·exact hv
   ·rename_i e
    exact hN.low j j0 (by omega)
  ·obtain ⟨j,j0,j1,e⟩:=hN.top jx
   refine ⟨j,j0,by omega,?_⟩
   rw [iy s0 (by omega) j0,if_neg (by omega)]
   exact e
theorem Kg {l m o seen} (hl:l.length≤1048576) (h:Nm l l.length m o seen):dY o=some (seen.length:Int):=by
 have gp:=h.ol
 have yo:=h.ml
 obtain ⟨y,e,hy⟩ : Ok (dY o) fun y=>y=(seen.length:Int):=by
  unfold dY
  refine jb (ol (fun s:Int×Int=>(0≤s.2∧s.2≤o.length)∧(0≤s.1∧s.1≤seen.length)∧∀ j:Int,0≤j→j < s.2→gi o j+1≤s.1) (fun s=>(o.length - s.2).toNat) ⟨⟨by show (0:Int)≤0; omega,by show (0:Int)≤_; omega⟩,⟨by show (0:Int)≤0; omega,by show (0:Int)≤_; omega⟩,fun j j0 j1=>by have:j < 0:=j1; omega⟩ ?_)
  rintro ⟨c,s⟩ ⟨⟨s0,s1⟩,⟨c0,c1⟩,hc⟩
  dsimp only at s0 s1 c0 c1 hc
  show Ok (iB o c s) _
  unfold iB
  refine od (fun bc=>?_) fun KW=>?_
  ·have tU:=h.low s s0 (by omega)
   have Hy:seen.length≤1048576:=by
    have dk:seen ⊆ l:=fun y hy=>by
     obtain ⟨j,j0,j1,e⟩:=(h.mem y).1 hy
     rw [← e]; exact fj j0 j1
    have:=h.nd.length_le_of_subset dk
    omega
   refine oe (bI s0 bc) (os ⟨?_,by dsimp only; rw [w1 s0 bc (by omega)]; omega⟩)
   dsimp only
   rw [w1 s0 bc (by omega),cV (by omega) (by omega)]
   refine ⟨⟨by omega,by omega⟩,by split <;> omega,fun j j0 j1=>?_⟩
   by_cases hj:j=s
   ·rw [hj]; split <;> omega
   ·have:=hc j j0 (by omega)
    split <;> omega
  ·refine os ⟨rfl,os ?_⟩
   show c=(seen.length:Int)
   by_cases hz:seen.length=0
   ·omega
   ·obtain ⟨j,j0,j1,e⟩:=h.top hz
    have:=hc j j0 (by omega)
    omega
 rw [e,hy]
theorem UM {J:List Int} (hl:J.length≤1048576) (hJ:Jw J):Ok (gW J) fun y=>y.1.length=J.length∧∃ k:Nat,dY y.1=some (k:Int)∧DC (db J.length (rt J)) k:=by
 unfold gW
 rw [zF (by omega) (by omega),aD]
 refine jb (ol (fun s:Int×List Int×List Int=>(0≤s.1∧s.1≤J.length)∧(s.2.1.length=J.length∧Jw s.2.1∧∀ z:Int,0≤z→z < J.length→rt s.2.1 z=rt J z)∧s.2.2.length=J.length∧∀ j:Int,0≤j→j < s.1→gi s.2.2 j=rt J j) (fun s=>(J.length - s.1).toNat) ⟨⟨by show (0:Int)≤0; omega,by show (0:Int)≤_; omega⟩,⟨rfl,hJ,fun _ _ _=>rfl⟩,by simp,fun j j0 j1=>by have:j < 0:=j1; omega⟩ ?_)
 rintro ⟨s,K,o⟩ ⟨⟨s0,s1⟩,⟨kl,kj,kr⟩,TJ,ho⟩
 dsimp only at s0 s1 kl kj kr TJ ho
 show Ok (jG J s K o) _
 unfold jG
 refine od (fun bc=>?_) fun KW=>?_
 ·refine ob (Gb (by omega) kj s0 (by omega)) fun y hy=>?_
  obtain ⟨y1,yl,yj,yr⟩:=hy
  refine oe (bI s0 (by omega)) (os ⟨⟨⟨by dsimp only; rw [w1 s0 bc (by omega)]; omega,by dsimp only; rw [w1 s0 bc (by omega)]; omega⟩,⟨by dsimp only; omega,yj,fun z z0 z1=>by rw [yr z z0 (by omega)]; exact kr z z0 z1⟩,by dsimp only; rw [List.length_set]; exact TJ,fun j j0 j1=>?_⟩,by dsimp only; rw [w1 s0 bc (by omega)]; omega⟩)
  dsimp only at j1 ⊢
  rw [w1 s0 bc (by omega)] at j1
  rw [iy s0 (by omega) j0]
  split
  ·rename_i e; rw [e,y1,kr s s0 bc]
  ·exact ho j j0 (by omega)
 ·have eo:o=db J.length (rt J):=AE (by rw [bL]; exact TJ) fun j j0 j1=>by
   rw [bL] at j1
   rw [qh j0 j1,ho j j0 (by omega)]
  refine os ⟨rfl,?_⟩
  dsimp only
  refine ob (PC (l:=o) (by omega)) fun q hq=>os ?_
  obtain ⟨seen,m,hN⟩:=hq
  refine ⟨by dsimp only; rw [hN.ol]; exact TJ,seen.length,Kg (by omega) hN,?_⟩
  rw [← eo]
  refine ⟨seen,hN.nd,rfl,fun y=>?_⟩
  rw [hN.mem y]
  constructor
  ·rintro ⟨j,j0,j1,e⟩; rw [← e]; exact fj j0 j1
  ·intro hy
   obtain ⟨j,j0,j1,e⟩:=AJ hy
   exact ⟨j,j0,j1,e⟩
end Go.Proofs.YtbmchcnkbonmkaaGreat
