/- The program's joiner: roots, joins, the numbers of classes. No condition beside those that each theorem names. -/
import Derived.Test.YtacpfhajafmigaaGreatYa
import Derived.Test.YtacpfhajafmigaaGreatVs
import Derived.Test.YtacpfhajafmigaaGreatYb
namespace Go.Proofs.YtacpfhajafmigaaGreat
open Go Go.Li
theorem mget_put {l:List (Int×Int)} {a b c:Int}:mget (mput l a b) c=if c=a then some b else mget l c:=by
 induction l with
 | nil=>
  unfold mput mget mget
  cases h:a == c with
  | true=>rw [cond_true,if_pos (by simpa using h:a=c).symm]
  | false=>rw [cond_false,if_neg (fun e=>by rw [e] at h; simp at h)]
 | cons p l ih=>
  unfold mput
  cases h:p.1 == a with
  | true=>
   have e:p.1=a:=by simpa using h
   rw [cond_true]
   unfold mget
   cases h2:a == c with
   | true=>rw [cond_true,if_pos (by simpa using h2:a=c).symm]
   | false=>rw [cond_false,if_neg (fun e=>by rw [e] at h2; simp at h2),e,h2,cond_false]
  | false=>
   rw [cond_false]
   unfold mget
   rw [ih]
   cases h2:p.1 == c with
   | true=>
    have e:p.1=c:=by simpa using h2
    rw [cond_true,cond_true,if_neg (fun e2=>by rw [e,e2] at h; simp at h)]
   | false=>rfl
theorem mput_new {l:List (Int×Int)} {a b:Int} (h:mget l a=none):(mput l a b).length=l.length+1:=by
 induction l with
 | nil=>rfl
 | cons p l ih=>
  unfold mget at h
  unfold mput
  cases h2:p.1 == a with
  | true=>rw [h2,cond_true] at h; cases h
  | false=>rw [h2,cond_false] at h; rw [cond_false,List.length_cons,ih h,List.length_cons]
section
variable {J:List Int} (hl:J.length≤1048576) (hJ:Jw J)
include hl hJ
theorem root_ok {x:Int} (x0:0≤x) (x1:x < J.length):Ok (fM J x) fun y=>y.1=rt J x∧y.2.length=J.length∧Jw y.2∧∀ z:Int,0≤z→z < J.length→rt y.2 z=rt J z:=by
 have _:=hl
 unfold fM
 refine orr (ol (fun s:Int×List Int=>(0≤s.1∧s.1 < J.length)∧s.2.length=J.length∧Jw s.2∧(∀ z:Int,0≤z→z < J.length→rt s.2 z=rt J z)∧rt J s.1=rt J x) (fun s=>s.1.toNat) ⟨⟨x0,x1⟩,rfl,hJ,fun _ _ _=>rfl,rfl⟩ ?_)
 rintro ⟨s,K⟩ ⟨⟨s0,s1⟩,hk,hK,hr,hx⟩
 dsimp only at s0 s1 hk hK hr hx
 have s2:s < K.length:=by omega
 show Ok (kD s K) _
 unfold kD
 have h1:=hK s s0 s2
 have h2:=hK (gi K s) h1.1 (by omega)
 refine oe (bS s0 s2) (oc (fun hne=>?_) fun he=>?_)
 ·have hne':gi K s≠s:=by simpa using hne
  have hh:=halve hK s0 s2
  refine oe (bS s0 s2) (oe (bS h1.1 (by omega)) (oe (bS s0 s2) (oe (bS s0 (by rw [List.length_set]; exact s2)) (os ?_))))
  rw [gi_setI s0 s2 s0,if_pos rfl]
  refine ⟨⟨⟨h2.1,by omega⟩,by rw [List.length_set]; exact hk,hh.1,fun z z0 z1=>by rw [hh.2 z z0 (by omega)]; exact hr z z0 z1,?_⟩,by dsimp only; omega⟩
  rw [← hx,← hr s s0 s1,← hr (gi K (gi K s)) h2.1 (by omega),rt_step hK s0 s2,rt_step hK h1.1 (by omega)]
 ·have he':gi K s=s:=by simpa using he
  refine os ⟨rfl,os ⟨?_,hk,hK,hr⟩⟩
  rw [← hx,← hr s s0 s1,rt_root hK s0 s2 he']
end
theorem join_jp {n:Nat} {ps:List (Int×Int)} {J:List Int} (hn:n≤1048576) (h:Jp n ps J) (hp:∀ p∈ps,(0≤p.1∧p.1 < n)∧0≤p.2∧p.2 < n) {u v:Int} (u0:0≤u) (u1:u < n) (v0:0≤v) (v1:v < n) :
  Ok (jO J u v) fun y=>Jp n (ps++[(u,v)]) y.2:=by
 have hl:=h.len
 unfold jO
 refine orr (ob (root_ok (by omega) h.jn u0 (by omega)) fun y hy=>ob (root_ok (by omega) hy.2.2.1 v0 (by omega)) fun z hz=>?_)
 obtain ⟨y1,yl,yj,yr⟩:=hy
 obtain ⟨z1,zl,zj,zr⟩:=hz
 have ru:=rt_lt h.jn u0 (by omega)
 have rv:=rt_lt h.jn v0 (by omega)
 have ez:z.1=rt J v:=by rw [z1,yr v v0 (by omega)]
 have fu:=rt_fix zj (x:=u) u0 (by omega)
 have fv:=rt_fix zj (x:=v) v0 (by omega)
 have er:∀ w:Int,0≤w→w < n→rt z.2 w=rt J w:=fun w w0 w1=>by rw [zr w w0 (by omega),yr w w0 (by omega)]
 rw [er u u0 u1] at fu
 rw [er v v0 v1] at fv
 rw [y1,ez]
 by_cases hlt:rt J v > rt J u
 ·rw [if_pos hlt,if_neg (by omega)]
  have hj:=joined zj ru.1 (show rt J u≤rt J v by omega) (by omega) fu fv
  refine oe (bS rv.1 (by omega)) (os ?_)
  exact h.join u0 u1 v0 v1 (.inl ⟨rfl,rfl⟩) (by dsimp only; rw [List.length_set]; omega) hj.1 (fun w w0 w1=>by rw [← er w w0 w1]; exact hj.2 w w0 (by omega)) hp
 ·rw [if_neg hlt]
  by_cases hle:rt J v < rt J u
  ·rw [if_pos hle]
   have hj:=joined zj rv.1 (show rt J v≤rt J u by omega) (by omega) fv fu
   refine oe (bS ru.1 (by omega)) (os ?_)
   exact h.join u0 u1 v0 v1 (.inr ⟨rfl,rfl⟩) (by dsimp only; rw [List.length_set]; omega) hj.1 (fun w w0 w1=>by rw [← er w w0 w1]; exact hj.2 w w0 (by omega)) hp
  ·rw [if_neg hle]
   have e:rt J u=rt J v:=by omega
   have hj:=joined zj ru.1 (show rt J u≤rt J u by omega) (by omega) fu fu
   refine oe (bS ru.1 (by omega)) (os ?_)
   exact h.join u0 u1 v0 v1 (.inl ⟨rfl,e.symm⟩) (by dsimp only; rw [List.length_set]; omega) hj.1 (fun w w0 w1=>by rw [← er w w0 w1]; exact hj.2 w w0 (by omega)) hp
structure Nm (l:List Int) (i:Int) (m:List (Int×Int)) (o seen:List Int):Prop where
 nd:seen.Nodup
 ml:m.length=seen.length
 ol:o.length=l.length
 no:∀ y,mget m y=none↔y ∉ seen
 v:∀ y j,mget m y=some j→0≤j∧j < seen.length
 mem:∀ y,y∈seen↔∃ j:Int,0≤j∧j < i∧gi l j=y
 low:∀ j:Int,0≤j→j < i→0≤gi o j∧gi o j < seen.length
 top:seen.length≠0→∃ j:Int,0≤j∧j < i∧gi o j+1=seen.length
theorem normal_ok {l:List Int} (hl:l.length≤1048576):Ok (pE l) fun o=>∃ seen m,Nm l l.length m o seen:=by
 unfold pE
 rw [mk_ok (by omega) (by omega),aD]
 refine orr (ol (fun s:Int×List (Int×Int)×List Int=>(0≤s.1∧s.1≤l.length)∧∃ seen,Nm l s.1 s.2.1 s.2.2 seen) (fun s=>(l.length - s.1).toNat) ⟨⟨by show (0:Int)≤0; omega,by show (0:Int)≤_; omega⟩,[],?_⟩ ?_)
 ·refine ⟨List.nodup_nil,rfl,by simp,fun y=>⟨fun _ h=>(nomatch h),fun _=>rfl⟩,fun y j h=>(nomatch h),fun y=>⟨fun h=>(nomatch h),?_⟩,?_,fun h=>absurd rfl h⟩
  ·rintro ⟨j,j0,j1,_⟩
   have:j < 0:=j1
   omega
  ·intro j j0 j1
   have:j < 0:=j1
   omega
 rintro ⟨s,m,o⟩ ⟨⟨s0,s1⟩,seen,hN⟩
 dsimp only at s0 s1 hN
 show Ok (pB l s m o) _
 unfold pB
 refine od (fun h=>?_) fun h=>os ⟨rfl,os ⟨seen,m,by rw [show (l.length:Int)=s by omega]; exact hN⟩⟩
 have hol:=hN.ol
 refine oe (bS s0 h) (oc (fun hb=>?_) fun hb=>?_)
 ·have hnone:mget m (gi l s)=none:=by
   cases hg:mget m (gi l s) with
   | none=>rfl
   | some j=>rw [hg] at hb; simp at hb
  have hml:=hN.ml
  refine oe (bS s0 (by omega)) (os ⟨⟨⟨by dsimp only; rw [w1 s0 h (by omega)]; omega,by dsimp only; rw [w1 s0 h (by omega)]; omega⟩,seen++[gi l s],?_⟩,by dsimp only; rw [w1 s0 h (by omega)]; omega⟩)
  rw [w1 s0 h (by omega)]
  have hns:=(hN.no _).1 hnone
  refine ⟨List.nodup_append.2 ⟨hN.nd,by simp,fun a ha b hb e=>hns (by rw [← List.mem_singleton.1 hb,← e]; exact ha)⟩,by rw [mput_new hnone,List.length_append,hml]; rfl,by rw [List.length_set]; exact hol,fun y=>?_,fun y j hy=>?_,fun y=>?_,fun j j0 j1=>?_,fun _=>⟨s,s0,by omega,?_⟩⟩
  ·rw [mget_put]
   split
   ·rename_i e; rw [e]; simp
   ·rename_i e; rw [hN.no y]; simp [e]
  ·rw [mget_put] at hy
   rw [List.length_append,List.length_singleton]
   split at hy
   ·cases hy; omega
   ·have:=hN.v y j hy; omega
  ·rw [List.mem_append,hN.mem y,List.mem_singleton]
   constructor
   ·rintro (⟨j,j0,j1,e⟩ | e)
    ·exact ⟨j,j0,by omega,e⟩
    ·exact ⟨s,s0,by omega,e.symm⟩
   ·rintro ⟨j,j0,j1,e⟩
    by_cases hj:j=s
    ·exact .inr (by rw [← e,hj])
    ·exact .inl ⟨j,j0,by omega,e⟩
  ·rw [gi_setI s0 (by omega) j0,List.length_append,List.length_singleton]
   split
   ·omega
   ·rename_i e
    have:=hN.low j j0 (by omega)
    omega
  ·rw [gi_setI s0 (by omega) s0,if_pos rfl,List.length_append,List.length_singleton]
   omega
 ·obtain ⟨c,hc⟩ : ∃ c,mget m (gi l s)=some c:=by
   cases hg:mget m (gi l s) with
   | none=>rw [hg] at hb; simp at hb
   | some j=>exact ⟨j,rfl⟩
  have hml:=hN.ml
  have hv:=hN.v _ _ hc
  have hin:gi l s∈seen:=Classical.byContradiction fun hn=>by rw [(hN.no _).2 hn] at hc; cases hc
  refine oe (bS s0 (by omega)) (os ⟨⟨⟨by dsimp only; rw [w1 s0 h (by omega)]; omega,by dsimp only; rw [w1 s0 h (by omega)]; omega⟩,seen,?_⟩,by dsimp only; rw [w1 s0 h (by omega)]; omega⟩)
  rw [w1 s0 h (by omega),hc]
  refine ⟨hN.nd,hml,by rw [List.length_set]; exact hol,hN.no,hN.v,fun y=>?_,fun j j0 j1=>?_,fun hne=>?_⟩
  ·rw [hN.mem y]
   constructor
   ·rintro ⟨j,j0,j1,e⟩; exact ⟨j,j0,by omega,e⟩
   ·rintro ⟨j,j0,j1,e⟩
    by_cases hj:j=s
    ·rw [hj] at e
     rw [← e]
     exact (hN.mem _).1 hin
    ·exact ⟨j,j0,by omega,e⟩
  ·rw [gi_setI s0 (by omega) j0]
   split
   ·exact hv
   ·rename_i e
    exact hN.low j j0 (by omega)
  ·obtain ⟨j,j0,j1,e⟩:=hN.top hne
   refine ⟨j,j0,by omega,?_⟩
   rw [gi_setI s0 (by omega) j0,if_neg (by omega)]
   exact e
theorem classes_cnt {l m o seen} (hl:l.length≤1048576) (h:Nm l l.length m o seen):eC o=some (seen.length:Int):=by
 have hol:=h.ol
 have hml:=h.ml
 obtain ⟨y,e,hy⟩ : Ok (eC o) fun y=>y=(seen.length:Int):=by
  unfold eC
  refine orr (ol (fun s:Int×Int=>(0≤s.2∧s.2≤o.length)∧(0≤s.1∧s.1≤seen.length)∧∀ j:Int,0≤j→j < s.2→gi o j+1≤s.1) (fun s=>(o.length - s.2).toNat) ⟨⟨by show (0:Int)≤0; omega,by show (0:Int)≤_; omega⟩,⟨by show (0:Int)≤0; omega,by show (0:Int)≤_; omega⟩,fun j j0 j1=>by have:j < 0:=j1; omega⟩ ?_)
  rintro ⟨c,s⟩ ⟨⟨s0,s1⟩,⟨c0,c1⟩,hc⟩
  dsimp only at s0 s1 c0 c1 hc
  show Ok (gE o c s) _
  unfold gE
  refine od (fun hlt=>?_) fun hge=>?_
  ·have hlow:=h.low s s0 (by omega)
   have hsl:seen.length≤1048576:=by
    have hsub:seen ⊆ l:=fun y hy=>by
     obtain ⟨j,j0,j1,e⟩:=(h.mem y).1 hy
     rw [← e]; exact gi_mem j0 j1
    have:=h.nd.length_le_of_subset hsub
    omega
   refine oe (bS s0 hlt) (os ⟨?_,by dsimp only; rw [w1 s0 hlt (by omega)]; omega⟩)
   dsimp only
   rw [w1 s0 hlt (by omega),dJ (by omega) (by omega)]
   refine ⟨⟨by omega,by omega⟩,by split <;> omega,fun j j0 j1=>?_⟩
   by_cases hj:j=s
   ·rw [hj]; split <;> omega
   ·have:=hc j j0 (by omega)
    split <;> omega
  ·refine os ⟨rfl,os ?_⟩
   show c=(seen.length:Int)
   by_cases hz:seen.length=0
   ·omega
   ·obtain ⟨j,j0,j1,e⟩:=h.top hz
    have:=hc j j0 (by omega)
    omega
 rw [e,hy]
theorem part_ok {J:List Int} (hl:J.length≤1048576) (hJ:Jw J):Ok (fZ J) fun y=>y.1.length=J.length∧∃ k:Nat,eC y.1=some (k:Int)∧Dst (mapI J.length (rt J)) k:=by
 unfold fZ
 rw [mk_ok (by omega) (by omega),aD]
 refine orr (ol (fun s:Int×List Int×List Int=>(0≤s.1∧s.1≤J.length)∧(s.2.1.length=J.length∧Jw s.2.1∧∀ z:Int,0≤z→z < J.length→rt s.2.1 z=rt J z)∧s.2.2.length=J.length∧∀ j:Int,0≤j→j < s.1→gi s.2.2 j=rt J j) (fun s=>(J.length - s.1).toNat) ⟨⟨by show (0:Int)≤0; omega,by show (0:Int)≤_; omega⟩,⟨rfl,hJ,fun _ _ _=>rfl⟩,by simp,fun j j0 j1=>by have:j < 0:=j1; omega⟩ ?_)
 rintro ⟨s,K,o⟩ ⟨⟨s0,s1⟩,⟨kl,kj,kr⟩,ol',ho⟩
 dsimp only at s0 s1 kl kj kr ol' ho
 show Ok (gS J s K o) _
 unfold gS
 refine od (fun hlt=>?_) fun hge=>?_
 ·refine ob (root_ok (by omega) kj s0 (by omega)) fun y hy=>?_
  obtain ⟨y1,yl,yj,yr⟩:=hy
  refine oe (bS s0 (by omega)) (os ⟨⟨⟨by dsimp only; rw [w1 s0 hlt (by omega)]; omega,by dsimp only; rw [w1 s0 hlt (by omega)]; omega⟩,⟨by dsimp only; omega,yj,fun z z0 z1=>by rw [yr z z0 (by omega)]; exact kr z z0 z1⟩,by dsimp only; rw [List.length_set]; exact ol',fun j j0 j1=>?_⟩,by dsimp only; rw [w1 s0 hlt (by omega)]; omega⟩)
  dsimp only at j1 ⊢
  rw [w1 s0 hlt (by omega)] at j1
  rw [gi_setI s0 (by omega) j0]
  split
  ·rename_i e; rw [e,y1,kr s s0 hlt]
  ·exact ho j j0 (by omega)
 ·have eo:o=mapI J.length (rt J):=gi_ext (by rw [cQ]; exact ol') fun j j0 j1=>by
   rw [cQ] at j1
   rw [gi_mapI j0 j1,ho j j0 (by omega)]
  refine os ⟨rfl,?_⟩
  dsimp only
  refine ob (normal_ok (l:=o) (by omega)) fun q hq=>os ?_
  obtain ⟨seen,m,hN⟩:=hq
  refine ⟨by dsimp only; rw [hN.ol]; exact ol',seen.length,classes_cnt (by omega) hN,?_⟩
  rw [← eo]
  refine ⟨seen,hN.nd,rfl,fun y=>?_⟩
  rw [hN.mem y]
  constructor
  ·rintro ⟨j,j0,j1,e⟩; rw [← e]; exact gi_mem j0 j1
  ·intro hy
   obtain ⟨j,j0,j1,e⟩:=mem_gi hy
   exact ⟨j,j0,j1,e⟩
end Go.Proofs.YtacpfhajafmigaaGreat
namespace Go.Proofs.YtacpfhajafmigaaGreat
open Go Go.Li
def offI (f:aF):Nat→Int
 | 0=>0
 | k+1=>offI f k+gi f.aM k
def ofs (f:aF) (x:Int):Int:=offI f x.toNat
def Pd (f:aF) (a i:Int) (p:Int×Int):Prop:=∃ b j:Int,(0≤b∧b < f.aA.aG.length)∧(0≤j∧j < gi f.aM (gi f.aA.aG b))∧(b < a∨b=a∧j < i)∧p=(ofs f (gi f.aA.aG b)+j,ofs f (gi f.aA.To b)+gi (gr f.aN b) j)
section
variable {f:aF} (F:SF f)
include F
theorem offI_bd:∀ {i:Nat},(i:Int)≤f.aA.aH→0≤offI f i∧offI f i≤16 * i:=by
 intro i
 induction i with
 | zero=>intro _; unfold offI; omega
 | succ i ih=>
  intro h
  have:=ih (by omega)
  have hs:=F.s i (by omega) (by omega)
  unfold offI
  omega
theorem offI_mono:∀ {k i:Nat},((i+k:Nat):Int)≤f.aA.aH→offI f i≤offI f (i+k):=by
 intro k
 induction k with
 | zero=>intro i _; exact Int.le_refl _
 | succ k ih=>
  intro i h
  have h1:=ih (i:=i) (by omega)
  have hs:=F.s ((i+k:Nat):Int) (by omega) (by omega)
  rw [← Nat.add_assoc,show offI f (i+k+1)=offI f (i+k)+gi f.aM ((i+k:Nat):Int) from rfl]
  omega
theorem ofs_succ {x:Int} (x0:0≤x):offI f (x.toNat+1)=ofs f x+gi f.aM x:=by
 have _:=F
 unfold offI ofs
 rw [show ((x.toNat:Nat):Int)=x by omega]
theorem ofs_fit {x:Int} (x0:0≤x) (x1:x < f.aA.aH):0≤ofs f x∧ofs f x+gi f.aM x≤offI f f.aM.length:=by
 have sl:=F.sl
 refine ⟨(offI_bd F (i:=x.toNat) (by omega)).1,?_⟩
 rw [← ofs_succ F x0]
 obtain ⟨k,hk⟩ : ∃ k,f.aM.length=x.toNat+1+k:=⟨f.aM.length - (x.toNat+1),by omega⟩
 rw [hk]
 exact offI_mono F (by omega)
theorem ofs_lt {x y:Int} (x0:0≤x) (xy:x < y) (y1:y < f.aA.aH):ofs f x+gi f.aM x≤ofs f y:=by
 rw [← ofs_succ F x0]
 obtain ⟨k,hk⟩ : ∃ k,y.toNat=x.toNat+1+k:=⟨y.toNat - (x.toNat+1),by omega⟩
 unfold ofs
 rw [hk]
 exact offI_mono F (by omega)
theorem offsets_eq:fJ f=some (mapI f.aM.length (ofs f)):=by
 have sl:=F.sl
 have o8:=F.cat.o8
 unfold fJ
 refine (congrArg retM (map_loop f.aM.length (ofs f) (fun acc i=>(acc,offI f i,(i:Int))) rfl ?_ ?_)).trans rfl
 ·intro i acc hi hacc
  have hb:=offI_bd F (i:=i) (by omega)
  have hs:=F.s i (by omega) (by omega)
  show eB f acc (offI f i) i=_
  unfold eB
  rw [decT (by omega),cond_true,bS (by omega) (by omega),aD,dR (by omega) (by omega),aD,dJ (by omega) (by omega),bW (by omega)]
  rfl
 ·intro acc _
  show eB f acc _ (f.aM.length:Int)=_
  unfold eB
  rw [decF (by omega),cond_false]
theorem elements_eq:fD f=some (offI f f.aM.length):=by
 have sl:=F.sl
 have o8:=F.cat.o8
 unfold fD
 refine (congrArg retM (for_all (ns f.aM.length) (fun i=>(offI f i,(i:Int))) rfl ?_ (e:=(offI f f.aM.length,(f.aM.length:Int))) ?_)).trans rfl
 ·intro i x hx
  obtain ⟨rfl,hi⟩:=ns_get hx
  have hb:=offI_bd F (i:=i) (by omega)
  have hs:=F.s i (by omega) (by omega)
  show dZ f (offI f i) i=_
  unfold dZ
  rw [decT (by omega),cond_true,bS (by omega) (by omega),aD,dJ (by omega) (by omega),bW (by omega)]
  rfl
 ·rw [dD]
  show dZ f _ (f.aM.length:Int)=_
  unfold dZ
  rw [decF (by omega),cond_false]
theorem Pd.rng {a i:Int} {p:Int×Int} (h:Pd f a i p):(0≤p.1∧p.1 < (offI f f.aM.length).toNat)∧0≤p.2∧p.2 < (offI f f.aM.length).toNat:=by
 obtain ⟨b,j,hb,hj,_,rfl⟩:=h
 have h1:=F.cat.fr hb.1 hb.2
 have h2:=F.cat.to hb.1 hb.2
 have h3:=ofs_fit F h1.1 h1.2
 have h4:=ofs_fit F h2.1 h2.2
 have h5:=F.img hb.1 hb.2 hj.1 hj.2
 dsimp only
 omega
omit F in
theorem jp_nil (n:Nat):Jp n [] (ns n):=by
 have hJ:Jw (ns n):=fun x x0 x1=>by
  rw [dD] at x1
  rw [gi_ns x0 x1]; omega
 refine ⟨dD n,hJ,fun _ h=>(nomatch h),fun c _ x x0 x1=>?_⟩
 rw [rt_root hJ x0 (by rw [dD]; exact x1) (gi_ns x0 x1)]
theorem comps_ok:Ok (eN f) fun y=>∃ (J:List Int) (k:Nat) (ps:List (Int×Int)),y.2=(k:Int)∧Jp (offI f f.aM.length).toNat ps J∧(∀ p,p∈ps↔Pd f f.aA.aG.length 0 p)∧Dst (mapI (offI f f.aM.length).toNat (rt J)) k:=by
 have sl:=F.sl
 have o8:=F.cat.o8
 have m40:=F.cat.m
 have al:=F.al
 have tb:=offI_bd F (i:=f.aM.length) (by omega)
 have hlo:(mapI f.aM.length (ofs f)).length=f.aM.length:=cQ _ _
 have hjo:lX (offI f f.aM.length)=some (ns (offI f f.aM.length).toNat):=by
  unfold lX
  rw [implNumbers tb.1 (by omega)]; rfl
 generalize hn:(offI f f.aM.length).toNat=n at hjo ⊢
 have hn2:(n:Int)=offI f f.aM.length:=by omega
 unfold eN
 refine orr (oe (offsets_eq F) (oe (elements_eq F) (oe hjo ?_)))
 refine ol (fun s:Int×List Int=>(0≤s.1∧s.1≤f.aA.aG.length)∧∃ ps,Jp n ps s.2∧∀ p,p∈ps↔Pd f s.1 0 p) (fun s=>(f.aA.aG.length - s.1).toNat) ⟨⟨by show (0:Int)≤0; omega,by show (0:Int)≤_; omega⟩,[],jp_nil n,fun p=>⟨fun h=>(nomatch h),?_⟩⟩ ?_
 ·rintro ⟨b,j,hb,hj,h,_⟩
  have h:b < 0∨b=0∧j < 0:=h
  omega
 rintro ⟨a,J⟩ ⟨⟨a0,a1⟩,ps,hJ,hps⟩
 dsimp only at a0 a1 hJ hps
 show Ok (fG f (mapI f.aM.length (ofs f)) a J) _
 unfold fG
 refine od (fun ha=>?_) fun ha=>?_
 ·have ha':a < f.aA.aG.length:=by omega
  have hf:=F.cat.fr a0 ha'
  have ht:=F.cat.to a0 ha'
  have hact:=F.act a a0 ha'
  have hsz:=F.s _ hf.1 hf.2
  have of1:=ofs_fit F hf.1 hf.2
  have of2:=ofs_fit F ht.1 ht.2
  refine oe (F.idxA a0 ha') ?_
  refine ol (fun s:Int×List Int=>(0≤s.1∧s.1≤gi f.aM (gi f.aA.aG a))∧∃ ps,Jp n ps s.2∧∀ p,p∈ps↔Pd f a s.1 p) (fun s=>(gi f.aM (gi f.aA.aG a) - s.1).toNat) ⟨⟨by show (0:Int)≤0; omega,by show (0:Int)≤_; omega⟩,ps,hJ,hps⟩ ?_
  rintro ⟨i,K⟩ ⟨⟨i0,i1⟩,qs,hK,hqs⟩
  dsimp only at i0 i1 hK hqs
  show Ok (fF f (mapI f.aM.length (ofs f)) a (gr f.aN a) i K) _
  unfold fF
  refine od (fun hi=>?_) fun hi=>?_
  ·have hi':i < gi f.aM (gi f.aA.aG a):=by omega
   have im:=F.img a0 ha' i0 hi'
   have new:Pd f a (i+1) (ofs f (gi f.aA.aG a)+i,ofs f (gi f.aA.To a)+gi (gr f.aN a) i):=⟨a,i,⟨a0,ha'⟩,⟨i0,hi'⟩,.inr ⟨rfl,by omega⟩,rfl⟩
   have rg:=new.rng F
   dsimp only at rg
   rw [hn] at rg
   refine oe (F.at_ a0 ha' i0 hi') (oe (F.cat.idxF a0 ha') (oe (bS hf.1 (by omega)) (oe (F.cat.idxT a0 ha') (oe (bS ht.1 (by omega)) ?_))))
   rw [gi_mapI hf.1 (by omega),gi_mapI ht.1 (by omega),dJ (by omega) (by omega),dJ (by omega) (by omega)]
   refine ob (join_jp (by omega) hK (fun p hp=>by have:=((hqs p).1 hp).rng F; rw [hn] at this; exact this) rg.1.1 rg.1.2 rg.2.1 rg.2.2) fun y hy=>os ⟨?_,by dsimp only; rw [w1 i0 hi' (by omega)]; omega⟩
   dsimp only
   rw [w1 i0 hi' (by omega)]
   refine ⟨⟨by omega,by omega⟩,_,hy,fun p=>?_⟩
   rw [List.mem_append,hqs,List.mem_singleton]
   constructor
   ·rintro (⟨b,j,hb,hj,h,e⟩ | rfl)
    ·exact ⟨b,j,hb,hj,h.imp (fun h=>h) fun h=>⟨h.1,by omega⟩,e⟩
    ·exact new
   ·rintro ⟨b,j,hb,hj,h,e⟩
    by_cases hc:b=a∧j=i
    ·obtain ⟨rfl,rfl⟩:=hc
     exact .inr e
    ·refine .inl ⟨b,j,hb,hj,h.imp (fun h=>h) fun h=>⟨h.1,?_⟩,e⟩
     have:j≠i:=fun hh=>hc ⟨h.1,hh⟩
     omega
  ·refine os ⟨rfl,os ⟨?_,by dsimp only; rw [w1 a0 ha' (by omega)]; omega⟩⟩
   dsimp only
   rw [w1 a0 ha' (by omega)]
   refine ⟨⟨by omega,by omega⟩,qs,hK,fun p=>?_⟩
   rw [hqs]
   constructor
   ·rintro ⟨b,j,hb,hj,h,e⟩
    exact ⟨b,j,hb,hj,.inl (by omega),e⟩
   ·rintro ⟨b,j,hb,hj,h,e⟩
    refine ⟨b,j,hb,hj,?_,e⟩
    by_cases hba:b=a
    ·rw [hba] at hj
     exact .inr ⟨hba,by omega⟩
    ·exact .inl (by omega)
 ·refine os ⟨rfl,?_⟩
  dsimp only
  have ea:a=f.aA.aG.length:=by omega
  rw [ea] at hps
  have hJl:=hJ.len
  refine ob (part_ok (by omega) hJ.jn) fun y hy=>?_
  obtain ⟨yl,k,hk,hd⟩:=hy
  refine ol (fun s:List (List Int)×Int=>(0≤s.2∧s.2≤f.aM.length)∧(s.1.length:Int)=s.2) (fun s=>(f.aM.length - s.2).toNat) ⟨⟨by show (0:Int)≤0; omega,by show (0:Int)≤_; omega⟩,rfl⟩ ?_
  rintro ⟨ls,x⟩ ⟨⟨x0,x1⟩,hls⟩
  dsimp only at x0 x1 hls
  show Ok (fH f (mapI f.aM.length (ofs f)) y ls x) _
  unfold fH
  refine od (fun hx=>?_) fun hx=>?_
  ·have hx':x < f.aA.aH:=by omega
   have of1:=ofs_fit F x0 hx'
   have hsz:=F.s x x0 hx'
   refine oe (F.idxS x0 hx') (oe (bS x0 (by omega)) (oe (bS x0 (by omega)) ?_))
   rw [gi_mapI x0 (by omega),dJ (by omega) (by omega)]
   refine oe (x:=(y.1.drop (ofs f x).toNat).take ((ofs f x+gi f.aM x).toNat - (ofs f x).toNat)) (by unfold cutL; rw [decT ⟨by omega,by omega,by omega⟩,cond_true]) ?_
   refine oe (implClone F.cat _ (by rw [List.length_take]; omega)) (oft (by omega) (by omega) (os ⟨⟨?_,?_⟩,?_⟩))
   ·dsimp only; rw [w1 x0 hx (by omega)]; omega
   ·dsimp only; rw [w1 x0 hx (by omega),List.length_append,List.length_singleton]; omega
   ·dsimp only; rw [w1 x0 hx (by omega)]; omega
  ·refine os ⟨rfl,oe hk (os ⟨J,k,ps,rfl,hJ,hps,?_⟩)⟩
   rw [← hJl]
   exact hd
theorem setComps (hs:SFSmall f) (fB:sfB f=true):Ok (eR f) fun y=>y.2.2=0∧∃ (J:List Int) (k:Nat) (ps:List (Int×Int)),y.2.1=(k:Int)∧Jp (offI f f.aM.length).toNat ps J∧(∀ p,p∈ps↔Pd f f.aA.aG.length 0 p)∧Dst (mapI (offI f f.aM.length).toNat (rt J)) k:=by
 unfold eR
 refine orr (oe (implIsF hs) ?_)
 rw [fB,Bool.not_true,cond_false]
 exact ob (comps_ok F) fun y hy=>os ⟨rfl,hy⟩
end
end Go.Proofs.YtacpfhajafmigaaGreat
namespace Go.Proofs.YtacpfhajafmigaaGreat
open Go Go.Li
def El (f:aF) (x i e:Int):Prop:=(0≤x∧x < f.aA.aH)∧(0≤i∧i < gi f.aM x)∧e=ofs f x+i
open Classical in
noncomputable def emb (f:aF) (h:Int→Int→Int) (e:Int):Int:=if H:∃ p:Int×Int,El f p.1 p.2 e then h H.choose.1 H.choose.2 else 0
section
variable {f:aF} (F:SF f)
include F
theorem el_uniq {x i y j e:Int} (h:El f x i e) (k:El f y j e):x=y∧i=j:=by
 obtain ⟨⟨x0,x1⟩,⟨i0,i1⟩,e1⟩:=h
 obtain ⟨⟨y0,y1⟩,⟨j0,j1⟩,e2⟩:=k
 rcases (by omega:x < y∨y < x∨x=y) with h | h | h
 ·have:=ofs_lt F x0 h y1; omega
 ·have:=ofs_lt F y0 h x1; omega
 ·subst h; exact ⟨rfl,by omega⟩
theorem emb_eq {h:Int→Int→Int} {x i e:Int} (k:El f x i e):emb f h e=h x i:=by
 unfold emb
 have H:∃ p:Int×Int,El f p.1 p.2 e:=⟨(x,i),k⟩
 rw [dif_pos H]
 obtain ⟨h1,h2⟩:=el_uniq F H.choose_spec k
 rw [h1,h2]
theorem el_dec {e:Int} (e0:0≤e):∀ k:Nat,(k:Int)≤f.aA.aH→e < offI f k→∃ x i,El f x i e:=by
 have _:=F
 intro k
 induction k with
 | zero=>intro _ h; unfold offI at h; omega
 | succ k ih=>
  intro hk h
  by_cases hlt:e < offI f k
  ·exact ih (by omega) hlt
  ·refine ⟨k,e - offI f k,⟨by omega,by omega⟩,⟨by omega,?_⟩,?_⟩
   ·unfold offI at h; omega
   ·unfold ofs; rw [show ((k:Int)).toNat=k from rfl]; omega
theorem el_of {e:Int} (e0:0≤e) (e1:e < (offI f f.aM.length).toNat):∃ x i,El f x i e:=el_dec F e0 f.aM.length (by have:=F.sl; omega) (by omega)
theorem el_rng {x i e:Int} (h:El f x i e):0≤e∧e < (offI f f.aM.length).toNat:=by
 obtain ⟨⟨x0,x1⟩,⟨i0,i1⟩,e1⟩:=h
 have:=ofs_fit F x0 x1
 omega
end
section
variable {f g:aF} (fB:sfB f=true) (gB:sfB g=true) (e:g.aA=f.aA) (hw:fitS f g)
include fB gB e hw
theorem comps_sum {JT JF JG:List Int} {kt kf kg:Nat} {pt pf pg:List (Int×Int)}
  (ht:Jp (offI (sumF f g) (sumF f g).aM.length).toNat pt JT) (hpt:∀ p,p∈pt↔Pd (sumF f g) (sumF f g).aA.aG.length 0 p) (hdt:Dst (mapI (offI (sumF f g) (sumF f g).aM.length).toNat (rt JT)) kt)
  (hf:Jp (offI f f.aM.length).toNat pf JF) (hpf:∀ p,p∈pf↔Pd f f.aA.aG.length 0 p) (hdf:Dst (mapI (offI f f.aM.length).toNat (rt JF)) kf)
  (hg:Jp (offI g g.aM.length).toNat pg JG) (hpg:∀ p,p∈pg↔Pd g g.aA.aG.length 0 p) (hdg:Dst (mapI (offI g g.aM.length).toNat (rt JG)) kg):kt=kf+kg:=by
 have F:=sf_of fB
 have G:=sf_of gB
 have T:=sf_of (sum_sf fB gB e hw)
 have hsz:∀ x:Int,0≤x→x < f.aA.aH→gi (sumF f g).aM x=gi f.aM x+gi g.aM x:=fun x x0 x1=>sumS_at fB gB e x0 x1
 have Gs:=G.s
 have Gi:=fun {a i:Int}=>@SFShape.img g G.toSFShape a i
 rw [e] at Gs
 simp only [e] at Gi
 have elL:∀ {x i:Int},0≤x→x < f.aA.aH→0≤i→i < gi f.aM x→El (sumF f g) x i (ofs (sumF f g) x+i):=fun {x i} x0 x1 i0 i1=>⟨⟨x0,x1⟩,⟨i0,by rw [hsz x x0 x1]; have:=Gs x x0 x1; omega⟩,rfl⟩
 have elR:∀ {x i:Int},0≤x→x < f.aA.aH→0≤i→i < gi g.aM x→El (sumF f g) x (gi f.aM x+i) (ofs (sumF f g) x+(gi f.aM x+i)):=fun {x i} x0 x1 i0 i1=>⟨⟨x0,x1⟩,⟨by have:=F.s x x0 x1; omega,by rw [hsz x x0 x1]; omega⟩,rfl⟩
 have cfd:∀ {x i:Int},0≤x→x < f.aA.aH→0≤i→i < gi f.aM x→emb f (fun x i=>rt JT (ofs (sumF f g) x+i)) (ofs f x+i)=rt JT (ofs (sumF f g) x+i):=fun {x i} x0 x1 i0 i1=>emb_eq F (h:=fun x i=>rt JT (ofs (sumF f g) x+i)) (x:=x) (i:=i) ⟨⟨x0,x1⟩,⟨i0,i1⟩,rfl⟩
 have cgd:∀ {x i:Int},0≤x→x < f.aA.aH→0≤i→i < gi g.aM x→emb g (fun x i=>rt JT (ofs (sumF f g) x+(gi f.aM x+i))) (ofs g x+i)=rt JT (ofs (sumF f g) x+(gi f.aM x+i)):=fun {x i} x0 x1 i0 i1=>emb_eq G (h:=fun x i=>rt JT (ofs (sumF f g) x+(gi f.aM x+i))) (x:=x) (i:=i) ⟨⟨x0,by rw [e]; exact x1⟩,⟨i0,i1⟩,rfl⟩
 generalize hcf:emb f (fun x i=>rt JT (ofs (sumF f g) x+i))=cf at cfd
 generalize hcg:emb g (fun x i=>rt JT (ofs (sumF f g) x+(gi f.aM x+i)))=cg at cgd
 have CL:∀ {x i:Int},0≤x→x < f.aA.aH→0≤i→i < gi f.aM x→emb (sumF f g) (fun x i=>if i < gi f.aM x then 2 * rt JF (ofs f x+i) else 2 * rt JG (ofs g x+(i - gi f.aM x))+1) (ofs (sumF f g) x+i)=2 * rt JF (ofs f x+i):=fun {x i} x0 x1 i0 i1=>by
  rw [emb_eq T (elL x0 x1 i0 i1),if_pos i1]
 have CR:∀ {x i:Int},0≤x→x < f.aA.aH→0≤i→i < gi g.aM x→emb (sumF f g) (fun x i=>if i < gi f.aM x then 2 * rt JF (ofs f x+i) else 2 * rt JG (ofs g x+(i - gi f.aM x))+1) (ofs (sumF f g) x+(gi f.aM x+i))=2 * rt JG (ofs g x+i)+1:=fun {x i} x0 x1 i0 i1=>by
  rw [emb_eq T (elR x0 x1 i0 i1),if_neg (by omega),show gi f.aM x+i - gi f.aM x=i by omega]
 generalize hC:emb (sumF f g) (fun x i=>if i < gi f.aM x then 2 * rt JF (ofs f x+i) else 2 * rt JG (ofs g x+(i - gi f.aM x))+1)=C at CL CR
 have kf':∀ x:Int,0≤x→x < (offI f f.aM.length).toNat→cf (rt JF x)=cf x:=hf.all cf fun p hp=>by
  obtain ⟨b,j,hb,hj,_,rfl⟩:=(hpf p).1 hp
  have fr:=F.cat.fr hb.1 hb.2
  have to:=F.cat.to hb.1 hb.2
  have im:=F.img hb.1 hb.2 hj.1 hj.2
  dsimp only
  rw [cfd fr.1 fr.2 hj.1 hj.2,cfd to.1 to.2 im.1 im.2]
  have hm:=ht.one (ofs (sumF f g) (gi f.aA.aG b)+j,ofs (sumF f g) (gi f.aA.To b)+gi (gr (sumA f g) b) j) ((hpt _).2 ⟨b,j,hb,⟨hj.1,(elL fr.1 fr.2 hj.1 hj.2).2.1.2⟩,.inl hb.2,rfl⟩)
  dsimp only at hm
  rw [sumA_L fB gB e hb.1 hb.2 hj.1 hj.2] at hm
  exact hm
 have kg':∀ x:Int,0≤x→x < (offI g g.aM.length).toNat→cg (rt JG x)=cg x:=hg.all cg fun p hp=>by
  obtain ⟨b,j,hb,hj,_,rfl⟩:=(hpg p).1 hp
  rw [e] at hb hj
  have fr:=F.cat.fr hb.1 hb.2
  have to:=F.cat.to hb.1 hb.2
  have im:=Gi hb.1 hb.2 hj.1 hj.2
  dsimp only
  rw [e,cgd fr.1 fr.2 hj.1 hj.2,cgd to.1 to.2 im.1 im.2]
  have hs0:=F.s _ fr.1 fr.2
  have hm:=ht.one (ofs (sumF f g) (gi f.aA.aG b)+(gi f.aM (gi f.aA.aG b)+j),ofs (sumF f g) (gi f.aA.To b)+gi (gr (sumA f g) b) (gi f.aM (gi f.aA.aG b)+j)) ((hpt _).2 ⟨b,gi f.aM (gi f.aA.aG b)+j,hb,⟨by omega,(elR fr.1 fr.2 hj.1 hj.2).2.1.2⟩,.inl hb.2,rfl⟩)
  dsimp only at hm
  rw [sumA_R fB gB e hb.1 hb.2 hj.1 hj.2] at hm
  exact hm
 have kC:∀ x:Int,0≤x→x < (offI (sumF f g) (sumF f g).aM.length).toNat→C (rt JT x)=C x:=ht.all C fun p hp=>by
  obtain ⟨b,j,hb,hj,_,rfl⟩:=(hpt p).1 hp
  have hb:0≤b∧b < f.aA.aG.length:=hb
  have fr:=F.cat.fr hb.1 hb.2
  have to:=F.cat.to hb.1 hb.2
  have hj:0≤j∧j < gi (sumF f g).aM (gi f.aA.aG b):=hj
  rw [hsz _ fr.1 fr.2] at hj
  show C (ofs (sumF f g) (gi f.aA.aG b)+j)=C (ofs (sumF f g) (gi f.aA.To b)+gi (gr (sumA f g) b) j)
  by_cases hi:j < gi f.aM (gi f.aA.aG b)
  ·have im:=F.img hb.1 hb.2 hj.1 hi
   rw [sumA_L fB gB e hb.1 hb.2 hj.1 hi,CL fr.1 fr.2 hj.1 hi,CL to.1 to.2 im.1 im.2]
   have:=hf.one _ ((hpf _).2 ⟨b,j,hb,⟨hj.1,hi⟩,.inl hb.2,rfl⟩)
   dsimp only at this
   rw [this]
  ·obtain ⟨i,rfl⟩ : ∃ i,j=gi f.aM (gi f.aA.aG b)+i:=⟨j - gi f.aM (gi f.aA.aG b),by omega⟩
   have i0:0≤i:=by omega
   have i1:i < gi g.aM (gi f.aA.aG b):=by omega
   have im:=Gi hb.1 hb.2 i0 i1
   rw [sumA_R fB gB e hb.1 hb.2 i0 i1,CR fr.1 fr.2 i0 i1,CR to.1 to.2 im.1 im.2]
   have:=hg.one (ofs g (gi f.aA.aG b)+i,ofs g (gi f.aA.To b)+gi (gr g.aN b) i) ((hpg _).2 ⟨b,i,by rw [e]; exact hb,by rw [e]; exact ⟨i0,i1⟩,.inl (by rw [e]; exact hb.2),by rw [e]⟩)
   dsimp only at this
   rw [this]
 have lenF:=hf.len
 have lenG:=hg.len
 have rootF:∀ z∈mapI (offI f f.aM.length).toNat (rt JF),(∃ x i,El f x i z)∧rt JF z=z:=fun z hz=>by
  obtain ⟨w,hw',rfl⟩:=mapI_mem.1 hz
  have h1:=rt_lt hf.jn hw'.1 (by omega)
  exact ⟨el_of F h1.1 (by omega),rt_idem hf.jn hw'.1 (by omega)⟩
 have rootG:∀ z∈mapI (offI g g.aM.length).toNat (rt JG),(∃ x i,El g x i z)∧rt JG z=z:=fun z hz=>by
  obtain ⟨w,hw',rfl⟩:=mapI_mem.1 hz
  have h1:=rt_lt hg.jn hw'.1 (by omega)
  exact ⟨el_of G h1.1 (by omega),rt_idem hg.jn hw'.1 (by omega)⟩
 have onF:∀ z∈mapI (offI f f.aM.length).toNat (rt JF),(∃ w:Int,(0≤w∧w < (offI (sumF f g) (sumF f g).aM.length).toNat)∧cf z=rt JT w)∧C (cf z)=2 * z:=fun z hz=>by
  obtain ⟨⟨x,i,⟨x0,x1⟩,⟨i0,i1⟩,rfl⟩,hr⟩:=rootF z hz
  have rg:=el_rng T (elL x0 x1 i0 i1)
  rw [cfd x0 x1 i0 i1]
  refine ⟨⟨_,rg,rfl⟩,?_⟩
  rw [kC _ rg.1 rg.2,CL x0 x1 i0 i1,hr]
 have onG:∀ z∈mapI (offI g g.aM.length).toNat (rt JG),(∃ w:Int,(0≤w∧w < (offI (sumF f g) (sumF f g).aM.length).toNat)∧cg z=rt JT w)∧C (cg z)=2 * z+1:=fun z hz=>by
  obtain ⟨⟨x,i,⟨x0,x1⟩,⟨i0,i1⟩,rfl⟩,hr⟩:=rootG z hz
  rw [e] at x1
  have rg:=el_rng T (elR x0 x1 i0 i1)
  rw [cgd x0 x1 i0 i1]
  refine ⟨⟨_,rg,rfl⟩,?_⟩
  rw [kC _ rg.1 rg.2,CR x0 x1 i0 i1,hr]
 refine Dst.side hdt hdf hdg cf cg (fun y=>?_) (fun z hz w hw' h=>?_) (fun z hz w hw' h=>?_) fun z hz w hw' h=>?_
 ·constructor
  ·intro hy
   obtain ⟨u,hu,rfl⟩:=mapI_mem.1 hy
   obtain ⟨x,i,⟨x0,x1⟩,⟨i0,i1⟩,rfl⟩:=el_of T hu.1 hu.2
   have x1:x < f.aA.aH:=x1
   rw [hsz x x0 x1] at i1
   by_cases hi:i < gi f.aM x
   ·have rg:=el_rng F (x:=x) (i:=i) (e:=ofs f x+i) ⟨⟨x0,x1⟩,⟨i0,hi⟩,rfl⟩
    exact .inl ⟨rt JF (ofs f x+i),mapI_mem.2 ⟨_,rg,rfl⟩,by rw [kf' _ rg.1 rg.2,cfd x0 x1 i0 hi]⟩
   ·obtain ⟨j,rfl⟩ : ∃ j,i=gi f.aM x+j:=⟨i - gi f.aM x,by omega⟩
    have rg:=el_rng G (x:=x) (i:=j) (e:=ofs g x+j) ⟨⟨x0,by rw [e]; exact x1⟩,⟨by omega,by omega⟩,rfl⟩
    exact .inr ⟨rt JG (ofs g x+j),mapI_mem.2 ⟨_,rg,rfl⟩,by rw [kg' _ rg.1 rg.2,cgd x0 x1 (by omega) (by omega)]⟩
  ·rintro (⟨z,hz,rfl⟩ | ⟨z,hz,rfl⟩)
   ·obtain ⟨⟨w,hw',h⟩,_⟩:=onF z hz
    exact mapI_mem.2 ⟨w,hw',h.symm⟩
   ·obtain ⟨⟨w,hw',h⟩,_⟩:=onG z hz
    exact mapI_mem.2 ⟨w,hw',h.symm⟩
 ·have h1:=(onF z hz).2
  have h2:=(onF w hw').2
  rw [h,h2] at h1
  omega
 ·have h1:=(onG z hz).2
  have h2:=(onG w hw').2
  rw [h,h2] at h1
  omega
 ·have h1:=(onF z hz).2
  have h2:=(onG w hw').2
  rw [h,h2] at h1
  omega
end
end Go.Proofs.YtacpfhajafmigaaGreat
