/- All cones of a diagram are listed, and none twice; maps between cones and their images. No condition beside those that each theorem names. -/
import Derived.Test.YtgjbmjjihmfppaaGreatUy
namespace Go.Proofs.YtgjbmjjihmfppaaGreat
open Go Go.Li
set_option linter.unusedVariables false
set_option linter.unusedSectionVars false
set_option linter.unusedSimpArgs false
theorem RI {f g:aI} (T:CK f g) {c:List Int} (hc:ye f g c):∀ (k:Nat) (p:List Int),c.length=p.length+k→(∀ i:Int,0≤i→i < p.length→gi c i=gi p i)→c∈iz (fun _=>true) f g k p:=by
 intro k
 induction k with
 | zero=>
  intro p hl hp
  have:c=p:=CL (by omega) fun i i0 i1=>hp i i0 i1
  rw [this]
  exact List.mem_singleton.2 rfl
 | succ k ih=>
  intro p hl hp
  unfold iz
  have hv:=hc.v (p.length:Int) (by omega) (by omega)
  have hx:∀ i:Int,0≤i→i < (p++[gi c p.length]).length→gi c i=gi (p++[gi c p.length]) i:=fun i i0 i1=>by
   rw [List.length_append,List.length_singleton] at i1
   rw [jf i0]
   by_cases e:i < p.length
   ·rw [if_pos e]; exact hp i i0 e
   ·obtain rfl:i=(p.length:Int):=by omega
    rw [if_neg e,if_pos rfl]
  refine List.mem_flatMap.2 ⟨gi c p.length,List.mem_filter.2 ⟨List.mem_filter.2 ⟨bw.2 hv.1,?_⟩,?_⟩,ih _ (by rw [List.length_append,List.length_singleton]; omega) hx⟩
  ·unfold o6
   rw [hv.2.1,hv.2.2,uc rfl,uc rfl]; rfl
  ·unfold xS wL
   rw [Bool.true_and,Bool.not_eq_true',ec]
   intro a a0 a1
   unfold wM
   by_cases e:wi f a=p.length
   ·rw [← CM T (cs:=c) (ds:=p++[gi c p.length]) a0 a1 fun i i0 i1=>hx i i0 (by rw [List.length_append,List.length_singleton]; omega),hc.s a a0 a1 (by omega)]
    simp
   ·rw [o3 e]; rfl
theorem RJ {f g:aI}:∀ (k:Nat) (p:List Int),(iz (fun _=>true) f g k p).Nodup:=by
 intro k
 induction k with
 | zero=>intro p; exact by unfold iz; simp
 | succ k ih=>
  intro p
  unfold iz
  refine List.pairwise_flatMap.2 ⟨fun b _=>ih _,?_⟩
  have hn:(((ns f.aD.aE.length).filter (o6 f.aD (gi f.aA p.length) (gi g.aA p.length))).filter (xS (fun _=>true) f g p)).Nodup:=by
   rw [List.filter_filter]; exact tF
  refine List.Pairwise.imp ?_ hn
  intro a b mw x hx y hy e
  subst e
  have h1:=(zK k _ _ hx).2.1 (p.length:Int) (by omega) (by rw [List.length_append,List.length_singleton]; omega)
  have h2:=(zK k _ _ hy).2.1 (p.length:Int) (by omega) (by rw [List.length_append,List.length_singleton]; omega)
  rw [jf (by omega),if_neg (by omega),if_pos rfl] at h1 h2
  exact mw (h1.symm.trans h2)
section
variable {d:aI} (hb:cw d=true)
include hb
theorem F9 {p:aZ} (P:ei d p):p∈ak d:=by
 have D:=dg hb
 have o0:=D.c.o0
 have hl:=P.l
 refine List.mem_flatMap.2 ⟨p.cn,bw.2 ⟨P.x0,by have:=P.x1; omega⟩,List.mem_map.2 ⟨p.bb,?_,rfl⟩⟩
 have T:=Dh hb P.x0 P.x1
 refine RI T ⟨fun i i0 i1=>?_,fun a a0 a1 _=>?_⟩ _ [] (by simp; omega) fun i i0 i1=>by simp at i1; omega
 ·have hv:=P.v i i0 (by omega)
  rw [show gi (gp d p.cn).aA i=p.cn from xq i0 (by omega)]
  exact hv
 ·have kt:=D.c.to a0 a1
  have hv:=P.v _ kt.1 kt.2
  rw [JF hb P.x0 P.x1 a0 a1 ⟨hv.1,hv.2.1⟩]
  exact uc (P.s a a0 a1)
theorem UE:(ak d).Nodup:=by
 unfold ak
 refine List.pairwise_flatMap.2 ⟨fun x _=>?_,?_⟩
 ·refine List.pairwise_map.2 (List.Pairwise.imp ?_ (RJ _ _:(vW d x).Nodup))
  intro a b mw e
  cases e
  exact mw rfl
 ·refine List.Pairwise.imp ?_ (show (ns d.aD.aA.toNat).Nodup by have:=tF (n:=d.aD.aA.toNat) (p:=fun _=>true); rwa [List.filter_eq_self.2 fun _ _=>rfl] at this)
  intro a b mw x hx y hy e
  obtain ⟨l,_,rfl⟩:=List.mem_map.1 hx
  obtain ⟨m,_,rfl⟩:=List.mem_map.1 hy
  cases e
  exact mw rfl
theorem Lj {p q:aZ}:(gw d p q).Nodup:=by
 unfold gw
 rw [List.filter_filter]; exact tF
theorem zL {p q r:aZ} (hr:(r.bb.length:Int)=d.aC.aA) (hq:(q.bb.length:Int)=d.aC.aA) (R:ei d r) {u v:Int} (hu:u∈gw d p q) (hv:v∈gw d q r):gk d.aD.aB u v∈gw d p r:=by
 have D:=dg hb
 obtain ⟨⟨u1,u2,u3⟩,u4⟩:=(l4 hb).1 hu
 obtain ⟨⟨v1,v2,v3⟩,v4⟩:=(l4 hb).1 hv
 have k:=D.d.cell u v u1.1 u1.2 v1.1 v1.2 (by rw [u3,v2])
 refine (l4 hb).2 ⟨⟨⟨k.1,k.2.1⟩,by rw [k.2.2.1,u2],by rw [k.2.2.2,v3]⟩,fun j j0 j1=>?_⟩
 have hl:=R.v j j0 (by omega)
 rw [D.d.assoc u v _ u1.1 u1.2 v1.1 v1.2 hl.1.1 hl.1.2 (by rw [u3,v2]) (by rw [v3,hl.2.1]),v4 j j0 j1,u4 j j0 (by omega)]
end
theorem Lk {l:List Int} (hn:l.Nodup):(l.length == 1)=true↔∃ u,u∈l∧∀ v∈l,v=u:=by
 rw [beq_iff_eq]
 constructor
 ·intro h
  match l,h with
  | [a],_=>exact ⟨a,by simp,fun v hv=>List.mem_singleton.1 hv⟩
 ·rintro ⟨u,hu,h⟩
  match l with
  | []=>cases hu
  | [a]=>rfl
  | a :: b :: m=>
   have h1:=h a (by simp)
   have h2:=h b (by simp)
   rw [List.nodup_cons] at hn
   exact absurd (by rw [h1,← h2]; simp) hn.1
theorem Di {d:aI} (hb:cw d=true) {l:List aZ} {p:aZ}:cf d l p=true↔∀ q∈l,∃ u,u∈gw d q p∧∀ v∈gw d q p,v=u:=by
 unfold cf
 rw [List.all_eq_true]
 exact ⟨fun h q hq=>(Lk (Lj hb)).1 (h q hq),fun h q hq=>(Lk (Lj hb)).2 (h q hq)⟩
theorem UF {d:aI} (hb:cw d=true) {l:List aZ} (hl:∀ q∈l,ei d q) {p q:aZ} (P:ei d p) (Q:ei d q) {u v:Int} (hu:u∈gw d p q) (hv:v∈gw d q p) (huv:gk d.aD.aB u v=gi d.aD.aH p.cn) (hvu:gk d.aD.aB v u=gi d.aD.aH q.cn) (h:cf d l p=true):cf d l q=true:=by
 have D:=dg hb
 rw [Di hb] at h ⊢
 intro r hr
 obtain ⟨w,hw,h1⟩:=h r hr
 obtain ⟨⟨u1,u2,u3⟩,_⟩:=(l4 hb).1 hu
 obtain ⟨⟨v1,v2,v3⟩,_⟩:=(l4 hb).1 hv
 refine ⟨_,zL hb Q.l P.l Q hw hu,fun z hz=>?_⟩
 have h2:=h1 _ (zL hb P.l Q.l P hz hv)
 obtain ⟨⟨z1,z2,z3⟩,_⟩:=(l4 hb).1 hz
 rw [← h2,D.d.assoc z v u z1.1 z1.2 v1.1 v1.2 u1.1 u1.2 (by rw [z3,v2]) (by rw [v3,u2]),hvu]
 have:=D.d.Hs z z1.1 z1.2
 rw [z3] at this
 exact this.symm
theorem UG {d:aI} (hb:cw d=true) {p q:aZ} (hp:p∈ak d) (hq:q∈ak d) (h:cf d (ak d) p=true) (k:cf d (ak d) q=true):∃ u v,u∈gw d p q∧v∈gw d q p∧gk d.aD.aB u v=gi d.aD.aH p.cn∧gk d.aD.aB v u=gi d.aD.aH q.cn:=by
 have P:=lj hb hp
 have Q:=lj hb hq
 have e1:=O8 hb P hp h
 have e2:=O8 hb Q hq k
 rw [Di hb] at h k
 obtain ⟨v,hv,_⟩:=h q hq
 obtain ⟨u,hu,_⟩:=k p hp
 have h1:=zL hb P.l Q.l P hu hv
 have h2:=zL hb Q.l P.l Q hv hu
 rw [e1] at h1
 rw [e2] at h2
 exact ⟨u,v,hu,hv,List.mem_singleton.1 h1,List.mem_singleton.1 h2⟩
section
variable {d f:aI} (hd:cw d=true) (hf:cw f=true) (e:d.aD=f.aC)
include hd hf e
theorem Eb {p q:aZ} (P:ei d p) (Q:ei d q) {u:Int} (hu:u∈gw d p q):gi f.ab u∈gw (aw d f) (dv f p) (dv f q):=by
 have F:=dg hf
 obtain ⟨⟨u1,u2,u3⟩,u4⟩:=(l4 hd).1 hu
 rw [e] at u1 u2 u3
 have k:=F.ar u1.1 u1.2
 have ql:=Q.l
 have pl:=P.l
 refine (l4 (n9 hd hf e)).2 ⟨⟨k,by show gi f.aD.aE _=gi f.aA p.cn; rw [F.fr _ u1.1 u1.2,u2],by show gi f.aD.To _=gi f.aA q.cn; rw [F.to _ u1.1 u1.2,u3]⟩,fun j j0 j1=>?_⟩
 replace j1:j < (thenS q.bb f.ab).length:=j1
 rw [o7] at j1
 have kq:=Q.v j j0 (by omega)
 rw [e] at kq
 show gk f.aD.aB (gi f.ab u) (gi (thenS q.bb f.ab) j)=gi (thenS p.bb f.ab) j
 rw [mi j0 j1,mi j0 (by omega),← F.co _ _ u1.1 u1.2 kq.1.1 kq.1.2 (by rw [u3,kq.2.1]),← e,u4 j j0 j1]
end
end Go.Proofs.YtgjbmjjihmfppaaGreat
namespace Go.Proofs.YtgjbmjjihmfppaaGreat
open Go Go.Li
set_option linter.unusedVariables false
set_option linter.unusedSectionVars false
set_option linter.unusedSimpArgs false
def sg (p q:aZ):Bool:=p.cn == q.cn && p.bb == q.bb
theorem AH {p q:aZ}:sg p q=true↔p=q:=by
 unfold sg
 rw [Bool.and_eq_true,beq_iff_eq,beq_iff_eq]
 obtain ⟨a,b⟩:=p
 obtain ⟨a',b'⟩:=q
 exact ⟨fun ⟨h1,h2⟩=>by dsimp only at h1 h2; rw [h1,h2],fun h=>by cases h; exact ⟨rfl,rfl⟩⟩
def mj (d f:aI) (q:aZ):List aZ:=(ak d).filter fun p=>sg (dv f p) q
def CN (d:aI) (l:List aZ):Bool:=match l with
 | [p]=>cf d (ak d) p
 | _=>false
def tv (d f:aI):Bool:=(ak (aw d f)).all fun q=>!cf (aw d f) (ak (aw d f)) q || CN d (mj d f q)
def Ec (d f:aI):Bool:=(ak d).all fun p=>!cf (aw d f) (ak (aw d f)) (dv f p) || cf d (ak d) p
section
variable {d f:aI} (hd:cw d=true) (hf:cw f=true) (e:d.aD=f.aC)
include hd hf e
theorem O9 (h:tv d f=true) {q:aZ} (hq:q∈ak (aw d f)) (hu:cf (aw d f) (ak (aw d f)) q=true):∃ p,mj d f q=[p]∧cf d (ak d) p=true:=by
 unfold tv at h
 have:=List.all_eq_true.1 h q hq
 rw [hu] at this
 simp only [Bool.not_true,Bool.false_or] at this
 generalize ho:mj d f q=l at this
 match l,this with
 | [p],this=>exact ⟨p,rfl,this⟩
theorem UH (h:tv d f=true):Ec d f=true:=by
 unfold Ec
 rw [List.all_eq_true]
 intro p hp
 cases hu:cf (aw d f) (ak (aw d f)) (dv f p) with
 | false=>rfl
 | true=>
  have hq:=F9 (n9 hd hf e) (sZ hd hf e (lj hd hp))
  obtain ⟨p0,h1,h2⟩:=O9 hd hf e h hq hu
  have hm:p∈mj d f (dv f p):=List.mem_filter.2 ⟨hp,AH.2 rfl⟩
  rw [h1] at hm
  rw [List.mem_singleton.1 hm,h2]; rfl
theorem RL (h:tv d f=true) {q:aZ} (hq:q∈ak (aw d f)) (hu:cf (aw d f) (ak (aw d f)) q=true):∃ p,(ak d).find? (cf d (ak d))=some p∧cf (aw d f) (ak (aw d f)) (dv f p)=true:=by
 have he:=n9 hd hf e
 have F:=dg hf
 obtain ⟨p0,h1,h2⟩:=O9 hd hf e h hq hu
 have hm:p0∈mj d f q:=by rw [h1]; simp
 obtain ⟨r9,hi⟩:=List.mem_filter.1 hm
 have hi:=AH.1 hi
 cases hF:(ak d).find? (cf d (ak d)) with
 | none=>
  have:=List.find?_eq_none.1 hF p0 r9
  exact absurd h2 this
 | some p=>
  have hp:=List.mem_of_find?_eq_some hF
  have Tt:=List.find?_some hF
  refine ⟨p,rfl,?_⟩
  obtain ⟨u,v,k1,k2,k3,k4⟩:=UG hd r9 hp h2 Tt
  have P:=lj hd hp
  have P0:=lj hd r9
  have Q:=sZ hd hf e P
  have Q0:=sZ hd hf e P0
  obtain ⟨⟨u1,u2,u3⟩,_⟩:=(l4 hd).1 k1
  obtain ⟨⟨v1,v2,v3⟩,_⟩:=(l4 hd).1 k2
  rw [← hi] at hu
  refine UF he (fun r hr=>lj he hr) Q0 Q (Eb hd hf e P0 P k1) (Eb hd hf e P P0 k2) ?_ ?_ hu
  ·rw [e] at u1 u2 u3 v1 v2 v3 k3
   show gk f.aD.aB (gi f.ab u) (gi f.ab v)=gi f.aD.aH (gi f.aA p0.cn)
   rw [← F.co u v u1.1 u1.2 v1.1 v1.2 (by rw [u3,v2]),k3,F.un _ P0.x0 (by rw [← e]; exact P0.x1)]
  ·rw [e] at u1 u2 u3 v1 v2 v3 k4
   show gk f.aD.aB (gi f.ab v) (gi f.ab u)=gi f.aD.aH (gi f.aA p.cn)
   rw [← F.co v u v1.1 v1.2 u1.1 u1.2 (by rw [v3,u2]),k4,F.un _ P.x0 (by rw [← e]; exact P.x1)]
structure Ga (f:aI):Prop where
 oi:∀ x y:Int,0≤x→x < f.aC.aA→0≤y→y < f.aC.aA→gi f.aA x=gi f.aA y→x=y
 os:∀ y:Int,0≤y→y < f.aD.aA→∃ x:Int,(0≤x∧x < f.aC.aA)∧gi f.aA x=y
 ai:∀ x y:Int,0≤x→x < f.aC.aE.length→0≤y→y < f.aC.aE.length→gi f.ab x=gi f.ab y→x=y
 az:∀ y:Int,0≤y→y < f.aD.aE.length→∃ x:Int,(0≤x∧x < f.aC.aE.length)∧gi f.ab x=y
theorem UI (I:Ga f) {p r:aZ} (P:ei d p) (R:ei d r) (h:dv f p=dv f r):p=r:=by
 have pl:=P.l
 have rl:=R.l
 unfold dv at h
 injection h with h1 h2
 have ha:=I.oi _ _ P.x0 (by rw [← e]; exact P.x1) R.x0 (by rw [← e]; exact R.x1) h1
 have hl:p.bb=r.bb:=CL (by omega) fun j j0 j1=>by
  have kp:=(P.v j j0 (by omega)).1
  have kr:=(R.v j j0 (by omega)).1
  rw [e] at kp kr
  have h3:gi (thenS p.bb f.ab) j=gi (thenS r.bb f.ab) j:=by rw [h2]
  rw [mi j0 (by omega),mi j0 j1] at h3
  exact I.ai _ _ kp.1 kp.2 kr.1 kr.2 h3
 obtain ⟨a,b⟩:=p
 obtain ⟨a',b'⟩:=r
 dsimp only at ha hl
 rw [ha,hl]
theorem BE (I:Ga f) {a x y:Int} (a0:0≤a) (a1:a < f.aC.aE.length) (x0:0≤x) (x1:x < f.aC.aA):(gi f.aD.aE (gi f.ab a)=gi f.aA x→gi f.aC.aE a=x)∧(gi f.aD.To (gi f.ab a)=gi f.aA x→gi f.aC.To a=x):=by
 have F:=dg hf
 have kf:=F.c.fr a0 a1
 have kt:=F.c.to a0 a1
 rw [F.fr _ a0 a1,F.to _ a0 a1]
 exact ⟨fun h=>I.oi _ _ kf.1 kf.2 x0 x1 h,fun h=>I.oi _ _ kt.1 kt.2 x0 x1 h⟩
theorem UJ (I:Ga f) {q:aZ} (Q:ei (aw d f) q):∃ p,ei d p∧dv f p=q:=by
 have D:=dg hd
 have F:=dg hf
 have ql:=Q.l
 replace ql:(q.bb.length:Int)=d.aC.aA:=ql
 obtain ⟨x,⟨x0,x1⟩,hx⟩:=I.os q.cn Q.x0 Q.x1
 have pick:∀ j:Int,∃ a:Int,0≤j→j < d.aC.aA→(0≤a∧a < f.aC.aE.length)∧gi f.ab a=gi q.bb j:=fun j=>by
  by_cases hj:0≤j∧j < d.aC.aA
  ·have k:=(Q.v j hj.1 hj.2).1
   obtain ⟨a,h1,h2⟩:=I.az _ k.1 k.2
   exact ⟨a,fun _ _=>⟨h1,h2⟩⟩
  ·exact ⟨0,fun a b=>absurd ⟨a,b⟩ hj⟩
 obtain ⟨g,hg⟩:=Classical.axiomOfChoice pick
 have Tu:∀ j:Int,0≤j→j < d.aC.aA→gi (dy q.bb.length g) j=g j:=fun j j0 j1=>UK j0 (by omega)
 have hv:∀ j:Int,0≤j→j < d.aC.aA→(0≤g j∧g j < f.aC.aE.length)∧gi f.aC.aE (g j)=x∧gi f.aC.To (g j)=gi d.aA j:=fun j j0 j1=>by
  obtain ⟨h1,h2⟩:=hg j j0 j1
  have k:=Q.v j j0 j1
  have kd:=D.ob (x:=j) j0 j1
  rw [e] at kd
  have k2:gi f.aD.aE (gi q.bb j)=q.cn:=k.2.1
  have k3:gi f.aD.To (gi q.bb j)=gi (thenS d.aA f.aA) j:=k.2.2
  have ol:=D.ol
  rw [mi j0 (by omega)] at k3
  exact ⟨h1,(BE hd hf e I (y:=0) h1.1 h1.2 x0 x1).1 (by rw [h2,k2,hx]),(BE hd hf e I (y:=0) h1.1 h1.2 kd.1 kd.2).2 (by rw [h2,k3])⟩
 refine ⟨aZ.mk x (dy q.bb.length g),⟨x0,by rw [e]; exact x1,by show ((dy q.bb.length g).length:Int)=_; rw [cP]; exact ql,fun j j0 j1=>?_,fun a a0 a1=>?_⟩,?_⟩
 ·show (0≤gi (dy q.bb.length g) j∧gi (dy q.bb.length g) j < d.aD.aE.length)∧gi d.aD.aE (gi (dy q.bb.length g) j)=x∧gi d.aD.To (gi (dy q.bb.length g) j)=gi d.aA j
  rw [Tu j j0 j1,e]
  exact hv j j0 j1
 ·have kf:=D.c.fr a0 a1
  have kt:=D.c.to a0 a1
  have kA:=D.ar a0 a1
  have al:=D.al
  show gk d.aD.aB (gi (dy q.bb.length g) (gi d.aC.aE a)) (gi d.ab a)=gi (dy q.bb.length g) (gi d.aC.To a)
  rw [Tu _ kf.1 kf.2,Tu _ kt.1 kt.2,e]
  rw [e] at kA
  have v1:=hv _ kf.1 kf.2
  have v2:=hv _ kt.1 kt.2
  have ha:gi f.aC.aE (gi d.ab a)=gi d.aA (gi d.aC.aE a):=by rw [← e]; exact D.fr a a0 a1
  have kc:=F.c.cell (g (gi d.aC.aE a)) (gi d.ab a) v1.1.1 v1.1.2 kA.1 kA.2 (by rw [v1.2.2,ha])
  refine I.ai _ _ kc.1 kc.2.1 v2.1.1 v2.1.2 ?_
  rw [F.co _ _ v1.1.1 v1.1.2 kA.1 kA.2 (by rw [v1.2.2,ha]),(hg _ kf.1 kf.2).2,(hg _ kt.1 kt.2).2]
  have hs:gk f.aD.aB (gi q.bb (gi d.aC.aE a)) (gi (thenS d.ab f.ab) a)=gi q.bb (gi d.aC.To a):=Q.s a a0 a1
  rw [mi a0 (by omega)] at hs
  exact hs
 ·have hL:thenS (dy q.bb.length g) f.ab=q.bb:=CL (by rw [o7,cP]) fun j j0 j1=>by
   rw [mi j0 (by rw [cP]; exact j1),Tu j j0 (by omega),(hg j j0 (by omega)).2]
  unfold dv
  rw [hx,hL]
theorem RM (I:Ga f) {p r:aZ} (P:ei d p) (R:ei d r) {w:Int} (hw:w∈gw (aw d f) (dv f r) (dv f p)):∃ u,u∈gw d r p∧gi f.ab u=w:=by
 have F:=dg hf
 have pl:=P.l
 have rl:=R.l
 obtain ⟨⟨w1,w2,w3⟩,w4⟩:=(l4 (n9 hd hf e)).1 hw
 obtain ⟨u,⟨u0,u1⟩,rfl⟩:=I.az w w1.1 w1.2
 have h1:=(BE hd hf e I (y:=0) u0 u1 R.x0 (by rw [← e]; exact R.x1)).1 w2
 have h2:=(BE hd hf e I (y:=0) u0 u1 P.x0 (by rw [← e]; exact P.x1)).2 w3
 refine ⟨u,(l4 hd).2 ⟨⟨⟨u0,by rw [e]; exact u1⟩,by rw [e]; exact h1,by rw [e]; exact h2⟩,fun j j0 j1=>?_⟩,rfl⟩
 have kp:=P.v j j0 (by omega)
 have kr:=(R.v j j0 (by omega)).1
 rw [e] at kp kr ⊢
 have kc:=F.c.cell u (gi p.bb j) u0 u1 kp.1.1 kp.1.2 (by rw [h2,kp.2.1])
 refine I.ai _ _ kc.1 kc.2.1 kr.1 kr.2 ?_
 rw [F.co _ _ u0 u1 kp.1.1 kp.1.2 (by rw [h2,kp.2.1])]
 have h3:gk f.aD.aB (gi f.ab u) (gi (thenS p.bb f.ab) j)=gi (thenS r.bb f.ab) j:=w4 j j0 (by show j < ((thenS p.bb f.ab).length:Int); rw [o7]; exact j1)
 rw [mi j0 j1,mi j0 (by omega)] at h3
 exact h3
theorem UL (I:Ga f):tv d f=true:=by
 have he:=n9 hd hf e
 unfold tv
 rw [List.all_eq_true]
 intro q hq
 cases hu:cf (aw d f) (ak (aw d f)) q with
 | false=>rfl
 | true=>
  obtain ⟨p,P,rfl⟩:=UJ hd hf e I (lj he hq)
  have hp:=F9 hd P
  have ho:mj d f (dv f p)=[p]:=by
   unfold mj
   have hn:((ak d).filter fun r=>sg (dv f r) (dv f p)).Nodup:=List.Pairwise.sublist List.filter_sublist (UE hd)
   have hm:p∈(ak d).filter fun r=>sg (dv f r) (dv f p):=List.mem_filter.2 ⟨hp,AH.2 rfl⟩
   have ha:∀ r∈(ak d).filter fun r=>sg (dv f r) (dv f p),r=p:=fun r hr=>UI hd hf e I (lj hd (List.mem_filter.1 hr).1) P (AH.1 (List.mem_filter.1 hr).2)
   match hF:(ak d).filter fun r=>sg (dv f r) (dv f p) with
   | []=>rw [hF] at hm; cases hm
   | [a]=>rw [hF] at ha; rw [ha a (by simp)]
   | a :: b :: m=>
    rw [hF] at ha hn
    have h1:=ha a (by simp)
    have h2:=ha b (by simp)
    rw [List.nodup_cons] at hn
    exact absurd (by rw [h1,← h2]; simp) hn.1
  rw [ho]
  show cf d (ak d) p=true
  rw [Di hd]
  rw [Di he] at hu
  intro r hr
  have R:=lj hd hr
  obtain ⟨w,hw,h1⟩:=hu _ (F9 he (sZ hd hf e R))
  obtain ⟨u,Ai,rfl⟩:=RM hd hf e I P R hw
  refine ⟨u,Ai,fun v hv=>?_⟩
  have h2:=h1 _ (Eb hd hf e R P hv)
  obtain ⟨⟨u1,_,_⟩,_⟩:=(l4 hd).1 Ai
  obtain ⟨⟨v1,_,_⟩,_⟩:=(l4 hd).1 hv
  rw [e] at u1 v1
  exact I.ai _ _ v1.1 v1.2 u1.1 u1.2 h2
end
end Go.Proofs.YtgjbmjjihmfppaaGreat
namespace Go.Proofs.YtgjbmjjihmfppaaGreat
open Go Go.Li
set_option linter.unusedVariables false
set_option linter.unusedSectionVars false
set_option linter.unusedSimpArgs false
def DI (p:aZ):List Int:=([p.cn].map (fun n=>IntKind.u8.wrap n)++[255])++(p.bb.map (fun n=>IntKind.u8.wrap n)++[255])
def uT (p:aZ):ByteArray:=strOfNums (DI p)
theorem Km {p:aZ} (hp:p.bb.length≤1000):kR p=some (uT p):=by
 unfold kR sH
 have hk:ao (S:=Unit) (ag (ae 0 (aj (fun s=>iQ [[p.cn],p.bb] s.1 s.2) (([]:(List Int)),(0:Int)))) (fun (fq,eh)=>(some (Out.ret ((strOfNums fq))))))=some (uT p):=by
  have e1:iQ [[p.cn],p.bb] [] 0=some (.norm ([p.cn].map (fun n=>IntKind.u8.wrap n)++[255],1)):=by
   unfold iQ
   rw [av (by show (0:Int) < 2; omega),cond_true,show idx [[p.cn],p.bb] (0:Int)=some [p.cn] from rfl,aF]
   refine (congrArg (fun z=>z) (?_:ag (ae 2 (aj (fun s=>lO [p.cn] s.1 s.2) (([]:List Int),(0:Int)))) _=_))
   refine (l6 [p.cn] (fun i=>(([p.cn].take i).map (fun n=>IntKind.u8.wrap n),(i:Int))) (e:=([p.cn].map (fun n=>IntKind.u8.wrap n),(1:Int))) rfl ?_ ?_).trans ?_
   ·intro i n hn
    obtain rfl:i=0:=by have:=bg hn; simp at this; exact this
    obtain rfl:p.cn=n:=by simpa using hn
    rfl
   ·rfl
   ·rfl
  have e2:iQ [[p.cn],p.bb] ([p.cn].map (fun n=>IntKind.u8.wrap n)++[255]) 1=some (.norm (DI p,2)):=by
   unfold iQ
   rw [av (by show (1:Int) < 2; omega),cond_true,show idx [[p.cn],p.bb] (1:Int)=some p.bb from rfl,aF]
   generalize ho:([p.cn].map (fun n=>IntKind.u8.wrap n)++[(255:Int)])=o
   have gy:o.length≤1048576:=by rw [← ho]; simp
   refine (l6 p.bb (fun i=>(o++(p.bb.take i).map (fun n=>IntKind.u8.wrap n),(i:Int))) (e:=(o++p.bb.map (fun n=>IntKind.u8.wrap n),(p.bb.length:Int))) (by simp) ?_ ?_).trans ?_
   ·intro i n hn
    have hi:=bg hn
    have ht:(o++(p.bb.take i).map (fun n=>IntKind.u8.wrap n)).length≤2097152:=by rw [List.length_append,List.length_map,List.length_take]; omega
    show lO p.bb (o++(p.bb.take i).map (fun n=>IntKind.u8.wrap n)) (i:Int)=_
    unfold lO
    rw [av (by omega),cond_true,bp,hn,aF,dH (by omega) (by omega),aF,bQ (by omega),List.take_add_one,hn,List.map_append,← List.append_assoc]; rfl
   ·show lO p.bb _ _=_
    unfold lO
    rw [bc (by omega),cond_false,List.take_length]
   ·have ht:(o++p.bb.map (fun n=>IntKind.u8.wrap n)).length≤2097152:=by rw [List.length_append,List.length_map]; omega
    show (fits 1 ((o++p.bb.map (fun n=>IntKind.u8.wrap n)).length+1)>>=_)=_
    rw [dH (by omega) (by omega),aF]
    unfold DI
    rw [ho,List.append_assoc]; rfl
  have e3:iQ [[p.cn],p.bb] (DI p) 2=some (.exit 0 (DI p,2)):=by
   unfold iQ
   rw [bc (by show ¬ (2:Int) < 2; omega),cond_false]
  refine (congrArg ao (l6 [[p.cn],p.bb] (fun i=>((match i with | 0=>[] | 1=>[p.cn].map (fun n=>IntKind.u8.wrap n)++[255] | _=>DI p),(i:Int))) (e:=(DI p,(2:Int))) rfl ?_ e3)).trans rfl
  intro i n hn
  have hi:=bg hn
  match i,hi with
  | 0,_=>exact e1
  | 1,_=>exact e2
 rw [hk,aF]; rfl
theorem Tv {n:Int} (h0:0≤n) (h1:n < 256):IntKind.u8.wrap n=n:=by
 unfold IntKind.wrap
 have:n % (2 ^ IntKind.u8.bits:Int)=n:=by
  show n % 256=n
  omega
 rw [this]
 rfl
theorem Z5 {m n:Int} (m0:0≤m) (m1:m < 256) (n0:0≤n) (n1:n < 256) (h:UInt8.ofNat m.toNat=UInt8.ofNat n.toNat):m=n:=by
 have h2:=congrArg UInt8.toNat h
 rw [UInt8.toNat_ofNat',UInt8.toNat_ofNat',Nat.mod_eq_of_lt (by omega),Nat.mod_eq_of_lt (by omega)] at h2
 omega
theorem bytes_inj:∀ {l k:List Int},(∀ y∈l,0≤y∧y < 256)→(∀ y∈k,0≤y∧y < 256)→l.map (fun n=>UInt8.ofNat n.toNat)=k.map (fun n=>UInt8.ofNat n.toNat)→l=k:=by
 intro l
 induction l with
 | nil=>intro k _ _ h; cases k with | nil=>rfl | cons b k=>simp at h
 | cons a l ih=>
  intro k h1 h2 h
  cases k with
  | nil=>simp at h
  | cons b k=>
   rw [List.map_cons,List.map_cons] at h
   injection h with h3 h4
   have ha:=h1 a (by simp)
   have hb:=h2 b (by simp)
   rw [Z5 ha.1 ha.2 hb.1 hb.2 h3,ih (fun y hy=>h1 y (by simp [hy])) (fun y hy=>h2 y (by simp [hy])) h4]
theorem RN {d:aI} (hb:cw d=true) {p q:aZ} (P:ei d p) (Q:ei d q) (h:uT p=uT q):p=q:=by
 have D:=dg hb
 have o8:=D.d.o8
 have m:=D.d.m
 have bd:∀ {r:aZ},ei d r→(0≤r.cn∧r.cn < 256)∧∀ y∈r.bb,0≤y∧y < 256:=fun {r} R=>by
  have l:=R.l
  have x0:=R.x0
  have x1:=R.x1
  refine ⟨by omega,fun y hy=>?_⟩
  obtain ⟨i,hi,rfl⟩:=List.mem_iff_getElem.1 hy
  replace hi:i < r.bb.length:=hi
  have:=(R.v (i:Int) (by omega) (by omega)).1
  unfold gi at this
  rw [List.getD_eq_getElem?_getD,Int.toNat_natCast,List.getElem?_eq_getElem hi] at this
  have h2:0≤r.bb[i]∧r.bb[i] < d.aD.aE.length:=this
  omega
 have Yh:∀ {r:aZ},ei d r→DI r=(r.cn :: 255 :: r.bb)++[255]:=fun {r} R=>by
  obtain ⟨⟨a0,a1⟩,b⟩:=bd R
  unfold DI
  have hm:r.bb.map (fun n=>IntKind.u8.wrap n)=r.bb:=by
   have:r.bb.map (fun n=>IntKind.u8.wrap n)=r.bb.map id:=List.map_congr_left fun y hy=>Tv (b y hy).1 (b y hy).2
   rw [this,List.map_id]
  rw [hm,List.map_cons,Tv a0 a1]; rfl
 have hl:∀ {r:aZ},ei d r→∀ y∈DI r,0≤y∧y < 256:=fun {r} R y hy=>by
  obtain ⟨a,b⟩:=bd R
  rw [Yh R] at hy
  rcases List.mem_append.1 hy with hy | hy
  ·rcases List.mem_cons.1 hy with rfl | hy
   ·exact a
   ·rcases List.mem_cons.1 hy with rfl | hy
    ·omega
    ·exact b y hy
  ·rw [List.mem_singleton.1 hy]; omega
 have h3:=congrArg (fun b:ByteArray=>b.data.toList) h
 simp only [uT,strOfNums_data] at h3
 have h4:=bytes_inj (hl P) (hl Q) h3
 rw [Yh P,Yh Q] at h4
 have h5:=List.append_cancel_right h4
 injection h5 with h6 h7
 injection h7 with _ h8
 obtain ⟨a,b⟩:=p
 obtain ⟨a',b'⟩:=q
 dsimp only at h6 h8
 rw [h6,h8]
theorem Z6 {υ:Type} {k a:ByteArray} {b:υ}:∀ {m:List (ByteArray×υ)},jw (qn m a b) k=bif a == k then some b else jw m k:=by
 intro m
 induction m with
 | nil=>rfl
 | cons p m ih=>
  unfold qn
  cases h:(p.1 == a) with
  | true=>
   have h':p.1=a:=(MapKept.bytes_beq _ _).1 h
   rw [cond_true]
   unfold jw
   dsimp only
   rw [h']
   cases (a == k) <;> rfl
  | false=>
   rw [cond_false]
   unfold jw
   rw [ih]
   cases h2:(p.1 == k) with
   | true=>
    have h3:(a == k)=false:=by
     cases h4:(a == k) with
     | false=>rfl
     | true=>
      rw [(MapKept.bytes_beq _ _).1 h2,(MapKept.bytes_beq _ _).1 h4,(MapKept.bytes_beq _ _).2 rfl] at h
      cases h
    rw [h3]; rfl
   | false=>rfl
def G4 (f:aI) (m:List (ByteArray×List aZ)) (p:aZ):List (ByteArray×List aZ):=qn m (uT (dv f p)) ((jw m (uT (dv f p))).getD []++[p])
theorem Pa (f:aI) (k:ByteArray):∀ (l:List aZ) (m:List (ByteArray×List aZ)),(jw (l.foldl (G4 f) m) k).getD []=(jw m k).getD []++l.filter fun p=>uT (dv f p) == k:=by
 intro l
 induction l with
 | nil=>intro m; simp
 | cons p l ih=>
  intro m
  rw [List.foldl_cons,ih]
  unfold G4
  rw [Z6,List.filter_cons]
  cases h:(uT (dv f p) == k) with
  | true=>
   have h':=(MapKept.bytes_beq _ _).1 h
   rw [cond_true,if_pos rfl,h']
   simp
  | false=>rw [cond_false,if_neg (by decide)]
section
variable {d f:aI} (hd:cw d=true) (hf:cw f=true) (e:d.aD=f.aC)
include hd hf e
theorem Ll (h2:(ak (aw d f)).length≤400) {c:List aZ} {p:aZ} (P:ei d p):fH (eB.mk d (aw d f) f c (ak (aw d f))) p=some (cf (aw d f) (ak (aw d f)) (dv f p)):=by
 have he:=n9 hd hf e
 unfold fH
 rw [Gb hd hf e P,aF,vl he (fun q hq=>lj he hq) (by omega) (sZ hd hf e P),aF]; rfl
theorem RP (h1:(ak d).length≤400) (h2:(ak (aw d f)).length≤400):gC (eB.mk d (aw d f) f (ak d) (ak (aw d f)))=some (Ec d f):=by
 have hC:∀ q∈ak d,ei d q:=fun q hq=>lj hd hq
 unfold gC
 have hr:Ec d f = !((ak d).any fun p=>cf (aw d f) (ak (aw d f)) (dv f p) && !cf d (ak d) p):=by
  unfold Ec
  rw [Bool.eq_iff_iff,Bool.not_eq_true',List.all_eq_true,List.any_eq_false]
  refine forall_congr' fun p=>forall_congr' fun _=>?_
  cases cf (aw d f) (ak (aw d f)) (dv f p) <;> cases cf d (ak d) p <;> decide
 rw [hr]
 refine (congrArg ao (jc (ak d) (fun p=>cf (aw d f) (ak (aw d f)) (dv f p) && !cf d (ak d) p) (fun i=>(i:Int)) (y:=false) (e:=((ak d).length:Int)) rfl ?_ ?_ ?_)).trans ?_
 ·intro i p hp hn
  have hi:=bg hp
  have P:=hC p (List.mem_of_getElem? hp)
  unfold gW
  dsimp only
  rw [av (by omega),cond_true,bp,hp,aF,Ll hd hf e h2 P,aF,bQ (by omega),vl hd hC (by omega) P]
  revert hn
  cases cf (aw d f) (ak (aw d f)) (dv f p) <;> cases cf d (ak d) p <;> intro hn <;> first | rfl | cases hn
 ·intro i p hp hn
  have hi:=bg hp
  have P:=hC p (List.mem_of_getElem? hp)
  unfold gW
  dsimp only
  rw [av (by omega),cond_true,bp,hp,aF,Ll hd hf e h2 P,aF,vl hd hC (by omega) P]
  revert hn
  cases cf (aw d f) (ak (aw d f)) (dv f p) <;> cases cf d (ak d) p <;> intro hn <;> first | rfl | cases hn
 ·unfold gW
  dsimp only
  rw [bc (by omega),cond_false]
 ·cases (ak d).any fun p=>cf (aw d f) (ak (aw d f)) (dv f p) && !cf d (ak d) p <;> rfl
theorem UM (h1:(ak d).length≤400) (h2:(ak (aw d f)).length≤400):hJ (eB.mk d (aw d f) f (ak d) (ak (aw d f)))=some (tv d f):=by
 have he:=n9 hd hf e
 have hC:∀ q∈ak d,ei d q:=fun q hq=>lj hd hq
 have hE:∀ q∈ak (aw d f),ei (aw d f) q:=fun q hq=>lj he hq
 have hk:∀ q,ei (aw d f) q→kR q=some (uT q):=fun q Q=>Km (by have:=Q.l; have:=(dg he).c.o8; omega)
 unfold hJ
 refine (congrArg ao (l6 (ak d) (fun i=>(((ak d).take i).foldl (G4 f) [],(i:Int))) (e:=((ak d).foldl (G4 f) [],((ak d).length:Int))) rfl ?_ ?_)).trans ?_
 ·intro i p hp
  have hi:=bg hp
  have P:=hC p (List.mem_of_getElem? hp)
  show fI (eB.mk d (aw d f) f (ak d) (ak (aw d f))) (((ak d).take i).foldl (G4 f) [],(i:Int))=_
  unfold fI
  dsimp only
  have hlen:((jw (((ak d).take i).foldl (G4 f) []) (uT (dv f p))).getD []).length≤400:=by
   rw [Pa]
   refine Nat.le_trans (by rw [show (jw ([]:List (ByteArray×List aZ)) (uT (dv f p))).getD []=[] from rfl,List.nil_append]; exact List.length_filter_le _ _) (by rw [List.length_take]; omega)
  rw [av (by omega),cond_true,bp,hp,aF,Gb hd hf e P,aF,hk _ (sZ hd hf e P),aF,dH (by omega) (by omega),aF,bQ (by omega),List.take_add_one,hp,List.foldl_append]
  rfl
 ·show fI (eB.mk d (aw d f) f (ak d) (ak (aw d f))) (((ak d).take (ak d).length).foldl (G4 f) [],((ak d).length:Int))=_
  unfold fI
  dsimp only
  rw [bc (by omega),cond_false,List.take_length]
 ·generalize hm:(ak d).foldl (G4 f) []=im
  have hg:∀ q,ei (aw d f) q→(jw im (uT q)).getD []=mj d f q:=fun q Q=>by
   rw [← hm,Pa]
   unfold mj
   show []++(ak d).filter (fun p=>uT (dv f p) == uT q)=_
   rw [List.nil_append]
   refine List.filter_congr fun p hp=>?_
   rw [Bool.eq_iff_iff,MapKept.bytes_beq,AH]
   exact ⟨fun h=>RN he (sZ hd hf e (hC p hp)) Q h,fun h=>by rw [h]⟩
  let G5:aZ→Bool:=fun q=>!cf (aw d f) (ak (aw d f)) q || CN d (mj d f q)
  dsimp only
  refine (congrArg ao (l6 (ak (aw d f)) (fun i=>(((ak (aw d f)).take i).all G5,(i:Int))) (e:=((ak (aw d f)).all G5,((ak (aw d f)).length:Int))) rfl ?_ ?_)).trans rfl
  ·intro i q hq
   have hi:=bg hq
   have Q:=hE q (List.mem_of_getElem? hq)
   show fJ (eB.mk d (aw d f) f (ak d) (ak (aw d f))) im (((ak (aw d f)).take i).all G5,(i:Int))=_
   unfold fJ
   dsimp only
   have e1:((ak (aw d f)).take (i+1)).all G5=(((ak (aw d f)).take i).all G5 && G5 q):=by
    rw [List.take_add_one,hq,List.all_append]; simp
   rw [av (by omega),cond_true,bp,hq,aF,vl he hE (by omega) Q,aF,bQ (by omega),e1,hk q Q,aF,hg q Q]
   generalize ((ak (aw d f)).take i).all G5=g
   show _=some (Out.norm (g && (!cf (aw d f) (ak (aw d f)) q || CN d (mj d f q)),_))
   cases cf (aw d f) (ak (aw d f)) q with
   | false=>cases g <;> rfl
   | true=>
    cases g with
    | false=>rfl
    | true=>
     have df:∀ p∈mj d f q,p∈ak d:=fun p hp=>(List.mem_filter.1 hp).1
     generalize mj d f q=l at df
     match l,df with
     | [],_=>rfl
     | [p],df=>
      have hp:=df p (by simp)
      show ((bif (1:Int) == 1 then ((idx [p] (0:Int))>>=fun Jb=>(eE d (ak d) Jb>>=fun Jg=>some Jg)) else some false)>>=fun OU=>some (Out.norm (OU,((i+1:Nat):Int))))=_
      rw [show idx [p] (0:Int)=some p from rfl,aF,vl hd hC (by omega) (hC p hp),aF]
      rfl
     | a :: b :: m,_=>
      show ((bif ((a :: b :: m).length:Int) == (1:Int) then ((idx (a :: b :: m) (0:Int))>>=fun Jb=>(eE d (ak d) Jb>>=fun Jg=>some Jg)) else some false)>>=fun OU=>some (Out.norm (OU,((i+1:Nat):Int))))=_
      rw [show (((a :: b :: m).length:Int) == (1:Int))=false by rw [beq_eq_false_iff_ne]; simp; omega]
      rfl
  ·show fJ (eB.mk d (aw d f) f (ak d) (ak (aw d f))) im (((ak (aw d f)).take (ak (aw d f)).length).all G5,((ak (aw d f)).length:Int))=_
   unfold fJ
   dsimp only
   rw [bc (by omega),cond_false,List.take_length]
end
end Go.Proofs.YtgjbmjjihmfppaaGreat
namespace Go.Proofs.YtgjbmjjihmfppaaGreat
open Go Go.Li
set_option linter.unusedVariables false
set_option linter.unusedSectionVars false
set_option linter.unusedSimpArgs false
def rh (b:Bool) (d f:aI):Bool×Int:=bif cw d && cw f then (bif tG d.aD f.aC then (bif decide ((ak d).length≤400) && decide ((ak (aw d f)).length≤400) then (b,0) else (false,3)) else (false,5)) else (false,1)
theorem G6 {d f:aI} (ds:fg d) (fs:fg f):∀ c∈[d,f],fg c:=fun c hc=>by
 rcases List.mem_cons.1 hc with rfl | hc
 ·exact ds
 ·rw [List.mem_singleton.1 hc]; exact fs
theorem Fi {te:eB→Option Bool} {b:Bool} {d f:aI} (ds:fg d) (fs:fg f) (ht:cw d=true→cw f=true→d.aD=f.aC→(ak d).length≤400→(ak (aw d f)).length≤400→te (eB.mk d (aw d f) f (ak d) (ak (aw d f)))=some b):lP te d f false=some (rh b d f):=by
 unfold lP kP rh
 rw [z7 [d,f] (by simp) (G6 ds fs),aF]
 have dw:[d,f].all cw=(cw d && cw f):=by simp
 rw [dw]
 cases hb:cw d && cw f with
 | false=>rfl
 | true=>
  rw [Bool.and_eq_true] at hb
  obtain ⟨hd,hf⟩:=hb
  simp only [Bool.not_true,cond_false,cond_true]
  rw [z6 ds.t,aF]
  cases hs:tG d.aD f.aC with
  | false=>rfl
  | true=>
   have e:=wK.1 hs
   have he:=n9 hd hf e
   simp only [Bool.not_true,cond_false,cond_true]
   unfold mI
   rw [CO (dg hd).toFHead (dg hf).toFHead e ds fs,aF,xr hd,aF,xr he,aF]
   by_cases h1:(ak d).length≤400
   ·rw [av h1]
    by_cases h2:(ak (aw d f)).length≤400
    ·rw [av h2]
     simp only [cond_true,Bool.and_self]
     show ao (S:=Unit) (te (eB.mk d (aw d f) f (ak d) (ak (aw d f)))>>=fun zG=>(some (Out.ret (zG,(0:Int)))))=_
     rw [ht hd hf e h1 h2,aF]; rfl
    ·rw [bc h2]; rfl
   ·rw [bc h1]; rfl
theorem JG {d f:aI} (ds:fg d) (fs:fg f):jK d f=some (rh (Ec d f) d f):=by
 unfold jK
 rw [Fi ds fs (b:=Ec d f) fun hd hf e h1 h2=>RP hd hf e h1 h2,aF]; rfl
theorem Kn {d f:aI} (ds:fg d) (fs:fg f):jN d f=some (rh (tv d f) d f):=by
 unfold jN
 rw [Fi ds fs (b:=tv d f) fun hd hf e h1 h2=>UM hd hf e h1 h2,aF]; rfl
def DJ (m:aZ→Bool) (l:List aZ):Nat→Int
 | 0=>0
 | i+1=>match l[i]? with
  | some p=>bif m p then (i:Int) else DJ m l i
  | none=>DJ m l i
theorem UN {m:aZ→Bool} {l:List aZ} {p:aZ}:∀ (i:Nat),i≤l.length→(l.take i).filter m=[p]→idx l (DJ m l i)=some p:=by
 intro i
 induction i with
 | zero=>intro _ h; simp at h
 | succ i ih=>
  intro hi h
  have hg:l[i]? = some l[i]:=List.getElem?_eq_getElem (by omega)
  rw [List.take_add_one,hg,List.filter_append] at h
  unfold DJ
  rw [hg]
  dsimp only
  cases hm:m l[i] with
  | true=>
   rw [cond_true]
   have e1:List.filter m (some l[i]).toList=[l[i]]:=by
    show List.filter m [l[i]]=_
    rw [List.filter_cons,hm,if_pos rfl]; rfl
   rw [e1] at h
   have h2:=congrArg List.length h
   rw [List.length_append] at h2
   have h3:(l.take i).filter m=[]:=List.eq_nil_of_length_eq_zero (by simp at h2 ⊢; omega)
   rw [h3,List.nil_append] at h
   injection h with h4
   rw [bp,hg,h4]
  | false=>
   rw [cond_false]
   have e1:List.filter m (some l[i]).toList=[]:=by
    show List.filter m [l[i]]=_
    rw [List.filter_cons,hm,if_neg (by decide)]; rfl
   rw [e1,List.append_nil] at h
   exact ih (by omega) h
section
variable {d f:aI} (hd:cw d=true) (hf:cw f=true) (e:d.aD=f.aC)
include hd hf e
theorem UO (h1:(ak d).length≤400) (h2:(ak (aw d f)).length≤400):eU d (aw d f) f=some (tv d f,0):=by
 have he:=n9 hd hf e
 have hC:∀ q∈ak d,ei d q:=fun q hq=>lj hd hq
 have hE:∀ q∈ak (aw d f),ei (aw d f) q:=fun q hq=>lj he hq
 unfold eU mM
 rw [wN hd,aF,wN he,aF,av h1,av h2]
 have hr:tv d f = !((ak (aw d f)).any fun q=>cf (aw d f) (ak (aw d f)) q && !CN d (mj d f q)):=by
  unfold tv
  rw [Bool.eq_iff_iff,Bool.not_eq_true',List.all_eq_true,List.any_eq_false]
  refine forall_congr' fun q=>forall_congr' fun _=>?_
  cases cf (aw d f) (ak (aw d f)) q <;> cases CN d (mj d f q) <;> decide
 have inner:∀ (q:aZ),ei (aw d f) q→∀ (i:Nat),(ak (aw d f))[i]? = some q→∀ {S R:Type} (k:Int×Int×Int→Option (Out S (Bool×Int))),
   ag (ae 2 (aj (fun s=>fK f (ak d,ak (aw d f),0) (i:Int) s.1 s.2.1 s.2.2) ((0:Int),(0:Int),(0:Int)))) k=k (((mj d f q).length:Int),DJ (fun p=>sg (dv f p) q) (ak d) (ak d).length,((ak d).length:Int)):=fun q Q i hq S R k=>by
  have Yi:mj d f q=(ak d).filter fun p=>sg (dv f p) q:=rfl
  rw [Yi]
  generalize hl:ak d=l at hC h1 ⊢
  refine l6 l (fun j=>((((l.take j).filter fun p=>sg (dv f p) q).length:Int),DJ (fun p=>sg (dv f p) q) l j,(j:Int))) rfl (fun j p hp=>?_) (e:=(((l.filter fun p=>sg (dv f p) q).length:Int),DJ (fun p=>sg (dv f p) q) l l.length,(l.length:Int))) ?_
  ·have hj:=bg hp
   have P:=hC p (List.mem_of_getElem? hp)
   have I:=sZ hd hf e P
   have il:(dv f p).bb.length≤1048576000:=by have:=I.l; have:=(dg he).c.o8; omega
   show fK f (l,ak (aw d f),0) (i:Int) (((l.take j).filter fun p=>sg (dv f p) q).length:Int) (DJ (fun p=>sg (dv f p) q) l j) (j:Int)=_
   unfold fK
   dsimp only
   have hle:((l.take j).filter fun p=>sg (dv f p) q).length≤400:=Nat.le_trans (List.length_filter_le _ _) (by rw [List.length_take]; omega)
   rw [av (by omega),cond_true,bp,hp,aF,UP hd hf e P,aF,bp,hq,aF,aF,BD _ _ il,aF,bQ (by omega),bQ (by omega)]
   have e1:(l.take (j+1)).filter (fun p=>sg (dv f p) q)=(l.take j).filter (fun p=>sg (dv f p) q)++(if sg (dv f p) q then [p] else []):=by
    rw [List.take_add_one,hp,List.filter_append]
    congr 1
    show List.filter _ [p]=_
    rw [List.filter_cons]
    cases sg (dv f p) q <;> rfl
   have e2:DJ (fun p=>sg (dv f p) q) l (j+1)=bif sg (dv f p) q then (j:Int) else DJ (fun p=>sg (dv f p) q) l j:=by
    show (match l[j]? with | some p=>_ | none=>_)=_
    rw [hp]
   rw [e1,e2]
   unfold sg
   cases ha:((dv f p).cn == q.cn) with
   | false=>simp
   | true=>
    cases hb:((dv f p).bb == q.bb) with
    | false=>simp
    | true=>simp
  ·show fK f (l,ak (aw d f),0) (i:Int) (((l.take l.length).filter fun p=>sg (dv f p) q).length:Int) _ (l.length:Int)=_
   unfold fK
   dsimp only
   rw [bc (by omega),cond_false,List.take_length]
 have round:∀ (i:Nat) (q:aZ),(ak (aw d f))[i]? = some q→iB d (aw d f) f (ak d,ak (aw d f),0) (i:Int)=bif cf (aw d f) (ak (aw d f)) q && !CN d (mj d f q) then some (.ret (false,0)) else some (.norm ((i+1:Nat):Int)):=fun i q hq=>by
  have hi:=bg hq
  have Q:=hE q (List.mem_of_getElem? hq)
  unfold iB
  dsimp only
  rw [av (by omega),cond_true,bp,hq,aF,Lm he hE (by omega) Q,aF,bQ (by omega)]
  cases cf (aw d f) (ak (aw d f)) q with
  | false=>rfl
  | true=>
   simp only [Bool.not_true,cond_false,Bool.true_and]
   rw [inner q Q i hq (R:=Unit)]
   dsimp only
   have qk:=fun p=>UN (m:=fun p=>sg (dv f p) q) (l:=ak d) (p:=p) (ak d).length (Nat.le_refl _)
   rw [List.take_length] at qk
   have Yi:mj d f q=(ak d).filter fun p=>sg (dv f p) q:=rfl
   rw [← Yi] at qk
   have df:∀ p∈mj d f q,p∈ak d:=fun p hp=>(List.mem_filter.1 hp).1
   generalize mj d f q=l at df qk
   match l,df,qk with
   | [],_,_=>rfl
   | [p],df,qk=>
    rw [show ((([p]:List aZ).length:Int) != (1:Int))=false from rfl,cond_false,qk p rfl,aF,Lm hd hC (by omega) (hC p (df p (by simp))),aF,aF]
    show _=bif !(cf d (ak d) p) then _ else _
    cases cf d (ak d) p <;> rfl
   | a :: b :: m,_,_=>
    rw [show (((a :: b :: m).length:Int) != (1:Int))=true by rw [bne_iff_ne]; simp; omega,cond_true,aF]
    rfl
 rw [hr]
 show ao (S:=Unit) (ag (ae 0 (aj (iB d (aw d f) f (ak d,ak (aw d f),0)) ((0:Int)))) (fun eh=>(some (Out.ret ((true,((0:Int))))))))=_
 refine (congrArg ao (jc (ak (aw d f)) (fun q=>cf (aw d f) (ak (aw d f)) q && !CN d (mj d f q)) (fun i=>(i:Int)) (y:=(false,0)) (e:=((ak (aw d f)).length:Int)) rfl ?_ ?_ ?_)).trans ?_
 ·intro i q hq hn
  rw [round i q hq,hn,cond_false]
 ·intro i q hq hn
  rw [round i q hq,hn,cond_true]
 ·unfold iB
  dsimp only
  rw [bc (by omega),cond_false]
 ·cases (ak (aw d f)).any fun q=>cf (aw d f) (ak (aw d f)) q && !CN d (mj d f q) <;> rfl
end
theorem Ko {d f:aI} (ds:fg d) (fs:fg f):jT d f=some (rh (tv d f) d f):=by
 unfold jT rA rh
 rw [CP ds,aF,CP fs,aF]
 cases hd:cw d with
 | false=>rfl
 | true=>
  cases hf:cw f with
  | false=>rfl
  | true=>
   simp only [Bool.not_true,cond_false,cond_true,aF,Bool.and_self]
   rw [Kl ds.t,aF]
   cases hs:tG d.aD f.aC with
   | false=>rfl
   | true=>
    have e:=wK.1 hs
    have he:=n9 hd hf e
    simp only [Bool.not_true,cond_false,cond_true]
    rw [Pb (dg hd).toFHead (dg hf).toFHead e ds fs,aF]
    show ao (S:=Unit) (eU d (aw d f) f>>=fun D8=>(some (Out.ret ((D8.1,D8.2)))))=_
    by_cases h1:(ak d).length≤400
    ·by_cases h2:(ak (aw d f)).length≤400
     ·rw [UO hd hf e h1 h2,av h1,av h2]; rfl
     ·have:eU d (aw d f) f=some (false,3):=by
       unfold eU mM
       rw [wN hd,aF,wN he,aF,av h1,bc h2]; rfl
      rw [this,bc h2,av h1]; rfl
    ·have:eU d (aw d f) f=some (false,3):=by
      unfold eU mM
      rw [wN hd,aF,wN he,aF,bc h1]; rfl
     rw [this,bc h1]; rfl
end Go.Proofs.YtgjbmjjihmfppaaGreat
namespace Go.Proofs.YtgjbmjjihmfppaaGreat
open Go Go.Li
set_option linter.unusedVariables false
set_option linter.unusedSectionVars false
set_option linter.unusedSimpArgs false
theorem TF {n k:Nat} (h:k < (ns n).length):(ns n)[k]=(k:Int):=(gu (List.getElem?_eq_getElem h)).1
def uD (n:Nat) (l:List Int):List Bool:=(ns n).map fun z=>decide (z∈l)
theorem Lx {n k:Nat} {l:List Int} (h:k < (uD n l).length):(uD n l)[k]=decide ((k:Int)∈l):=by
 simp only [uD,List.getElem_map,TF]
theorem R5 {n:Nat} {l:List Int} {y:Int} (h0:0≤y) (h1:y < n):(uD n l).set y.toNat true=uD n (l++[y]):=by
 unfold uD
 refine List.ext_getElem (by simp) fun k hk w7=>?_
 rw [List.getElem_set,List.getElem_map,List.getElem_map,TF]
 by_cases e:y.toNat=k
 ·rw [if_pos e]
  have:(k:Int)=y:=by omega
  rw [this]; simp
 ·rw [if_neg e]
  have:(k:Int)≠y:=by omega
  simp [this]
theorem Pu {n:Nat} {l:List Int} (hn:n≤1048576) (hl:l.length≤1048576) (h:∀ y∈l,0≤y∧y < n):qW (n:Int) l=some ((ns n).filter fun z=>decide (z∈l)):=by
 have Et:∀ m,(uD n m).length=n:=fun m=>by unfold uD; rw [List.length_map,dF]
 unfold qW
 rw [Fe (by omega) (by omega),aF]
 have h0:List.replicate n false=uD n []:=by
  refine List.ext_getElem (by rw [Et]; simp) fun k hk w7=>?_
  rw [Lx]; simp
 rw [h0]
 refine (congrArg ao (l6 l (fun i=>((i:Int),uD n (l.take i))) rfl (fun i y hy=>?_) (e:=((l.length:Int),uD n l)) ?_)).trans ?_
 ·have hi:=bg hy
  have hb:=h y (List.mem_of_getElem? hy)
  show lM l (i:Int) (uD n (l.take i))=_
  unfold lM
  rw [av (by omega),cond_true,bp,hy,aF,yU hb.1 (by rw [Et]; exact hb.2),aF,bQ (by omega),R5 hb.1 hb.2,List.take_add_one,hy]; rfl
 ·show lM l (l.length:Int) (uD n (l.take l.length))=_
  unfold lM
  rw [bc (by omega),cond_false,List.take_length]
 ·dsimp only
  rw [MZ _ (by rw [Et]; omega),aF]
  show some (F8 (uD n l))=_
  unfold F8
  rw [Et]
  congr 1
  refine List.filter_congr fun z hz=>?_
  obtain ⟨z0,z1⟩:=bw.1 hz
  have hk:z.toNat < (uD n l).length:=by rw [Et]; omega
  rw [List.getD_eq_getElem?_getD,List.getElem?_eq_getElem hk]
  show (uD n l)[z.toNat]=_
  rw [Lx]
  have:((z.toNat:Nat):Int)=z:=by omega
  rw [this]
theorem cover:∀ {K l:List Int},K.Nodup→(∀ y∈K,y∈l)→K.length≤l.length:=by
 intro K
 induction K with
 | nil=>intro l _ _; exact Nat.zero_le _
 | cons a K ih=>
  intro l hn h
  rw [List.nodup_cons] at hn
  have ha:=h a (by simp)
  have:=ih (l:=l.erase a) hn.2 fun y hy=>(List.mem_erase_of_ne (fun e=>hn.1 (by rw [← e]; exact hy))).2 (h y (by simp [hy]))
  rw [List.length_erase_of_mem ha] at this
  have hl:0 < l.length:=List.length_pos_of_mem ha
  rw [List.length_cons]; omega
theorem aab:∀ {l:List Int},¬ l.Nodup→∃ y,y∈l∧y∈l.erase y:=by
 intro l
 induction l with
 | nil=>intro h; exact absurd List.nodup_nil h
 | cons a l ih=>
  intro h
  by_cases ha:a∈l
  ·exact ⟨a,by simp,by rw [List.erase_cons_head]; exact ha⟩
  ·obtain ⟨y,h1,h2⟩:=ih fun hn=>h (List.nodup_cons.2 ⟨ha,hn⟩)
   have nk:a≠y:=fun e=>ha (by rw [e]; exact h1)
   exact ⟨y,by simp [h1],by rw [List.erase_cons_tail (by simpa using nk)]; simp [h2]⟩
theorem U0 {n:Nat} {l:List Int} (hl:l.length=n) (h:∀ y:Int,0≤y→y < n→y∈l):l.Nodup:=by
 by_cases hn:l.Nodup
 ·exact hn
 ·obtain ⟨y,h1,h2⟩:=aab hn
  have:=cover (K:=ns n) (l:=l.erase y) (by have:=tF (n:=n) (p:=fun _=>true); rwa [List.filter_eq_self.2 fun _ _=>rfl] at this) fun z hz=>by
   by_cases e:z=y
   ·rw [e]; exact h2
   ·exact (List.mem_erase_of_ne e).2 (h z (bw.1 hz).1 (bw.1 hz).2)
  rw [dF,List.length_erase_of_mem h1] at this
  have hp:=List.length_pos_of_mem h1
  omega
def uE (n:Nat) (l:List Int):Bool:=((ns n).filter fun z=>decide (z∈l)).length == n
theorem Ly {n:Nat} {l:List Int} (hn:n≤1048576) (hl:l.length=n) (h:∀ y∈l,0≤y∧y < n):eK l (n:Int)=some (uE n l):=by
 unfold eK
 have YJ:p7 (n:Int) l=true:=qt.2 h
 rw [uc (by omega),cond_true,within l (n:Int) (by omega) (by omega) (by omega),aF,YJ,cond_true,Pu hn (by omega) h,aF]
 unfold uE
 have:(((((ns n).filter fun z=>decide (z∈l)).length:Nat):Int) == (n:Int))=(((ns n).filter fun z=>decide (z∈l)).length == n):=by
  rw [Bool.eq_iff_iff,beq_iff_eq,beq_iff_eq]; omega
 rw [this]; rfl
theorem Pv {n:Nat} {l:List Int} (hl:l.length=n) (h:uE n l=true):(∀ x y:Int,0≤x→x < n→0≤y→y < n→gi l x=gi l y→x=y)∧∀ y:Int,0≤y→y < n→∃ x:Int,(0≤x∧x < n)∧gi l x=y:=by
 have dw:∀ y:Int,0≤y→y < n→y∈l:=fun y y0 y1=>by
  unfold uE at h
  rw [beq_iff_eq] at h
  have hf:((ns n).filter fun z=>decide (z∈l))=ns n:=List.Sublist.eq_of_length List.filter_sublist (by rw [h,dF])
  have hm:y∈(ns n).filter fun z=>decide (z∈l):=by rw [hf]; exact bw.2 ⟨y0,y1⟩
  simpa using (List.mem_filter.1 hm).2
 have de:=U0 hl dw
 have hg:∀ x:Int,(h0:0≤x)→(h1:x < n)→gi l x=l[x.toNat]'(by omega):=fun x x0 x1=>by
  unfold gi
  rw [List.getD_eq_getElem?_getD,List.getElem?_eq_getElem (by omega)]; rfl
 refine ⟨fun x y x0 x1 y0 y1 he=>?_,fun y y0 y1=>?_⟩
 ·rw [hg x x0 x1,hg y y0 y1] at he
  have:=(List.getElem_inj de).1 he
  omega
 ·obtain ⟨i,hi,he⟩:=List.mem_iff_getElem.1 (dw y y0 y1)
  replace hi:i < l.length:=hi
  refine ⟨(i:Int),⟨by omega,by omega⟩,?_⟩
  rw [hg (i:Int) (by omega) (by omega)]
  exact he
theorem U1 {f:aI} (fs:fg f) (hf:cw f=true):jU f=some ((bif (f.aA.length == f.aD.aA.toNat) then (bif uE f.aD.aA.toNat f.aA then (f.ab.length == f.aD.aE.length) && uE f.aD.aE.length f.ab else false) else false),0):=by
 have F:=dg hf
 have o0:=F.d.o0
 have o8:=F.d.o8
 have m:=F.d.m
 have N:f.aD.aA=((f.aD.aA.toNat:Nat):Int):=by omega
 unfold jU rP
 rw [zM fs,aF,hf]
 simp only [Bool.not_true,cond_false]
 have key:eP f=some (bif (f.aA.length == f.aD.aA.toNat) then (bif uE f.aD.aA.toNat f.aA then (f.ab.length == f.aD.aE.length) && uE f.aD.aE.length f.ab else false) else false):=by
  unfold eP
  have h1:eK f.aA f.aD.aA=some (bif (f.aA.length == f.aD.aA.toNat) then uE f.aD.aA.toNat f.aA else false):=by
   by_cases hl:f.aA.length=f.aD.aA.toNat
   ·rw [uc hl,cond_true]
    have:=Ly (n:=f.aD.aA.toNat) (by omega) hl fun y hy=>by have:=F.oo y hy; omega
    rwa [← N] at this
   ·rw [o3 hl,cond_false]
    unfold eK
    rw [o3 (by omega),cond_false]; rfl
  have h2:eK f.ab (f.aD.aE.length:Int)=some ((f.ab.length == f.aD.aE.length) && uE f.aD.aE.length f.ab):=by
   by_cases hl:f.ab.length=f.aD.aE.length
   ·rw [uc hl,Bool.true_and]
    exact Ly (by omega) hl F.aa
   ·rw [o3 hl,Bool.false_and]
    unfold eK
    rw [o3 (by omega),cond_false]; rfl
  rw [h1,aF]
  cases (f.aA.length == f.aD.aA.toNat) with
  | false=>rfl
  | true=>
   rw [cond_true,cond_true]
   cases uE f.aD.aA.toNat f.aA with
   | false=>rfl
   | true=>
    rw [cond_true,cond_true,show dS f.aD=some (f.aD.aE.length:Int) from rfl,aF,h2]
    rfl
 rw [key,aF]; rfl
theorem YK {f:aI} (hf:cw f=true) (h:(bif (f.aA.length == f.aD.aA.toNat) then (bif uE f.aD.aA.toNat f.aA then (f.ab.length == f.aD.aE.length) && uE f.aD.aE.length f.ab else false) else false)=true):Ga f:=by
 have F:=dg hf
 have o0:=F.d.o0
 have ol:=F.ol
 have al:=F.al
 cases h1:(f.aA.length == f.aD.aA.toNat) with
 | false=>rw [h1] at h; cases h
 | true=>
  rw [h1,cond_true] at h
  cases h2:uE f.aD.aA.toNat f.aA with
  | false=>rw [h2] at h; cases h
  | true=>
   rw [h2,cond_true,Bool.and_eq_true,beq_iff_eq] at h
   rw [beq_iff_eq] at h1
   obtain ⟨a1,a2⟩:=Pv h1 h2
   obtain ⟨b1,b2⟩:=Pv h.1 h.2
   refine ⟨fun x y x0 x1 y0 y1 he=>a1 x y x0 (by omega) y0 (by omega) he,fun y y0 y1=>?_,fun x y x0 x1 y0 y1 he=>b1 x y x0 (by omega) y0 (by omega) he,fun y y0 y1=>?_⟩
   ·obtain ⟨x,hx,he⟩:=a2 y y0 (by omega)
    exact ⟨x,⟨hx.1,by omega⟩,he⟩
   ·obtain ⟨x,hx,he⟩:=b2 y y0 y1
    exact ⟨x,⟨hx.1,by omega⟩,he⟩
theorem U2 {x:List Int} (B:AI x):Ok (gT x) fun y=>fg y.1∧fg y.2:=by
 unfold gT
 refine jy (ob (Yx B) fun y hy=>?_)
 obtain ⟨s,rfl,S⟩:=hy
 show Ok (mD (aK.mk x s.At s.au)>>=_) _
 exact ob (Yl B S.on') fun f hf=>os hf.1
theorem Kj {x0:List Int} (hl:x0.length≤maxLen∧∀ y∈x0,0≤y∧y < 256):iO x0=some true:=by
 unfold iO
 have FR:sG x0=some (decide ((x0.length:Int) > 4096)):=rfl
 rw [FR,aF]
 by_cases hb:(x0.length:Int) > 4096
 ·rw [av hb,cond_true]; rfl
 rw [bc hb,cond_false]
 obtain ⟨⟨d,f⟩,e,ds,fs⟩:=U2 (x:=x0) ⟨by omega,hl.2⟩
 dsimp only at ds fs
 rw [e,aF]
 dsimp only
 rw [Kn ds fs,aF,Ko ds fs,aF,zZ rfl,cond_false,show ((rh (tv d f) d f).1 == (rh (tv d f) d f).1)=true by simp]
 simp only [Bool.not_true,aF,cond_false]
 cases hd:cw d with
 | false=>unfold rh; rw [hd]; rfl
 | true=>
  cases hf:cw f with
  | false=>unfold rh; rw [hd,hf]; rfl
  | true=>
   cases hs:tG d.aD f.aC with
   | false=>unfold rh; rw [hd,hf,hs]; rfl
   | true=>
    have et:=wK.1 hs
    have he:=n9 hd hf et
    by_cases h1:(ak d).length≤400
    ·by_cases h2:(ak (aw d f)).length≤400
     ·have hT:∀ b,rh b d f=(b,0):=fun b=>by unfold rh; rw [hd,hf,hs,av h1,av h2]; rfl
      have ha:gR [d,f]=some true:=by
       rw [z7 [d,f] (by simp) (G6 ds fs)]
       simp [hd,hf]
      have ht:kC d f=some (aw d f,0):=by
       unfold kC
       rw [ha,aF]
       simp only [Bool.not_true,cond_false]
       rw [z6 ds.t,aF,hs]
       simp only [Bool.not_true,cond_false]
       rw [CO (dg hd).toFHead (dg hf).toFHead et ds fs,aF]; rfl
      have hk:Hv d f=(match (ak d).find? (cf d (ak d)) with | some p=>(cf (aw d f) (ak (aw d f)) (dv f p),0) | none=>(false,4)):=by
       unfold Hv M7; rw [hd,hf,hs,av h1,av h2]; rfl
      have Lz:JH (aw d f)=(match (ak (aw d f)).find? (cf (aw d f) (ak (aw d f))) with | some p=>(p,0) | none=>(zC,4)):=by
       unfold JH; rw [av h2]; rfl
      rw [hT,zZ rfl,cond_false,U1 fs hf,aF,JG ds fs,aF,hT,ht,aF]
      dsimp only
      rw [UQ (Pl (dg he)),aF,Pq ds fs,aF,he,cond_true]
      have hI:=YK (f:=f) hf
      generalize (bif (f.aA.length == f.aD.aA.toNat) then (bif uE f.aD.aA.toNat f.aA then (f.ab.length == f.aD.aE.length) && uE f.aD.aE.length f.ab else false) else false)=cg at hI
      have hw:(an (an ((0:Int)+0)+0) != 0)=false:=rfl
      rw [hw,cond_false]
      cases hc:tv d f with
      | false=>
       cases cg with
       | false=>rfl
       | true=>rw [UL hd hf et (hI rfl)] at hc; cases hc
      | true=>
       have hr:=UH hd hf et hc
       rw [hr]
       cases hF:(ak (aw d f)).find? (cf (aw d f) (ak (aw d f))) with
       | none=>
        rw [hF] at Lz
        dsimp only at Lz
        rw [Lz]
        cases cg <;> rfl
       | some q=>
        rw [hF] at Lz
        dsimp only at Lz
        obtain ⟨p,hp,hu⟩:=RL hd hf et hc (List.mem_of_find?_eq_some hF) (List.find?_some hF)
        rw [hp] at hk
        dsimp only at hk
        rw [Lz,hk,hu]
        cases cg <;> rfl
     ·have hT:rh (tv d f) d f=(false,3):=by unfold rh; rw [hd,hf,hs,av h1,bc h2]; rfl
      rw [hT]; rfl
    ·have hT:rh (tv d f) d f=(false,3):=by unfold rh; rw [hd,hf,hs,bc h1]; rfl
     rw [hT]; rfl
end Go.Proofs.YtgjbmjjihmfppaaGreat
