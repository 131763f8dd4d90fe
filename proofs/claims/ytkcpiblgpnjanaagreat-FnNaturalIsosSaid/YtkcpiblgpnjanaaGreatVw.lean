/- Lists of components of natural transformations, as the program looks for them: an enumeration in ascending order, handed on one by one. No condition beside those that each theorem names. -/
import Derived.Test.YtkcpiblgpnjanaaGreatYk
import Derived.Test.YtkcpiblgpnjanaaGreatPj
import Derived.Test.YtkcpiblgpnjanaaGreatVj
import Derived.Test.YtkcpiblgpnjanaaGreatYr
namespace Go.Proofs.YtkcpiblgpnjanaaGreat
open Go Go.Li
set_option linter.unusedVariables false
set_option linter.unusedSectionVars false
set_option linter.unusedSimpArgs false
def qy (c:aI) (x y a:Int):Bool:=gi c.aG a == x && gi c.To a == y
theorem WE {c:aI} (H:rN c) (x y:Int):jJ c x y=some ((ns c.aG.length).filter (qy c x y)):=by
 have hm:=H.m
 unfold jJ
 refine (congrArg ao (vV (ns c.aG.length) (qy c x y) (fun acc i=>(acc,(i:Int))) rfl ?_ ?_)).trans rfl
 ·intro i a acc ha Lf
  obtain ⟨rfl,hi⟩:=fh ha
  show gX c x y acc i=_
  unfold gX
  rw [aX (by omega),cond_true,H.iz (by omega) (by omega),aH,H.jc (by omega) (by omega),dZ (by omega) (by omega)]
  simp only [aH]
  rw [cA (by omega)]
  unfold qy
  cases h1:gi c.aG (i:Int) == x with
  | false=>rfl
  | true=>
   simp only [cond_true,aH,Bool.true_and]
   cases gi c.To (i:Int) == y <;> rfl
 ·intro acc
  show gX c x y acc _=_
  unfold gX
  rw [dQ,bn (by omega),cond_false]
theorem SR {S R:Type} {body:Int→Option (Out Int R)} {k j:Nat} {A B:Option (Out S R)} {n:Nat} (p:Int→Bool) (hkj:Nat.beq j k=false)
  (h:∀ i:Nat,i < n→body (i:Int)=bif p i then some (.exit j (i:Int)) else some (.norm ((i+1:Nat):Int))) (last:body (n:Int)=some (.exit k (n:Int))) :
  Hb k j (ai body (0:Int)) (fun _=>A) (fun _=>B)=bif (ns n).any p then B else A:=by
 have key:∀ m i:Nat,i+m=n→(ai body (i:Int)=some (.exit k (n:Int))∧∀ a:Nat,i≤a→a < n→p a=false)∨∃ a:Nat,ai body (i:Int)=some (.exit j (a:Int))∧a < n∧p a=true:=by
  intro m
  induction m with
  | zero=>
   intro i hi
   obtain rfl:i=n:=by omega
   exact .inl ⟨j8 last,fun a h1 h2=>by omega⟩
  | succ m ih=>
   intro i hi
   rw [mh,h i (by omega)]
   cases hp:p i with
   | true=>exact .inr ⟨i,rfl,by omega,hp⟩
   | false=>
    rcases ih (i+1) (by omega) with ⟨h1,h2⟩ | h1
    ·refine .inl ⟨h1,fun a a0 a1=>?_⟩
     rcases Nat.lt_or_ge i a with h3 | h3
     ·exact h2 a h3 a1
     ·obtain rfl:a=i:=by omega
      exact hp
    ·exact .inr h1
 rcases key n 0 (by omega) with ⟨h1,h2⟩ | ⟨a,h1,h2,h3⟩
 ·have:(ns n).any p=false:=ie.2 fun i i0 i1=>by have:=h2 i.toNat (by omega) (by omega); rwa [show ((i.toNat:Nat):Int)=i by omega] at this
  rw [this,show (0:Int)=((0:Nat):Int) from rfl,h1]
  unfold Hb
  dsimp only
  rw [Nat.beq_refl]; rfl
 ·have:(ns n).any p=true:=List.any_eq_true.2 ⟨a,da.2 ⟨by omega,by omega⟩,h3⟩
  rw [this,show (0:Int)=((0:Nat):Int) from rfl,h1]
  unfold Hb
  dsimp only
  rw [hkj,Nat.beq_refl]; rfl
structure C5 (f g:aL):Prop where
 F:H7 f
 G:H7 g
 fb:ig f=true
 gb:ig g=true
 es:g.aB=f.aB
 et:g.aE=f.aE
def BQ (f:aL) (cs:List Int):Prop:=(cs.length:Int)=f.aB.aC∧∀ y∈cs,0≤y∧y < f.aE.aG.length
def vX (f:aL) (a:Int):Int:=if gi f.aB.To a > gi f.aB.aG a then gi f.aB.To a else gi f.aB.aG a
def yB (f g:aL) (x:Int) (cs:List Int) (a:Int):Bool:=(vX f a == x) && !(sF f g cs a)
def vr (f g:aL) (x:Int) (cs:List Int):Bool:=!((ns f.aB.aG.length).any (yB f g x cs))
def wA (al:Int→Bool) (f g:aL) (p:List Int) (b:Int):Bool:=al b && vr f g p.length (p++[b])
def ef (al:Int→Bool) (f g:aL):Nat→List Int→List (List Int)
 | 0,p=>[p]
 | k+1,p=>(((ns f.aE.aG.length).filter (qy f.aE (gi f.aC p.length) (gi g.aC p.length))).filter (wA al f g p)).flatMap fun b=>ef al f g k (p++[b])
def sX {σ:Type} (fo:List Int→σ→Option (Bool×σ)):List (List Int)→σ→Option (Bool×σ)
 | [],st=>some (true,st)
 | c :: l,st=>fo c st>>=fun y=>bif !y.1 then some (false,y.2) else sX fo l y.2
theorem Qc {σ:Type} {fo:List Int→σ→Option (Bool×σ)} {l2:List (List Int)}:∀ (l1:List (List Int)) (st:σ),sX fo (l1++l2) st=sX fo l1 st>>=fun y=>bif !y.1 then some (false,y.2) else sX fo l2 y.2:=by
 intro l1
 induction l1 with
 | nil=>intro st; rfl
 | cons c l1 ih=>
  intro st
  show (fo c st>>=fun y=>bif !y.1 then some (false,y.2) else sX fo (l1++l2) y.2)=(fo c st>>=fun y=>bif !y.1 then some (false,y.2) else sX fo l1 y.2)>>=_
  cases fo c st with
  | none=>rfl
  | some y=>
   show (bif !y.1 then some (false,y.2) else sX fo (l1++l2) y.2)=(bif !y.1 then some (false,y.2) else sX fo l1 y.2)>>=_
   cases y.1 with
   | false=>rfl
   | true=>exact ih y.2
def C9 (p cs:List Int):Prop:=∀ i:Int,0≤i→i < p.length→gi cs i=gi p i
section
variable {f g:aL} (T:C5 f g)
include T
theorem C5.head {cs:List Int} (j:BQ f cs):THead ⟨f,g,cs⟩:=⟨T.F,T.G,T.fb,T.gb,T.es,T.et,j.1,j.2⟩
theorem FE {cs ds:List Int} {a:Int} (a0:0≤a) (a1:a < f.aB.aG.length) (h:∀ i:Int,0≤i→i≤vX f a→gi cs i=gi ds i):sF f g cs a=sF f g ds a:=by
 have kf:=T.F.c.fr a0 a1
 have kt:=T.F.c.to a0 a1
 have hm:gi f.aB.aG a≤vX f a∧gi f.aB.To a≤vX f a:=by unfold vX; split <;> omega
 unfold sF
 rw [h _ kf.1 hm.1,h _ kt.1 hm.2]
theorem Lh {cs ds:List Int} {x:Int} (h:∀ i:Int,0≤i→i≤x→gi cs i=gi ds i):vr f g x cs=vr f g x ds:=by
 have:∀ a∈ns f.aB.aG.length,yB f g x cs a=yB f g x ds a:=by
  intro a ha
  obtain ⟨a0,a1⟩:=da.1 ha
  unfold yB
  by_cases e:vX f a=x
  ·rw [FE T a0 a1 fun i i0 i1=>h i i0 (by omega)]
  ·rw [sT e]; rfl
 unfold vr
 congr 1
 rw [Bool.eq_iff_iff,List.any_eq_true,List.any_eq_true]
 exact ⟨fun ⟨a,h1,h2⟩=>⟨a,h1,by rw [← this a h1]; exact h2⟩,fun ⟨a,h1,h2⟩=>⟨a,h1,by rw [this a h1]; exact h2⟩⟩
theorem NN {R S:Type} {x:Int} {cs:List Int} (j:BQ f cs) {A B:Option (Out S R)}:Hb 2 1 (ai (fun s=>iV (ρ:=R) f g x cs s) (0:Int)) (fun _=>A) (fun _=>B)=bif vr f g x cs then A else B:=by
 have F:=T.F
 have cm:=F.c.m
 refine (SR (n:=f.aB.aG.length) (yB f g x cs) rfl (fun a ha=>?_) ?_).trans ?_
 ·unfold iV yB vX
  rw [aX (by omega),cond_true,F.c.iz (by omega) (by omega),aH,F.c.jc (by omega) (by omega),aH,cA (by omega)]
  have hc:=BR (T.head j) (a:=(a:Int)) (by omega) (by simpa using ha)
  dsimp only at hc
  rw [hc]
  generalize ((if gi f.aB.To (a:Int) > gi f.aB.aG (a:Int) then gi f.aB.To (a:Int) else gi f.aB.aG (a:Int)) == x)=c1
  cases c1 with
  | false=>rfl
  | true=>rfl
 ·unfold iV
  rw [bn (by omega),cond_false]
 ·unfold vr
  cases (ns f.aB.aG.length).any (yB f g x cs) <;> rfl
theorem BQ.put {cs:List Int} (j:BQ f cs) {x b:Int} (b0:0≤b) (b1:b < f.aE.aG.length):BQ f (cs.set x.toNat b):=by
 refine ⟨by rw [List.length_set]; exact j.1,fun y hy=>?_⟩
 rcases List.mem_or_eq_of_mem_set hy with h | rfl
 ·exact j.2 y h
 ·exact ⟨b0,b1⟩
section
variable {σ:Type} {al:Int→Option Bool} {rZ:Int→Bool} (yR:∀ b:Int,0≤b→b < f.aE.aG.length→al b=some (rZ b)) {fo:List Int→σ→Option (Bool×σ)}
include yR
theorem SS:∀ (k n:Nat) (p cs:List Int) (st:σ),BQ f cs→C9 p cs→((p.length+k:Nat):Int)=f.aB.aC→k < n→∀ y,sX fo (ef rZ f g k p) st=some y→
  ∃ gw,BQ f gw∧C9 p gw∧dT al fo f g n (p.length:Int) cs st=some (y.1,gw,y.2):=by
 have F:=T.F
 have G:=T.G
 have co:=F.c.o8
 intro k
 induction k with
 | zero=>
  intro n p cs st j hp hk hn y hy
  obtain ⟨n,rfl⟩ : ∃ i,n=i+1:=⟨n - 1,by omega⟩
  have e:cs=p:=HZ (by have:=j.1; omega) fun x x0 x1=>hp x x0 x1
  subst e
  refine ⟨cs,j,fun _ _ _=>rfl,?_⟩
  unfold dT gJ
  rw [vl (by omega),cond_true]
  have h1:(fo cs st>>=fun y=>bif !y.1 then some (false,y.2) else some (true,y.2))=some y:=hy
  cases hf:fo cs st with
  | none=>rw [hf] at h1; cases h1
  | some z=>
   rw [hf] at h1
   obtain ⟨b,z⟩:=z
   cases b <;> (cases h1; rfl)
 | succ k ih=>
  intro n p cs st j hp hk hn y hy
  obtain ⟨n,rfl⟩ : ∃ i,n=i+1:=⟨n - 1,by omega⟩
  have x1:(p.length:Int) < f.aB.aC:=by omega
  have CB:idx g.aC (p.length:Int)=some (gi g.aC p.length):=G.wg (by omega) (by rw [T.es]; exact x1)
  unfold dT gJ
  rw [sT (by omega),cond_false,F.wg (by omega) x1,aH,CB,aH,WE F.d,aH]
  generalize hl:(ns f.aE.aG.length).filter (qy f.aE (gi f.aC p.length) (gi g.aC p.length))=l
  have GS:∀ b∈l,0≤b∧b < f.aE.aG.length:=by intro b hb; rw [← hl] at hb; exact da.1 (List.mem_filter.1 hb).1
  have Ea:l.length≤f.aE.aG.length:=by rw [← hl]; exact Nat.le_trans (List.length_filter_le _ _) (by rw [dQ]; exact Nat.le_refl _)
  have dm:=F.d.m
  have sM:sX fo ((l.filter (wA rZ f g p)).flatMap fun b=>ef rZ f g k (p++[b])) st=some y:=by rw [← hl]; exact hy
  have key:∀ (m:List Int) (i:Nat) (cs:List Int) (st:σ),l.drop i=m→i≤l.length→BQ f cs→C9 p cs→∀ y,sX fo ((m.filter (wA rZ f g p)).flatMap fun b=>ef rZ f g k (p++[b])) st=some y→
    ∃ gw,BQ f gw∧C9 p gw∧ai (fun s=>gF al (dT al fo f g n) f g p.length l s) ((i:Int),cs,st)=some (bif y.1 then .exit 0 ((l.length:Int),gw,y.2) else .ret (false,gw,y.2)):=by
   intro m
   induction m with
   | nil=>
    intro i cs st hd hi j hp y hy
    obtain rfl:i=l.length:=by have:=congrArg List.length hd; simp at this; omega
    cases hy
    refine ⟨cs,j,hp,j8 ?_⟩
    unfold gF
    rw [bn (by omega),cond_false]
   | cons b m NO=>
    intro i cs st hd hi j hp y hy
    have bc:i < l.length:=by
     rcases Nat.lt_or_ge i l.length with h | h
     ·exact h
     ·rw [List.drop_eq_nil_of_le h] at hd; cases hd
    have hx:l[i]? = some b:=by
     rw [List.drop_eq_getElem_cons bc] at hd
     rw [List.getElem?_eq_getElem bc]; exact congrArg some (List.cons.inj hd).1
    have gp:l.drop (i+1)=m:=by rw [List.drop_eq_getElem_cons bc] at hd; exact (List.cons.inj hd).2
    have hb:=GS b (List.mem_of_getElem? hx)
    have jl:=j.1
    have j1:=BQ.put T j (x:=(p.length:Int)) hb.1 hb.2
    have r3:∀ q:Int,0≤q→gi (cs.set (p.length:Int).toNat b) q=if q=(p.length:Int) then b else gi cs q:=fun q q0=>pw (by omega) (by omega) q0
    have qv:C9 p (cs.set (p.length:Int).toNat b):=fun q q0 q1=>by rw [r3 q q0,if_neg (by omega)]; exact hp q q0 q1
    have Zb:C9 (p++[b]) (cs.set (p.length:Int).toNat b):=fun q q0 q1=>by
     rw [List.length_append,List.length_singleton] at q1
     rw [r3 q q0,jy q0]
     by_cases e:q=(p.length:Int)
     ·rw [if_pos e,if_neg (by omega),if_pos e]
     ·rw [if_neg e,if_pos (by omega)]; exact hp q q0 (by omega)
    have Hh:vr f g p.length (cs.set (p.length:Int).toNat b)=vr f g p.length (p++[b]):=Lh T fun q q0 q1=>Zb q q0 (by rw [List.length_append,List.length_singleton]; omega)
    have nx:gF al (dT al fo f g n) f g p.length l ((i:Int),cs,st)=(bif !(rZ b) then (some (Out.norm (((i+1:Nat):Int),cs,st))) else
      (bif vr f g p.length (p++[b]) then ((dT al fo f g n (((p++[b]).length:Nat):Int) (cs.set (p.length:Int).toNat b) st)>>=fun BA=>(bif !(BA.1) then (some (Out.ret (false,BA.2.1,BA.2.2))) else (some (Out.norm (((i+1:Nat):Int),BA.2.1,BA.2.2)))))
       else (some (Out.norm (((i+1:Nat):Int),cs.set (p.length:Int).toNat b,st))))):=by
     unfold gF
     dsimp only
     rw [aX (by omega),cond_true,ca,hx,aH,yR b hb.1 hb.2,aH,cT (l:=cs) (by omega) (by omega),aH,NN T j1,Hh,cA (by omega),cA (by omega),List.length_append,List.length_singleton]
    rw [mh,nx]
    cases ha:rZ b with
    | false=>
     have hq:wA rZ f g p b=false:=by unfold wA; rw [ha]; rfl
     rw [List.filter_cons_of_neg (by rw [hq]; decide)] at hy
     exact NO (i+1) cs st gp (by omega) j hp y hy
    | true=>
     cases hf:vr f g p.length (p++[b]) with
     | false=>
      have hq:wA rZ f g p b=false:=by unfold wA; rw [hf,Bool.and_false]
      rw [List.filter_cons_of_neg (by rw [hq]; decide)] at hy
      exact NO (i+1) _ st gp (by omega) j1 qv y hy
     | true=>
      have hq:wA rZ f g p b=true:=by unfold wA; rw [ha,hf]; rfl
      rw [List.filter_cons_of_pos (by rw [hq]),List.flatMap_cons,Qc] at hy
      cases hr:sX fo (ef rZ f g k (p++[b])) st with
      | none=>rw [hr] at hy; cases hy
      | some z=>
       rw [hr,aH] at hy
       obtain ⟨xX,j2,mx,e2⟩:=ih n (p++[b]) _ st j1 Zb (by rw [List.length_append,List.length_singleton]; omega) (by omega) z hr
       have Zd:C9 p xX:=fun q q0 q1=>by rw [mx q q0 (by rw [List.length_append,List.length_singleton]; omega),jy q0,if_pos q1]
       simp only [Bool.not_true,cond_false,cond_true]
       rw [e2,aH]
       cases hz:z.1 with
       | false=>
        rw [hz] at hy
        cases hy
        exact ⟨xX,j2,Zd,rfl⟩
       | true=>
        rw [hz] at hy
        exact NO (i+1) xX z.2 gp (by omega) j2 Zd y hy
  obtain ⟨gw,j',uY,e⟩:=key l 0 cs st rfl (by omega) j hp y sM
  refine ⟨gw,j',uY,?_⟩
  rw [show ((0:Int),cs,st)=(((0:Nat):Int),cs,st) from rfl,e]
  obtain ⟨b,z⟩:=y
  cases b <;> rfl
theorem ND (hn:f.aB.aC≤63) {st:σ} {y:Bool×σ} (hy:sX fo (ef rZ f g f.aB.aC.toNat []) st=some y):iA al fo f g st=some y:=by
 have F:=T.F
 have co:=F.c.o8
 have c0:=F.c.o0
 have hN:f.aB.aC=((f.aB.aC.toNat:Nat):Int):=by omega
 have j0:BQ f (List.replicate f.aB.aC.toNat (0:Int)):=by
  refine ⟨by rw [List.length_replicate]; omega,fun y hy=>?_⟩
  obtain ⟨h1,rfl⟩:=List.mem_replicate.1 hy
  have k:=F.ob (x:=0) (by omega) (by omega)
  have k2:=F.d.i _ (er (l:=f.aE.aJ) (j:=gi f.aC 0) k.1 (by have:=F.d.il; omega))
  omega
 obtain ⟨gw,_,_,e⟩:=SS T yR f.aB.aC.toNat 64 [] _ st j0 (fun i i0 i1=>by simp at i1; omega) (by simp; omega) (by omega) y hy
 unfold iA
 rw [hN,Cc (by omega) (by omega),aH]
 have e':dT al fo f g 64 (0:Int) (List.replicate f.aB.aC.toNat 0) st=some (y.1,gw,y.2):=e
 rw [e',aH]
 rfl
end
structure yj (f g:aL) (p:List Int):Prop where
 v:∀ i:Int,0≤i→i < p.length→(0≤gi p i∧gi p i < f.aE.aG.length)∧gi f.aE.aG (gi p i)=gi f.aC i∧gi f.aE.To (gi p i)=gi g.aC i
 s:∀ a:Int,0≤a→a < f.aB.aG.length→vX f a < p.length→sF f g p a=true
theorem Aj {rZ:Int→Bool}:∀ (k:Nat) (p c:List Int),yj f g p→c∈ef rZ f g k p→yj f g c∧c.length=p.length+k:=by
 intro k
 induction k with
 | zero=>
  intro p c hp hc
  obtain rfl:c=p:=by simpa [ef] using hc
  exact ⟨hp,rfl⟩
 | succ k ih=>
  intro p c hp hc
  unfold ef at hc
  obtain ⟨b,hb,hc⟩:=List.mem_flatMap.1 hc
  obtain ⟨Bo,uC⟩:=List.mem_filter.1 hb
  obtain ⟨hb3,RG⟩:=List.mem_filter.1 Bo
  have hv:=da.1 hb3
  unfold wA at uC
  unfold qy at RG
  simp only [Bool.and_eq_true,beq_iff_eq] at uC RG
  have hg:yj f g (p++[b]):=by
   refine ⟨fun i i0 i1=>?_,fun a a0 a1 hm=>?_⟩
   ·rw [List.length_append,List.length_singleton] at i1
    rw [jy i0]
    by_cases e:i < p.length
    ·rw [if_pos e]; exact hp.v i i0 e
    ·obtain rfl:i=(p.length:Int):=by omega
     rw [if_neg e,if_pos rfl]; exact ⟨hv,RG.1,RG.2⟩
   ·rw [List.length_append,List.length_singleton] at hm
    by_cases e:vX f a=p.length
    ·have h1:=uC.2
     unfold vr at h1
     rw [Bool.not_eq_true',ie] at h1
     have:=h1 a a0 a1
     unfold yB at this
     rw [vl e] at this
     simpa using this
    ·rw [FE T (ds:=p) a0 a1 fun i i0 i1=>by rw [jy i0,if_pos (by omega)]]
     exact hp.s a a0 a1 (by omega)
  obtain ⟨h1,h2⟩:=ih (p++[b]) c hg hc
  rw [List.length_append,List.length_singleton] at h2
  exact ⟨h1,by omega⟩
theorem FG:yj f g []:=by
 refine ⟨fun i i0 i1=>by simp at i1; omega,fun a a0 a1 hm=>?_⟩
 have k:=T.F.c.fr a0 a1
 unfold vX at hm
 simp at hm
 split at hm <;> omega
theorem FH {c:List Int} (h:yj f g c) (hl:(c.length:Int)=f.aB.aC):kn ⟨f,g,c⟩ = true:=by
 refine NJ T.fb T.gb T.es T.et hl (fun y hy=>?_) (fun x x0 x1=>(h.v x x0 (by dsimp only at x1; omega)).2.1) (fun x x0 x1=>(h.v x x0 (by dsimp only at x1; omega)).2.2) fun a a0 a1=>?_
 ·obtain ⟨i,hi,rfl⟩:=List.mem_iff_getElem.1 hy
  replace hi:i < c.length:=hi
  have:=(h.v (i:Int) (by omega) (by omega)).1
  unfold gi at this
  rw [List.getD_eq_getElem?_getD,Int.toNat_natCast,List.getElem?_eq_getElem hi] at this
  exact this
 ·have kf:=T.F.c.fr a0 a1
  have kt:=T.F.c.to a0 a1
  have:=h.s a a0 a1 (by unfold vX; split <;> omega)
  unfold sF at this
  simpa using this
theorem sY {rZ:Int→Bool} {c:List Int} (hc:c∈ef rZ f g f.aB.aC.toNat []):kn ⟨f,g,c⟩ = true∧(c.length:Int)=f.aB.aC:=by
 have c0:=T.F.c.o0
 obtain ⟨h1,h2⟩:=Aj T _ _ _ (FG T) hc
 have:(c.length:Int)=f.aB.aC:=by simp at h2; omega
 exact ⟨FH T h1 this,this⟩
end
theorem Qd {m:Int} (m1:m≤1000):∀ (l out:List (List Int)),(∀ c∈l,c.length≤1048576)→(out.length:Int)≤m→∃ y,sX (fun a0 a1=>eE a0 a1 m) l out=some y∧(∀ c∈y.2,c∈out∨c∈l)∧(y.1=true→y.2=out++l∧(y.2.length:Int)≤m):=by
 intro l
 induction l with
 | nil=>intro out _ ho; exact ⟨(true,out),rfl,fun c hc=>.inl hc,fun _=>⟨by simp,ho⟩⟩
 | cons c l ih=>
  intro out hl ho
  have e:eE c out m=some (decide ((out.length:Int)+1≤m),out++[c]):=by
   unfold eE
   rw [BN c (hl c (by simp)),aH,dZ (by omega) (by omega),aH,List.length_append,List.length_singleton]
   rfl
  show ∃ y,(eE c out m>>=fun y=>bif !y.1 then some (false,y.2) else sX (fun a0 a1=>eE a0 a1 m) l y.2)=some y∧_
  rw [e,aH]
  by_cases hm:(out.length:Int)+1≤m
  ·rw [aX hm]
   obtain ⟨y,h1,h2,h3⟩:=ih (out++[c]) (fun c' uy=>hl c' (by simp [uy])) (by rw [List.length_append,List.length_singleton]; omega)
   refine ⟨y,h1,fun c' uy=>?_,fun hy=>⟨by rw [(h3 hy).1,List.append_assoc]; rfl,(h3 hy).2⟩⟩
   rcases h2 c' uy with h | h
   ·rcases List.mem_append.1 h with h | h
    ·exact .inl h
    ·exact .inr (by rw [List.mem_singleton.1 h]; simp)
   ·exact .inr (by simp [h])
  ·rw [bn hm]
   refine ⟨(false,out++[c]),rfl,fun c' uy=>?_,fun h=>(nomatch h)⟩
   rcases List.mem_append.1 uy with h | h
   ·exact .inl h
   ·exact .inr (by rw [List.mem_singleton.1 h]; simp)
theorem Qb {f g:aL} (T:C5 f g) (fs:dv f) (gs:dv g):∃ y,iC f g=some y∧(y.2=0∧y.1=ef (fun _=>true) f g f.aB.aC.toNat []∨y.2=3∧y.1=[])∧(∀ c∈y.1,kn ⟨f,g,c⟩ = true∧c.length≤1048576)∧y.1.length≤1000:=by
 have co:=T.F.c.o8
 obtain ⟨y,h1,h2,h3⟩:=Qd (m:=200) (by omega) (ef (fun _=>true) f g f.aB.aC.toNat []) [] (fun c hc=>by have:=(sY T hc).2; omega) (by simp)
 have e:=ND T (al:=fun a0=>jH a0) (rZ:=fun _=>true) (fun b _ _=>rfl) (by omega) h1
 have e2:fX f g=some 0:=by
  unfold fX
  rw [yA _ (by simp) (fun c hc=>by rcases List.mem_cons.1 hc with rfl | hc; exact fs; rw [List.mem_singleton.1 hc]; exact gs),aH,show ([f,g].all ig)=(ig f && ig g) by simp,T.fb,T.gb,Bool.and_self,Bool.not_true,cond_false,xG fs,aH,sW.2 T.es.symm,sW.2 T.et.symm]
  rfl
 have e3:mA f g 200=some (y.2,y.1):=by
  unfold mA
  rw [e,aH]; rfl
 unfold iC
 rw [e2,aH,tn rfl,cond_false,e3,aH]
 cases hy:y.1 with
 | false=>exact ⟨([],3),rfl,.inr ⟨rfl,rfl⟩,(fun c hc=>by cases hc),by simp⟩
 | true=>
  refine ⟨(y.2,0),rfl,.inl ⟨rfl,by rw [(h3 hy).1]; rfl⟩,fun c hc=>?_,by have:=(h3 hy).2; show y.2.length≤1000; omega⟩
  have uy:c∈ef (fun _=>true) f g f.aB.aC.toNat []:=by rcases h2 c hc with h | h; cases h; exact h
  have:=sY T uy
  exact ⟨this.1,by omega⟩
end Go.Proofs.YtkcpiblgpnjanaaGreat
namespace Go.Proofs.YtkcpiblgpnjanaaGreat
open Go Go.Li
set_option linter.unusedVariables false
end Go.Proofs.YtkcpiblgpnjanaaGreat
