/- Lists of components of natural transformations, as the program looks for them: an enumeration in ascending order, handed on one by one. No condition beside those that each theorem names. -/
import Derived.Test.YtkcpiblgpnjanaaGreatYk
import Derived.Test.YtkcpiblgpnjanaaGreatPj
import Derived.Test.YtkcpiblgpnjanaaGreatVj
import Derived.Test.YtkcpiblgpnjanaaGreatYr
namespace Go.Proofs.YtkcpiblgpnjanaaGreat
open Go Go.Li
set_option linter.unusedVariables false
set_option linter.unusedSectionVars false
set_option linter.unusedSimpArgs false
def JP (c:aI) (x y a:Int):Bool:=gi c.aG a == x && gi c.To a == y
theorem acE {c:aI} (H:rW c) (x y:Int):kK c x y=some ((ns c.aG.length).filter (JP c x y)):=by
 have hm:=H.m
 unfold kK
 refine (congrArg ao (N0 (ns c.aG.length) (JP c x y) (fun acc i=>(acc,(i:Int))) rfl ?_ ?_)).trans rfl
 ·intro i a acc ha WA
  obtain ⟨rfl,hi⟩:=ic ha
  show gT c x y acc i=_
  unfold gT
  rw [bn (by omega),cond_true,H.ju (by omega) (by omega),aH,H.j6 (by omega) (by omega),eN (by omega) (by omega)]
  simp only [aH]
  rw [cK (by omega)]
  unfold JP
  cases h1:gi c.aG (i:Int) == x with
  | false=>rfl
  | true=>
   simp only [cond_true,aH,Bool.true_and]
   cases gi c.To (i:Int) == y <;> rfl
 ·intro acc
  show gT c x y acc _=_
  unfold gT
  rw [eP,bx (by omega),cond_false]
theorem Te {S R:Type} {body:Int→Option (Out Int R)} {k j:Nat} {A B:Option (Out S R)} {n:Nat} (p:Int→Bool) (hkj:Nat.beq j k=false)
  (h:∀ i:Nat,i < n→body (i:Int)=bif p i then some (.exit j (i:Int)) else some (.norm ((i+1:Nat):Int))) (last:body (n:Int)=some (.exit k (n:Int))) :
  Ho k j (aj body (0:Int)) (fun _=>A) (fun _=>B)=bif (ns n).any p then B else A:=by
 have key:∀ m i:Nat,i+m=n→(aj body (i:Int)=some (.exit k (n:Int))∧∀ a:Nat,i≤a→a < n→p a=false)∨∃ a:Nat,aj body (i:Int)=some (.exit j (a:Int))∧a < n∧p a=true:=by
  intro m
  induction m with
  | zero=>
   intro i hi
   obtain rfl:i=n:=by omega
   exact .inl ⟨sO last,fun a h1 h2=>by omega⟩
  | succ m ih=>
   intro i hi
   rw [rR,h i (by omega)]
   cases hp:p i with
   | true=>exact .inr ⟨i,rfl,by omega,hp⟩
   | false=>
    rcases ih (i+1) (by omega) with ⟨h1,h2⟩ | h1
    ·refine .inl ⟨h1,fun a a0 a1=>?_⟩
     rcases Nat.lt_or_ge i a with h3 | h3
     ·exact h2 a h3 a1
     ·obtain rfl:a=i:=by omega
      exact hp
    ·exact .inr h1
 rcases key n 0 (by omega) with ⟨h1,h2⟩ | ⟨a,h1,h2,h3⟩
 ·have:(ns n).any p=false:=l3.2 fun i i0 i1=>by have:=h2 i.toNat (by omega) (by omega); rwa [show ((i.toNat:Nat):Int)=i by omega] at this
  rw [this,show (0:Int)=((0:Nat):Int) from rfl,h1]
  unfold Ho
  dsimp only
  rw [Nat.beq_refl]; rfl
 ·have:(ns n).any p=true:=List.any_eq_true.2 ⟨a,fy.2 ⟨by omega,by omega⟩,h3⟩
  rw [this,show (0:Int)=((0:Nat):Int) from rfl,h1]
  unfold Ho
  dsimp only
  rw [hkj,Nat.beq_refl]; rfl
structure Lu (f g:aN):Prop where
 F:CC f
 G:CC g
 fb:j8 f=true
 gb:j8 g=true
 es:g.aA=f.aA
 et:g.aC=f.aC
def BM (f:aN) (cs:List Int):Prop:=(cs.length:Int)=f.aA.aE∧∀ y∈cs,0≤y∧y < f.aC.aG.length
def BN (f:aN) (a:Int):Int:=if gi f.aA.To a > gi f.aA.aG a then gi f.aA.To a else gi f.aA.aG a
def BO (f g:aN) (x:Int) (cs:List Int) (a:Int):Bool:=(BN f a == x) && !(zm f g cs a)
def xB (f g:aN) (x:Int) (cs:List Int):Bool:=!((ns f.aA.aG.length).any (BO f g x cs))
def CD (al:Int→Bool) (f g:aN) (p:List Int) (b:Int):Bool:=al b && xB f g p.length (p++[b])
def sQ (al:Int→Bool) (f g:aN):Nat→List Int→List (List Int)
 | 0,p=>[p]
 | k+1,p=>(((ns f.aC.aG.length).filter (JP f.aC (gi f.aE p.length) (gi g.aE p.length))).filter (CD al f g p)).flatMap fun b=>sQ al f g k (p++[b])
def tD {σ:Type} (fo:List Int→σ→Option (Bool×σ)):List (List Int)→σ→Option (Bool×σ)
 | [],st=>some (true,st)
 | c :: l,st=>fo c st>>=fun y=>bif !y.1 then some (false,y.2) else tD fo l y.2
theorem QC {σ:Type} {fo:List Int→σ→Option (Bool×σ)} {l2:List (List Int)}:∀ (l1:List (List Int)) (st:σ),tD fo (l1++l2) st=tD fo l1 st>>=fun y=>bif !y.1 then some (false,y.2) else tD fo l2 y.2:=by
 intro l1
 induction l1 with
 | nil=>intro st; rfl
 | cons c l1 ih=>
  intro st
  show (fo c st>>=fun y=>bif !y.1 then some (false,y.2) else tD fo (l1++l2) y.2)=(fo c st>>=fun y=>bif !y.1 then some (false,y.2) else tD fo l1 y.2)>>=_
  cases fo c st with
  | none=>rfl
  | some y=>
   show (bif !y.1 then some (false,y.2) else tD fo (l1++l2) y.2)=(bif !y.1 then some (false,y.2) else tD fo l1 y.2)>>=_
   cases y.1 with
   | false=>rfl
   | true=>exact ih y.2
def C9 (p cs:List Int):Prop:=∀ i:Int,0≤i→i < p.length→gi cs i=gi p i
section
variable {f g:aN} (T:Lu f g)
include T
theorem Lu.head {cs:List Int} (j:BM f cs):THead ⟨f,g,cs⟩:=⟨T.F,T.G,T.fb,T.gb,T.es,T.et,j.1,j.2⟩
theorem FL {cs ds:List Int} {a:Int} (a0:0≤a) (a1:a < f.aA.aG.length) (h:∀ i:Int,0≤i→i≤BN f a→gi cs i=gi ds i):zm f g cs a=zm f g ds a:=by
 have kf:=T.F.c.fr a0 a1
 have kt:=T.F.c.to a0 a1
 have hm:gi f.aA.aG a≤BN f a∧gi f.aA.To a≤BN f a:=by unfold BN; split <;> omega
 unfold zm
 rw [h _ kf.1 hm.1,h _ kt.1 hm.2]
theorem Lv {cs ds:List Int} {x:Int} (h:∀ i:Int,0≤i→i≤x→gi cs i=gi ds i):xB f g x cs=xB f g x ds:=by
 have:∀ a∈ns f.aA.aG.length,BO f g x cs a=BO f g x ds a:=by
  intro a ha
  obtain ⟨a0,a1⟩:=fy.1 ha
  unfold BO
  by_cases e:BN f a=x
  ·rw [FL T a0 a1 fun i i0 i1=>h i i0 (by omega)]
  ·rw [tv e]; rfl
 unfold xB
 congr 1
 rw [Bool.eq_iff_iff,List.any_eq_true,List.any_eq_true]
 exact ⟨fun ⟨a,h1,h2⟩=>⟨a,h1,by rw [← this a h1]; exact h2⟩,fun ⟨a,h1,h2⟩=>⟨a,h1,by rw [this a h1]; exact h2⟩⟩
theorem N9 {R S:Type} {x:Int} {cs:List Int} (j:BM f cs) {A B:Option (Out S R)}:Ho 2 1 (aj (fun s=>iK (ρ:=R) f g x cs s) (0:Int)) (fun _=>A) (fun _=>B)=bif xB f g x cs then A else B:=by
 have F:=T.F
 have cm:=F.c.m
 refine (Te (n:=f.aA.aG.length) (BO f g x cs) rfl (fun a ha=>?_) ?_).trans ?_
 ·unfold iK BO BN
  rw [bn (by omega),cond_true,F.c.ju (by omega) (by omega),aH,F.c.j6 (by omega) (by omega),aH,cK (by omega)]
  have hc:=BP (T.head j) (a:=(a:Int)) (by omega) (by simpa using ha)
  dsimp only at hc
  rw [hc]
  generalize ((if gi f.aA.To (a:Int) > gi f.aA.aG (a:Int) then gi f.aA.To (a:Int) else gi f.aA.aG (a:Int)) == x)=c1
  cases c1 with
  | false=>rfl
  | true=>rfl
 ·unfold iK
  rw [bx (by omega),cond_false]
 ·unfold xB
  cases (ns f.aA.aG.length).any (BO f g x cs) <;> rfl
theorem BM.put {cs:List Int} (j:BM f cs) {x b:Int} (b0:0≤b) (b1:b < f.aC.aG.length):BM f (cs.set x.toNat b):=by
 refine ⟨by rw [List.length_set]; exact j.1,fun y hy=>?_⟩
 rcases List.mem_or_eq_of_mem_set hy with h | rfl
 ·exact j.2 y h
 ·exact ⟨b0,b1⟩
section
variable {σ:Type} {al:Int→Option Bool} {uR:Int→Bool} (yX:∀ b:Int,0≤b→b < f.aC.aG.length→al b=some (uR b)) {fo:List Int→σ→Option (Bool×σ)}
include yX
theorem Tf:∀ (k n:Nat) (p cs:List Int) (st:σ),BM f cs→C9 p cs→((p.length+k:Nat):Int)=f.aA.aE→k < n→∀ y,tD fo (sQ uR f g k p) st=some y→
  ∃ ib,BM f ib∧C9 p ib∧eM al fo f g n (p.length:Int) cs st=some (y.1,ib,y.2):=by
 have F:=T.F
 have G:=T.G
 have co:=F.c.o8
 intro k
 induction k with
 | zero=>
  intro n p cs st j hp hk hn y hy
  obtain ⟨n,rfl⟩ : ∃ i,n=i+1:=⟨n - 1,by omega⟩
  have e:cs=p:=Ee (by have:=j.1; omega) fun x x0 x1=>hp x x0 x1
  subst e
  refine ⟨cs,j,fun _ _ _=>rfl,?_⟩
  unfold eM iQ
  rw [xq (by omega),cond_true]
  have h1:(fo cs st>>=fun y=>bif !y.1 then some (false,y.2) else some (true,y.2))=some y:=hy
  cases hf:fo cs st with
  | none=>rw [hf] at h1; cases h1
  | some z=>
   rw [hf] at h1
   obtain ⟨b,z⟩:=z
   cases b <;> (cases h1; rfl)
 | succ k ih=>
  intro n p cs st j hp hk hn y hy
  obtain ⟨n,rfl⟩ : ∃ i,n=i+1:=⟨n - 1,by omega⟩
  have x1:(p.length:Int) < f.aA.aE:=by omega
  have ix2:idx g.aE (p.length:Int)=some (gi g.aE p.length):=G.vY (by omega) (by rw [T.es]; exact x1)
  unfold eM iQ
  rw [tv (by omega),cond_false,F.vY (by omega) x1,aH,ix2,aH,acE F.d,aH]
  generalize hl:(ns f.aC.aG.length).filter (JP f.aC (gi f.aE p.length) (gi g.aE p.length))=l
  have MJ:∀ b∈l,0≤b∧b < f.aC.aG.length:=by intro b hb; rw [← hl] at hb; exact fy.1 (List.mem_filter.1 hb).1
  have Zb:l.length≤f.aC.aG.length:=by rw [← hl]; exact Nat.le_trans (List.length_filter_le _ _) (by rw [eP]; exact Nat.le_refl _)
  have dm:=F.d.m
  have sy:tD fo ((l.filter (CD uR f g p)).flatMap fun b=>sQ uR f g k (p++[b])) st=some y:=by rw [← hl]; exact hy
  have key:∀ (m:List Int) (i:Nat) (cs:List Int) (st:σ),l.drop i=m→i≤l.length→BM f cs→C9 p cs→∀ y,tD fo ((m.filter (CD uR f g p)).flatMap fun b=>sQ uR f g k (p++[b])) st=some y→
    ∃ ib,BM f ib∧C9 p ib∧aj (fun s=>gE al (eM al fo f g n) f g p.length l s) ((i:Int),cs,st)=some (bif y.1 then .exit 0 ((l.length:Int),ib,y.2) else .ret (false,ib,y.2)):=by
   intro m
   induction m with
   | nil=>
    intro i cs st hd hi j hp y hy
    obtain rfl:i=l.length:=by have:=congrArg List.length hd; simp at this; omega
    cases hy
    refine ⟨cs,j,hp,sO ?_⟩
    unfold gE
    rw [bx (by omega),cond_false]
   | cons b m WB=>
    intro i cs st hd hi j hp y hy
    have bg:i < l.length:=by
     rcases Nat.lt_or_ge i l.length with h | h
     ·exact h
     ·rw [List.drop_eq_nil_of_le h] at hd; cases hd
    have hx:l[i]? = some b:=by
     rw [List.drop_eq_getElem_cons bg] at hd
     rw [List.getElem?_eq_getElem bg]; exact congrArg some (List.cons.inj hd).1
    have ig:l.drop (i+1)=m:=by rw [List.drop_eq_getElem_cons bg] at hd; exact (List.cons.inj hd).2
    have hb:=MJ b (List.mem_of_getElem? hx)
    have jl:=j.1
    have j1:=BM.put T j (x:=(p.length:Int)) hb.1 hb.2
    have tZ:∀ q:Int,0≤q→gi (cs.set (p.length:Int).toNat b) q=if q=(p.length:Int) then b else gi cs q:=fun q q0=>rm (by omega) (by omega) q0
    have qg:C9 p (cs.set (p.length:Int).toNat b):=fun q q0 q1=>by rw [tZ q q0,if_neg (by omega)]; exact hp q q0 q1
    have Zd:C9 (p++[b]) (cs.set (p.length:Int).toNat b):=fun q q0 q1=>by
     rw [List.length_append,List.length_singleton] at q1
     rw [tZ q q0,kq q0]
     by_cases e:q=(p.length:Int)
     ·rw [if_pos e,if_neg (by omega),if_pos e]
     ·rw [if_neg e,if_pos (by omega)]; exact hp q q0 (by omega)
    have KT:xB f g p.length (cs.set (p.length:Int).toNat b)=xB f g p.length (p++[b]):=Lv T fun q q0 q1=>Zd q q0 (by rw [List.length_append,List.length_singleton]; omega)
    have nx:gE al (eM al fo f g n) f g p.length l ((i:Int),cs,st)=(bif !(uR b) then (some (Out.norm (((i+1:Nat):Int),cs,st))) else
      (bif xB f g p.length (p++[b]) then ((eM al fo f g n (((p++[b]).length:Nat):Int) (cs.set (p.length:Int).toNat b) st)>>=fun BF=>(bif !(BF.1) then (some (Out.ret (false,BF.2.1,BF.2.2))) else (some (Out.norm (((i+1:Nat):Int),BF.2.1,BF.2.2)))))
       else (some (Out.norm (((i+1:Nat):Int),cs.set (p.length:Int).toNat b,st))))):=by
     unfold gE
     dsimp only
     rw [bn (by omega),cond_true,da,hx,aH,yX b hb.1 hb.2,aH,cM (l:=cs) (by omega) (by omega),aH,N9 T j1,KT,cK (by omega),cK (by omega),List.length_append,List.length_singleton]
    rw [rR,nx]
    cases ha:uR b with
    | false=>
     have hq:CD uR f g p b=false:=by unfold CD; rw [ha]; rfl
     rw [List.filter_cons_of_neg (by rw [hq]; decide)] at hy
     exact WB (i+1) cs st ig (by omega) j hp y hy
    | true=>
     cases hf:xB f g p.length (p++[b]) with
     | false=>
      have hq:CD uR f g p b=false:=by unfold CD; rw [hf,Bool.and_false]
      rw [List.filter_cons_of_neg (by rw [hq]; decide)] at hy
      exact WB (i+1) _ st ig (by omega) j1 qg y hy
     | true=>
      have hq:CD uR f g p b=true:=by unfold CD; rw [ha,hf]; rfl
      rw [List.filter_cons_of_pos (by rw [hq]),List.flatMap_cons,QC] at hy
      cases hr:tD fo (sQ uR f g k (p++[b])) st with
      | none=>rw [hr] at hy; cases hy
      | some z=>
       rw [hr,aH] at hy
       obtain ⟨xS,j2,l6,e2⟩:=ih n (p++[b]) _ st j1 Zd (by rw [List.length_append,List.length_singleton]; omega) (by omega) z hr
       have Ze:C9 p xS:=fun q q0 q1=>by rw [l6 q q0 (by rw [List.length_append,List.length_singleton]; omega),kq q0,if_pos q1]
       simp only [Bool.not_true,cond_false,cond_true]
       rw [e2,aH]
       cases hz:z.1 with
       | false=>
        rw [hz] at hy
        cases hy
        exact ⟨xS,j2,Ze,rfl⟩
       | true=>
        rw [hz] at hy
        exact WB (i+1) xS z.2 ig (by omega) j2 Ze y hy
  obtain ⟨ib,j',uN,e⟩:=key l 0 cs st rfl (by omega) j hp y sy
  refine ⟨ib,j',uN,?_⟩
  rw [show ((0:Int),cs,st)=(((0:Nat):Int),cs,st) from rfl,e]
  obtain ⟨b,z⟩:=y
  cases b <;> rfl
theorem WC (hn:f.aA.aE≤63) {st:σ} {y:Bool×σ} (hy:tD fo (sQ uR f g f.aA.aE.toNat []) st=some y):kL al fo f g st=some y:=by
 have F:=T.F
 have co:=F.c.o8
 have c0:=F.c.o0
 have hN:f.aA.aE=((f.aA.aE.toNat:Nat):Int):=by omega
 have j0:BM f (List.replicate f.aA.aE.toNat (0:Int)):=by
  refine ⟨by rw [List.length_replicate]; omega,fun y hy=>?_⟩
  obtain ⟨h1,rfl⟩:=List.mem_replicate.1 hy
  have k:=F.ob (x:=0) (by omega) (by omega)
  have k2:=F.d.i _ (dx (l:=f.aC.aJ) (j:=gi f.aE 0) k.1 (by have:=F.d.il; omega))
  omega
 obtain ⟨ib,_,_,e⟩:=Tf T yX f.aA.aE.toNat 64 [] _ st j0 (fun i i0 i1=>by simp at i1; omega) (by simp; omega) (by omega) y hy
 unfold kL
 rw [hN,D9 (by omega) (by omega),aH]
 have e':eM al fo f g 64 (0:Int) (List.replicate f.aA.aE.toNat 0) st=some (y.1,ib,y.2):=e
 rw [e',aH]
 rfl
end
structure Ef (f g:aN) (p:List Int):Prop where
 v:∀ i:Int,0≤i→i < p.length→(0≤gi p i∧gi p i < f.aC.aG.length)∧gi f.aC.aG (gi p i)=gi f.aE i∧gi f.aC.To (gi p i)=gi g.aE i
 s:∀ a:Int,0≤a→a < f.aA.aG.length→BN f a < p.length→zm f g p a=true
theorem Lw {uR:Int→Bool}:∀ (k:Nat) (p c:List Int),Ef f g p→c∈sQ uR f g k p→Ef f g c∧c.length=p.length+k:=by
 intro k
 induction k with
 | zero=>
  intro p c hp hc
  obtain rfl:c=p:=by simpa [sQ] using hc
  exact ⟨hp,rfl⟩
 | succ k ih=>
  intro p c hp hc
  unfold sQ at hc
  obtain ⟨b,hb,hc⟩:=List.mem_flatMap.1 hc
  obtain ⟨Hl,AW⟩:=List.mem_filter.1 hb
  obtain ⟨hb3,R1⟩:=List.mem_filter.1 Hl
  have hv:=fy.1 hb3
  unfold CD at AW
  unfold JP at R1
  simp only [Bool.and_eq_true,beq_iff_eq] at AW R1
  have hg:Ef f g (p++[b]):=by
   refine ⟨fun i i0 i1=>?_,fun a a0 a1 hm=>?_⟩
   ·rw [List.length_append,List.length_singleton] at i1
    rw [kq i0]
    by_cases e:i < p.length
    ·rw [if_pos e]; exact hp.v i i0 e
    ·obtain rfl:i=(p.length:Int):=by omega
     rw [if_neg e,if_pos rfl]; exact ⟨hv,R1.1,R1.2⟩
   ·rw [List.length_append,List.length_singleton] at hm
    by_cases e:BN f a=p.length
    ·have h1:=AW.2
     unfold xB at h1
     rw [Bool.not_eq_true',l3] at h1
     have:=h1 a a0 a1
     unfold BO at this
     rw [xq e] at this
     simpa using this
    ·rw [FL T (ds:=p) a0 a1 fun i i0 i1=>by rw [kq i0,if_pos (by omega)]]
     exact hp.s a a0 a1 (by omega)
  obtain ⟨h1,h2⟩:=ih (p++[b]) c hg hc
  rw [List.length_append,List.length_singleton] at h2
  exact ⟨h1,by omega⟩
theorem Oa:Ef f g []:=by
 refine ⟨fun i i0 i1=>by simp at i1; omega,fun a a0 a1 hm=>?_⟩
 have k:=T.F.c.fr a0 a1
 unfold BN at hm
 simp at hm
 split at hm <;> omega
theorem Ob {c:List Int} (h:Ef f g c) (hl:(c.length:Int)=f.aA.aE):gu ⟨f,g,c⟩ = true:=by
 refine Im T.fb T.gb T.es T.et hl (fun y hy=>?_) (fun x x0 x1=>(h.v x x0 (by dsimp only at x1; omega)).2.1) (fun x x0 x1=>(h.v x x0 (by dsimp only at x1; omega)).2.2) fun a a0 a1=>?_
 ·obtain ⟨i,hi,rfl⟩:=List.mem_iff_getElem.1 hy
  replace hi:i < c.length:=hi
  have:=(h.v (i:Int) (by omega) (by omega)).1
  unfold gi at this
  rw [List.getD_eq_getElem?_getD,Int.toNat_natCast,List.getElem?_eq_getElem hi] at this
  exact this
 ·have kf:=T.F.c.fr a0 a1
  have kt:=T.F.c.to a0 a1
  have:=h.s a a0 a1 (by unfold BN; split <;> omega)
  unfold zm at this
  simpa using this
theorem FM {uR:Int→Bool} {c:List Int} (hc:c∈sQ uR f g f.aA.aE.toNat []):gu ⟨f,g,c⟩ = true∧(c.length:Int)=f.aA.aE:=by
 have c0:=T.F.c.o0
 obtain ⟨h1,h2⟩:=Lw T _ _ _ (Oa T) hc
 have:(c.length:Int)=f.aA.aE:=by simp at h2; omega
 exact ⟨Ob T h1 this,this⟩
end
theorem QD {m:Int} (m1:m≤1000):∀ (l out:List (List Int)),(∀ c∈l,c.length≤1048576)→(out.length:Int)≤m→∃ y,tD (fun a0 a1=>eW a0 a1 m) l out=some y∧(∀ c∈y.2,c∈out∨c∈l)∧(y.1=true→y.2=out++l∧(y.2.length:Int)≤m):=by
 intro l
 induction l with
 | nil=>intro out _ ho; exact ⟨(true,out),rfl,fun c hc=>.inl hc,fun _=>⟨by simp,ho⟩⟩
 | cons c l ih=>
  intro out hl ho
  have e:eW c out m=some (decide ((out.length:Int)+1≤m),out++[c]):=by
   unfold eW
   rw [Eg c (hl c (by simp)),aH,eN (by omega) (by omega),aH,List.length_append,List.length_singleton]
   rfl
  show ∃ y,(eW c out m>>=fun y=>bif !y.1 then some (false,y.2) else tD (fun a0 a1=>eW a0 a1 m) l y.2)=some y∧_
  rw [e,aH]
  by_cases hm:(out.length:Int)+1≤m
  ·rw [bn hm]
   obtain ⟨y,h1,h2,h3⟩:=ih (out++[c]) (fun c' uf=>hl c' (by simp [uf])) (by rw [List.length_append,List.length_singleton]; omega)
   refine ⟨y,h1,fun c' uf=>?_,fun hy=>⟨by rw [(h3 hy).1,List.append_assoc]; rfl,(h3 hy).2⟩⟩
   rcases h2 c' uf with h | h
   ·rcases List.mem_append.1 h with h | h
    ·exact .inl h
    ·exact .inr (by rw [List.mem_singleton.1 h]; simp)
   ·exact .inr (by simp [h])
  ·rw [bx hm]
   refine ⟨(false,out++[c]),rfl,fun c' uf=>?_,fun h=>(nomatch h)⟩
   rcases List.mem_append.1 uf with h | h
   ·exact .inl h
   ·exact .inr (by rw [List.mem_singleton.1 h]; simp)
theorem QF {f g:aN} (T:Lu f g) (fs:ie f) (gs:ie g):∃ y,gW f g=some y∧(y.2=0∧y.1=sQ (fun _=>true) f g f.aA.aE.toNat []∨y.2=3∧y.1=[])∧(∀ c∈y.1,gu ⟨f,g,c⟩ = true∧c.length≤1048576)∧y.1.length≤1000:=by
 have co:=T.F.c.o8
 obtain ⟨y,h1,h2,h3⟩:=QD (m:=200) (by omega) (sQ (fun _=>true) f g f.aA.aE.toNat []) [] (fun c hc=>by have:=(FM T hc).2; omega) (by simp)
 have e:=WC T (al:=fun a0=>iU a0) (uR:=fun _=>true) (fun b _ _=>rfl) (by omega) h1
 have e2:kJ f g=some 0:=by
  unfold kJ
  rw [CE _ (by simp) (fun c hc=>by rcases List.mem_cons.1 hc with rfl | hc; exact fs; rw [List.mem_singleton.1 hc]; exact gs),aH,show ([f,g].all j8)=(j8 f && j8 g) by simp,T.fb,T.gb,Bool.and_self,Bool.not_true,cond_false,BQ fs,aH,rU.2 T.es.symm,rU.2 T.et.symm]
  rfl
 have e3:lQ f g 200=some (y.2,y.1):=by
  unfold lQ
  rw [e,aH]; rfl
 unfold gW
 rw [e2,aH,tu rfl,cond_false,e3,aH]
 cases hy:y.1 with
 | false=>exact ⟨([],3),rfl,.inr ⟨rfl,rfl⟩,(fun c hc=>by cases hc),by simp⟩
 | true=>
  refine ⟨(y.2,0),rfl,.inl ⟨rfl,by rw [(h3 hy).1]; rfl⟩,fun c hc=>?_,by have:=(h3 hy).2; show y.2.length≤1000; omega⟩
  have uf:c∈sQ (fun _=>true) f g f.aA.aE.toNat []:=by rcases h2 c hc with h | h; cases h; exact h
  have:=FM T uf
  exact ⟨this.1,by omega⟩
end Go.Proofs.YtkcpiblgpnjanaaGreat
namespace Go.Proofs.YtkcpiblgpnjanaaGreat
open Go Go.Li
set_option linter.unusedVariables false
theorem QG {t:aP} (hs:iw t):iR t=some (gu t):=by
 unfold iR
 rw [EK hs,aH]; rfl
theorem Ih {x0:List Int} (hl:x0.length≤maxLen∧∀ y∈x0,0≤y∧y < 256):lR x0=some true:=by
 unfold lR
 have EA:rC x0=some (decide ((x0.length:Int) > 4096)):=rfl
 rw [EA,aH]
 by_cases hb:(x0.length:Int) > 4096
 ·rw [bn hb,cond_true]; rfl
 rw [bx hb,cond_false]
 obtain ⟨⟨s,t⟩,e,ss,ts⟩:=Oc (x:=x0) ⟨by omega,hl.2⟩
 dsimp only at ss ts
 rw [e,aH]
 dsimp only
 rw [Lx ss ts,aH,Ly ss ts,aH,tu rfl,cond_false,EL (Lz ss ts),aH,aH,Bool.not_true,cond_false]
 cases hs:gu s with
 | false=>unfold xC; rw [hs]; rfl
 | true=>
  cases ht:gu t with
  | false=>unfold xC; rw [hs,ht]; rfl
  | true=>
   cases hc:vw s.aC t.aA with
   | false=>unfold xC; rw [hs,ht,hc]; rfl
   | true=>
    have er:xC s t=(vZ s t,0):=by unfold xC; rw [hs,ht,hc]; rfl
    have ec:=Al.1 hc
    have Ns:=rn hs
    have Nt:=rn ht
    have l7:gu (vZ s t)=true:=Io hs ht ec
    have Zf:=uI ss ts
    have hi:=Tg Ns.fb
    have si:=Od (f:=s.aA) ss.s
    have es:t.aA.aA=s.aA.aA:=by rw [← ec,Ns.es]
    have et:t.aA.aC=s.aA.aC:=by rw [← ec,Ns.et]
    have T:Lu t.aC s.aA:=⟨Nt.g,Ns.f,Nt.gb,Ns.fb,by rw [Nt.es,es],by rw [Nt.et,et]⟩
    obtain ⟨y,hy,AA,hyn,_⟩:=QF T ts.t ss.s
    rw [er]
    dsimp only
    rw [tu rfl,cond_false,Th ss.s Ns.fb,aH]
    dsimp only
    rw [vQ si ss hi hs rfl,aH,Ti hs,hy,aH]
    dsimp only
    rw [show ak (0+0)=0 from by decide,tu rfl,cond_false,EL ss,aH,Bool.not_true,cond_false,QG Zf,aH,l7,Bool.not_true,aH,cond_false]
    rcases AA with ⟨h0,h1⟩ | ⟨h0,h1⟩
    ·rw [h0,tu rfl,cond_false,aH]
     cases hl:y.1 with
     | nil=>rfl
     | cons c l=>
      have hc:=hyn c (by rw [hl]; simp)
      have hv:=hc.1
      have vs:iw ⟨t.aC,s.aA,c⟩:=⟨ts.t,ss.s,hc.2⟩
      rw [tv (by rw [List.length_cons]; omega),cond_false,show idx (c :: l) (0:Int)=some c from rfl,aH,vQ Zf vs l7 hv rfl,aH,vQ ts vs ht hv rfl,aH]
      dsimp only
      rw [vQ ss (uI ts vs) hs (Io ht hv rfl) ec,aH]
      dsimp only
      rw [Oe hs ht hv ec rfl,show ak (ak (0+0)+0)=0 from by decide,show ((0:Int) == 0)=true from rfl,cond_true,EL (uI ss (uI ts vs)),aH]
      rfl
    ·rw [h0]; rfl
end Go.Proofs.YtkcpiblgpnjanaaGreat
