/- A calculus of walks: that its rules hold. No condition. -/
import Derived.Test.YtgjbmjjihmfppaaGreatDa
import Derived.Test.YtgjbmjjihmfppaaGreatLn
namespace Go.Dk
open Go Go.Li
section
variable {Z Z':Nat→Prop} {w w':World} {cur F f:LN} {Γ Γ' Γ1 Δ:QE} {e:aX} {B:Bs} {P:Program}
theorem Gd.left {F':LN} (h:Gd B Z (F++F') w):Gd B Z F w:=
 ⟨(List.nodup_append.1 h.nd).1,fun b hb=>h.apart b (List.mem_append_left _ hb),h.nv,fun b hb=>h.low b (List.mem_append_left _ hb),h.uY,h.uA,h.jh⟩
theorem HO.hl (h:OW Γ Δ):∀ {cur F F':LN},SA Z w Γ cur F'→HO Z w Δ F→HL Z w Δ F:=by
 induction h with
 | nil=>intro _ F _ _ h; cases h; exact .nil
 | own _ ih=>intro _ F _ hs h; cases h with | own h k=>exact .own h (ih hs k)
 | om _ ih=>intro _ F _ hs h; cases h with | own h k=>exact .own h (ih hs k)
 | row _ ih=>intro _ F _ hs h; cases h with | own h k=>exact .own h (ih hs k)
 | rd h _ ih=>intro _ F _ hs hh; cases hh with
  | own h k=>exact h.elim
  | rd k=>exact .fact (h.rd hs _) (ih hs k)
theorem FO.ho (h:FO Δ):HO Z w Δ []:=by
 induction h with
 | nil=>exact .nil
 | rd _ ih=>exact .rd ih
 | ay _ ih=>exact .ay ih
theorem r3.all {fr g:Fr} {r:NV} (h:r3 fr g) (ha:db r fr):∀ p∈g,r p.1=p.2:=by
 induction h with
 | nil=>intro p hp; cases hp
 | cons h _ ih=>intro p hp; rcases List.mem_cons.1 hp with rfl | hp; exact ha _ _ h; exact ih p hp
theorem tf {r:NV} {f:Fr}:∀ {g:Fr},(∀ p∈g,r p.1=p.2)→db r f→db r (g++f):=by
 intro g
 induction g with
 | nil=>intro _ h; exact h
 | cons a g ih=>
  intro hg h t v hl
  obtain ⟨s,u⟩:=a
  rw [List.cons_append] at hl
  unfold look at hl
  cases hb:Nat.beq t s with
  | true=>rw [hb] at hl; cases hl; rw [Nat.eq_of_beq_eq_true hb]; exact hg (s,v) (by simp)
  | false=>rw [hb] at hl; exact ih (fun p hp=>hg p (by simp [hp])) h t v hl
theorem qp {r:NV} {f g:Fr} (hg:∀ p∈g,r p.1=p.2) (h:db r f):db r (g.reverse++f):=tf (fun p hp=>hg p (List.mem_reverse.1 hp)) h
theorem ke.sound (h:ke Γ Γ'):∀ {cur F:LN},SA Z w Γ cur F→SA Z w Γ' cur F:=by
 induction h with
 | nil=>intro _ _ h; exact h
 | own _ ih=>rintro _ _ ⟨f,F',h1,h2,h3⟩; exact ⟨f,F',h1,h2,ih h3⟩
 | om _ ih=>rintro _ _ ⟨f,F',h1,h2,h3⟩; exact ⟨f,F',h1,h2,ih h3⟩
 | row _ ih=>rintro _ _ ⟨f,F',h1,h2,h3⟩; exact ⟨f,F',h1,h2,ih h3⟩
 | Nh _ ih=>intro _ _ h; exact ⟨h.1,ih h.2⟩
 | Hz _ ih=>intro _ _ h; exact ⟨h.1,ih h.2⟩
 | ad _ ih=>intro _ _ h; exact ih h.2
 | ay _ ih=>intro _ _ h; exact ⟨h.1,ih h.2⟩
 | hd _ ih=>intro _ _ h; exact ih h.2
 | gy _ ih=>rintro _ _ ⟨f,F',h1,h2,h3⟩; exact ⟨f,F',h1,h2,ih h3⟩
theorem TS {α:Type} {E:ah α} (hE:∀ {h:Array Obj} {cs:LV} {x y:α} {f g:LN},E.rep h cs x f→E.rep h cs y g→f=g) {h:Array Obj}:∀ {xs ys:List α} {cs:LV} {f g:LN},xs.length=ys.length→ed E h cs xs f→ed E h cs ys g→f=g:=by
 intro xs
 induction xs with
 | nil=>
  intro ys cs f g hl h1 h2
  cases ys with
  | nil=>obtain ⟨_,rfl⟩:=h1; obtain ⟨_,rfl⟩:=h2; rfl
  | cons y ys=>cases hl
 | cons x xs ih=>
  intro ys cs f g hl h1 h2
  cases ys with
  | nil=>cases hl
  | cons y ys=>
   obtain ⟨c,iq,f1,f2,rfl,rfl,a1,a2⟩:=h1
   obtain ⟨d,ds',g1,g2,e1,rfl,b1,b2⟩:=h2
   obtain ⟨rfl,rfl⟩:=List.append_inj e1 ((E.len a1).trans (E.len b1).symm)
   rw [hE a1 b1,ih (by simpa using hl) a2 b2]
theorem DT.fp {α:Type} {T:ah α} (h:DT T):∀ {h:Array Obj} {cs:LV} {x y:α} {f g:LN},T.rep h cs x f→T.rep h cs y g→f=g:=by
 induction h with
 | i=>rintro h cs x y f g ⟨_,rfl⟩ ⟨_,rfl⟩; rfl
 | b=>rintro h cs x y f g ⟨_,rfl⟩ ⟨_,rfl⟩; rfl
 | @own α e E _ ih=>
  rintro h cs x y f g ⟨base,cap,rfl,a⟩ ⟨Zr,abN,e1,b⟩
  simp only [List.cons.injEq,Value.slice.injEq,and_true] at e1
  obtain ⟨rfl,hl,rfl⟩:=e1
  rcases a with ⟨rfl,_,_,rfl⟩ | ⟨b1,cr,f',rfl,a2,rfl,_,_,_,a3⟩
  ·rcases b with ⟨_,_,_,rfl⟩ | ⟨Kz,cr',g',e1,_⟩
   ·rfl
   ·cases e1
  ·rcases b with ⟨e1,_⟩ | ⟨Kz,cr',g',e1,c2,rfl,_,_,_,c3⟩
   ·cases e1
   ·cases e1
    rw [a2] at c2
    cases c2
    rw [hl] at a3
    rw [TS ih hl a3 c3]
theorem In.ay {p:Addr} {cs:LV} (h:In (.ay p cs) Γ):∀ {cur F:LN},SA Z w Γ cur F→∀ ee,fact Z w ee (.ay p cs):=by
 induction h with
 | here=>intro cur F h ee; exact h.1
 | @there a Γ _ ih=>
  intro cur F hS
  cases a with
  | own T v x=>obtain ⟨f,F',h1,h2,h3⟩:=hS; exact ih h3
  | om e E v xs=>obtain ⟨f,F',h1,h2,h3⟩:=hS; exact ih h3
  | row b cs e=>obtain ⟨f,F',h1,h2,h3⟩:=hS; exact ih h3
  | gy e E v xs j u=>obtain ⟨f,F',h1,h2,h3⟩:=hS; exact ih h3
  | _=>exact ih hS.2
theorem zn.get {α:Type} {T:ah α} {v:Value} {x:α} (h:zn (.rd true T v x) Γ):∀ {cur F:LN},SA Z w Γ cur F→fact Z w cur (.rd true T v x):=by
 induction h with
 | here=>intro cur F h; exact h.1
 | row _ ih=>rintro cur F ⟨f,F',h1,h2,h3⟩; exact ih h3
 | rd _ ih=>intro cur F h; exact ih h.2
 | ad _ ih=>intro cur F h; exact ih h.2
 | hd _ ih=>intro cur F h; exact ih h.2
 | ay _ ih=>intro cur F h; exact ih h.2
theorem KM.sound {α β:Type} {T:ah α} {v u:Value} {x:α} {T':ah β} {z:β} (h:KM T v x (.rd true T' u z) Γ):∀ {cur F:LN},SA Z w Γ cur F→∃ f,T.rep w.heap [v] x f∧fact Z w f (.rd true T' u z):=by
 induction h with
 | here h=>rintro cur F ⟨f,F',h1,h2,h3⟩; exact ⟨f,h2,h.get h3⟩
 | @there a Γ _ ih=>
  intro cur F hS
  cases a with
  | own T v x=>obtain ⟨f,F',h1,h2,h3⟩:=hS; exact ih h3
  | om e E v xs=>obtain ⟨f,F',h1,h2,h3⟩:=hS; exact ih h3
  | row b cs e=>obtain ⟨f,F',h1,h2,h3⟩:=hS; exact ih h3
  | gy e E v xs j u=>obtain ⟨f,F',h1,h2,h3⟩:=hS; exact ih h3
  | _=>exact ih hS.2
theorem MF.sound {o:Option aX} (h:MF Γ o Δ) {cur F:LN} (hs:SA Z w Γ cur F):∀ {ee Fd:LN},(∀ e,o=some e→my Z w ee e)→HO Z w Δ Fd→SA Z w Δ ee Fd:=by
 induction h with
 | nil=>intro _ _ _ h; cases h; rfl
 | own _ ih=>intro _ _ _ h; cases h with | own h k=>exact ⟨_,_,rfl,h,ih (by rintro e he; cases he; exact h) k⟩
 | om _ ih=>intro _ _ _ h; cases h with | own h k=>exact ⟨_,_,rfl,h,ih (by rintro e he; cases he) k⟩
 | row _ ih=>intro _ _ ho h; cases h with | own h k=>exact ⟨_,_,rfl,h,ih ho k⟩
 | gy _ ih=>intro _ _ _ h; cases h with | own h k=>exact ⟨_,_,rfl,h,ih (by rintro e he; cases he) k⟩
 | rd h _ ih=>
  intro _ _ ho hh
  cases hh with
  | own h k=>exact h.elim
  | rd k=>exact ⟨h.rd hs _,ih ho k⟩
 | @Hz α β T v u x T' z Δ hd h _ ih=>
  intro ee _ ho hh
  cases hh with
  | own h k=>exact h.elim
  | rd k=>
   obtain ⟨f,h1,h2⟩:=h.sound hs
   have h3:T.rep w.heap [v] x ee:=ho _ rfl
   rw [hd.fp h1 h3] at h2
   exact ⟨h2,ih ho k⟩
 | ay h _ ih=>
  intro _ _ ho hh
  cases hh with
  | own h k=>exact h.elim
  | ay k=>exact ⟨h.ay hs _,ih ho k⟩
theorem St.of {F':LN} (hs:SA Z w Γ [] F) (hg:Gd B Z F' w) (hp:F.Perm F'):St B Γ w:=⟨Z,F,hs,hg.perm hp⟩
theorem St.enter (h:St B Γ w) {Γ1 Γ2:QE} (h0:EO Γ Δ Γ1) (hw:OW Γ Δ) (h1:ke Γ1 Γ2):St B (Δ.reverse++Γ2) w:=by
 obtain ⟨Z,F,hs,hg⟩:=h
 obtain ⟨Fd,F1,a1,a2,a3⟩:=h0.sound hs
 obtain ⟨F2,b1,b2⟩:=HL.build (HO.hl hw hs a1) (h1.sound a2)
 exact St.of b2 hg (b1.trans a3)
theorem St.again (h:St B Γ w) {Γ1 Γ2 Γ3:QE} (h0:EO Γ Δ Γ1) (hw:OW Γ Δ) (h1:EO Γ1 Γ2 Γ3) (h2:MF Γ none Γ2):St B (Δ.reverse++Γ2) w:=by
 obtain ⟨Z,F,hs,hg⟩:=h
 obtain ⟨Fd,F1,a1,a2,a3⟩:=h0.sound hs
 obtain ⟨VA,F3,c1,c2,c3⟩:=h1.sound a2
 obtain ⟨F2,b1,b2⟩:=HL.build (HO.hl hw hs a1) (h2.sound hs (ee:=[]) (by rintro e he; cases he) c1)
 refine St.of (F':=Fd++VA) b2 (Gd.left (F':=F3) (hg.perm ?_)) b1
 rw [List.append_assoc]
 exact (c3.append_left Fd).trans a3
theorem St.leave (h:St B Γ w) (h0:EF Γ Δ Γ1):Ni B Δ w:=by
 obtain ⟨Z,F,hs,hg⟩:=h
 obtain ⟨Fd,F',Zn,a1,a2,a3⟩:=h0.sound hs
 refine ⟨_,Fd,a1,Gd.left (F':=F') (Gd.freeze (hg.perm a3) fun b hb=>hs.lt b (a3.mem_iff.1 (List.mem_append_right _ hb)))⟩
theorem St.back {β:Type} {e:TI} {E:ah β} {v u:Value} {xs:List β} {j:Int} {z:β} {Γ0:QE} (h:St B (.own E u z :: .gy e E v xs j u :: Γ0) w):St B (.own (aJ e E) v (xs.set j.toNat z) :: Γ0) w:=by
 obtain ⟨Z,F,⟨k,F1,rfl,hk,f,F2,rfl,hf,hs⟩,hg⟩:=h
 obtain ⟨f',hp,hr⟩:=hf.2 w.heap (fun _ _=>rfl) z k hk
 have oq:(f'++F2).Perm (k++(f++F2)):=by
  rw [← List.append_assoc]
  exact (hp.trans List.perm_append_comm).append_right F2
 refine ⟨Z,f'++F2,⟨f',F2,rfl,hr,?_⟩,hg.perm oq⟩
 refine SA.mono (fun _ h=>h) (fun b hb=>hp.mem_iff.2 (List.mem_append_left _ hb)) hs
theorem fi {R M:Type} {cx:Cx R} {all l:LO} {rk:RK R M} {o:M} {r:NV} {d:Option Nat} {op:Op} {ty:TI} {pos:String} {af:Array Edge} {g:Option (Nat×Bool)}
  (h:WL P all (⟨d,op,ty,pos,af,none⟩ :: l) r w (C0 P cx B rk o)):tP P cx B false ⟨d,op,ty,pos,af,g⟩ all l rk o r w:=by
 rcases h with ⟨_,h⟩ | ⟨hw,_⟩
 ·exact h
 ·cases hw
theorem St.put {F1 f':LN} (hS:SA Z w Γ' [] F1) (hg:Gd B Z (f++F1) w) (hC:aq f w w') (ho:my Z w' f' e) (hn:f'.Nodup) (hs:∀ b∈f',b∈f∨w.heap.size≤b):St B (e :: Γ') w':=by
 have de:=List.nodup_append.1 hg.nd
 have hk:SA Z w' Γ' [] F1:=hS.ep hC (fun b hb=>hg.apart b (List.mem_append_left _ hb)) (fun b _=>List.not_mem_nil) (fun b hb hm=>de.2.2 b hb b hm rfl)
 refine ⟨Z,f'++F1,hk.cons ho,List.nodup_append.2 ⟨hn,de.2.1,?_⟩,?_,fun b hb=>Nat.lt_of_lt_of_le (hg.nv b hb) hC.size,?_,hg.uY,hg.uA,hg.jh.then hC fun i hi=>hg.low i (List.mem_append_left _ hi)⟩
 ·rintro b hb c hc rfl
  rcases hs b hb with h | h
  ·exact de.2.2 b h b hc rfl
  ·exact absurd (hS.lt b hc) (Nat.not_lt.2 h)
 ·intro b hb hz
  rcases List.mem_append.1 hb with hb | hb
  ·rcases hs b hb with h | h
   ·exact hg.apart b (List.mem_append_left _ h) hz
   ·exact absurd (hg.nv b hz) (Nat.not_lt.2 h)
  ·exact hg.apart b (List.mem_append_right _ hb) hz
 ·intro b hb
  rcases List.mem_append.1 hb with hb | hb
  ·rcases hs b hb with h | h
   ·exact hg.low b (List.mem_append_left _ h)
   ·exact .inr (Nat.le_trans hg.jh.size h)
  ·exact hg.low b (List.mem_append_right _ hb)
theorem St.new (h:St B Γ w) {f':LN} (hC:aq [] w w') (ho:∀ Z,my Z w' f' e) (hn:f'.Nodup) (hs:∀ b∈f',w.heap.size≤b):St B (e :: Γ) w':=by
 obtain ⟨Z,F,hS,hg⟩:=h
 exact St.put (f:=[]) hS hg hC (ho Z) hn fun b hb=>.inr (hs b hb)
theorem Has.one {v:Value} (h:Has v Γ):∀ {cur F:LN},SA Z w Γ cur F→v.oneCell'=true:=by
 induction h with
 | @own α T x Γ=>rintro cur F ⟨f,F',_,h,_⟩; exact T.one h v (by simp)
 | @om α t E xs Γ=>rintro cur F ⟨f,F',_,⟨us,g,h,_⟩,_⟩; exact ah.one _ h v (by simp)
 | @rd o α T x Γ=>rintro cur F ⟨⟨g,h,_⟩,_⟩; exact T.one h v (by simp)
 | @there e Γ _ ih=>
  intro cur F hS
  cases e with
  | own T v x=>obtain ⟨f,F',h1,h2,h3⟩:=hS; exact ih h3
  | om e E v xs=>obtain ⟨f,F',h1,h2,h3⟩:=hS; exact ih h3
  | row b cs e=>obtain ⟨f,F',h1,h2,h3⟩:=hS; exact ih h3
  | gy e E v xs j u=>obtain ⟨f,F',h1,h2,h3⟩:=hS; exact ih h3
  | _=>exact ih hS.2
theorem One.one {v:Value} (h:One Γ v) (hS:SA Z w Γ cur F):v.oneCell'=true:=by
 cases h with
 | int=>rfl
 | bool=>rfl
 | ptr=>rfl
 | sl=>rfl
 | fn=>rfl
 | nf=>rfl
 | var h=>exact h.one hS
theorem wq.one {vs:LV} (h:wq Γ vs) (hS:SA Z w Γ cur F):∀ u∈vs,u.oneCell'=true:=by
 induction h with
 | nil=>intro u hu; cases hu
 | cons h _ ih=>intro u hu; rcases List.mem_cons.1 hu with rfl | hu; exact h.one hS; exact ih u hu
theorem tR.eq {v:Value} {cs:LV} (h:tR Γ v cs) (hS:SA Z w Γ cur F):v.cells.toList=cs:=by
 cases h with
 | agg=>rfl
 | one h=>rw [cells_one (h.one hS)]
theorem uO.eq {us cs ds:LV} {j:Nat} (h:uO us j cs ds):j+us.length≤cs.length∧ds=cs.take j++us++cs.drop (j+us.length):=by
 induction h with
 | nil=>simp
 | put _ ih=>obtain ⟨h1,h2⟩:=ih; refine ⟨by simp at h1 ⊢; omega,?_⟩; rw [h2]; simp
 | s _ ih=>
  obtain ⟨h1,h2⟩:=ih
  refine ⟨by simp; omega,?_⟩
  rw [h2]
  rename_i us cs ds j _
  rw [show j+1+us.length=(j+us.length)+1 by omega]
  simp
theorem vz.eq {j n:Nat} {cs ds:LV} (h:vz j n cs ds):ds.length=n∧(cs.drop j).take n=ds:=by
 induction h with
 | z=>simp
 | c _ ih=>obtain ⟨h1,h2⟩:=ih; simp at h2; simp [h1,h2]
 | s _ ih=>simpa using ih
theorem wu.sound {a:Addr} {n:Nat} {ds:LV} (h:wu Γ a n ds):∀ {cur F:LN},SA Z w Γ cur F→At w a ds∧ds.length=n:=by
 induction h with
 | row h=>
  rintro cur F ⟨f,F',h1,⟨_,h2⟩,_⟩
  obtain ⟨e1,e2⟩:=h.eq
  have:=At.sub h2.at (by rw [e1]; exact e2)
  rw [jk,Nat.zero_add] at this
  exact ⟨this,e1⟩
 | «at» h=>rintro cur F ⟨⟨h1,_⟩,_⟩; obtain ⟨e1,e2⟩:=h.eq; exact ⟨At.sub h1 (by rw [e1]; exact e2),e1⟩
 | Ng h=>rintro cur F ⟨⟨h1,_⟩,_⟩; obtain ⟨e1,e2⟩:=h.eq; exact ⟨At.sub (j:=0) h1 (by rw [e1]; exact e2),e1⟩
 | @there a n ds e Γ _ ih=>
  intro cur F hS
  cases e with
  | own T v x=>obtain ⟨f,F',h1,h2,h3⟩:=hS; exact ih h3
  | om e E v xs=>obtain ⟨f,F',h1,h2,h3⟩:=hS; exact ih h3
  | row b cs e=>obtain ⟨f,F',h1,h2,h3⟩:=hS; exact ih h3
  | gy e E v xs j u=>obtain ⟨f,F',h1,h2,h3⟩:=hS; exact ih h3
  | _=>exact ih hS.2
theorem vA.sound {v:Value} {n:Nat} (h:vA Γ v n):∀ {cur F:LN},SA Z w Γ cur F→∃ b c,v = .slice b n c:=by
 induction h with
 | lit=>intro _ _ _; exact ⟨_,_,rfl⟩
 | ln=>rintro cur F ⟨⟨g,⟨⟨a,c,hv⟩,_⟩,_⟩,_⟩; exact ⟨a,c,by simpa using hv⟩
 | rd h=>rintro cur F ⟨⟨g,h1,_⟩,_⟩; exact wy (h.le.le h1)
 | own h=>rintro cur F ⟨f,F',_,h1,_⟩; exact wy (h.le.le h1)
 | om=>rintro cur F ⟨f,F',_,h1,_⟩; obtain ⟨⟨g,h2,_⟩,_⟩:=LG h1; exact wy h2
 | @there v n e Γ _ ih=>
  intro cur F hS
  cases e with
  | own T v x=>obtain ⟨f,F',h1,h2,h3⟩:=hS; exact ih h3
  | om e E v xs=>obtain ⟨f,F',h1,h2,h3⟩:=hS; exact ih h3
  | row b cs e=>obtain ⟨f,F',h1,h2,h3⟩:=hS; exact ih h3
  | gy e E v xs j u=>obtain ⟨f,F',h1,h2,h3⟩:=hS; exact ih h3
  | _=>exact ih hS.2
theorem HI.sound {k:IntKind} {us:LV} {xs:List Int} (h:HI k us xs):∀ (hp:Array Obj),us.length=xs.length∧ed (aM k) hp us xs []:=by
 induction h with
 | nil=>intro h; exact ⟨rfl,rfl,rfl⟩
 | cons _ ih=>intro h; obtain ⟨e1,e2⟩:=ih h; exact ⟨by simp [e1],[_],_,[],[],rfl,rfl,⟨rfl,rfl⟩,e2⟩
theorem Dv.sound {α:Type} {E:ah α} {v:Value} {x:α} (h:Dv Γ E v x Γ') {F:LN} (hS:SA Z w Γ [] F):∃ f F',(f++F').Perm F∧E.rep w.heap [v] x f∧SA Z w Γ' [] F':=by
 cases h with
 | int=>exact ⟨[],F,.refl _,⟨rfl,rfl⟩,hS⟩
 | bool=>exact ⟨[],F,.refl _,⟨rfl,rfl⟩,hS⟩
 | own h=>obtain ⟨f,F1,hp,ho,er⟩:=h.sound hS; exact ⟨f,F1,hp,ho,er⟩
 | @lit b n us k xs e Γ1 _ h0 h1 hn hb=>
  obtain ⟨f0,F1,hp,⟨rfl,bm⟩,er⟩:=h0.sound hS
  obtain ⟨e1,e2⟩:=HI.sound h1 w.heap
  have HP:=Nat.le_of_ble_eq_true hb
  refine ⟨[b],F1,hp,⟨some ⟨b,0,none⟩,n,by rw [← hn,e1],.inr ⟨b,us.toArray,[],rfl,bm,rfl,by rw [← hn,e1]; exact Nat.le_refl _,Nat.le_trans HP (by decide),by rw [show (aM k).size=1 from rfl,Nat.mul_one]; simp [hn],?_⟩⟩,er⟩
  rw [show (aM k).size=1 from rfl,Nat.mul_one,List.toList_toArray,← e1,List.take_length]
  exact e2
theorem HJ.sound {α:Type} {E:ah α} {us:LV} {xs:List α} (h:HJ Γ E us xs Γ'):∀ {F:LN},SA Z w Γ [] F→us.length=xs.length∧∃ f F',(f++F').Perm F∧ed E w.heap us xs f∧SA Z w Γ' [] F':=by
 induction h with
 | nil=>intro F hS; exact ⟨rfl,[],F,.refl _,⟨rfl,rfl⟩,hS⟩
 | cons h _ ih=>
  intro F hS
  obtain ⟨f1,F1,p1,r1,S1⟩:=h.sound hS
  obtain ⟨e,f2,F2,p2,r2,S2⟩:=ih S1
  exact ⟨by simp [e],f1++f2,F2,(by rw [List.append_assoc]; exact (p2.append_left f1).trans p1),⟨[_],_,f1,f2,rfl,rfl,r1,r2⟩,S2⟩
theorem Nq.sound {κ υ:Type} {ek:κ→Value} {eu:υ→Value} {v:Value} {x:List (κ×υ)} (h:Nq ek eu Γ v x):∀ {cur F:LN},SA Z w Γ cur F→∃ f,(BR ek eu).rep w.heap [v] x f:=by
 induction h with
 | own=>rintro cur F ⟨f,F',_,h2,_⟩; exact ⟨f,h2⟩
 | @there v x e Γ h ih=>
  intro cur F hS
  cases e with
  | own T v x=>obtain ⟨f,F',h1,h2,h3⟩:=hS; exact ih h3
  | om e E v xs=>obtain ⟨f,F',h1,h2,h3⟩:=hS; exact ih h3
  | row b cs e=>obtain ⟨f,F',h1,h2,h3⟩:=hS; exact ih h3
  | gy e E v xs j u=>obtain ⟨f,F',h1,h2,h3⟩:=hS; exact ih h3
  | _=>exact ih hS.2
theorem Rg.sound {v:Value} {j:Int} (h:Rg v j Γ):∀ {cur F:LN},SA Z w Γ cur F→0≤j∧j.toNat < xA v:=by
 induction h with
 | ad=>rintro cur F ⟨⟨h1,h2,_⟩,_⟩; exact ⟨h1,h2⟩
 | @there e Γ _ ih=>
  intro cur F hS
  cases e with
  | own T v x=>obtain ⟨f,F',h1,h2,h3⟩:=hS; exact ih h3
  | om e E v xs=>obtain ⟨f,F',h1,h2,h3⟩:=hS; exact ih h3
  | row b cs e=>obtain ⟨f,F',h1,h2,h3⟩:=hS; exact ih h3
  | gy e E v xs j u=>obtain ⟨f,F',h1,h2,h3⟩:=hS; exact ih h3
  | _=>exact ih hS.2
theorem TU {pl:List (Nat×Nat)} {i:Nat} {p:Nat×Nat} (h:HE pl i=some p):pl[i]? = some p:=by
 induction pl generalizing i with
 | nil=>cases h
 | cons a l ih=>cases i with
  | zero=>simpa [HE] using h
  | succ n=>simpa using ih h
theorem HQ:∀ (us:LV) (off k:Nat) (cs:Array Value),off+k+us.length≤cs.size→
  ((us.zipIdx k).foldl (fun (cs:Array Value) (p:Value×Nat)=>cs.setIfInBounds (off+p.2) p.1) cs).toList=cs.toList.take (off+k)++us++cs.toList.drop (off+k+us.length):=by
 intro us
 induction us with
 | nil=>intro off k cs h; simp
 | cons u us ih=>
  intro off k cs h
  simp only [List.zipIdx_cons,List.foldl_cons]
  simp only [List.length_cons] at h
  rw [ih off (k+1) _ (by simp; omega)]
  rw [Array.toList_setIfInBounds,show off+(k+1)=(off+k)+1 by omega]
  have hs:cs.toList.length=cs.size:=Array.length_toList
  generalize hl:cs.toList=l at *
  generalize off+k=o at *
  obtain ⟨a,x,b,rfl,rfl⟩ : ∃ a x b,l=a++x :: b∧a.length=o:=⟨l.take o,l[o]'(by omega),l.drop (o+1),by rw [List.getElem_cons_drop,List.take_append_drop],by rw [List.length_take]; omega⟩
  have e1:(a++x :: b).set a.length u=a++u :: b:=by simp
  rw [e1,List.length_cons]
  have e2:(a++u :: b).take (a.length+1)=a++[u]:=by rw [List.take_append,List.take_of_length_le (by omega)]; simp
  have e3:(a++u :: b).drop (a.length+1+us.length)=b.drop us.length:=by rw [show a.length+1+us.length=a.length+(us.length+1) by omega,List.drop_append,List.drop_eq_nil_of_le (by omega)]; simp
  have e4:(a++x :: b).drop (a.length+(us.length+1))=b.drop us.length:=by rw [List.drop_append,List.drop_eq_nil_of_le (by omega)]; simp
  have e5:(a++x :: b).take a.length=a:=by simp
  rw [e2,e3,e4,e5]
  simp
theorem wx.fill {fr:Fr} {r:NV} (ha:db r fr) (hS:SA Z w Γ cur F) {k:Nat} {ps:List (Nat×Operand)} {us:LV} (h:wx Γ fr k ps us) :
  ∀ pre u6:List Value,pre.length=k→u6.length=us.length→Instr.fill (fun i=>some (i * 1,1)) (pre++u6).toArray (ps.map fun x=>(x.1,ev r x.2))=some (pre++us).toArray:=by
 induction h with
 | nil=>
  intro pre u6 _ h2
  obtain rfl:u6=[]:=List.eq_nil_of_length_eq_zero h2
  rfl
 | @cons k x u ps us hx ho _ ih=>
  intro pre u6 h1 h2
  cases u6 with
  | nil=>cases h2
  | cons y u6=>
   have hc:=cells_one (ho.one hS)
   rw [List.map_cons,aY ha hx]
   unfold Instr.fill
   simp only [hc]
   rw [if_neg (by simp; omega)]
   have:=ih (pre++[u]) u6 (by simp [h1]) (by simpa using h2)
   have e:(Array.foldl (fun cs (x:Value×Nat)=>cs.setIfInBounds (k * 1+x.2) x.1) (pre++y :: u6).toArray (#[u].zipIdx))=((pre++[u])++u6).toArray:=by
    subst h1
    simp
   first
    | (rw [e,this]; simp)
    | (simp only [e] at *; simp [this])
theorem wx.op {P:Program} {fr:Fr} {r:NV} {w':World} {t e n:Nat} {ps:List (Nat×Operand)} {us:LV} {d:Option Nat} {ty:TI} {pos:String} {af:Array Edge} {g:Option (Nat×Bool)} (hl:wx Γ fr 0 ps us) (ha:db r fr) (hS:SA Z w Γ cur F) (hz:KK P t e) (hn:us.length=n) (hb:(Nat.ble 1 n && Nat.ble n 16777216)=true) :
  (execOp (ev r) ⟨d,.buildSlice t n ps.toArray,ty,pos,af,g⟩).run P w' = .ok (.value (.slice (some ⟨w'.heap.size,0,none⟩) n n)) (w'.alloc (.cells us.toArray e)):=by
 obtain ⟨h1,i,z,h2,h3,h4⟩:=hz.h
 rw [Bool.and_eq_true] at hb
 have b1:=Nat.le_of_ble_eq_true hb.1
 have b2:=Nat.le_of_ble_eq_true hb.2
 refine Nu h1 h2 h3 h4 b1 b2 ?_
 have:=hl.fill ha hS [] ((Array.range (n * 1)).map (z.cells[· % z.cells.size]!)).toList rfl (by simp [hn])
 rw [List.nil_append,List.nil_append,Array.toArray_toList] at this
 rw [show (ps.toArray.map fun (x:Nat×Operand)=>(x.1,ev r x.2)).toList=ps.map fun x=>(x.1,ev r x.2) by simp]
 exact this
theorem xW.fill {n:Nat} {fr:Fr} {r:NV} (ha:db r fr) (hS:SA Z w Γ cur F) {k:Nat} {ps:List (Nat×Operand)} {us:LV} (h:xW Γ fr n k ps us) :
  us.length=ps.length * n∧∀ pre u6:List Value,pre.length=k * n→u6.length=us.length→Instr.fill (fun i=>some (i * n,n)) (pre++u6).toArray (ps.map fun x=>(x.1,ev r x.2))=some (pre++us).toArray:=by
 induction h with
 | nil=>
  refine ⟨by simp,fun pre u6 _ h2=>?_⟩
  obtain rfl:u6=[]:=List.eq_nil_of_length_eq_zero h2
  rfl
 | @cons k x v cs us ws ps hx hc hl _ PS ih=>
  obtain ⟨e0,ih⟩:=ih
  have PS:=PS.eq
  subst PS
  refine ⟨by rw [List.length_append,hl,e0,List.length_cons,Nat.succ_mul,Nat.add_comm],fun pre u6 h1 h2=>?_⟩
  rw [List.length_append] at h2
  have hv:=hc.eq hS
  have s7:v.cells=cs.toArray:=by rw [← hv]
  rw [List.map_cons,aY ha hx]
  unfold Instr.fill
  simp only [s7]
  rw [if_neg (by simp; omega)]
  have hsf:=HQ cs (k * n) 0 (pre++u6).toArray (by simp; omega)
  have:=ih (pre++cs) (u6.drop n) (by rw [List.length_append,h1,hl,Nat.succ_mul]) (by rw [List.length_drop]; omega)
  have e:(cs.toArray.zipIdx.foldl (fun (cs:Array Value) (x:Value×Nat)=>cs.setIfInBounds (k * n+x.2) x.1) (pre++u6).toArray)=((pre++cs)++u6.drop n).toArray:=by
   apply Array.toList_inj.1
   rw [← Array.foldl_toList]
   simp only [Array.toList_zipIdx]
   rw [hsf,← h1]
   simp only [Nat.add_zero,List.take_left',List.drop_append,List.append_assoc]
   rw [List.drop_eq_nil_of_le (by omega),show pre.length+cs.length - pre.length=n by omega]
   simp
  refine Eq.trans ?_ (this.trans (by simp))
  congr 1
theorem xW.op {P:Program} {fr:Fr} {r:NV} {w':World} {t e n k:Nat} {ps:List (Nat×Operand)} {us:LV} {d:Option Nat} {ty:TI} {pos:String} {af:Array Edge} {g:Option (Nat×Bool)} (hl:xW Γ fr k 0 ps us) (ha:db r fr) (hS:SA Z w Γ cur F) (hz:HG P t e k) (hn:ps.length=n) (hb:(Nat.ble 1 n && Nat.ble (n * k) 16777216)=true) :
  (execOp (ev r) ⟨d,.buildSlice t n ps.toArray,ty,pos,af,g⟩).run P w' = .ok (.value (.slice (some ⟨w'.heap.size,0,none⟩) n n)) (w'.alloc (.cells us.toArray e)):=by
 obtain ⟨h1,i,z,h2,h3,h4,h5⟩:=hz.h
 rw [Bool.and_eq_true] at hb
 have b1:=Nat.le_of_ble_eq_true hb.1
 have b2:=Nat.le_of_ble_eq_true hb.2
 obtain ⟨e1,hf⟩:=hl.fill ha hS
 have:=hf [] ((Array.range (n * k)).map (z.cells[· % z.cells.size]!)).toList (by simp) (by simp [e1,hn])
 rw [List.nil_append,List.nil_append,Array.toArray_toList] at this
 have ab0:0 < n * k:=Nat.mul_pos b1 h5
 have h:=run_buildSlice (P:=P) w' t e n (ps.toArray.map fun (x:Nat×Operand)=>(x.1,ev r x.2)) us.toArray i z h1 h2 h3 (by rw [h4]; omega) (by rw [h4]; omega) (by rw [h4]; simpa using this)
 simp only [execOp]
 simp at h
 simp [h]
theorem xV.fill {fr:Fr} {r:NV} {pl:List (Nat×Nat)} {ps:List (Nat×Operand)} {cs es:LV} (h:xV Γ fr pl ps cs es) (ha:db r fr) (hS:SA Z w Γ cur F) :
  Instr.fill (fun i=>pl.toArray[i]?) cs.toArray (ps.map fun x=>(x.1,ev r x.2))=some es.toArray:=by
 induction h with
 | nil=>rfl
 | @cons i off k x v us cs ds es ps hp hx hc hl hs _ ih=>
  rw [List.map_cons,aY ha hx]
  have hv:=hc.eq hS
  have u7:pl.toArray[i]? = some (off,k):=by rw [List.getElem?_toArray]; exact TU hp
  obtain ⟨e1,e2⟩:=hs.eq
  have uH:v.cells.size=us.length:=by rw [← hv]; simp
  unfold Instr.fill
  simp only [u7]
  rw [if_neg (by simp [uH,hl]; omega)]
  have s7:v.cells=us.toArray:=by rw [← hv]
  have:=HQ us off 0 cs.toArray (by simpa using e1)
  rw [s7]
  have h2:(us.toArray.zipIdx.foldl (fun (cs:Array Value) (x:Value×Nat)=>cs.setIfInBounds (off+x.2) x.1) cs.toArray)=ds.toArray:=by
   apply Array.toList_inj.1
   rw [← Array.foldl_toList]
   simp only [Array.toList_zipIdx] 
   rw [this,e2]; simp
  refine Eq.trans ?_ ih
  congr 1
theorem tS {α:Type} {E:ah α} {t:TI} {v:Value} {xs:List α} {f:LN} (h:(aJ t E).rep w.heap [v] xs f):xA v=xs.length:=by
 obtain ⟨base,cap,hv,_⟩:=h
 obtain rfl:v = .slice base xs.length cap:=by simpa using hv
 rfl
theorem zS.sound {fr:Fr} {r:NV} (ha:db r fr) {fn:Func} {rs:List ResultVar} {vs:LV} (hr:fn.results=rs.toArray) (h:zS P fr Γ rs vs) {n:Nat} (hs:SA Z w Γ [] F) :
  ∀ a:Act,a.tmps.size=n→cy a=r→(results fn a.tmps).run P w = .ok (pj vs) w:=by
 rintro a - rfl
 have key:∀ {rs:List ResultVar} {vs:LV},zS P fr Γ rs vs→Sem.run P (rs.mapM fun | .tmp t=>pure (a.tmps.getD t undef) | .cell b t=>do loadVar t (← asAddr (a.tmps.getD b undef))) w = .ok vs w:=by
  intro rs vs h
  induction h with
  | nil=>rfl
  | @tmp t v l vs h _ ih=>
   rw [List.mapM_cons]
   have:=ha _ _ h
   simp only [cy] at this
   simp only [Sem.run_bind,this,ih,Sem.run_pure,Result.andThen_ok]
  | @cell t n ty p ds vs l hk h hw _ ih=>
   rw [List.mapM_cons]
   have:=ha _ _ h
   simp only [cy] at this
   obtain ⟨dd,i,k1,k2,k3,k4⟩:=hk.h
   obtain ⟨hc,hl⟩:=hw.sound hs
   have h3:=run_loadCells_list (P:=P) (w:=w) p ds hc
   rw [hl,← k4] at h3
   have h4:Sem.run P (do loadVar ty (← asAddr (a.tmps.getD t undef))) w = .ok (.agg ds.toArray) w:=by
    rw [this]
    simp [asAddr,loadVar,yp k1,k2,sizeOf,typeInfo,k3,h3]
   simp only [Sem.run_bind] at h4 ih ⊢
   rw [h4]
   simp only [ih,Sem.run_pure,Result.andThen_ok]
 have h2:=key h
 unfold results
 rw [hr,Sem.run_bind,List.mapM_toArray,← bind_pure_comp,Sem.run_bind]
 generalize hm:Sem.run P (List.mapM _ rs) w=z
 obtain rfl:z = .ok vs w:=hm.symm.trans h2
 simp only [Result.andThen_ok,Sem.run_pure]
 have e:∀ vs:List Value,(if h:vs.toArray.size=1 then vs.toArray[0] else Value.tuple vs.toArray)=pj vs:=by
  intro vs
  match vs with
  | []=>rfl
  | [v]=>rfl
  | a :: b :: l=>rw [dif_neg (by simp)]; rfl
 rw [e]
end
end Go.Dk
namespace Go.Dk
open Go Go.Li
section
variable {B:Bs} {P:Program} {R:Type} {cx:Cx R}
theorem Zv {C:World→Prop} {ops:LO} {K:(Nat→Value)→World→Prop}:∀ (l':LO) (r:NV) (w:World),C w→QL P C ops l' r (fun r'=>∀ w',C w'→K r' w')→WL P ops l' r w K:=by
 intro l'
 induction l' with
 | nil=>intro r w hw hh; exact hh w hw
 | cons o l' ih=>
  intro r w hw hh
  rcases hh with ⟨HR,v,hv,hh⟩ | ⟨HR,hh⟩
  ·refine .inl ⟨HR,?_⟩
   have h3:=hv w hw
   unfold gf
   generalize (execOp (ev r) o).run P w=x at h3
   cases x with
   | halt y w'=>exact h3.elim
   | ok y w'=>
    cases y <;> simp only [Oper.quietUpon] at h3
    case value u=>obtain ⟨rfl,rfl⟩:=h3; exact ih _ _ hw hh
    case skip=>obtain ⟨rfl,rfl⟩:=h3; exact ih _ _ hw hh
    case enter f args=>
     obtain ⟨rfl,h3⟩:=h3
     exact h3.mono fun e Gu ⟨he,PT⟩=>⟨v,he,ih _ _ PT hh⟩
  ·exact .inr ⟨HR,ih _ _ hw hh⟩
theorem PU {n id:Nat} {draw:Bool} {ops:LO} {Q:Exit→(Nat→Value)→World→Prop} {r:NV} {w:World} (hd:dj n ops=true) (hm:draw=true→P.follows .mixedOrders=true∧Region.lexB .any ops.toArray=true)
  (h:QL P (aq [] w) ops ops r fun r'=>∀ w',aq [] w w'→Q .normal r' w'):W P n (.region id ops.toArray draw) Q r w:=by
 cases draw with
 | true=>exact TV (hm rfl).1 hd (fun _=>(hm rfl).2) (aq.refl _ _) (aq.drew _ _) h
 | false=>exact AW hd (Zv _ _ _ (aq.refl _ _) h)
theorem Calls.Hn {f:FuncId} {fn:Func} {c:Code} {xs:List Operand} {ay:Array TypeId} {r:NV} {w:World} {d:Option Nat} {ty:TI} {pos:String} {af:Array Edge} {g:Option (Nat×Bool)} {K:Value→World→Prop}
  (hf : P.funcs[f]? = some fn) (hb : fn.body = some c) (hn : (fn.name == "runtime.NumGoroutine") = false)
  (h:Calls P f (xs.map (ev r)).toArray w fun e w'=>∃ v,e = .returned v∧K v w'):gf P ⟨d,.call ⟨.value (.func f),xs.toArray,ay⟩,ty,pos,af,g⟩ r w K:=by
 unfold gf
 rw [DP hf hb hn]
 exact h
theorem wz {Z:Nat→Prop} {w:World}:∀ {Δ:QE},(∀ e∈Δ,fact Z w [] e)→HL Z w Δ []:=by
 intro Δ
 induction Δ with
 | nil=>intro _; exact .nil
 | cons e Δ ih=>intro h; exact .fact (h e (by simp)) (ih fun e he=>h e (by simp [he]))
theorem yq {Z Z2:Nat→Prop} {w:World}:∀ {Δ:QE} {F:LN},s6 Δ=true→HL Z2 w Δ F→HL Z w Δ F:=by
 intro Δ
 induction Δ with
 | nil=>intro F _ h; cases h; exact .nil
 | cons e Δ ih=>
  intro F ho h
  cases e with
  | own T v x=>cases h with
   | own h k=>exact .own h (ih ho k)
   | fact h k=>exact h.elim
  | row b cs e=>cases h with
   | own h k=>exact .own h (ih ho k)
   | fact h k=>exact h.elim
  | _=>cases ho
theorem Gv {f:FuncId} {ow:Bool} {vs:LV} {Δ Γ1:QE} {β V:Type} {mo:Option β} {rt:β→V→List Value} {ps:β→V→List aX} {w:World} {Z Z':Nat→Prop} {Fd F1:LN} {y:β} (hc:Sp P f ow vs Δ β V mo rt ps) (hl:HL Z' w Δ Fd) (a2:SA Z w Γ1 [] F1) (ji:Gd B Z (Fd++F1) w)
  (hz:∀ b,Z b→Z' b) (HS:∀ b,Z' b→Z b∨b∈F1) (hm:(∀ v,s6 (ps y v)=true)∨∀ b,Z' b→Z b) (hy:mo=some y) :
  Calls P f vs.toArray w fun e w'=>∃ v,e = .returned (pj (rt y v))∧St B ((ps y v).reverse++Γ1) w':=by
 have de:=List.nodup_append.1 ji.nd
 refine (hc.2 w Z' Fd hl de.1 (fun b hb VB=>(HS b VB).elim (ji.apart b (List.mem_append_left _ hb)) (fun h=>de.2.2 b hb b h rfl)) (fun b hb=>(HS b hb).elim (ji.nv b) (a2.lt b)) y hy).mono ?_
 rintro e w' ⟨v,he,Z2,F2,qg,jo⟩
 refine ⟨v,he,?_⟩
 have hC:aq Fd w w':=jo.jh
 have hF1:SA Z w' Γ1 [] F1:=a2.ep hC (fun b hb=>ji.apart b (List.mem_append_left _ hb)) (fun b _=>List.not_mem_nil) (fun b hb hm=>de.2.2 b hb b hm rfl)
 have fin:∀ Z3:Nat→Prop,HL Z3 w' (ps y v) F2→(∀ b,Z b→Z3 b)→(∀ b,Z3 b→Z b∨b∈Fd∨w.heap.size≤b)→(∀ b∈F2,¬ Z3 b)→(∀ b,Z3 b→b < w'.heap.size)→St B ((ps y v).reverse++Γ1) w':=by
  intro Z3 Eo h31 h32 h33 h34
  obtain ⟨F3,b1,b2⟩:=Eo.build (hF1.mono h31 fun _ h=>h)
  refine St.of b2 (F':=F2++F1) ?_ b1
  refine ⟨List.nodup_append.2 ⟨jo.nd,de.2.1,?_⟩,?_,h34,?_,fun b hb=>h31 b (ji.uY b hb),?_,?_⟩
  ·rintro b hb c B8 rfl
   rcases jo.low b hb with h | h
   ·exact de.2.2 b h b B8 rfl
   ·exact absurd (a2.lt b B8) (Nat.not_lt.2 h)
  ·intro b hb hz
   rcases List.mem_append.1 hb with hb | hb
   ·exact h33 b hb hz
   ·rcases h32 b hz with h | h | h
    ·exact ji.apart b (List.mem_append_right _ hb) h
    ·exact de.2.2 b h b hb rfl
    ·exact absurd (a2.lt b hb) (Nat.not_lt.2 h)
  ·intro b hb
   rcases List.mem_append.1 hb with hb | hb
   ·rcases jo.low b hb with h | h
    ·exact ji.low b (List.mem_append_left _ h)
    ·exact .inr (Nat.le_trans ji.jh.size h)
   ·exact ji.low b (List.mem_append_right _ hb)
  ·intro b hb
   rcases h32 b hb with h | h | h
   ·exact ji.uA b h
   ·exact .inr (ji.low b (List.mem_append_left _ h))
   ·exact .inr (.inr (Nat.le_trans ji.jh.size h))
  ·exact ji.jh.then hC fun i hi=>ji.low i (List.mem_append_left _ hi)
 rcases hm with hm | hm
 ·exact fin Z (yq (hm v) qg) (fun _ h=>h) (fun _ h=>.inl h) (fun b hb h=>jo.apart b hb (jo.uY b (hz b h))) (fun b hb=>Nat.lt_of_lt_of_le (ji.nv b hb) hC.size)
 ·exact fin Z2 qg (fun b h=>jo.uY b (hz b h)) (fun b h=>(jo.uA b h).imp (hm b) id) jo.apart jo.nv
theorem Nv {M α:Type} {rk:RK R M} {oo:M} {E E':ah α} {t:TI} {x y:OO} {i:TypeInfo} {Γ Γ1 Γx:QE} {w:World} {r:NV} {v v' u:Value} {j j':Int} {e e':TI} {zs:List α} {xs:List (List α)} {z:α} {o1 o2:Bool} {all l:LO} {ty:TI} {pos:String} {af:Array Edge} {g:Option (Nat×Bool)}
  (hE:∀ {h cs x f},E.rep h cs x f→f=[]) (h1:E.size=1) (hi:P.info? t=some i) (hs:i.size=1) (hS:St B Γ w) (hl:Loc Γ v (.row v' j')) (h0:Rg v j Γ) (hf:qu Γ v o1 o2 E' zs uF Γx) (hr:RT E E') (h2:dp Γ (.own (aJ e (aJ e' E)) v' xs) Γ1)
  (hx:ev r x = .pointer (some (di v 1 j))) (hy:ev r y=u) (hu:E.rep w.heap [u] z [])
  (k:∀ w',St B (.own (aJ e (aJ e' E)) v' (xs.set j'.toNat (zs.set j.toNat z)) :: Γ1) w'→WL P all l (fv r none undef) w' (C0 P cx B rk oo)):tP P cx B false ⟨none,.store t x y,ty,pos,af,g⟩ all l rk oo r w:=by
 obtain ⟨Z,F,hS,hg⟩:=hS
 obtain ⟨j0,j1,hc⟩:=Loc.row hl rfl hS
 obtain ⟨r0,r1⟩:=h0.sound hS
 obtain ⟨ee,_,⟨⟨gg,VC,_⟩,_⟩,_⟩:=hf.sound hS
 obtain ⟨f,F1,hp,hO,er⟩:=h2.sound hS
 have jj:=hg.perm hp
 have de:=List.nodup_append.1 jj.nd
 have hlen:xA v'=xs.length:=tS hO
 rw [hlen] at j1
 obtain ⟨k0,g0,a1,a2,a3⟩:=Kw rfl hO (List.getElem?_eq_getElem j1) hc
 have hro:RT (aJ e' E) (bL E'):=.own hr
 have hz:xs[j'.toNat]=zs:=hro.v8 (hro.le.le a1) VC
 rw [hz] at a1
 have qg:xA v=zs.length:=tS a1
 rw [qg] at r1
 have HT:=List.nodup_append.1 (a2.nodup_iff.2 de.1)
 refine fi (WL.C1 (E:=E) k0 w.heap.size hE h1 hi hs ⟨a1,HT.1,fun b hb=>.inl hb⟩ (List.getElem?_eq_getElem r1) hx hy hu fun w' hC qx=>k w' ?_)
 have hkf:∀ b∈k0,b∈f:=fun b hb=>a2.mem_iff.1 (List.mem_append_left _ hb)
 obtain ⟨f',b1,b2⟩:=a3.2 w'.heap (fun b hb=>hC.block b (a3.1 b hb) fun hm=>HT.2.2 b hm b hb rfl) _ k0 qx.1
 have hpf:f'.Perm f:=b1.trans (List.perm_append_comm.trans a2)
 exact St.put er jj (hC.mono hkf) b2 (hpf.nodup_iff.2 de.1) fun b hb=>.inl (hpf.mem_iff.1 hb)
theorem D.sound {J:Jd R} (h:D P cx J):mb P cx J:=by
 induction h with
 | pf _ ih=>simpa [mb] using ih
 | pe _ ih=>simpa [mb] using ih
 | pz _ ih=>simpa [mb] using ih
 | @csp A B' y k _ _ VD HU=>
  obtain ⟨a,z⟩:=y
  cases a with
  | none=>exact VD z
  | some a=>exact HU a z
 | @cso A y k _ _ VD HU=>
  cases y with
  | none=>exact VD
  | some a=>exact HU a
 | csd _ ih=>exact ih
 | tp1 _ ih=>exact ih
 | tp0 _ ih=>exact ih
 | tp2 _ ih=>exact ih
 | Zs=>exact fun B o ho=>nomatch ho
 | seq _ ih=>exact fun B o ho r w ha hs=>Zw (ih B o ho r w ha hs)
 | skip _ ih=>exact fun B o ho r w ha hs=>VE (ih B o ho r w ha hs)
 | exit _ ih=>exact fun B o ho r w ha hs=>VF (ih B o ho r w ha hs)
 | cond hb _ ih=>exact fun B o ho r w ha hs=>Nw (ha _ _ hb) (ih B o ho r w ha hs).1 (ih B o ho r w ha hs).2
 | cdt _ ih=>exact fun B o ho r w ha hs=>⟨fun _=>ih B o ho r w ha hs,fun h=>nomatch h⟩
 | cdf _ ih=>exact fun B o ho r w ha hs=>⟨(fun h=>nomatch h),fun _=>ih B o ho r w ha hs⟩
 | cds _ _ HU VG=>exact fun B o ho r w ha hs=>⟨fun h=>HU B o (by rw [h] at ho; exact ho) r w ha hs,fun h=>VG B o (by rw [h] at ho; exact ho) r w ha hs⟩
 | ret hr _ h h1=>
  intro B o ho r w ha hs
  cases ho
  refine Zx (w6 ?_)
  obtain ⟨Z,F,hS,hg⟩:=hs
  refine ⟨_,h.sound ha hr hS,?_⟩
  exact ⟨_,rfl,St.leave ⟨Z,F,hS,hg⟩ h1⟩
 | block _ ih=>exact fun B o ho r w ha hs=>ih B o ho r w ha hs
 | bkf _ ih=>exact fun B o ho r w ha hs=>KN (ih B o ho r w ha hs)
 | bks h=>rw [ma] at h; exact h
 | draw _ ih=>exact fun B o ho r w ha hs=>ih B o ho r w ha hs
 | drs h=>rw [ma] at h; exact h
 | inj h=>rw [ma] at h; exact h
 | region hd _ ih=>exact fun B o ho r w ha hs=>ih hd (fun h=>nomatch h) B o ho r w ha hs _
 | rgf _ ih=>exact fun hd _ B o ho r w ha hs id=>AW hd (ih B o ho r w ha hs)
 | rgq _ ih=>exact fun hd hm B o ho r w ha hs id=>PU hd hm (ih B o ho r w ha hs)
 | rgt _ ih=>exact fun hd _=>ih hd
 | rwu _ ih=>exact fun hd B o ho r w ha hs id=>AW hd (ih B o ho r w ha hs)
 | rwf ht _ _ _ ih Ep=>
  intro hd B o ho r w ha hs id
  obtain ⟨g,hg,ho⟩:=bind_some ho
  refine PU hd (fun h=>nomatch h) (QL.meet _ (ih B g hg r w ha hs) ?_)
  intro r' fl w' hC
  obtain ⟨h1,h2⟩:=fl w' hC
  refine Ep g B o ho r' w' ?_ (hs.ij hC)
  intro s u hl
  unfold look at hl
  cases hb:Nat.beq s _ with
  | true=>rw [hb] at hl; cases hl; rw [Nat.eq_of_beq_eq_true hb]; exact h1
  | false=>rw [hb] at hl; exact h2 s u hl
 | @osl S q _ K Γ fr m _ ih=>
  intro B o ho r w ha hs
  cases q with
  | false=>exact ih B o ho r w ha hs
  | true=>exact fun w' hC=>ih B o ho r w' ha (hs.ij hC)
 | @ohl S q all tail K Γ fr m _ ih=>
  intro B o ho r w ha hs
  cases q with
  | false=>exact ih B o ho r w ha hs
  | true=>exact fun w' hC=>ih B o ho r w' ha (hs.ij hC)
 | tgn _ ih=>exact ih
 | tgg ht _ _ _ ih Ep=>
  intro B o ho r w ha hs
  obtain ⟨g,hg,ho⟩:=bind_some ho
  refine QL.meet _ (ih B g hg r w ha hs) ?_
  intro r' fl w' hC
  obtain ⟨h1,h2⟩:=fl w' hC
  refine Ep g B o ho r' w' ?_ (hs.ij hC)
  intro s u hl
  unfold look at hl
  cases hb:Nat.beq s _ with
  | true=>rw [hb] at hl; cases hl; rw [Nat.eq_of_beq_eq_true hb]; exact h1
  | false=>rw [hb] at hl; exact h2 s u hl
 | rgg ht _ _ _ ih Ep=>
  intro hd hm B o ho r w ha hs id
  obtain ⟨g,hg,ho⟩:=bind_some ho
  refine PU hd hm (QL.meet _ (ih B g hg r w ha hs) ?_)
  intro r' fl w' hC
  obtain ⟨h1,h2⟩:=fl w' hC
  refine Ep g B o ho r' w' ?_ (hs.ij hC)
  intro s u hl
  unfold look at hl
  cases hb:Nat.beq s _ with
  | true=>rw [hb] at hl; cases hl; rw [Nat.eq_of_beq_eq_true hb]; exact h1
  | false=>rw [hb] at hl; exact h2 s u hl
 | abW hr _ h h1=>
  intro B o ho r w ha hs
  cases ho
  obtain ⟨Z,F,hS,hg⟩:=hs
  exact ⟨_,h.sound ha hr hS,⟨_,rfl,St.leave ⟨Z,F,hS,hg⟩ h1⟩⟩
 | abS _ ih=>exact fun B o ho r w ha hs=>ih B o ho r w ha hs
 | abT _ ih=>exact fun B o ho r w ha hs=>ih B o ho r w ha hs
 | @Zu S V k Δ φ Γ2 Γ Γ1 Γ3 f2 fr s v _ ha hf h0 hw h1 h2=>
  intro B o ho r w pr hs
  cases ho
  exact ⟨v,qp (ha.all pr) (hf.sound pr),hs.again h0 hw h1 h2⟩
 | @Zt S V k Δ φ Γ2 Γ Γ1 Γ3 f2 fr s v _ ha hf h0 hw h1 h2=>
  intro B o ho r w pr hs
  cases ho
  refine ⟨rfl,?_⟩
  show (bif Nat.beq k k then _ else False)
  rw [show Nat.beq k k=true from Nat.beq_refl k]
  exact ⟨v,qp (ha.all pr) (hf.sound pr),hs.again h0 hw h1 h2⟩
 | abU _ ih=>exact fun B o ho r w ha hs=>ih B o ho r w ha hs
 | @abV S gh kb k j Γ fr m _ ih=>
  intro B o ho r w ha hs
  have:=ih B o ho r w ha hs
  show (bif Nat.beq k j then _ else _)
  cases hb:Nat.beq k j with
  | true=>rw [hb] at this; exact this
  | false=>rw [hb] at this; exact this
 | xbt _ ih=>exact fun B o ho r w ha hs=>ih B o ho r w ha hs
 | xbf _ ih=>exact fun B o ho r w ha hs=>ih B o ho r w ha hs
 | @abR S q _ K Γ fr m _ ih=>
  intro B o ho r w ha hs
  cases q with
  | false=>exact ih B o ho r w ha hs
  | true=>exact fun w' hC=>ih B o ho r w' ha (hs.ij hC)
 | @ogd q _ t f0 fr Γ b h k=>
  intro B o ho r w ha hs
  cases ho
  cases q with
  | false=>exact ⟨ha _ _ h,k.sound ha⟩
  | true=>exact fun w' hC=>⟨ha _ _ h,k.sound ha⟩
 | plain _ ih=>exact fun B o ho r w ha hs=>DL (td rfl) (ih B o ho r w ha hs _ _ _)
 | grd hj hv _ ih=>exact fun B o ho r w ha hs=>ih hj hv B o ho r w ha hs _ _
 | gtt _ ih=>exact fun hj hv B o ho r w ha hs pos af=>DL ((zk rfl hj (ha _ _ hv)).trans rfl) (ih B o ho r w ha hs _ _ _)
 | gff _ ih=>exact fun hj hv B o ho r w ha hs pos af=>DL ((zk rfl hj (ha _ _ hv)).trans rfl) (ih B o ho r w ha hs _ _ _)
 | gtf _ ih=>exact fun hj hv B o ho r w ha hs pos af=>DM ((zk rfl hj (ha _ _ hv)).trans rfl) (ih B o ho _ w (ba ha) hs)
 | gft _ ih=>exact fun hj hv B o ho r w ha hs pos af=>DM ((zk rfl hj (ha _ _ hv)).trans rfl) (ih B o ho _ w (ba ha) hs)
 | gun _ ih=>exact fun hj hv B o ho r w ha hs pos af=>DM (HD rfl hj (ha _ _ hv)) (ih B o ho _ w (ba ha) hs)
 | @gsp M q b tt d op ty j t all l rk Γ fr m1 m2 _ _ HU VG=>
  intro hj hv B o ho r w ha hs pos af
  have key:∀ c:Bool,b=c→db r ((t,.bool c) :: fr)∧look ((t,Value.bool c) :: fr) t=some (.bool c):=by
   intro c hc
   refine ⟨?_,by unfold look; rw [show Nat.beq t t=true from Nat.beq_refl t]; rfl⟩
   intro s u hl
   unfold look at hl
   cases hb:Nat.beq s t with
   | true=>rw [hb] at hl; cases hl; rw [Nat.eq_of_beq_eq_true hb,← hc]; exact ha _ _ hv
   | false=>rw [hb] at hl; exact ha s u hl
  cases b with
  | true=>exact HU hj (key true rfl).2 B o ho r w (key true rfl).1 hs pos af
  | false=>exact VG hj (key false rfl).2 B o ho r w (key false rfl).1 hs pos af
 | mv hx _ ih=>exact fun B o ho r w ha hs pos af g=>da (Mv _ (aY ha hx)) (ih B o ho _ w (ba ha) hs)
 | as hx _ ih=>exact fun B o ho r w ha hs pos af g=>da (Av _ (aY ha hx)) (ih B o ho _ w (ba ha) hs)
 | add hx hy _ ih=>exact fun B o ho r w ha hs pos af g=>da (Ba (aY ha hx) (aY ha hy)) (ih B o ho _ w (ba ha) hs)
 | sub hx hy _ ih=>exact fun B o ho r w ha hs pos af g=>da (Go.Li.Bs (aY ha hx) (aY ha hy)) (ih B o ho _ w (ba ha) hs)
 | mul hx hy _ ih=>exact fun B o ho r w ha hs pos af g=>da (Bm (aY ha hx) (aY ha hy)) (ih B o ho _ w (ba ha) hs)
 | lss hx hy _ ih=>exact fun B o ho r w ha hs pos af g=>da (Bl (aY ha hx) (aY ha hy)) (ih B o ho _ w (ba ha) hs)
 | leq hx hy _ ih=>exact fun B o ho r w ha hs pos af g=>da (Bk (aY ha hx) (aY ha hy)) (ih B o ho _ w (ba ha) hs)
 | gtr hx hy _ ih=>exact fun B o ho r w ha hs pos af g=>da (Bg (aY ha hx) (aY ha hy)) (ih B o ho _ w (ba ha) hs)
 | geq hx hy _ ih=>exact fun B o ho r w ha hs pos af g=>da (Bh (aY ha hx) (aY ha hy)) (ih B o ho _ w (ba ha) hs)
 | eql hx hy hb _ ih=>
  intro B o ho r w ha hs pos af g
  refine da ?_ (ih B o ho _ w (ba ha) hs)
  cases hb with
  | int=>exact Be (aY ha hx) (aY ha hy)
  | @bool a b h=>exact fun _ _=>TW (aY ha hx) (aY ha hy) h.h
  | @PN a h=>exact ab1 h.h (aY ha hx) (aY ha hy)
  | @PO h=>exact ab2 h.h (aY ha hx) (aY ha hy)
  | @s2 k0 k1 a b c e h=>
   obtain ⟨f0,f1,h1,h2,h3,h4,h5,h6,h7,h8,h9⟩:=h.h
   exact fun _ _=>PV h1 h2 h3 h4 h5 h6 h7 h8 h9 (aY ha hx) (aY ha hy)
 | neq hx hy hb _ ih=>
  intro B o ho r w ha hs pos af g
  refine da ?_ (ih B o ho _ w (ba ha) hs)
  cases hb with
  | int=>exact Bn (aY ha hx) (aY ha hy)
  | @bool a b h=>exact fun _ _=>PW (aY ha hx) (aY ha hy) h.h
  | @PN a h=>exact ab3 h.h (aY ha hx) (aY ha hy)
  | @PO h=>exact ab4 h.h (aY ha hx) (aY ha hy)
  | @s2 k0 k1 a b c e h=>
   obtain ⟨f0,f1,h1,h2,h3,h4,h5,h6,h7,h8,h9⟩:=h.h
   exact fun _ _=>PX h1 h2 h3 h4 h5 h6 h7 h8 h9 (aY ha hx) (aY ha hy)
 | not hx _ ih=>exact fun B o ho r w ha hs pos af g=>da (Nt (aY ha hx)) (ih B o ho _ w (ba ha) hs)
 | PQ hx _ ih=>exact fun B o ho r w ha hs pos af g=>da (Nk (aY ha hx)) (ih B o ho _ w (ba ha) hs)
 | @pick M q d c x y ty b v all l rk Γ fr m hc hx _ ih=>
  intro B o ho r w ha hs pos af g
  refine da ?_ (ih B o ho _ w (ba ha) hs)
  intro w' _
  rw [TX (aY ha hc)]
  cases b
  ·rw [← aY ha hx]; rfl
  ·rw [← aY ha hx]; rfl
 | ext hx hv _ ih=>exact fun B o ho r w ha hs pos af g=>da (Ex _ (aY ha hx) (by simpa using hv)) (ih B o ho _ w (ba ha) hs)
 | @Vs M q d s k off x ty a a' all l rk Γ fr m hf hx hq _ ih=>
  intro B o ho r w ha hs pos af g
  refine da ?_ (ih B o ho _ w (ba ha) hs)
  rw [hq.eq]
  exact Fp hf.h (aY ha hx)
 | @len M q d n x v t ty all l rk Γ fr m ht hx hr _ ih=>
  intro B o ho r w ha hs pos af g
  obtain ⟨Z,F,hS,_⟩:=id hs
  obtain ⟨b,c,rfl⟩:=hr.sound hS
  obtain ⟨e,i,h1,_,_⟩:=ht.h
  exact da (fun _ _=>vB h1 (aY ha hx)) (ih B o ho _ w (ba ha) hs)
 | @idx M α q d x y v k j t ty o1 o2 E xs Γ' all l rk Γ fr f ht hx hy hr hE _ ih=>
  intro B o ho r w ha hs pos af g
  obtain ⟨z,hz,ho⟩:=bind_some ho
  replace hz:=ri hz
  obtain ⟨Z,F,hS,hG⟩:=hs
  obtain ⟨ee,_,⟨⟨n,hn,_⟩,Nx⟩,wA⟩:=(hr z).sound hS
  exact da (Ix ht.h hn hz (aY ha hx) (aY ha hy) hE) (ih z B o ho _ w (ba ha) ⟨Z,F,wA (Nx hE j z hz.1 hz.2),hG⟩)
 | abY hx hy _ ih=>exact fun B o ho r w ha hs pos af g=>da (fun _ _=>VH (aY ha hx) (aY ha hy)) (ih B o ho _ w (ba ha) hs)
 | @En M α q d b n x us E xs e ty all l rk Γ Γ1 Γ2 fr m hx h0 h1 hE hn hb _ ih=>
  intro B o ho r w ha hs pos af g
  have he:=aY ha hx
  refine da (v:=.slice (some ⟨b,0,none⟩) n n) (fun _ _=>by rw [← he]; rfl) (ih B o ho _ w (ba ha) ?_)
  obtain ⟨Z,F,hS,hg⟩:=hs
  obtain ⟨f0,F1,hp,⟨rfl,bm⟩,er⟩:=h0.sound hS
  obtain ⟨e1,f,F2,oq,hr,fj⟩:=h1.sound er
  have HP:=Nat.le_of_ble_eq_true hb
  refine ⟨Z,([b]++f)++F2,⟨[b]++f,F2,rfl,⟨some ⟨b,0,none⟩,n,by rw [← hn,e1],.inr ⟨b,us.toArray,f,rfl,bm,rfl,by rw [← hn,e1]; exact Nat.le_refl _,Nat.le_trans HP (by decide),by rw [hE,Nat.mul_one]; simp [hn],?_⟩⟩,fj.any⟩,hg.perm (by rw [List.append_assoc]; exact (oq.append_left [b]).trans hp)⟩
  rw [hE,Nat.mul_one,List.toList_toArray,← e1,List.take_length]
  exact hr
 | @Vz M q d x k k2 n s t ty all l rk Γ fr m ht hx _ ih=>
  intro B o ho r w ha hs pos af g
  exact da (fun _ _=>KO ht.h.1 ht.h.2 (aY ha hx)) (ih B o ho _ w (ba ha) hs)
 | @uG M q d op x y k k' a b t t' ty all l rk Γ fr f hx hy hk _ ih=>
  intro B o ho r w ha hs pos af g
  obtain ⟨z,hz,ho⟩:=bind_some ho
  have w7:Np op=true∨k=k':=by
   cases hk with
   | same=>exact .inr rfl
   | sh h=>exact .inl h
  exact da (fun _ _=>Ny (aY ha hx) (aY ha hy) w7 hz) (ih z B o ho _ w (ba ha) hs)
 | @cvs M q o1 o2 d x v xs s t ty all l rk Γ Γx fr m ht hx hr _ ih=>
  intro B o ho r w ha hs pos af g
  obtain ⟨e,h1,h2,h3⟩:=ht.h
  obtain ⟨Z,F,hS,_⟩:=id hs
  obtain ⟨ee,_,⟨⟨f0,Dw,_⟩,_⟩,_⟩:=hr.sound hS
  exact da (fun w' hC=>PY h1 h2 h3 (by rw [aY ha hx]; exact ah.ep _ Dw hC fun _ _=>List.not_mem_nil)) (ih B o ho _ w (ba ha) hs)
 | @PR M q d n k x v t ty all l rk Γ fr m ht hx hr _ ih=>
  intro B o ho r w ha hs pos af g
  obtain ⟨Z,F,hS,_⟩:=id hs
  obtain ⟨e,i,h1,_,_⟩:=ht.h
  obtain ⟨b,c,hv⟩:=hr.sound hS
  exact da (v:=.int .i64 (n:Int)) (fun _ _=>vB h1 ((aY ha hx).trans hv)) (ih B o ho _ w (ba ha) hs)
 | @HK M α V q d n x y v k j t ty S cl en xs all l rk Γ Γx fr f ht hx hy hr r4 hn _ ih=>
  intro B o ho r w ha hs pos af g
  replace r4:SO S V cl en:=by cases r4; assumption
  obtain ⟨z,hz,ho⟩:=bind_some ho
  replace hz:=ri hz
  obtain ⟨e,i,h1,h2,h3⟩:=ht.h
  obtain ⟨Z,F,hS,hG⟩:=hs
  obtain ⟨ee,_,⟨⟨f0,Dw,wc⟩,_⟩,_⟩:=hr.sound hS
  have hZ:∀ b∈f0,Z b:=fun b hb=>(wc b hb).elim id id
  obtain ⟨⟨a,c,hv⟩,bn,cs,f1,ez,Nz,lh⟩:=ug Dw j hz.1 hz.2
  have w5:(iu S).size=n:=hn
  rw [w5] at lh
  obtain ⟨u,rfl,tT⟩:=r4.op ez.2
  have hblk:Z (di v n j).block:=by
   obtain ⟨base,cap,o4,fl⟩:=Dw
   rcases fl with ⟨rfl,_⟩ | ⟨b,off,cr,e',fz,f',rfl,_,rfl,_⟩
   ·simp at bn; omega
   ·obtain rfl:v = .slice (some ⟨b,off,none⟩) xs.length cap:=by simpa using o4
    have:(di (.slice (some ⟨b,off,none⟩) xs.length cap) n j).block=b:=by unfold di; rw [wZ]
    rw [this]; exact hZ b (by simp)
  have HW:fact Z w [] (.ay (di v n j) (cl z u)):=⟨fun i u' hi=>lh i u' hi,fun _=>hblk⟩
  have dw:HL Z w (.ay (di v n j) (cl z u) :: en z u) []:=.fact HW (wz (tT Z fun b hb=>hZ b (Nz b hb)))
  obtain ⟨F',hp,fj⟩:=dw.build hS
  refine da (v:=.pointer (some (di v n j))) (fun w' hC=>?_) (ih z u B o ho _ w (ba ha) ⟨Z,F',fj,hG.perm (by simpa using hp)⟩)
  rw [mc h1 h2 ((aY ha hx).trans hv) (aY ha hy) hz.1 (by omega),h3,hv]
  rfl
 | @load M q d x a t ty lk all l rk Γ fr m ht hx _ ih=>exact fun B o ho r w ha hs pos af g=>ih ht.h hx B o ho r w ha hs _ _ _ _
 | @Vt M α q d x v j ty o E z Γx all l rk Γ fr m h _ ih=>
  intro ht hx B o ho r w ha hs t pos af g
  obtain ⟨Z,F,hS,_⟩:=id hs
  obtain ⟨_,⟨u,k,h1,h2,_⟩,_⟩:=h.sound hS
  exact ih ht hx B o ho r w ha hs ⟨u,k,h1,h2⟩ _ _ _ _
 | Vu h _ ih=>
  intro ht hx B o ho r w ha hs t pos af g
  obtain ⟨Z,F,hS,_⟩:=id hs
  exact da (Ld ht (h.sound hS) (aY ha hx)) (ih B o ho _ w (ba ha) hs)
 | Vv _ ih=>
  intro ht hx B o ho r w ha hs hu t pos af g
  obtain ⟨u,k,h1,h2,_⟩:=hu
  obtain rfl:u=_:=by simpa using h2
  exact da (Ld ht h1 (aY ha hx)) (ih B o ho _ w (ba ha) hs)
 | ldb _ ih=>
  intro ht hx B o ho r w ha hs hu t pos af g
  obtain ⟨u,k,h1,h2,_⟩:=hu
  obtain rfl:u=_:=by simpa using h2
  exact da (Ld ht h1 (aY ha hx)) (ih B o ho _ w (ba ha) hs)
 | @Vw M α q o' d x v j E z ty all l rk Γ Γ1 Γ' fr m h h2 _ ih=>
  intro ht hx B o ho r w ha hs hu t pos af g
  obtain ⟨u,k,h1,Er⟩:=hu
  obtain ⟨Z,F,hS,hG⟩:=hs
  obtain ⟨ee,⟨u',k',h3,h4,h5⟩,wA⟩:=(h u).sound hS
  rw [h1] at h3
  cases h3
  exact da (Ld ht h1 (aY ha hx)) (ih u B o ho _ w (ba ha) ⟨Z,F,(h2 u).sound h1 (wA ⟨k',h4,h5⟩),hG⟩)
 | @ldp M α V q d x a S cl en z ty all l rk Γ Γx fr m r4 h _ ih=>
  intro ht hx B o ho r w ha hs hu t pos af g
  obtain ⟨u,k,h1,_⟩:=hu
  obtain ⟨Z,F,hS,hG⟩:=hs
  obtain ⟨ee,⟨u',k',h3,⟨p,iq,g',e1,bn,HX,ez,rfl⟩,h5⟩,_⟩:=h.sound hS
  rw [h1] at h3
  cases h3
  obtain rfl:u = .pointer (some p):=by simpa using e1
  obtain ⟨v,rfl,hf⟩:=r4.op ez
  have hz:∀ b∈p.block :: g',Z b:=fun b hb=>h5 b hb
  have HW:fact Z w [] (.ay p (cl z v)):=⟨fun j u hj=>HX j u hj,fun _=>hz _ (by simp)⟩
  have dw:HL Z w (.ay p (cl z v) :: en z v) []:=.fact HW (wz (hf Z fun b hb=>hz b (by simp [hb])))
  obtain ⟨F',hp,fj⟩:=dw.build hS
  exact da (Ld ht h1 (aY ha hx)) (ih p v B o ho _ w (ba ha) ⟨Z,F',fj,hG.perm (by simpa using hp)⟩)
 | Ns h _ ih=>
  intro ht hx B o ho r w ha hs t pos af g
  obtain ⟨Z,F,hS,_⟩:=id hs
  obtain ⟨h1,h2⟩:=h.sound hS
  exact da (Lg ht h1 (aY ha hx) h2) (ih B o ho _ w (ba ha) hs)
 | @SC M q d t ty ps zc cs pl all l rk Γ fr m hb hf _ ih=>
  intro B o ho r w ha hs pos af g
  obtain ⟨Z,F,hS,_⟩:=id hs
  obtain ⟨fs,i,z,h1,h2,h3,h4,h5⟩:=hb.h
  refine da (Bu ?_) (ih B o ho _ w (ba ha) hs)
  have:=hf.fill ha hS
  unfold Program.built
  rw [h3,h1]
  simp only [h4,h2]
  rw [show z.cells=zc.toArray by rw [← h5]]
  exact this
 | @box M d x t ty v cs all l rk Γ fr m hx hc _ ih=>
  intro B o ho r w ha hs pos af g
  obtain ⟨Z,F,hS,_⟩:=id hs
  refine fi (WL.box fun b w' hC bm hb=>ih b B o ho _ w' (ba ha) (hs.new (f':=[b]) hC (fun _=>⟨rfl,?_⟩) (by simp) (wB hb)))
  rw [aY ha hx,hc.eq hS] at bm
  exact bm
 | @alloc M d t ty cs all l rk Γ fr m hz _ ih=>
  intro B o ho r w ha hs pos af g
  obtain ⟨i,z,h1,h2,h3⟩:=hz.h
  refine fi (WL.alloc h1 h2 fun b w' hC bm hb=>ih b B o ho _ w' (ba ha) (hs.new (f':=[b]) hC (fun _=>⟨rfl,?_⟩) (by simp) (wB hb)))
  rw [h3] at bm
  exact bm
 | @HM M α d t e ty E z0 bt all l rk Γ fr m hz _ ih=>
  intro B o ho r w ha hs pos af g
  obtain ⟨h1,_,i,z,h2,_⟩:=hz.h
  exact fi (WL.HM E h1 h2 fun v w' f hC hO=>ih v B o ho _ w' (ba ha) (hs.new hC (fun _=>hO.1) hO.2.1 hO.fresh))
 | @abX M d n ps us t e ty all l rk Γ fr m hz hl hn hb _ ih=>
  intro B o ho r w ha hs pos af g
  obtain ⟨Z,F,hS,_⟩:=id hs
  exact fi (WL.val rfl (hl.op ha hS hz hn hb) (ih w.heap.size B o ho _ _ (ba ha) (hs.new (f':=[w.heap.size]) (aq.alloc _ _ _) (fun _=>⟨rfl,heap_alloc_new w _⟩) (by simp) (wB (Nat.le_refl _)))))
 | @abZ M d n ps us t e ty all l rk Γ fr m hz hl hn hb _ ih=>
  intro B o ho r w ha hs pos af g
  obtain ⟨Z,F,hS,_⟩:=id hs
  exact fi (WL.val rfl (hl.op ha hS ⟨hz.h⟩ hn hb) (ih w.heap.size B o ho _ _ (ba ha) (hs.new (f':=[w.heap.size]) (aq.alloc _ _ _) (fun _=>⟨rfl,heap_alloc_new w _⟩) (by simp) (wB (Nat.le_refl _)))))
 | @lits M d n k ps us t e ty all l rk Γ fr m hz hl hn hb _ ih=>
  intro B o ho r w ha hs pos af g
  obtain ⟨Z,F,hS,_⟩:=id hs
  exact fi (WL.val rfl (hl.op ha hS hz hn hb) (ih w.heap.size B o ho _ _ (ba ha) (hs.new (f':=[w.heap.size]) (aq.alloc _ _ _) (fun _=>⟨rfl,heap_alloc_new w _⟩) (by simp) (wB (Nat.le_refl _)))))
 | @FC M α d x u t e ty E z0 bt all l rk Γ fr m hz hx hu _ ih=>
  intro B o ho r w ha hs pos af g
  obtain ⟨h1,_,i,z,h2,h3,h4,_⟩:=hz.h
  obtain ⟨Z,F,hS,_⟩:=id hs
  have he:=aY ha hx
  refine fi (WL.FC h1 h2 h3 h4 (by rw [he]; exact hu.one hS) fun b w' hC bm hb=>ih b B o ho _ w' (ba ha) (hs.new (f':=[b]) hC (fun _=>⟨rfl,?_⟩) (by simp) (wB hb)))
  rw [he] at bm
  exact bm
 | @LJ M α d y a t e ty E z0 bt all l rk Γ fr f hz hy _ ih=>
  intro B o ho r w ha hs pos af g
  obtain ⟨n,hn,VI⟩:=bind_some ho
  obtain ⟨e1,e2,e3⟩:=FD hn
  obtain ⟨h1,hE,i,z,h2,h3,h4,h5,h6,h7⟩:=hz.h
  subst e1
  exact fi (WL.LJ E h1 h2 h3 (by rw [h4,hE]) rfl (aY ha hy) (by rw [h6]; exact e2) e3 fun v w' f hC hO=>ih n v B o VI _ w' (ba ha) (hs.new hC (fun _=>hO.1) hO.2.1 hO.fresh))
 | @make M α d x a t e ty E z0 bt all l rk Γ fr f hz hx _ ih=>
  intro B o ho r w ha hs pos af g
  obtain ⟨n,hn,VI⟩:=bind_some ho
  obtain ⟨e1,e2,e3⟩:=FD hn
  obtain ⟨h1,hE,i,z,h2,h3,h4,h5,h6,h7⟩:=hz.h
  subst e1
  exact fi (WL.make E h1 h2 h3 h4 hE h5 h7 (aY ha hx) (aY ha hx) (by rw [h6]; exact e2) e3 fun v w' f hC hO=>ih n v B o VI _ w' (ba ha) (hs.new hC (fun _=>hO.1) hO.2.1 hO.fresh))
 | @app M α d s x sv xv t e ty E z0 bt all l rk Γ fr m hz e7 hx _ ih=>
  obtain ⟨h1,hE,i,z,h2,h3,h4,h5,h6,h7⟩:=hz.h
  exact ih ⟨h1,hE,i,z,h2,h3,h4,h5,h6⟩ e7 hx
 | ax1 hc _ ih=>exact fun h1 hs hx=>ih h1 hs hx
 | @axi M d k s x sv yv o1 o2 t e ty xs ys bt all l rk Γ Γ1 Γx fr f h1 h2 _ ih=>
  intro hT e7 hx B o ho r w ha hs pos af g
  obtain ⟨u,hu,ho⟩:=bind_some ho
  obtain ⟨b1,b2⟩:=qy hu
  obtain ⟨q1,q2,i,z,q3,q4,q5,q6,q7⟩:=hT
  obtain ⟨Z,F,hS,hg⟩:=hs
  obtain ⟨n,F1,hp,hO,er⟩:=h1.sound hS
  have jj:=hg.perm hp
  have de:=List.nodup_append.1 jj.nd
  obtain ⟨ee,VJ,⟨⟨kk,hk,Es⟩,_⟩,_⟩:=h2.sound er
  have hd:s8 kk n:=fun b hb hm=>(Es b hb).elim (fun h=>by
   cases o1
   ·exact jj.apart b (List.mem_append_left _ hm) h
   ·exact de.2.2 b hm b ((VJ b h).resolve_left (by simp)) rfl) (fun h=>by
   cases o2
   ·exact jj.apart b (List.mem_append_left _ hm) h
   ·exact de.2.2 b hm b ((VJ b h).resolve_left (by simp)) rfl)
  refine fi (WL.C2 (E:=aM k) n w.heap.size zo q1 q3 q4 q5 rfl q6 (aY ha e7) ⟨hO,de.1,fun b hb=>.inl hb⟩ (aY ha hx) hk (by rw [q7]; exact b1) b2 (Nat.le_refl _) fun v w' f' hC qx df=>ih v B o ho _ w' (ba ha) (St.put er jj hC qx.1 qx.2.1 fun b hb=>(df b hb).elim .inl fun h=>h.elim (fun h=>absurd h List.not_mem_nil) .inr))
 | @api M d b k y s x sv t e et ty xs bt all l rk Γ Γ1 Γ2 fr f h0 h1 _ ih=>
  intro hT e7 hx B o ho r w ha hs pos af g
  obtain ⟨u,hu,ho⟩:=bind_some ho
  obtain ⟨b1,b2⟩:=qy hu
  obtain ⟨q1,q2,i,z,q3,q4,q5,q6,q7⟩:=hT
  obtain ⟨Z,F,hS,hg⟩:=hs
  obtain ⟨n0,F0,r9,⟨rfl,bm⟩,vC⟩:=h0.sound hS
  obtain ⟨n,F1,hp,hO,er⟩:=h1.sound vC
  have jj:Gd B Z (n++F1) w:=Gd.left (F':=[b]) (hg.perm ((List.perm_append_comm.trans (hp.append_left [b])).trans r9))
  have de:=List.nodup_append.1 jj.nd
  refine fi (WL.wC (E:=aM k) (k:=[]) n w.heap.size q1 q3 q4 q5 rfl q6 (aY ha e7) ⟨hO,de.1,fun b hb=>.inl hb⟩ (aY ha hx) bm ⟨rfl,rfl⟩ List.nodup_nil (fun _ h=>absurd h List.not_mem_nil) (fun _ h=>absurd h List.not_mem_nil) (by rw [q7]; exact b1) b2 (Nat.le_refl _) fun v w' f' hC qx df=>ih v B o ho _ w' (ba ha) (St.put er jj hC qx.1 qx.2.1 fun b hb=>(df b hb).elim .inl fun h=>h.elim (fun h=>absurd h List.not_mem_nil) .inr))
 | Vx hk _ ih=>exact ih
 | @apo M α d b s x sv u y xs t e e' et ty E bt all l rk Γ Γ1 Γ2 Γ3 fr f h0 h1 h2 _ ih=>
  intro hT e7 hx B o ho r w ha hs pos af g
  obtain ⟨_,hu,ho⟩:=bind_some ho
  obtain ⟨b1,b2⟩:=qy hu
  obtain ⟨q1,q2,i,z,q3,q4,q5,q6,q7⟩:=hT
  obtain ⟨Z,F,hS,hg⟩:=hs
  obtain ⟨n0,F0,r9,⟨rfl,bm⟩,vC⟩:=h0.sound hS
  obtain ⟨k,F1,sm,hK,er⟩:=h1.sound vC
  obtain ⟨n,F2,oq,hO,fj⟩:=h2.sound er
  have we:((n++k)++F2++[b]).Perm F:=by
   refine List.perm_append_comm.trans (.trans (List.Perm.append_left [b] ?_) r9)
   refine .trans ?_ sm
   refine .trans ?_ (oq.append_left k)
   rw [← List.append_assoc k n F2]
   exact List.perm_append_comm.append_right F2
  have jj:Gd B Z ((n++k)++F2) w:=Gd.left (hg.perm we)
  have de:=List.nodup_append.1 jj.nd
  have yr:=List.nodup_append.1 de.1
  have Et:fact Z w [] (.rd false Sz u y.length):=by
   obtain ⟨base,cap,hv,_⟩:=hK
   obtain rfl:u = .slice base y.length cap:=by simpa using hv
   exact ⟨[],⟨⟨_,_,rfl⟩,rfl⟩,fun b hb=>absurd hb List.not_mem_nil⟩
  refine fi (WL.wC (E:=aJ e' E) (k:=k) (n++k) w.heap.size q1 q3 q4 q5 q2 q6 (aY ha e7) ⟨hO,yr.1,fun b hb=>.inl (List.mem_append_left _ hb)⟩ (aY ha hx) bm hK yr.2.1 (fun _ h=>.inl (List.mem_append_right _ h)) (fun b hb hm=>yr.2.2 b hm b hb rfl) (by rw [q7]; exact b1) b2 (Nat.le_refl _) fun v w' f' hC qx df=>ih v B o ho _ w' (ba ha) (St.put (fj.fact (e:=.rd false Sz u y.length) Et) jj (hC.mono fun b hb=>List.mem_append_left _ hb) qx.1 qx.2.1 fun b hb=>(df b hb).elim (fun h=>.inl (List.mem_append_left _ h)) fun h=>h.elim (fun h=>.inl (List.mem_append_right _ h)) .inr))
 | @ldn M α q o' d x v j Q T z ty all l rk Γ Γ1 Γ' fr m h h2 _ ih=>
  intro ht hx B o ho r w ha hs hu t pos af g
  obtain ⟨u,k,h1,Er⟩:=hu
  obtain ⟨Z,F,hS,hG⟩:=hs
  obtain ⟨ee,⟨u',k',h3,h4,h5⟩,wA⟩:=(h u).sound hS
  rw [h1] at h3
  cases h3
  exact da (Ld ht h1 (aY ha hx)) (ih u B o ho _ w (ba ha) ⟨Z,F,(h2 u).sound h1 (wA ⟨k',h4,h5⟩),hG⟩)
 | @apm M α d b s x sv u y xs t e e' et ty E E1 bt all l rk Γ Γ1 Γ2 Γx fr f h0 h1 h2 _ ih=>
  intro hT e7 hx B o ho r w ha hs pos af g
  obtain ⟨_,hu,ho⟩:=bind_some ho
  obtain ⟨b1,b2⟩:=qy hu
  obtain ⟨q1,q2,i,z,q3,q4,q5,q6,q7⟩:=hT
  obtain ⟨Z,F,hS,hg⟩:=hs
  obtain ⟨n0,F0,r9,⟨rfl,bm⟩,vC⟩:=h0.sound hS
  obtain ⟨ee,_,⟨⟨k,hk,HY⟩,_⟩,_⟩:=h1.sound vC
  obtain ⟨n,F1,hp,⟨us,gg,hO,hr,si,NB⟩,er⟩:=h2.sound vC
  have jj:Gd B Z (n++F1) w:=Gd.left (F':=[b]) (hg.perm ((List.perm_append_comm.trans (hp.append_left [b])).trans r9))
  have de:=List.nodup_append.1 jj.nd
  have HZ:∀ b∈k,Z b:=fun b hb=>(HY b hb).elim id id
  have NC:∀ b∈n,¬ Z b:=fun b hb=>jj.apart b (List.mem_append_left _ hb)
  refine fi (SD.wC (E:=bL E1) (G:=n) (B:=w.heap.size) (g:=gg) (k:=k) q1 q3 q4 q5 q6 (aY ha e7) ⟨us,⟨hO,de.1,fun b hb=>.inl hb⟩,hr,NB⟩ (aY ha hx) bm hk (fun b hb hm=>NC b hm (HZ b hb)) (fun b hb hm=>NC b hm (si b hb)) (by rw [q7]; exact b1) b2 (Nat.le_refl _) fun v w' f' hC qx df=>?_)
  obtain ⟨VK,cq,fl,PZ⟩:=qx
  exact ih v B o ho _ w' (ba ha) (St.put er jj hC ⟨VK,_,cq.1,fl,(fun b hb=>(List.mem_append.1 hb).elim (si b) (HZ b)),PZ⟩ cq.2.1 fun b hb=>(df b hb).elim .inl fun h=>h.elim (fun h=>absurd h List.not_mem_nil) .inr)
 | @Vy M x y a u t ty n all l rk Γ fr m ht hx hy _ ih=>exact ih ht.h hx hy
 | @stn M x y b j n us cs ds t e ty all l rk Γ Γ1 fr m h0 h1 h2 h3 _ ih=>
  intro hT hx hy B o ho r w ha hs pos af g
  obtain ⟨i,hi,uH⟩:=hT
  obtain ⟨Z,F,hS,hg⟩:=hs
  obtain ⟨n0,F0,r9,⟨rfl,bm⟩,vC⟩:=h0.sound hS
  obtain ⟨e1,e2⟩:=h1.eq
  refine fi (WL.P1 hi (by rw [h3,uH]) bm e1 (aY ha hx) (aY ha hy) (h2.one hS) fun w' hC tw=>ih B o ho _ w' ha (St.put (f:=[b]) (f':=[b]) vC (hg.perm r9) hC ⟨rfl,by rw [e2]; exact tw⟩ (by simp) fun b hb=>.inl hb))
 | @Gt M x y b j u cs ds t e ty all l rk Γ Γ1 fr m h0 h1 h2 _ ih=>
  intro hT hx hy B o ho r w ha hs pos af g
  obtain ⟨i,hi,uH⟩:=hT
  obtain ⟨Z,F,hS,hg⟩:=hs
  obtain ⟨n0,F0,r9,⟨rfl,bm⟩,vC⟩:=h0.sound hS
  obtain ⟨e1,e2⟩:=h1.eq
  have e3:cs.set j u=ds:=by rw [e2,List.set_eq_take_append_cons_drop,if_pos (by simp at e1; omega)]; simp
  refine fi (WL.H0 hi uH bm (by simp at e1; omega) (aY ha hx) (aY ha hy) (h2.one hS) fun w' hC tw=>ih B o ho _ w' ha (St.put (f:=[b]) (f':=[b]) vC (hg.perm r9) hC ⟨rfl,by rw [← e3]; exact tw⟩ (by simp) fun b hb=>.inl hb))
 | stl hl _ ih=>exact fun hT hx hy=>ih hT hx hy hl
 | @sti M x y v j z k xs t e ty all l rk Γ Γ1 fr m h0 h1 _ ih=>
  intro hT hx hy _ B o ho r w ha hs pos af g
  obtain ⟨i,hi,uH⟩:=hT
  obtain ⟨Z,F,hS,hg⟩:=hs
  obtain ⟨j0,j1⟩:=h0.sound hS
  obtain ⟨n,F1,hp,hO,er⟩:=h1.sound hS
  have jj:=hg.perm hp
  have de:=List.nodup_append.1 jj.nd
  rw [tS hO] at j1
  exact fi (WL.C1 (E:=aM k) n w.heap.size zo rfl hi uH ⟨hO,de.1,fun b hb=>.inl hb⟩ (List.getElem?_eq_getElem j1) (aY ha hx) (aY ha hy) ⟨rfl,rfl⟩ fun w' hC qx=>ih B o ho _ w' ha (St.put er jj hC qx.1 qx.2.1 fun b hb=>.inl hb))
 | @stb M x y v j z xs t e ty all l rk Γ Γ1 fr m h0 h1 _ ih=>
  intro hT hx hy _ B o ho r w ha hs pos af g
  obtain ⟨i,hi,uH⟩:=hT
  obtain ⟨Z,F,hS,hg⟩:=hs
  obtain ⟨j0,j1⟩:=h0.sound hS
  obtain ⟨n,F1,hp,hO,er⟩:=h1.sound hS
  have jj:=hg.perm hp
  have de:=List.nodup_append.1 jj.nd
  rw [tS hO] at j1
  exact fi (WL.C1 (E:=r6) n w.heap.size LM rfl hi uH ⟨hO,de.1,fun b hb=>.inl hb⟩ (List.getElem?_eq_getElem j1) (aY ha hx) (aY ha hy) ⟨rfl,rfl⟩ fun w' hC qx=>ih B o ho _ w' ha (St.put er jj hC qx.1 qx.2.1 fun b hb=>.inl hb))
 | @sri M x y v v' j j' z k zs xs t e e' ty o1 o2 all l rk Γ Γ1 Γx fr m h0 h1 h2 _ ih=>
  intro hT hx hy hl B o ho r w ha hs pos af g
  obtain ⟨i,hi,uH⟩:=hT
  exact Nv (E:=aM k) zo rfl hi uH hs hl h0 h1 .i h2 (aY ha hx) (aY ha hy) ⟨rfl,rfl⟩ fun w' h=>ih B o ho _ w' ha h
 | @stw M α x y v u j z xs E t e e' ty all l rk Γ Γ1 Γ2 fr m h0 h1 h2 _ ih=>
  intro hT hx hy _ B o ho r w ha hs pos af g
  obtain ⟨i,hi,uH⟩:=hT
  obtain ⟨Z,F,hS,hg⟩:=hs
  obtain ⟨j0,j1⟩:=h0.sound hS
  obtain ⟨k,F1,sm,hK,er⟩:=h1.sound hS
  obtain ⟨n,F2,oq,hO,fj⟩:=h2.sound er
  have we:((n++k)++F2).Perm F:=by
   refine .trans ?_ sm
   refine .trans ?_ (oq.append_left k)
   rw [← List.append_assoc k n F2]
   exact List.perm_append_comm.append_right F2
  have jj:Gd B Z ((n++k)++F2) w:=hg.perm we
  have de:=List.nodup_append.1 jj.nd
  have yr:=List.nodup_append.1 de.1
  rw [tS hO] at j1
  exact fi (WL.P3 (E:=aJ e' E) (k:=k) (n++k) w.heap.size rfl hi uH ⟨hO,yr.1,fun b hb=>.inl (List.mem_append_left _ hb)⟩ (List.getElem?_eq_getElem j1) (aY ha hx) (aY ha hy) hK yr.2.1 (fun _ h=>.inl (List.mem_append_right _ h)) (fun b hb hm=>yr.2.2 b hm b hb rfl) fun w' f' hC qx df=>ih B o ho _ w' ha (St.put fj jj (hC.mono fun b hb=>List.mem_append_left _ hb) qx.1 qx.2.1 fun b hb=>(df b hb).elim (fun h=>.inl (List.mem_append_left _ h)) fun h=>h.elim (fun h=>.inl (List.mem_append_right _ h)) .inr))
 | @Nr M q d f xs vs ay ty all l rk Γ fr m hf hx _ ih=>
  intro B o ho r w ha hs pos af g
  obtain ⟨fn,c,f1,f2,f3⟩:=hf.h
  refine ih B o ho r w ha hs pos af g fun w'=>?_
  rw [DP f1 f2 f3,tc ha hx]
 | @cav M q d f x xs vs us ws as bs ay ty all l rk Γ fr m hv hx h1 h2 _ ih=>
  intro B o ho r w ha hs pos af g
  refine ih.2 B o ho r w ha hs pos af g fun w'=>?_
  obtain ⟨fn,c,f1,f2,f3⟩:=ih.1
  rw [H4 (aY ha hv) f1 f2 f3,tc ha hx,List.append_assoc,h1.eq,h2.eq]
 | @fa f j hf _ ih=>exact ⟨hf.h,ih⟩
 | @mkf M q d f xs ys as bs ty all l rk Γ fr m hx hy _ ih=>
  intro B o ho r w ha hs pos af g
  refine da ?_ (ih B o ho _ w (ba ha) hs)
  intro w' _
  rw [J5,tc ha hx,tc ha hy]
 | cvn=>exact fun B o ho=>nomatch ho
 | @cvq M β ow d f vs op ty Δ mo rt all l rk Γ fr g hc h0 h1 _ ih=>
  intro B o ho r w ha hs pos af gg tT
  obtain ⟨y,hy,ho⟩:=bind_some ho
  refine ⟨pj (rt y ()),?_,ih y B o ho _ w (ba ha) hs⟩
  intro w' hC
  unfold Oper.quietUpon
  rw [tT w']
  refine ⟨rfl,?_⟩
  obtain ⟨Z,F,hS,hG⟩:=hs
  have H5:=hS.ij hC
  have jq:=hG.ij hC
  rw [r7] at hc
  refine (hc.2 w' (fun b=>Z b∨b∈F) [] (h1.sound (fun _ h=>.inl h) (fun _ _ h=>.inr h) H5 h0.ho) List.nodup_nil (fun b hb=>absurd hb List.not_mem_nil)
   (fun b hb=>hb.elim (jq.nv b) (H5.lt b)) y hy).mono ?_
  rintro e Gu ⟨v,he,Z2,F2,_,jo⟩
  exact ⟨he,hC.trans jo.jh⟩
 | @cvw M β V ow d f vs op ty Δ mo rt ps all l rk Γ fr g hc _ _ ih=>exact ih hc
 | @czt M β V d f vs op ty Δ mo rt ps all l rk Γ Γ1 fr g h0 h1 _ ih=>
  intro hc B o ho r w ha hs pos af gg tT
  obtain ⟨y,hy,ho⟩:=bind_some ho
  unfold tP gf
  rw [tT w]
  obtain ⟨Z,F,hS,hG⟩:=hs
  obtain ⟨Fd,F1,a1,a2,a3⟩:=h0.sound hS
  have ji:=hG.perm a3
  rw [r7] at hc
  exact (Gv hc (Z':=fun b=>Z b∨b∈F1) (h1.sound (fun _ h=>.inl h) (fun _ _ h=>.inr h) a2 a1) a2 ji (fun _ h=>.inl h) (fun _ h=>h) (.inl (hc.1 rfl y)) hy).mono fun e w' ⟨v,h2,h3⟩=>⟨_,h2,ih y v B o ho _ w' (ba ha) h3⟩
 | @czf M β V d f vs op ty Δ mo rt ps all l rk Γ Γ1 fr g h0 _ ih=>
  intro hc B o ho r w ha hs pos af gg tT
  obtain ⟨y,hy,ho⟩:=bind_some ho
  unfold tP gf
  rw [tT w]
  obtain ⟨Z,F,hS,hG⟩:=hs
  obtain ⟨Fd,F1,Zn,a1,a2,a3⟩:=h0.sound hS
  have ji:=Gd.freeze (hG.perm a3) fun b hb=>hS.lt b (a3.mem_iff.1 (List.mem_append_right _ hb))
  rw [r7] at hc
  exact (Gv hc a1 a2 ji (fun _ h=>h) (fun _ h=>.inl h) (.inr fun _ h=>h) hy).mono fun e w' ⟨v,h2,h3⟩=>⟨_,h2,ih y v B o ho _ w' (ba ha) h3⟩
 | mo0 _ ih=>exact fun B o ho r w ha hs=>ih B o ho r w ha hs
 | mn0 _ ih=>exact fun B o ho r w ha hs=>ih B o ho r w ha hs
theorem loop {S S1 V:Type} (k:Nat) (Δ:S1→V→List aX) (φ:S1→V→Fr) (v0:V) (f2:Fr) {gh:List KI} {kb:Kb R S} {c:Code} {s0:S1} {body:S1→Option (Out S1 R)} {f:S1→Option (Out S R)} {Γ Γ1 Γ2:QE} {fr:Fr}
   (ha:r3 fr (φ s0 v0)) (hf:r3 fr f2) (h0:EO Γ (Δ s0 v0) Γ1) (hn:OW Γ (Δ s0 v0)) (hs:ke Γ1 Γ2)
   (hb:∀ s v,D P cx (.p (φ s v) (Δ s v) f2 Γ2 fun fr Γ=>.c ⟨[],.loop V k Δ φ Γ2 f2⟩ c Γ fr (body s)))
   (hk:∀ s v,D P cx (.p (φ s v) (Δ s v) f2 Γ2 fun fr Γ=>.mn ⟨gh,kb⟩ Γ fr (f s))):Bx (mb P cx (.bk true k ⟨gh,kb⟩ (.loop c) Γ fr (ag (ae k (aj body s0)) f))):=by
 rw [ma]
 intro B o ho r w pr ot
 refine LP (T:=TT P cx B) (LI B Δ φ _ f2) ho ⟨v0,qp (ha.all pr) (hf.sound pr),ot.enter h0 hn hs⟩ ?_ ?_ ?_
 ·intro x r w he hx
  subst he
  exact w6 hx
 ·rintro s r w ⟨v,h1,h2⟩ o ho
  exact (hb s v).sound B o ho r w h1 h2
 ·rintro s r w ⟨v,h1,h2⟩ ho
  exact (hk s v).sound B o ho r w h1 h2
noncomputable def pc.{u,v,w} {A:Type u} {B:Type v} {C:Sort w} (f:A→B→C) (p:A×B):C:=Prod.rec (motive:=fun _=>C) f p
theorem jr {S S1 V A:Type} (k:Nat) (a0:A) (Δ:A→S1→V→List aX) (φ:A→S1→V→Fr) (v0:V) (f2:Fr) {gh:List KI} {kb:Kb R S} {c:Code} {s0:S1} {body:S1→Option (Out S1 R)} {f:S1→Option (Out S R)} {Γ Γ1 Γ2:QE} {fr:Fr}
   (ha:r3 fr (φ a0 s0 v0)) (hf:r3 fr f2) (h0:EO Γ (Δ a0 s0 v0) Γ1) (hn:OW Γ (Δ a0 s0 v0)) (hs:ke Γ1 Γ2)
   (hb:∀ s v,D P cx (.p (φ a0 s v) (Δ a0 s v) f2 Γ2 fun fr Γ=>.c ⟨[],.loop V k (Δ a0) (φ a0) Γ2 f2⟩ c Γ fr (body s)))
   (hk:∀ s v,D P cx (.p (φ a0 s v) (Δ a0 s v) f2 Γ2 fun fr Γ=>.mn ⟨gh,kb⟩ Γ fr (f s))):Bx (mb P cx (.bk true k ⟨gh,kb⟩ (.loop c) Γ fr (ag (ae k (aj body s0)) f))):=
 loop k (Δ a0) (φ a0) v0 f2 ha hf h0 hn hs hb hk
theorem quiet {S:Type} {id:Nat} {K:dq R S} {ops:LO} {Γ:QE} {fr:Fr} {m:Option (Out S R)} (hB:(P.follows .mixedOrders && dj cx.n ops && Region.lexB .any ops.toArray)=true) (h:D P cx (.rg (DO ops) true ops K Γ fr m)):Bx (mb P cx (.dr id ops K Γ fr m)):=by
 simp only [Bool.and_eq_true] at hB
 rw [ma]
 exact fun B o ho r w ha hs=>h.sound hB.1.2 (fun _=>⟨hB.1.1,hB.2⟩) B o ho r w ha hs _
theorem tail {S:Type} {id:Nat} (k:Nat) {K:dq R S} {l ops tl:LO} {Γ:QE} {fr:Fr} {m:Option (Out S R)} (hB:(P.follows .mixedOrders && dj cx.n l && ((l.take k).all fun o=>yt o.op) && Region.lexTailB .any l.toArray k)=true) (ho:ops=l.take k) (ht:tl=l.drop k)
  (h:D P cx (.o true l ops (.h l tl K) Γ fr m)):Bx (mb P cx (.dr id l K Γ fr m)):=by
 simp only [Bool.and_eq_true] at hB
 obtain ⟨⟨⟨h1,h2⟩,h3⟩,h4⟩:=hB
 subst ho ht
 rw [ma]
 intro B o ho r w ha hs
 exact VL k h1 h2 h3 h4 (aq.refl _ _) (h.sound B o ho r w ha hs)
def FG:Nat→List Value→Fr
 | _,[]=>[]
 | i,v :: l=>(i,v) :: FG (i+1) l
theorem Gw {args:LV}:db (fun t=>args.getD t undef) ((FG 0 args).reverse++[]):=by
 refine qp ?_ Aa
 have key:∀ (l:LV) (i:Nat) (p:Nat×Value),p∈FG i l→i≤p.1∧l[p.1 - i]? = some p.2:=by
  intro l
  induction l with
  | nil=>intro i p hp; cases hp
  | cons a l ih=>
   intro i p hp
   unfold FG at hp
   rcases List.mem_cons.1 hp with rfl | hp
   ·simp
   ·obtain ⟨h1,h2⟩:=ih _ _ hp
    refine ⟨by omega,?_⟩
    rw [show p.1 - i=(p.1 - (i+1))+1 by omega]
    simpa using h2
 intro p hp
 obtain ⟨_,h⟩:=key args 0 p hp
 simp only [Nat.sub_zero] at h
 simp [List.getD_eq_getElem?_getD,h]
theorem ca {β V:Type} {post:β→V→List aX} (h:∀ y v,s6 (post y v)=true):true=true→∀ y v,s6 (post y v)=true:=fun _=>h
theorem u9 {β V:Type} {post:β→V→List aX}:false=true→∀ y v,s6 (post y v)=true:=fun h=>nomatch h
theorem ct {f:FuncId} {fn:Func} {ow:Bool} {c:Code} {args:LV} {Δ:QE} {S V:Type} {m:Option (Out S R)} {ret:R→V→List Value} {post:R→V→List aX} (hw:ow=true→∀ y v,s6 (post y v)=true) (hf:P.funcs[f]? = some fn) (hb:fn.body=some c) (hl:Nat.ble args.length fn.ntmps=true)
  (h:D P ⟨fn.ntmps,fn,V,ret,post⟩ (.p (FG 0 args) Δ [] [] fun fr Γ=>.c ⟨[],.top⟩ c Γ fr m)):Ct P f ow (ao m) args Δ ret post:=by
 rw [r7]
 refine ⟨hw,?_⟩
 intro w Z F hh de VM bn y hy
 have hs:=h.sound
 obtain ⟨F',hp,hS⟩:=hh.build (Γ:=[]) (F:=[]) rfl
 rw [List.append_nil] at hp
 have ot:St ⟨w,Z,F⟩ (Δ.reverse++[]) w:=⟨Z,F',hS,Gd.perm ⟨de,VM,bn,fun b hb=>.inl hb,fun _ h=>h,fun _ h=>.inl h,aq.refl _ _⟩ hp⟩
 exact (LR (Rr:=fun y e w'=>∃ v:V,e = .returned (pj (ret y v))∧Ni ⟨w,Z,F⟩ (post y v) w') hf hb rfl (Nat.le_of_ble_eq_true hl) (Gx hy)
  fun o ho=>hs ⟨w,Z,F⟩ o ho _ _ Gw ot)
theorem ctv {f:FuncId} {fn:Func} {ow:Bool} {c:Code} {args:LV} {Δ:QE} {V:Type} {m:Option (Out R R)} {ret:R→V→List Value} {post:R→V→List aX} (hw:ow=true→∀ y v,s6 (post y v)=true) (hf:P.funcs[f]? = some fn) (hb:fn.body=some c) (hl:Nat.ble args.length fn.ntmps=true)
  (h:D P ⟨fn.ntmps,fn,V,ret,post⟩ (.p (FG 0 args) Δ [] [] fun fr Γ=>.c ⟨[],.PL⟩ c Γ fr m)):Ct P f ow (H6 m) args Δ ret post:=by
 rw [r7]
 refine ⟨hw,?_⟩
 intro w Z F hh de VM bn y hy
 have hs:=h.sound
 obtain ⟨F',hp,hS⟩:=hh.build (Γ:=[]) (F:=[]) rfl
 rw [List.append_nil] at hp
 have ot:St ⟨w,Z,F⟩ (Δ.reverse++[]) w:=⟨Z,F',hS,Gd.perm ⟨de,VM,bn,fun b hb=>.inl hb,fun _ h=>h,fun _ h=>.inl h,aq.refl _ _⟩ hp⟩
 exact (J6 (Rr:=fun y e w'=>∃ v:V,e = .returned (pj (ret y v))∧Ni ⟨w,Z,F⟩ (post y v) w') hf hb rfl (Nat.le_of_ble_eq_true hl) hy
  fun o ho=>hs ⟨w,Z,F⟩ o ho _ _ Gw ot)
end
end Go.Dk
