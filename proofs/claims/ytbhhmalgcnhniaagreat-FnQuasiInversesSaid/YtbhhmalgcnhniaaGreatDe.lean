/- A calculus of walks: that its rules hold. No condition. -/
import Derived.Test.YtbhhmalgcnhniaaGreatDa
import Derived.Test.YtbhhmalgcnhniaaGreatLn
namespace Go.Dk
open Go Go.Li
section
variable {Z Z':Nat→Prop} {w w':World} {cur F f:LN} {Γ Γ' Γ1 Δ:QE} {e:aq} {B:Bs} {P:Program}
theorem Gd.left {F':LN} (h:Gd B Z (F++F') w):Gd B Z F w:=
 ⟨(List.nodup_append.1 h.nd).1,fun b hb=>h.apart b (List.mem_append_left _ hb),h.tb,fun b hb=>h.low b (List.mem_append_left _ hb),h.xK,h.yi,h.j9⟩
theorem HO.hl (h:OW Γ Δ):∀ {cur F F':LN},SA Z w Γ cur F'→HO Z w Δ F→HL Z w Δ F:=by
 induction h with
 | nil=>intro _ F _ _ h; cases h; exact .nil
 | own _ ih=>intro _ F _ hs h; cases h with | own h k=>exact .own h (ih hs k)
 | om _ ih=>intro _ F _ hs h; cases h with | own h k=>exact .own h (ih hs k)
 | row _ ih=>intro _ F _ hs h; cases h with | own h k=>exact .own h (ih hs k)
 | rd h _ ih=>intro _ F _ hs hh; cases hh with
  | own h k=>exact h.elim
  | rd k=>exact .fact (h.rd hs _) (ih hs k)
theorem FO.ho (h:FO Δ):HO Z w Δ []:=by
 induction h with
 | nil=>exact .nil
 | rd _ ih=>exact .rd ih
 | bg _ ih=>exact .bg ih
theorem qw.all {fr g:Fr} {r:NV} (h:qw fr g) (ha:dc r fr):∀ p∈g,r p.1=p.2:=by
 induction h with
 | nil=>intro p hp; cases hp
 | cons h _ ih=>intro p hp; rcases List.mem_cons.1 hp with rfl | hp; exact ha _ _ h; exact ih p hp
theorem wL {r:NV} {f:Fr}:∀ {g:Fr},(∀ p∈g,r p.1=p.2)→dc r f→dc r (g++f):=by
 intro g
 induction g with
 | nil=>intro _ h; exact h
 | cons a g ih=>
  intro hg h t v hl
  obtain ⟨s,u⟩:=a
  rw [List.cons_append] at hl
  unfold look at hl
  cases hb:Nat.beq t s with
  | true=>rw [hb] at hl; cases hl; rw [Nat.eq_of_beq_eq_true hb]; exact hg (s,v) (by simp)
  | false=>rw [hb] at hl; exact ih (fun p hp=>hg p (by simp [hp])) h t v hl
theorem qk {r:NV} {f g:Fr} (hg:∀ p∈g,r p.1=p.2) (h:dc r f):dc r (g.reverse++f):=wL (fun p hp=>hg p (List.mem_reverse.1 hp)) h
theorem jj.sound (h:jj Γ Γ'):∀ {cur F:LN},SA Z w Γ cur F→SA Z w Γ' cur F:=by
 induction h with
 | nil=>intro _ _ h; exact h
 | own _ ih=>rintro _ _ ⟨f,F',h1,h2,h3⟩; exact ⟨f,F',h1,h2,ih h3⟩
 | om _ ih=>rintro _ _ ⟨f,F',h1,h2,h3⟩; exact ⟨f,F',h1,h2,ih h3⟩
 | row _ ih=>rintro _ _ ⟨f,F',h1,h2,h3⟩; exact ⟨f,F',h1,h2,ih h3⟩
 | K0 _ ih=>intro _ _ h; exact ⟨h.1,ih h.2⟩
 | FN _ ih=>intro _ _ h; exact ⟨h.1,ih h.2⟩
 | ad _ ih=>intro _ _ h; exact ih h.2
 | bg _ ih=>intro _ _ h; exact ⟨h.1,ih h.2⟩
 | hd _ ih=>intro _ _ h; exact ih h.2
 | ew _ ih=>rintro _ _ ⟨f,F',h1,h2,h3⟩; exact ⟨f,F',h1,h2,ih h3⟩
theorem Ri {α:Type} {E:ai α} (hE:∀ {h:Array Obj} {cs:LV} {x y:α} {f g:LN},E.rep h cs x f→E.rep h cs y g→f=g) {h:Array Obj}:∀ {xs ys:List α} {cs:LV} {f g:LN},xs.length=ys.length→df E h cs xs f→df E h cs ys g→f=g:=by
 intro xs
 induction xs with
 | nil=>
  intro ys cs f g hl h1 h2
  cases ys with
  | nil=>obtain ⟨_,rfl⟩:=h1; obtain ⟨_,rfl⟩:=h2; rfl
  | cons y ys=>cases hl
 | cons x xs ih=>
  intro ys cs f g hl h1 h2
  cases ys with
  | nil=>cases hl
  | cons y ys=>
   obtain ⟨c,ju,f1,f2,rfl,rfl,a1,a2⟩:=h1
   obtain ⟨d,ds',g1,g2,e1,rfl,b1,b2⟩:=h2
   obtain ⟨rfl,rfl⟩:=List.append_inj e1 ((E.len a1).trans (E.len b1).symm)
   rw [hE a1 b1,ih (by simpa using hl) a2 b2]
theorem DT.fp {α:Type} {T:ai α} (h:DT T):∀ {h:Array Obj} {cs:LV} {x y:α} {f g:LN},T.rep h cs x f→T.rep h cs y g→f=g:=by
 induction h with
 | i=>rintro h cs x y f g ⟨_,rfl⟩ ⟨_,rfl⟩; rfl
 | b=>rintro h cs x y f g ⟨_,rfl⟩ ⟨_,rfl⟩; rfl
 | @own α e E _ ih=>
  rintro h cs x y f g ⟨base,cap,rfl,a⟩ ⟨Jt,Nx,e1,b⟩
  simp only [List.cons.injEq,Value.slice.injEq,and_true] at e1
  obtain ⟨rfl,hl,rfl⟩:=e1
  rcases a with ⟨rfl,_,_,rfl⟩ | ⟨b1,cr,f',rfl,a2,rfl,_,_,_,a3⟩
  ·rcases b with ⟨_,_,_,rfl⟩ | ⟨IB,XS,g',e1,_⟩
   ·rfl
   ·cases e1
  ·rcases b with ⟨e1,_⟩ | ⟨IB,XS,g',e1,c2,rfl,_,_,_,c3⟩
   ·cases e1
   ·cases e1
    rw [a2] at c2
    cases c2
    rw [hl] at a3
    rw [Ri ih hl a3 c3]
theorem In.bg {p:Addr} {cs:LV} (h:In (.bg p cs) Γ):∀ {cur F:LN},SA Z w Γ cur F→∀ dj,fact Z w dj (.bg p cs):=by
 induction h with
 | here=>intro cur F h dj; exact h.1
 | @there a Γ _ ih=>
  intro cur F hS
  cases a with
  | own T v x=>obtain ⟨f,F',h1,h2,h3⟩:=hS; exact ih h3
  | om e E v xs=>obtain ⟨f,F',h1,h2,h3⟩:=hS; exact ih h3
  | row b cs e=>obtain ⟨f,F',h1,h2,h3⟩:=hS; exact ih h3
  | ew e E v xs j u=>obtain ⟨f,F',h1,h2,h3⟩:=hS; exact ih h3
  | _=>exact ih hS.2
theorem xO.get {α:Type} {T:ai α} {v:Value} {x:α} (h:xO (.rd true T v x) Γ):∀ {cur F:LN},SA Z w Γ cur F→fact Z w cur (.rd true T v x):=by
 induction h with
 | here=>intro cur F h; exact h.1
 | row _ ih=>rintro cur F ⟨f,F',h1,h2,h3⟩; exact ih h3
 | rd _ ih=>intro cur F h; exact ih h.2
 | ad _ ih=>intro cur F h; exact ih h.2
 | hd _ ih=>intro cur F h; exact ih h.2
 | bg _ ih=>intro cur F h; exact ih h.2
theorem IP.sound {α β:Type} {T:ai α} {v u:Value} {x:α} {T':ai β} {z:β} (h:IP T v x (.rd true T' u z) Γ):∀ {cur F:LN},SA Z w Γ cur F→∃ f,T.rep w.heap [v] x f∧fact Z w f (.rd true T' u z):=by
 induction h with
 | here h=>rintro cur F ⟨f,F',h1,h2,h3⟩; exact ⟨f,h2,h.get h3⟩
 | @there a Γ _ ih=>
  intro cur F hS
  cases a with
  | own T v x=>obtain ⟨f,F',h1,h2,h3⟩:=hS; exact ih h3
  | om e E v xs=>obtain ⟨f,F',h1,h2,h3⟩:=hS; exact ih h3
  | row b cs e=>obtain ⟨f,F',h1,h2,h3⟩:=hS; exact ih h3
  | ew e E v xs j u=>obtain ⟨f,F',h1,h2,h3⟩:=hS; exact ih h3
  | _=>exact ih hS.2
theorem MF.sound {o:Option aq} (h:MF Γ o Δ) {cur F:LN} (hs:SA Z w Γ cur F):∀ {dj Fd:LN},(∀ e,o=some e→o7 Z w dj e)→HO Z w Δ Fd→SA Z w Δ dj Fd:=by
 induction h with
 | nil=>intro _ _ _ h; cases h; rfl
 | own _ ih=>intro _ _ _ h; cases h with | own h k=>exact ⟨_,_,rfl,h,ih (by rintro e he; cases he; exact h) k⟩
 | om _ ih=>intro _ _ _ h; cases h with | own h k=>exact ⟨_,_,rfl,h,ih (by rintro e he; cases he) k⟩
 | row _ ih=>intro _ _ ho h; cases h with | own h k=>exact ⟨_,_,rfl,h,ih ho k⟩
 | ew _ ih=>intro _ _ _ h; cases h with | own h k=>exact ⟨_,_,rfl,h,ih (by rintro e he; cases he) k⟩
 | rd h _ ih=>
  intro _ _ ho hh
  cases hh with
  | own h k=>exact h.elim
  | rd k=>exact ⟨h.rd hs _,ih ho k⟩
 | @FN α β T v u x T' z Δ hd h _ ih=>
  intro dj _ ho hh
  cases hh with
  | own h k=>exact h.elim
  | rd k=>
   obtain ⟨f,h1,h2⟩:=h.sound hs
   have h3:T.rep w.heap [v] x dj:=ho _ rfl
   rw [hd.fp h1 h3] at h2
   exact ⟨h2,ih ho k⟩
 | bg h _ ih=>
  intro _ _ ho hh
  cases hh with
  | own h k=>exact h.elim
  | bg k=>exact ⟨h.bg hs _,ih ho k⟩
theorem St.of {F':LN} (hs:SA Z w Γ [] F) (hg:Gd B Z F' w) (hp:F.Perm F'):St B Γ w:=⟨Z,F,hs,hg.perm hp⟩
theorem St.enter (h:St B Γ w) {Γ1 Γ2:QE} (h0:EO Γ Δ Γ1) (hw:OW Γ Δ) (h1:jj Γ1 Γ2):St B (Δ.reverse++Γ2) w:=by
 obtain ⟨Z,F,hs,hg⟩:=h
 obtain ⟨Fd,F1,a1,a2,a3⟩:=h0.sound hs
 obtain ⟨F2,b1,b2⟩:=HL.build (HO.hl hw hs a1) (h1.sound a2)
 exact St.of b2 hg (b1.trans a3)
theorem St.again (h:St B Γ w) {Γ1 Γ2 Γ3:QE} (h0:EO Γ Δ Γ1) (hw:OW Γ Δ) (h1:EO Γ1 Γ2 Γ3) (h2:MF Γ none Γ2):St B (Δ.reverse++Γ2) w:=by
 obtain ⟨Z,F,hs,hg⟩:=h
 obtain ⟨Fd,F1,a1,a2,a3⟩:=h0.sound hs
 obtain ⟨SY,F3,c1,c2,c3⟩:=h1.sound a2
 obtain ⟨F2,b1,b2⟩:=HL.build (HO.hl hw hs a1) (h2.sound hs (dj:=[]) (by rintro e he; cases he) c1)
 refine St.of (F':=Fd++SY) b2 (Gd.left (F':=F3) (hg.perm ?_)) b1
 rw [List.append_assoc]
 exact (c3.append_left Fd).trans a3
theorem St.leave (h:St B Γ w) (h0:EF Γ Δ Γ1):P9 B Δ w:=by
 obtain ⟨Z,F,hs,hg⟩:=h
 obtain ⟨Fd,F',Zn,a1,a2,a3⟩:=h0.sound hs
 refine ⟨_,Fd,a1,Gd.left (F':=F') (Gd.freeze (hg.perm a3) fun b hb=>hs.lt b (a3.mem_iff.1 (List.mem_append_right _ hb)))⟩
theorem St.back {β:Type} {e:TI} {E:ai β} {v u:Value} {xs:List β} {j:Int} {z:β} {Γ0:QE} (h:St B (.own E u z :: .ew e E v xs j u :: Γ0) w):St B (.own (aI e E) v (xs.set j.toNat z) :: Γ0) w:=by
 obtain ⟨Z,F,⟨k,F1,rfl,hk,f,F2,rfl,hf,hs⟩,hg⟩:=h
 obtain ⟨f',hp,hr⟩:=hf.2 w.heap (fun _ _=>rfl) z k hk
 have qh:(f'++F2).Perm (k++(f++F2)):=by
  rw [← List.append_assoc]
  exact (hp.trans List.perm_append_comm).append_right F2
 refine ⟨Z,f'++F2,⟨f',F2,rfl,hr,?_⟩,hg.perm qh⟩
 refine SA.mono (fun _ h=>h) (fun b hb=>hp.mem_iff.2 (List.mem_append_left _ hb)) hs
theorem ez {R M:Type} {cx:Cx R} {all l:LO} {rk:RK R M} {o:M} {r:NV} {d:Option Nat} {op:Op} {ty:TI} {pos:String} {ah:Array Edge} {g:Option (Nat×Bool)}
  (h:WL P all (⟨d,op,ty,pos,ah,none⟩ :: l) r w (Bz P cx B rk o)):sr P cx B false ⟨d,op,ty,pos,ah,g⟩ all l rk o r w:=by
 rcases h with ⟨_,h⟩ | ⟨hw,_⟩
 ·exact h
 ·cases hw
theorem St.put {F1 f':LN} (hS:SA Z w Γ' [] F1) (hg:Gd B Z (f++F1) w) (hC:an f w w') (ho:o7 Z w' f' e) (hn:f'.Nodup) (hs:∀ b∈f',b∈f∨w.heap.size≤b):St B (e :: Γ') w':=by
 have dt:=List.nodup_append.1 hg.nd
 have hk:SA Z w' Γ' [] F1:=hS.ec hC (fun b hb=>hg.apart b (List.mem_append_left _ hb)) (fun b _=>List.not_mem_nil) (fun b hb hm=>dt.2.2 b hb b hm rfl)
 refine ⟨Z,f'++F1,hk.cons ho,List.nodup_append.2 ⟨hn,dt.2.1,?_⟩,?_,fun b hb=>Nat.lt_of_lt_of_le (hg.tb b hb) hC.size,?_,hg.xK,hg.yi,hg.j9.then hC fun i hi=>hg.low i (List.mem_append_left _ hi)⟩
 ·rintro b hb c hc rfl
  rcases hs b hb with h | h
  ·exact dt.2.2 b h b hc rfl
  ·exact absurd (hS.lt b hc) (Nat.not_lt.2 h)
 ·intro b hb hz
  rcases List.mem_append.1 hb with hb | hb
  ·rcases hs b hb with h | h
   ·exact hg.apart b (List.mem_append_left _ h) hz
   ·exact absurd (hg.tb b hz) (Nat.not_lt.2 h)
  ·exact hg.apart b (List.mem_append_right _ hb) hz
 ·intro b hb
  rcases List.mem_append.1 hb with hb | hb
  ·rcases hs b hb with h | h
   ·exact hg.low b (List.mem_append_left _ h)
   ·exact .inr (Nat.le_trans hg.j9.size h)
  ·exact hg.low b (List.mem_append_right _ hb)
theorem St.new (h:St B Γ w) {f':LN} (hC:an [] w w') (ho:∀ Z,o7 Z w' f' e) (hn:f'.Nodup) (hs:∀ b∈f',w.heap.size≤b):St B (e :: Γ) w':=by
 obtain ⟨Z,F,hS,hg⟩:=h
 exact St.put (f:=[]) hS hg hC (ho Z) hn fun b hb=>.inr (hs b hb)
theorem Has.one {v:Value} (h:Has v Γ):∀ {cur F:LN},SA Z w Γ cur F→v.oneCell'=true:=by
 induction h with
 | @own α T x Γ=>rintro cur F ⟨f,F',_,h,_⟩; exact T.one h v (by simp)
 | @om α t E xs Γ=>rintro cur F ⟨f,F',_,⟨us,g,h,_⟩,_⟩; exact ai.one _ h v (by simp)
 | @rd o α T x Γ=>rintro cur F ⟨⟨g,h,_⟩,_⟩; exact T.one h v (by simp)
 | @there e Γ _ ih=>
  intro cur F hS
  cases e with
  | own T v x=>obtain ⟨f,F',h1,h2,h3⟩:=hS; exact ih h3
  | om e E v xs=>obtain ⟨f,F',h1,h2,h3⟩:=hS; exact ih h3
  | row b cs e=>obtain ⟨f,F',h1,h2,h3⟩:=hS; exact ih h3
  | ew e E v xs j u=>obtain ⟨f,F',h1,h2,h3⟩:=hS; exact ih h3
  | _=>exact ih hS.2
theorem One.one {v:Value} (h:One Γ v) (hS:SA Z w Γ cur F):v.oneCell'=true:=by
 cases h with
 | int=>rfl
 | bool=>rfl
 | ptr=>rfl
 | sl=>rfl
 | fn=>rfl
 | nf=>rfl
 | var h=>exact h.one hS
theorem u7.one {vs:LV} (h:u7 Γ vs) (hS:SA Z w Γ cur F):∀ u∈vs,u.oneCell'=true:=by
 induction h with
 | nil=>intro u hu; cases hu
 | cons h _ ih=>intro u hu; rcases List.mem_cons.1 hu with rfl | hu; exact h.one hS; exact ih u hu
theorem su.eq {v:Value} {cs:LV} (h:su Γ v cs) (hS:SA Z w Γ cur F):v.cells.toList=cs:=by
 cases h with
 | agg=>rfl
 | one h=>rw [cells_one (h.one hS)]
theorem tI.eq {us cs ds:LV} {j:Nat} (h:tI us j cs ds):j+us.length≤cs.length∧ds=cs.take j++us++cs.drop (j+us.length):=by
 induction h with
 | nil=>simp
 | put _ ih=>obtain ⟨h1,h2⟩:=ih; refine ⟨by simp at h1 ⊢; omega,?_⟩; rw [h2]; simp
 | s _ ih=>
  obtain ⟨h1,h2⟩:=ih
  refine ⟨by simp; omega,?_⟩
  rw [h2]
  rename_i us cs ds j _
  rw [show j+1+us.length=(j+us.length)+1 by omega]
  simp
theorem ux.eq {j n:Nat} {cs ds:LV} (h:ux j n cs ds):ds.length=n∧(cs.drop j).take n=ds:=by
 induction h with
 | z=>simp
 | c _ ih=>obtain ⟨h1,h2⟩:=ih; simp at h2; simp [h1,h2]
 | s _ ih=>simpa using ih
theorem u9.sound {a:Addr} {n:Nat} {ds:LV} (h:u9 Γ a n ds):∀ {cur F:LN},SA Z w Γ cur F→At w a ds∧ds.length=n:=by
 induction h with
 | row h=>
  rintro cur F ⟨f,F',h1,⟨_,h2⟩,_⟩
  obtain ⟨e1,e2⟩:=h.eq
  have:=At.sub h2.at (by rw [e1]; exact e2)
  rw [ir,Nat.zero_add] at this
  exact ⟨this,e1⟩
 | «at» h=>rintro cur F ⟨⟨h1,_⟩,_⟩; obtain ⟨e1,e2⟩:=h.eq; exact ⟨At.sub h1 (by rw [e1]; exact e2),e1⟩
 | KZ h=>rintro cur F ⟨⟨h1,_⟩,_⟩; obtain ⟨e1,e2⟩:=h.eq; exact ⟨At.sub (j:=0) h1 (by rw [e1]; exact e2),e1⟩
 | @there a n ds e Γ _ ih=>
  intro cur F hS
  cases e with
  | own T v x=>obtain ⟨f,F',h1,h2,h3⟩:=hS; exact ih h3
  | om e E v xs=>obtain ⟨f,F',h1,h2,h3⟩:=hS; exact ih h3
  | row b cs e=>obtain ⟨f,F',h1,h2,h3⟩:=hS; exact ih h3
  | ew e E v xs j u=>obtain ⟨f,F',h1,h2,h3⟩:=hS; exact ih h3
  | _=>exact ih hS.2
theorem vb.sound {v:Value} {n:Nat} (h:vb Γ v n):∀ {cur F:LN},SA Z w Γ cur F→∃ b c,v = .slice b n c:=by
 induction h with
 | lit=>intro _ _ _; exact ⟨_,_,rfl⟩
 | ln=>rintro cur F ⟨⟨g,⟨⟨a,c,hv⟩,_⟩,_⟩,_⟩; exact ⟨a,c,by simpa using hv⟩
 | rd h=>rintro cur F ⟨⟨g,h1,_⟩,_⟩; exact wM (h.le.le h1)
 | own h=>rintro cur F ⟨f,F',_,h1,_⟩; exact wM (h.le.le h1)
 | om=>rintro cur F ⟨f,F',_,h1,_⟩; obtain ⟨⟨g,h2,_⟩,_⟩:=Ju h1; exact wM h2
 | @there v n e Γ _ ih=>
  intro cur F hS
  cases e with
  | own T v x=>obtain ⟨f,F',h1,h2,h3⟩:=hS; exact ih h3
  | om e E v xs=>obtain ⟨f,F',h1,h2,h3⟩:=hS; exact ih h3
  | row b cs e=>obtain ⟨f,F',h1,h2,h3⟩:=hS; exact ih h3
  | ew e E v xs j u=>obtain ⟨f,F',h1,h2,h3⟩:=hS; exact ih h3
  | _=>exact ih hS.2
theorem FY.sound {k:IntKind} {us:LV} {xs:List Int} (h:FY k us xs):∀ (hp:Array Obj),us.length=xs.length∧df (aK k) hp us xs []:=by
 induction h with
 | nil=>intro h; exact ⟨rfl,rfl,rfl⟩
 | cons _ ih=>intro h; obtain ⟨e1,e2⟩:=ih h; exact ⟨by simp [e1],[_],_,[],[],rfl,rfl,⟨rfl,rfl⟩,e2⟩
theorem B2.sound {α:Type} {E:ai α} {v:Value} {x:α} (h:B2 Γ E v x Γ') {F:LN} (hS:SA Z w Γ [] F):∃ f F',(f++F').Perm F∧E.rep w.heap [v] x f∧SA Z w Γ' [] F':=by
 cases h with
 | int=>exact ⟨[],F,.refl _,⟨rfl,rfl⟩,hS⟩
 | bool=>exact ⟨[],F,.refl _,⟨rfl,rfl⟩,hS⟩
 | own h=>obtain ⟨f,F1,hp,ho,ik⟩:=h.sound hS; exact ⟨f,F1,hp,ho,ik⟩
 | @lit b n us k xs e Γ1 _ h0 h1 hn hb=>
  obtain ⟨f0,F1,hp,⟨rfl,bj⟩,ik⟩:=h0.sound hS
  obtain ⟨e1,e2⟩:=FY.sound h1 w.heap
  have F7:=Nat.le_of_ble_eq_true hb
  refine ⟨[b],F1,hp,⟨some ⟨b,0,none⟩,n,by rw [← hn,e1],.inr ⟨b,us.toArray,[],rfl,bj,rfl,by rw [← hn,e1]; exact Nat.le_refl _,Nat.le_trans F7 (by decide),by rw [show (aK k).size=1 from rfl,Nat.mul_one]; simp [hn],?_⟩⟩,ik⟩
  rw [show (aK k).size=1 from rfl,Nat.mul_one,List.toList_toArray,← e1,List.take_length]
  exact e2
theorem FZ.sound {α:Type} {E:ai α} {us:LV} {xs:List α} (h:FZ Γ E us xs Γ'):∀ {F:LN},SA Z w Γ [] F→us.length=xs.length∧∃ f F',(f++F').Perm F∧df E w.heap us xs f∧SA Z w Γ' [] F':=by
 induction h with
 | nil=>intro F hS; exact ⟨rfl,[],F,.refl _,⟨rfl,rfl⟩,hS⟩
 | cons h _ ih=>
  intro F hS
  obtain ⟨f1,F1,p1,r1,S1⟩:=h.sound hS
  obtain ⟨e,f2,F2,p2,r2,S2⟩:=ih S1
  exact ⟨by simp [e],f1++f2,F2,(by rw [List.append_assoc]; exact (p2.append_left f1).trans p1),⟨[_],_,f1,f2,rfl,rfl,r1,r2⟩,S2⟩
theorem EJ.sound {κ υ:Type} {ek:κ→Value} {eu:υ→Value} {v:Value} {x:List (κ×υ)} (h:EJ ek eu Γ v x):∀ {cur F:LN},SA Z w Γ cur F→∃ f,(yA ek eu).rep w.heap [v] x f:=by
 induction h with
 | own=>rintro cur F ⟨f,F',_,h2,_⟩; exact ⟨f,h2⟩
 | rd=>rintro cur F ⟨⟨f,h2,_⟩,_⟩; exact ⟨f,h2⟩
 | @there v x e Γ h ih=>
  intro cur F hS
  cases e with
  | own T v x=>obtain ⟨f,F',h1,h2,h3⟩:=hS; exact ih h3
  | om e E v xs=>obtain ⟨f,F',h1,h2,h3⟩:=hS; exact ih h3
  | row b cs e=>obtain ⟨f,F',h1,h2,h3⟩:=hS; exact ih h3
  | ew e E v xs j u=>obtain ⟨f,F',h1,h2,h3⟩:=hS; exact ih h3
  | _=>exact ih hS.2
theorem Rg.sound {v:Value} {j:Int} (h:Rg v j Γ):∀ {cur F:LN},SA Z w Γ cur F→0≤j∧j.toNat < wa v:=by
 induction h with
 | ad=>rintro cur F ⟨⟨h1,h2,_⟩,_⟩; exact ⟨h1,h2⟩
 | @there e Γ _ ih=>
  intro cur F hS
  cases e with
  | own T v x=>obtain ⟨f,F',h1,h2,h3⟩:=hS; exact ih h3
  | om e E v xs=>obtain ⟨f,F',h1,h2,h3⟩:=hS; exact ih h3
  | row b cs e=>obtain ⟨f,F',h1,h2,h3⟩:=hS; exact ih h3
  | ew e E v xs j u=>obtain ⟨f,F',h1,h2,h3⟩:=hS; exact ih h3
  | _=>exact ih hS.2
theorem Rj {pl:List (Nat×Nat)} {i:Nat} {p:Nat×Nat} (h:FW pl i=some p):pl[i]? = some p:=by
 induction pl generalizing i with
 | nil=>cases h
 | cons a l ih=>cases i with
  | zero=>simpa [FW] using h
  | succ n=>simpa using ih h
theorem F8:∀ (us:LV) (off k:Nat) (cs:Array Value),off+k+us.length≤cs.size→
  ((us.zipIdx k).foldl (fun (cs:Array Value) (p:Value×Nat)=>cs.setIfInBounds (off+p.2) p.1) cs).toList=cs.toList.take (off+k)++us++cs.toList.drop (off+k+us.length):=by
 intro us
 induction us with
 | nil=>intro off k cs h; simp
 | cons u us ih=>
  intro off k cs h
  simp only [List.zipIdx_cons,List.foldl_cons]
  simp only [List.length_cons] at h
  rw [ih off (k+1) _ (by simp; omega)]
  rw [Array.toList_setIfInBounds,show off+(k+1)=(off+k)+1 by omega]
  have hs:cs.toList.length=cs.size:=Array.length_toList
  generalize hl:cs.toList=l at *
  generalize off+k=o at *
  obtain ⟨a,x,b,rfl,rfl⟩ : ∃ a x b,l=a++x :: b∧a.length=o:=⟨l.take o,l[o]'(by omega),l.drop (o+1),by rw [List.getElem_cons_drop,List.take_append_drop],by rw [List.length_take]; omega⟩
  have e1:(a++x :: b).set a.length u=a++u :: b:=by simp
  rw [e1,List.length_cons]
  have e2:(a++u :: b).take (a.length+1)=a++[u]:=by rw [List.take_append,List.take_of_length_le (by omega)]; simp
  have e3:(a++u :: b).drop (a.length+1+us.length)=b.drop us.length:=by rw [show a.length+1+us.length=a.length+(us.length+1) by omega,List.drop_append,List.drop_eq_nil_of_le (by omega)]; simp
  have e4:(a++x :: b).drop (a.length+(us.length+1))=b.drop us.length:=by rw [List.drop_append,List.drop_eq_nil_of_le (by omega)]; simp
  have e5:(a++x :: b).take a.length=a:=by simp
  rw [e2,e3,e4,e5]
  simp
theorem va.fill {fr:Fr} {r:NV} (ha:dc r fr) (hS:SA Z w Γ cur F) {k:Nat} {ps:List (Nat×Operand)} {us:LV} (h:va Γ fr k ps us) :
  ∀ pre tV:List Value,pre.length=k→tV.length=us.length→Instr.fill (fun i=>some (i * 1,1)) (pre++tV).toArray (ps.map fun x=>(x.1,ev r x.2))=some (pre++us).toArray:=by
 induction h with
 | nil=>
  intro pre tV _ h2
  obtain rfl:tV=[]:=List.eq_nil_of_length_eq_zero h2
  rfl
 | @cons k x u ps us hx ho _ ih=>
  intro pre tV h1 h2
  cases tV with
  | nil=>cases h2
  | cons y tV=>
   have hc:=cells_one (ho.one hS)
   rw [List.map_cons,bC ha hx]
   unfold Instr.fill
   simp only [hc]
   rw [if_neg (by simp; omega)]
   have:=ih (pre++[u]) tV (by simp [h1]) (by simpa using h2)
   have e:(Array.foldl (fun cs (x:Value×Nat)=>cs.setIfInBounds (k * 1+x.2) x.1) (pre++y :: tV).toArray (#[u].zipIdx))=((pre++[u])++tV).toArray:=by
    subst h1
    simp
   first
    | (rw [e,this]; simp)
    | (simp only [e] at *; simp [this])
theorem va.op {P:Program} {fr:Fr} {r:NV} {w':World} {t e n:Nat} {ps:List (Nat×Operand)} {us:LV} {d:Option Nat} {ty:TI} {pos:String} {ah:Array Edge} {g:Option (Nat×Bool)} (hl:va Γ fr 0 ps us) (ha:dc r fr) (hS:SA Z w Γ cur F) (hz:FX P t e) (hn:us.length=n) (hb:(Nat.ble 1 n && Nat.ble n 16777216)=true) :
  (execOp (ev r) ⟨d,.buildSlice t n ps.toArray,ty,pos,ah,g⟩).run P w' = .ok (.value (.slice (some ⟨w'.heap.size,0,none⟩) n n)) (w'.alloc (.cells us.toArray e)):=by
 obtain ⟨h1,i,z,h2,h3,h4⟩:=hz.h
 rw [Bool.and_eq_true] at hb
 have b1:=Nat.le_of_ble_eq_true hb.1
 have b2:=Nat.le_of_ble_eq_true hb.2
 refine Lb h1 h2 h3 h4 b1 b2 ?_
 have:=hl.fill ha hS [] ((Array.range (n * 1)).map (z.cells[· % z.cells.size]!)).toList rfl (by simp [hn])
 rw [List.nil_append,List.nil_append,Array.toArray_toList] at this
 rw [show (ps.toArray.map fun (x:Nat×Operand)=>(x.1,ev r x.2)).toList=ps.map fun x=>(x.1,ev r x.2) by simp]
 exact this
theorem xN.fill {n:Nat} {fr:Fr} {r:NV} (ha:dc r fr) (hS:SA Z w Γ cur F) {k:Nat} {ps:List (Nat×Operand)} {us:LV} (h:xN Γ fr n k ps us) :
  us.length=ps.length * n∧∀ pre tV:List Value,pre.length=k * n→tV.length=us.length→Instr.fill (fun i=>some (i * n,n)) (pre++tV).toArray (ps.map fun x=>(x.1,ev r x.2))=some (pre++us).toArray:=by
 induction h with
 | nil=>
  refine ⟨by simp,fun pre tV _ h2=>?_⟩
  obtain rfl:tV=[]:=List.eq_nil_of_length_eq_zero h2
  rfl
 | @cons k x v cs us ws ps hx hc hl _ NG ih=>
  obtain ⟨e0,ih⟩:=ih
  have NG:=NG.eq
  subst NG
  refine ⟨by rw [List.length_append,hl,e0,List.length_cons,Nat.succ_mul,Nat.add_comm],fun pre tV h1 h2=>?_⟩
  rw [List.length_append] at h2
  have hv:=hc.eq hS
  have rz:v.cells=cs.toArray:=by rw [← hv]
  rw [List.map_cons,bC ha hx]
  unfold Instr.fill
  simp only [rz]
  rw [if_neg (by simp; omega)]
  have hsf:=F8 cs (k * n) 0 (pre++tV).toArray (by simp; omega)
  have:=ih (pre++cs) (tV.drop n) (by rw [List.length_append,h1,hl,Nat.succ_mul]) (by rw [List.length_drop]; omega)
  have e:(cs.toArray.zipIdx.foldl (fun (cs:Array Value) (x:Value×Nat)=>cs.setIfInBounds (k * n+x.2) x.1) (pre++tV).toArray)=((pre++cs)++tV.drop n).toArray:=by
   apply Array.toList_inj.1
   rw [← Array.foldl_toList]
   simp only [Array.toList_zipIdx]
   rw [hsf,← h1]
   simp only [Nat.add_zero,List.take_left',List.drop_append,List.append_assoc]
   rw [List.drop_eq_nil_of_le (by omega),show pre.length+cs.length - pre.length=n by omega]
   simp
  refine Eq.trans ?_ (this.trans (by simp))
  congr 1
theorem xN.op {P:Program} {fr:Fr} {r:NV} {w':World} {t e n k:Nat} {ps:List (Nat×Operand)} {us:LV} {d:Option Nat} {ty:TI} {pos:String} {ah:Array Edge} {g:Option (Nat×Bool)} (hl:xN Γ fr k 0 ps us) (ha:dc r fr) (hS:SA Z w Γ cur F) (hz:Qf P t e k) (hn:ps.length=n) (hb:(Nat.ble 1 n && Nat.ble (n * k) 16777216)=true) :
  (execOp (ev r) ⟨d,.buildSlice t n ps.toArray,ty,pos,ah,g⟩).run P w' = .ok (.value (.slice (some ⟨w'.heap.size,0,none⟩) n n)) (w'.alloc (.cells us.toArray e)):=by
 obtain ⟨h1,i,z,h2,h3,h4,h5⟩:=hz.h
 rw [Bool.and_eq_true] at hb
 have b1:=Nat.le_of_ble_eq_true hb.1
 have b2:=Nat.le_of_ble_eq_true hb.2
 obtain ⟨e1,hf⟩:=hl.fill ha hS
 have:=hf [] ((Array.range (n * k)).map (z.cells[· % z.cells.size]!)).toList (by simp) (by simp [e1,hn])
 rw [List.nil_append,List.nil_append,Array.toArray_toList] at this
 have alp:0 < n * k:=Nat.mul_pos b1 h5
 have h:=run_buildSlice (P:=P) w' t e n (ps.toArray.map fun (x:Nat×Operand)=>(x.1,ev r x.2)) us.toArray i z h1 h2 h3 (by rw [h4]; omega) (by rw [h4]; omega) (by rw [h4]; simpa using this)
 simp only [execOp]
 simp at h
 simp [h]
theorem wB.fill {fr:Fr} {r:NV} {pl:List (Nat×Nat)} {ps:List (Nat×Operand)} {cs es:LV} (h:wB Γ fr pl ps cs es) (ha:dc r fr) (hS:SA Z w Γ cur F) :
  Instr.fill (fun i=>pl.toArray[i]?) cs.toArray (ps.map fun x=>(x.1,ev r x.2))=some es.toArray:=by
 induction h with
 | nil=>rfl
 | @cons i off k x v us cs ds es ps hp hx hc hl hs _ ih=>
  rw [List.map_cons,bC ha hx]
  have hv:=hc.eq hS
  have xP:pl.toArray[i]? = some (off,k):=by rw [List.getElem?_toArray]; exact Rj hp
  obtain ⟨e1,e2⟩:=hs.eq
  have uy:v.cells.size=us.length:=by rw [← hv]; simp
  unfold Instr.fill
  simp only [xP]
  rw [if_neg (by simp [uy,hl]; omega)]
  have rz:v.cells=us.toArray:=by rw [← hv]
  have:=F8 us off 0 cs.toArray (by simpa using e1)
  rw [rz]
  have h2:(us.toArray.zipIdx.foldl (fun (cs:Array Value) (x:Value×Nat)=>cs.setIfInBounds (off+x.2) x.1) cs.toArray)=ds.toArray:=by
   apply Array.toList_inj.1
   rw [← Array.foldl_toList]
   simp only [Array.toList_zipIdx] 
   rw [this,e2]; simp
  refine Eq.trans ?_ ih
  congr 1
theorem vc {α:Type} {E:ai α} {t:TI} {v:Value} {xs:List α} {f:LN} (h:(aI t E).rep w.heap [v] xs f):wa v=xs.length:=by
 obtain ⟨base,cap,hv,_⟩:=h
 obtain rfl:v = .slice base xs.length cap:=by simpa using hv
 rfl
theorem zl.sound {fr:Fr} {r:NV} (ha:dc r fr) {fn:Func} {rs:List ResultVar} {vs:LV} (hr:fn.results=rs.toArray) (h:zl P fr Γ rs vs) {n:Nat} (hs:SA Z w Γ [] F) :
  ∀ a:Act,a.tmps.size=n→ch a=r→(results fn a.tmps).run P w = .ok (tH vs) w:=by
 rintro a - rfl
 have key:∀ {rs:List ResultVar} {vs:LV},zl P fr Γ rs vs→Sem.run P (rs.mapM fun | .tmp t=>pure (a.tmps.getD t undef) | .cell b t=>do loadVar t (← asAddr (a.tmps.getD b undef))) w = .ok vs w:=by
  intro rs vs h
  induction h with
  | nil=>rfl
  | @tmp t v l vs h _ ih=>
   rw [List.mapM_cons]
   have:=ha _ _ h
   simp only [ch] at this
   simp only [Sem.run_bind,this,ih,Sem.run_pure,Result.andThen_ok]
  | @cell t n ty p ds vs l hk h hw _ ih=>
   rw [List.mapM_cons]
   have:=ha _ _ h
   simp only [ch] at this
   obtain ⟨dd,i,k1,k2,k3,k4⟩:=hk.h
   obtain ⟨hc,hl⟩:=hw.sound hs
   have h3:=run_loadCells_list (P:=P) (w:=w) p ds hc
   rw [hl,← k4] at h3
   have h4:Sem.run P (do loadVar ty (← asAddr (a.tmps.getD t undef))) w = .ok (.agg ds.toArray) w:=by
    rw [this]
    simp [asAddr,loadVar,wS k1,k2,sizeOf,typeInfo,k3,h3]
   simp only [Sem.run_bind] at h4 ih ⊢
   rw [h4]
   simp only [ih,Sem.run_pure,Result.andThen_ok]
 have h2:=key h
 unfold results
 rw [hr,Sem.run_bind,List.mapM_toArray,← bind_pure_comp,Sem.run_bind]
 generalize hm:Sem.run P (List.mapM _ rs) w=z
 obtain rfl:z = .ok vs w:=hm.symm.trans h2
 simp only [Result.andThen_ok,Sem.run_pure]
 have e:∀ vs:List Value,(if h:vs.toArray.size=1 then vs.toArray[0] else Value.tuple vs.toArray)=tH vs:=by
  intro vs
  match vs with
  | []=>rfl
  | [v]=>rfl
  | a :: b :: l=>rw [dif_neg (by simp)]; rfl
 rw [e]
end
end Go.Dk
namespace Go.Dk
open Go Go.Li
section
variable {B:Bs} {P:Program} {R:Type} {cx:Cx R}
theorem WO {C:World→Prop} {ops:LO} {K:(Nat→Value)→World→Prop}:∀ (l':LO) (r:NV) (w:World),C w→QL P C ops l' r (fun r'=>∀ w',C w'→K r' w')→WL P ops l' r w K:=by
 intro l'
 induction l' with
 | nil=>intro r w hw hh; exact hh w hw
 | cons o l' ih=>
  intro r w hw hh
  rcases hh with ⟨F9,v,hv,hh⟩ | ⟨F9,hh⟩
  ·refine .inl ⟨F9,?_⟩
   have h3:=hv w hw
   unfold gf
   generalize (execOp (ev r) o).run P w=x at h3
   cases x with
   | halt y w'=>exact h3.elim
   | ok y w'=>
    cases y <;> simp only [Oper.quietUpon] at h3
    case value u=>obtain ⟨rfl,rfl⟩:=h3; exact ih _ _ hw hh
    case skip=>obtain ⟨rfl,rfl⟩:=h3; exact ih _ _ hw hh
    case enter f args=>
     obtain ⟨rfl,h3⟩:=h3
     exact h3.mono fun e EK ⟨he,NH⟩=>⟨v,he,ih _ _ NH hh⟩
  ·exact .inr ⟨F9,ih _ _ hw hh⟩
theorem NI {n id:Nat} {draw:Bool} {ops:LO} {Q:Exit→(Nat→Value)→World→Prop} {r:NV} {w:World} (hd:di n ops=true) (hm:draw=true→P.follows .mixedOrders=true∧Region.lexB .any ops.toArray=true)
  (h:QL P (an [] w) ops ops r fun r'=>∀ w',an [] w w'→Q .normal r' w'):W P n (.region id ops.toArray draw) Q r w:=by
 cases draw with
 | true=>exact Rk (hm rfl).1 hd (fun _=>(hm rfl).2) (an.refl _ _) (an.drew _ _) h
 | false=>exact zn hd (WO _ _ _ (an.refl _ _) h)
theorem Calls.Jx {f:FuncId} {fn:Func} {c:Code} {xs:List Operand} {bg:Array TypeId} {r:NV} {w:World} {d:Option Nat} {ty:TI} {pos:String} {ah:Array Edge} {g:Option (Nat×Bool)} {K:Value→World→Prop}
  (hf : P.funcs[f]? = some fn) (hb : fn.body = some c) (hn : (fn.name == "runtime.NumGoroutine") = false)
  (h:Calls P f (xs.map (ev r)).toArray w fun e w'=>∃ v,e = .returned v∧K v w'):gf P ⟨d,.call ⟨.value (.func f),xs.toArray,bg⟩,ty,pos,ah,g⟩ r w K:=by
 unfold gf
 rw [Ga hf hb hn]
 exact h
theorem ve {Z:Nat→Prop} {w:World}:∀ {Δ:QE},(∀ e∈Δ,fact Z w [] e)→HL Z w Δ []:=by
 intro Δ
 induction Δ with
 | nil=>intro _; exact .nil
 | cons e Δ ih=>intro h; exact .fact (h e (by simp)) (ih fun e he=>h e (by simp [he]))
theorem CU {Z Z2:Nat→Prop} {w:World}:∀ {Δ:QE} {F:LN},tS Δ=true→HL Z2 w Δ F→HL Z w Δ F:=by
 intro Δ
 induction Δ with
 | nil=>intro F _ h; cases h; exact .nil
 | cons e Δ ih=>
  intro F ho h
  cases e with
  | own T v x=>cases h with
   | own h k=>exact .own h (ih ho k)
   | fact h k=>exact h.elim
  | row b cs e=>cases h with
   | own h k=>exact .own h (ih ho k)
   | fact h k=>exact h.elim
  | _=>cases ho
theorem EL {f:FuncId} {ow:Bool} {vs:LV} {Δ Γ1:QE} {β V:Type} {mo:Option β} {rt:β→V→List Value} {ps:β→V→List aq} {w:World} {Z Z':Nat→Prop} {Fd F1:LN} {y:β} (hc:SF P f ow vs Δ β V mo rt ps) (hl:HL Z' w Δ Fd) (a2:SA Z w Γ1 [] F1) (r3:Gd B Z (Fd++F1) w)
  (hz:∀ b,Z b→Z' b) (Qk:∀ b,Z' b→Z b∨b∈F1) (hm:(∀ v,tS (ps y v)=true)∨∀ b,Z' b→Z b) (hy:mo=some y) :
  Calls P f vs.toArray w fun e w'=>∃ v,e = .returned (tH (rt y v))∧St B ((ps y v).reverse++Γ1) w':=by
 have dt:=List.nodup_append.1 r3.nd
 refine (hc.2 w Z' Fd hl dt.1 (fun b hb hzb=>(Qk b hzb).elim (r3.apart b (List.mem_append_left _ hb)) (fun h=>dt.2.2 b hb b h rfl)) (fun b hb=>(Qk b hb).elim (r3.tb b) (a2.lt b)) y hy).mono ?_
 rintro e w' ⟨v,he,Z2,F2,uW,pg⟩
 refine ⟨v,he,?_⟩
 have hC:an Fd w w':=pg.j9
 have hF1:SA Z w' Γ1 [] F1:=a2.ec hC (fun b hb=>r3.apart b (List.mem_append_left _ hb)) (fun b _=>List.not_mem_nil) (fun b hb hm=>dt.2.2 b hb b hm rfl)
 have fin:∀ Z3:Nat→Prop,HL Z3 w' (ps y v) F2→(∀ b,Z b→Z3 b)→(∀ b,Z3 b→Z b∨b∈Fd∨w.heap.size≤b)→(∀ b∈F2,¬ Z3 b)→(∀ b,Z3 b→b < w'.heap.size)→St B ((ps y v).reverse++Γ1) w':=by
  intro Z3 CV XY XZ h33 h34
  obtain ⟨F3,b1,b2⟩:=CV.build (hF1.mono XY fun _ h=>h)
  refine St.of b2 (F':=F2++F1) ?_ b1
  refine ⟨List.nodup_append.2 ⟨pg.nd,dt.2.1,?_⟩,?_,h34,?_,fun b hb=>XY b (r3.xK b hb),?_,?_⟩
  ·rintro b hb c EE rfl
   rcases pg.low b hb with h | h
   ·exact dt.2.2 b h b EE rfl
   ·exact absurd (a2.lt b EE) (Nat.not_lt.2 h)
  ·intro b hb hz
   rcases List.mem_append.1 hb with hb | hb
   ·exact h33 b hb hz
   ·rcases XZ b hz with h | h | h
    ·exact r3.apart b (List.mem_append_right _ hb) h
    ·exact dt.2.2 b h b hb rfl
    ·exact absurd (a2.lt b hb) (Nat.not_lt.2 h)
  ·intro b hb
   rcases List.mem_append.1 hb with hb | hb
   ·rcases pg.low b hb with h | h
    ·exact r3.low b (List.mem_append_left _ h)
    ·exact .inr (Nat.le_trans r3.j9.size h)
   ·exact r3.low b (List.mem_append_right _ hb)
  ·intro b hb
   rcases XZ b hb with h | h | h
   ·exact r3.yi b h
   ·exact .inr (r3.low b (List.mem_append_left _ h))
   ·exact .inr (.inr (Nat.le_trans r3.j9.size h))
  ·exact r3.j9.then hC fun i hi=>r3.low i (List.mem_append_left _ hi)
 rcases hm with hm | hm
 ·exact fin Z (CU (hm v) uW) (fun _ h=>h) (fun _ h=>.inl h) (fun b hb h=>pg.apart b hb (pg.xK b (hz b h))) (fun b hb=>Nat.lt_of_lt_of_le (r3.tb b hb) hC.size)
 ·exact fin Z2 uW (fun b h=>pg.xK b (hz b h)) (fun b h=>(pg.yi b h).imp (hm b) id) pg.apart pg.tb
theorem Lc {M α:Type} {rk:RK R M} {oo:M} {E E':ai α} {t:TI} {x y:OO} {i:TypeInfo} {Γ Γ1 Γx:QE} {w:World} {r:NV} {v v' u:Value} {j j':Int} {e e':TI} {zs:List α} {xs:List (List α)} {z:α} {o1 o2:Bool} {all l:LO} {ty:TI} {pos:String} {ah:Array Edge} {g:Option (Nat×Bool)}
  (hE:∀ {h cs x f},E.rep h cs x f→f=[]) (h1:E.size=1) (hi:P.info? t=some i) (hs:i.size=1) (hS:St B Γ w) (hl:Loc Γ v (.row v' j')) (h0:Rg v j Γ) (hf:qa Γ v o1 o2 E' zs uk Γx) (hr:RT E E') (h2:ee Γ (.own (aI e (aI e' E)) v' xs) Γ1)
  (hx:ev r x = .pointer (some (cw v 1 j))) (hy:ev r y=u) (hu:E.rep w.heap [u] z [])
  (k:∀ w',St B (.own (aI e (aI e' E)) v' (xs.set j'.toNat (zs.set j.toNat z)) :: Γ1) w'→WL P all l (gh r none undef) w' (Bz P cx B rk oo)):sr P cx B false ⟨none,.store t x y,ty,pos,ah,g⟩ all l rk oo r w:=by
 obtain ⟨Z,F,hS,hg⟩:=hS
 obtain ⟨j0,j1,hc⟩:=Loc.row hl rfl hS
 obtain ⟨r0,r1⟩:=h0.sound hS
 obtain ⟨dj,_,⟨⟨gg,hgg,_⟩,_⟩,_⟩:=hf.sound hS
 obtain ⟨f,F1,hp,hO,ik⟩:=h2.sound hS
 have l7:=hg.perm hp
 have dt:=List.nodup_append.1 l7.nd
 have hlen:wa v'=xs.length:=vc hO
 rw [hlen] at j1
 obtain ⟨k0,g0,a1,a2,a3⟩:=Iy rfl hO (List.getElem?_eq_getElem j1) hc
 have X0:RT (aI e' E) (bG E'):=.own hr
 have hz:xs[j'.toNat]=zs:=X0.vE (X0.le.le a1) hgg
 rw [hz] at a1
 have uW:wa v=zs.length:=vc a1
 rw [uW] at r1
 have Gb:=List.nodup_append.1 (a2.nodup_iff.2 dt.1)
 refine ez (WL.D4 (E:=E) k0 w.heap.size hE h1 hi hs ⟨a1,Gb.1,fun b hb=>.inl hb⟩ (List.getElem?_eq_getElem r1) hx hy hu fun w' hC tz=>k w' ?_)
 have hkf:∀ b∈k0,b∈f:=fun b hb=>a2.mem_iff.1 (List.mem_append_left _ hb)
 obtain ⟨f',b1,b2⟩:=a3.2 w'.heap (fun b hb=>hC.block b (a3.1 b hb) fun hm=>Gb.2.2 b hm b hb rfl) _ k0 tz.1
 have X1:f'.Perm f:=b1.trans (List.perm_append_comm.trans a2)
 exact St.put ik l7 (hC.mono hkf) b2 (X1.nodup_iff.2 dt.1) fun b hb=>.inl (X1.mem_iff.1 hb)
theorem D.sound {J:Jd R} (h:D P cx J):na P cx J:=by
 induction h with
 | pf _ ih=>simpa [na] using ih
 | pe _ ih=>simpa [na] using ih
 | pz _ ih=>simpa [na] using ih
 | @cso A y k _ _ ih0 Lf=>
  cases y with
  | none=>exact ih0
  | some a=>exact Lf a
 | csd _ ih=>exact ih
 | tp1 _ ih=>exact ih
 | tp2 _ ih=>exact ih
 | WK=>exact fun B o ho=>nomatch ho
 | seq _ ih=>exact fun B o ho r w ha hs=>WQ (ih B o ho r w ha hs)
 | skip _ ih=>exact fun B o ho r w ha hs=>SZ (ih B o ho r w ha hs)
 | exit _ ih=>exact fun B o ho r w ha hs=>S3 (ih B o ho r w ha hs)
 | cond hb _ ih=>exact fun B o ho r w ha hs=>Lh (ha _ _ hb) (ih B o ho r w ha hs).1 (ih B o ho r w ha hs).2
 | cdt _ ih=>exact fun B o ho r w ha hs=>⟨fun _=>ih B o ho r w ha hs,fun h=>nomatch h⟩
 | cdf _ ih=>exact fun B o ho r w ha hs=>⟨(fun h=>nomatch h),fun _=>ih B o ho r w ha hs⟩
 | cds _ _ Lf S4=>exact fun B o ho r w ha hs=>⟨fun h=>Lf B o (by rw [h] at ho; exact ho) r w ha hs,fun h=>S4 B o (by rw [h] at ho; exact ho) r w ha hs⟩
 | ret hr _ h h1=>
  intro B o ho r w ha hs
  cases ho
  refine WR (vH ?_)
  obtain ⟨Z,F,hS,hg⟩:=hs
  refine ⟨_,h.sound ha hr hS,?_⟩
  exact ⟨_,rfl,St.leave ⟨Z,F,hS,hg⟩ h1⟩
 | block _ ih=>exact fun B o ho r w ha hs=>ih B o ho r w ha hs
 | bkf _ ih=>exact fun B o ho r w ha hs=>IS (ih B o ho r w ha hs)
 | bks h=>rw [mg] at h; exact h
 | draw _ ih=>exact fun B o ho r w ha hs=>ih B o ho r w ha hs
 | drs h=>rw [mg] at h; exact h
 | inj h=>rw [mg] at h; exact h
 | region hd _ ih=>exact fun B o ho r w ha hs=>ih hd (fun h=>nomatch h) B o ho r w ha hs _
 | rgf _ ih=>exact fun hd _ B o ho r w ha hs id=>zn hd (ih B o ho r w ha hs)
 | rgq _ ih=>exact fun hd hm B o ho r w ha hs id=>NI hd hm (ih B o ho r w ha hs)
 | rgt _ ih=>exact fun hd _=>ih hd
 | XW _ ih=>exact fun hd B o ho r w ha hs id=>zn hd (ih B o ho r w ha hs)
 | rwf ht _ _ _ ih CW=>
  intro hd B o ho r w ha hs id
  obtain ⟨g,hg,ho⟩:=bind_some ho
  refine NI hd (fun h=>nomatch h) (QL.meet _ (ih B g hg r w ha hs) ?_)
  intro r' gp w' hC
  obtain ⟨h1,h2⟩:=gp w' hC
  refine CW g B o ho r' w' ?_ (hs.kh hC)
  intro s u hl
  unfold look at hl
  cases hb:Nat.beq s _ with
  | true=>rw [hb] at hl; cases hl; rw [Nat.eq_of_beq_eq_true hb]; exact h1
  | false=>rw [hb] at hl; exact h2 s u hl
 | @osl S q _ K Γ fr m _ ih=>
  intro B o ho r w ha hs
  cases q with
  | false=>exact ih B o ho r w ha hs
  | true=>exact fun w' hC=>ih B o ho r w' ha (hs.kh hC)
 | @ohl S q all tail K Γ fr m _ ih=>
  intro B o ho r w ha hs
  cases q with
  | false=>exact ih B o ho r w ha hs
  | true=>exact fun w' hC=>ih B o ho r w' ha (hs.kh hC)
 | tgn _ ih=>exact ih
 | tgg ht _ _ _ ih CW=>
  intro B o ho r w ha hs
  obtain ⟨g,hg,ho⟩:=bind_some ho
  refine QL.meet _ (ih B g hg r w ha hs) ?_
  intro r' gp w' hC
  obtain ⟨h1,h2⟩:=gp w' hC
  refine CW g B o ho r' w' ?_ (hs.kh hC)
  intro s u hl
  unfold look at hl
  cases hb:Nat.beq s _ with
  | true=>rw [hb] at hl; cases hl; rw [Nat.eq_of_beq_eq_true hb]; exact h1
  | false=>rw [hb] at hl; exact h2 s u hl
 | rgg ht _ _ _ ih CW=>
  intro hd hm B o ho r w ha hs id
  obtain ⟨g,hg,ho⟩:=bind_some ho
  refine NI hd hm (QL.meet _ (ih B g hg r w ha hs) ?_)
  intro r' gp w' hC
  obtain ⟨h1,h2⟩:=gp w' hC
  refine CW g B o ho r' w' ?_ (hs.kh hC)
  intro s u hl
  unfold look at hl
  cases hb:Nat.beq s _ with
  | true=>rw [hb] at hl; cases hl; rw [Nat.eq_of_beq_eq_true hb]; exact h1
  | false=>rw [hb] at hl; exact h2 s u hl
 | Y6 _ ih=>exact fun B o ho r w ha hs=>ih B o ho r w ha hs
 | Y7 _ ih=>exact fun B o ho r w ha hs=>ih B o ho r w ha hs
 | @WN S V k Δ φ Γ2 Γ Γ1 Γ3 f2 fr s v _ ha hf h0 hw h1 h2=>
  intro B o ho r w ph hs
  cases ho
  exact ⟨v,qk (ha.all ph) (hf.sound ph),hs.again h0 hw h1 h2⟩
 | @WM S V k Δ φ Γ2 Γ Γ1 Γ3 f2 fr s v _ ha hf h0 hw h1 h2=>
  intro B o ho r w ph hs
  cases ho
  refine ⟨rfl,?_⟩
  show (bif Nat.beq k k then _ else False)
  rw [show Nat.beq k k=true from Nat.beq_refl k]
  exact ⟨v,qk (ha.all ph) (hf.sound ph),hs.again h0 hw h1 h2⟩
 | Y8 _ ih=>exact fun B o ho r w ha hs=>ih B o ho r w ha hs
 | @Y9 S fu kb k j Γ fr m _ ih=>
  intro B o ho r w ha hs
  have:=ih B o ho r w ha hs
  show (bif Nat.beq k j then _ else _)
  cases hb:Nat.beq k j with
  | true=>rw [hb] at this; exact this
  | false=>rw [hb] at this; exact this
 | xbt _ ih=>exact fun B o ho r w ha hs=>ih B o ho r w ha hs
 | xbf _ ih=>exact fun B o ho r w ha hs=>ih B o ho r w ha hs
 | @Y5 S q _ K Γ fr m _ ih=>
  intro B o ho r w ha hs
  cases q with
  | false=>exact ih B o ho r w ha hs
  | true=>exact fun w' hC=>ih B o ho r w' ha (hs.kh hC)
 | @ogd q _ t f0 fr Γ b h k=>
  intro B o ho r w ha hs
  cases ho
  cases q with
  | false=>exact ⟨ha _ _ h,k.sound ha⟩
  | true=>exact fun w' hC=>⟨ha _ _ h,k.sound ha⟩
 | plain _ ih=>exact fun B o ho r w ha hs=>Co (tu rfl) (ih B o ho r w ha hs _ _ _)
 | grd hj hv _ ih=>exact fun B o ho r w ha hs=>ih hj hv B o ho r w ha hs _ _
 | gtt _ ih=>exact fun hj hv B o ho r w ha hs pos ah=>Co ((xL rfl hj (ha _ _ hv)).trans rfl) (ih B o ho r w ha hs _ _ _)
 | gff _ ih=>exact fun hj hv B o ho r w ha hs pos ah=>Co ((xL rfl hj (ha _ _ hv)).trans rfl) (ih B o ho r w ha hs _ _ _)
 | gtf _ ih=>exact fun hj hv B o ho r w ha hs pos ah=>FU ((xL rfl hj (ha _ _ hv)).trans rfl) (ih B o ho _ w (av ha) hs)
 | gft _ ih=>exact fun hj hv B o ho r w ha hs pos ah=>FU ((xL rfl hj (ha _ _ hv)).trans rfl) (ih B o ho _ w (av ha) hs)
 | @gsp M q b tt d op ty j t all l rk Γ fr m1 m2 _ _ Lf S4=>
  intro hj hv B o ho r w ha hs pos ah
  have key:∀ c:Bool,b=c→dc r ((t,.bool c) :: fr)∧look ((t,Value.bool c) :: fr) t=some (.bool c):=by
   intro c hc
   refine ⟨?_,by unfold look; rw [show Nat.beq t t=true from Nat.beq_refl t]; rfl⟩
   intro s u hl
   unfold look at hl
   cases hb:Nat.beq s t with
   | true=>rw [hb] at hl; cases hl; rw [Nat.eq_of_beq_eq_true hb,← hc]; exact ha _ _ hv
   | false=>rw [hb] at hl; exact ha s u hl
  cases b with
  | true=>exact Lf hj (key true rfl).2 B o ho r w (key true rfl).1 hs pos ah
  | false=>exact S4 hj (key false rfl).2 B o ho r w (key false rfl).1 hs pos ah
 | mv hx _ ih=>exact fun B o ho r w ha hs pos ah g=>cu (Mv _ (bC ha hx)) (ih B o ho _ w (av ha) hs)
 | as hx _ ih=>exact fun B o ho r w ha hs pos ah g=>cu (Av _ (bC ha hx)) (ih B o ho _ w (av ha) hs)
 | add hx hy _ ih=>exact fun B o ho r w ha hs pos ah g=>cu (Ba (bC ha hx) (bC ha hy)) (ih B o ho _ w (av ha) hs)
 | sub hx hy _ ih=>exact fun B o ho r w ha hs pos ah g=>cu (Go.Li.Bs (bC ha hx) (bC ha hy)) (ih B o ho _ w (av ha) hs)
 | mul hx hy _ ih=>exact fun B o ho r w ha hs pos ah g=>cu (Bm (bC ha hx) (bC ha hy)) (ih B o ho _ w (av ha) hs)
 | lss hx hy _ ih=>exact fun B o ho r w ha hs pos ah g=>cu (Bl (bC ha hx) (bC ha hy)) (ih B o ho _ w (av ha) hs)
 | leq hx hy _ ih=>exact fun B o ho r w ha hs pos ah g=>cu (Bk (bC ha hx) (bC ha hy)) (ih B o ho _ w (av ha) hs)
 | gtr hx hy _ ih=>exact fun B o ho r w ha hs pos ah g=>cu (Bg (bC ha hx) (bC ha hy)) (ih B o ho _ w (av ha) hs)
 | geq hx hy _ ih=>exact fun B o ho r w ha hs pos ah g=>cu (Bh (bC ha hx) (bC ha hy)) (ih B o ho _ w (av ha) hs)
 | eql hx hy hb _ ih=>
  intro B o ho r w ha hs pos ah g
  refine cu ?_ (ih B o ho _ w (av ha) hs)
  cases hb with
  | int=>exact Be (bC ha hx) (bC ha hy)
  | @bool a b h=>exact fun _ _=>Rm (bC ha hx) (bC ha hy) h.h
  | @NB a h=>exact Zc h.h (bC ha hx) (bC ha hy)
  | @NC h=>exact Zd h.h (bC ha hx) (bC ha hy)
  | @s2 k0 k1 a b c e h=>
   obtain ⟨f0,f1,h1,h2,h3,h4,h5,h6,h7,h8,h9⟩:=h.h
   exact fun _ _=>NJ h1 h2 h3 h4 h5 h6 h7 h8 h9 (bC ha hx) (bC ha hy)
 | neq hx hy hb _ ih=>
  intro B o ho r w ha hs pos ah g
  refine cu ?_ (ih B o ho _ w (av ha) hs)
  cases hb with
  | int=>exact Bn (bC ha hx) (bC ha hy)
  | @bool a b h=>exact fun _ _=>NK (bC ha hx) (bC ha hy) h.h
  | @NB a h=>exact Ze h.h (bC ha hx) (bC ha hy)
  | @NC h=>exact Zf h.h (bC ha hx) (bC ha hy)
  | @s2 k0 k1 a b c e h=>
   obtain ⟨f0,f1,h1,h2,h3,h4,h5,h6,h7,h8,h9⟩:=h.h
   exact fun _ _=>NL h1 h2 h3 h4 h5 h6 h7 h8 h9 (bC ha hx) (bC ha hy)
 | not hx _ ih=>exact fun B o ho r w ha hs pos ah g=>cu (Nt (bC ha hx)) (ih B o ho _ w (av ha) hs)
 | ND hx _ ih=>exact fun B o ho r w ha hs pos ah g=>cu (Nk (bC ha hx)) (ih B o ho _ w (av ha) hs)
 | @pick M q d c x y ty b v all l rk Γ fr m hc hx _ ih=>
  intro B o ho r w ha hs pos ah g
  refine cu ?_ (ih B o ho _ w (av ha) hs)
  intro w' _
  rw [Ro (bC ha hc)]
  cases b
  ·rw [← bC ha hx]; rfl
  ·rw [← bC ha hx]; rfl
 | ext hx hv _ ih=>exact fun B o ho r w ha hs pos ah g=>cu (Ex _ (bC ha hx) (by simpa using hv)) (ih B o ho _ w (av ha) hs)
 | @SM M q d s k off x ty a a' all l rk Γ fr m hf hx hq _ ih=>
  intro B o ho r w ha hs pos ah g
  refine cu ?_ (ih B o ho _ w (av ha) hs)
  rw [hq.eq]
  exact Fp hf.h (bC ha hx)
 | @len M q d n x v t ty all l rk Γ fr m ht hx hr _ ih=>
  intro B o ho r w ha hs pos ah g
  obtain ⟨Z,F,hS,_⟩:=id hs
  obtain ⟨b,c,rfl⟩:=hr.sound hS
  obtain ⟨e,i,h1,_,_⟩:=ht.h
  exact cu (fun _ _=>wT h1 (bC ha hx)) (ih B o ho _ w (av ha) hs)
 | @idx M α q d x y v k j t ty o1 o2 E xs Γ' all l rk Γ fr f ht hx hy hr hE _ ih=>
  intro B o ho r w ha hs pos ah g
  obtain ⟨z,hz,ho⟩:=bind_some ho
  replace hz:=p3 hz
  obtain ⟨Z,F,hS,hG⟩:=hs
  obtain ⟨dj,_,⟨⟨n,hn,_⟩,CX⟩,tJ⟩:=(hr z).sound hS
  exact cu (Ix ht.h hn hz (bC ha hx) (bC ha hy) hE) (ih z B o ho _ w (av ha) ⟨Z,F,tJ (CX hE j z hz.1 hz.2),hG⟩)
 | @CT M α q d b n x us E xs e ty all l rk Γ Γ1 Γ2 fr m hx h0 h1 hE hn hb _ ih=>
  intro B o ho r w ha hs pos ah g
  have he:=bC ha hx
  refine cu (v:=.slice (some ⟨b,0,none⟩) n n) (fun _ _=>by rw [← he]; rfl) (ih B o ho _ w (av ha) ?_)
  obtain ⟨Z,F,hS,hg⟩:=hs
  obtain ⟨f0,F1,hp,⟨rfl,bj⟩,ik⟩:=h0.sound hS
  obtain ⟨e1,f,F2,qh,hr,jf⟩:=h1.sound ik
  have F7:=Nat.le_of_ble_eq_true hb
  refine ⟨Z,([b]++f)++F2,⟨[b]++f,F2,rfl,⟨some ⟨b,0,none⟩,n,by rw [← hn,e1],.inr ⟨b,us.toArray,f,rfl,bj,rfl,by rw [← hn,e1]; exact Nat.le_refl _,Nat.le_trans F7 (by decide),by rw [hE,Nat.mul_one]; simp [hn],?_⟩⟩,jf.any⟩,hg.perm (by rw [List.append_assoc]; exact (qh.append_left [b]).trans hp)⟩
  rw [hE,Nat.mul_one,List.toList_toArray,← e1,List.take_length]
  exact hr
 | @lnm M κ υ q d x v t ty bq ek eu xs all l rk Γ fr m ht hx hr _ ih=>
  intro B o ho r w ha hs pos ah g
  obtain ⟨Z,F,hS,_⟩:=id hs
  obtain ⟨f,hm⟩:=hr.sound hS
  obtain ⟨kt,vt,kd,h1,_,_⟩:=ht.h
  exact cu (fun w' hC=>Rp (ek:=ek) (uz:=eu) h1 (by rw [bC ha hx]; exact ai.ec _ hm hC fun _ _=>List.not_mem_nil)) (ih B o ho _ w (av ha) hs)
 | @SX M q d x k k2 n s t ty all l rk Γ fr m ht hx _ ih=>
  intro B o ho r w ha hs pos ah g
  exact cu (fun _ _=>IT ht.h.1 ht.h.2 (bC ha hx)) (ih B o ho _ w (av ha) hs)
 | @tv M q d op x y k k' a b t t' ty all l rk Γ fr f hx hy hk _ ih=>
  intro B o ho r w ha hs pos ah g
  obtain ⟨z,hz,ho⟩:=bind_some ho
  have Az:K7 op=true∨k=k':=by
   cases hk with
   | same=>exact .inr rfl
   | sh h=>exact .inl h
  exact cu (fun _ _=>Lj (bC ha hx) (bC ha hy) Az hz) (ih z B o ho _ w (av ha) hs)
 | @mkm M κ υ d t ty bq ek eu all l rk Γ fr m ht _ ih=>
  intro B o ho r w ha hs pos ah g
  exact ez (WL.val rfl Jy (ih _ B o ho _ _ (av ha) (hs.new (f':=[w.heap.size]) (an.alloc _ _ _) (fun _=>⟨w.heap.size,#[],0,rfl,rfl,(MapKept.heap_alloc w _).1,rfl⟩) (by simp) (vf (Nat.le_refl _)))))
 | @mpu M κ υ x y z v t ty bq ek eu xs a b all l rk Γ Γ1 fr m ht hx hy hz h1 _ ih=>
  intro B o ho r w ha hs pos ah g
  obtain ⟨kt,vt,kd,q1,q2,q3⟩:=ht.h
  obtain ⟨Z,F,hS,hg⟩:=hs
  obtain ⟨n,F1,hp,hO,ik⟩:=h1.sound hS
  obtain ⟨i,es,ck,rfl,e1,e2⟩:=Lk (P:=P) (d:=none) (ty:=ty) (pos:=pos) (ah:=ah) (g:=none) (ek:=ek) (uz:=eu) (a:=a) (b:=b) (x:=x) (k:=y) (v:=z) (r:=r) q3 q1 q2 (by rw [bC ha hx]; exact hO) (bC ha hy) (bC ha hz)
  rw [bC ha hx] at e2
  exact ez (WL.skip rfl e1 (ih B o ho _ _ ha (St.put (f:=[i]) (f':=[i]) ik (hg.perm hp) (an.setObj _ _ _) e2 (by simp) fun b hb=>.inl hb)))
 | @Y4 M q d n k x v t ty all l rk Γ fr m ht hx hr _ ih=>
  intro B o ho r w ha hs pos ah g
  obtain ⟨Z,F,hS,_⟩:=id hs
  obtain ⟨e,i,h1,_,_⟩:=ht.h
  obtain ⟨b,c,hv⟩:=hr.sound hS
  exact cu (v:=.int .i64 (n:Int)) (fun _ _=>wT h1 ((bC ha hx).trans hv)) (ih B o ho _ w (av ha) hs)
 | @F4 M α V q d n x y v k j t ty S cl en xs all l rk Γ Γx fr f ht hx hy hr qb hn _ ih=>
  intro B o ho r w ha hs pos ah g
  replace qb:SO S V cl en:=by cases qb; assumption
  obtain ⟨z,hz,ho⟩:=bind_some ho
  replace hz:=p3 hz
  obtain ⟨e,i,h1,h2,h3⟩:=ht.h
  obtain ⟨Z,F,hS,hG⟩:=hs
  obtain ⟨dj,_,⟨⟨f0,EM,wm⟩,_⟩,_⟩:=hr.sound hS
  have hZ:∀ b∈f0,Z b:=fun b hb=>(wm b hb).elim id id
  obtain ⟨⟨a,c,hv⟩,bh,cs,f1,dp,Ll,jy⟩:=vh EM j hz.1 hz.2
  have vG:(rf S).size=n:=hn
  rw [vG] at jy
  obtain ⟨u,rfl,ql⟩:=qb.op dp.2
  have hblk:Z (cw v n j).block:=by
   obtain ⟨base,cap,nt,gp⟩:=EM
   rcases gp with ⟨rfl,_⟩ | ⟨b,off,cr,e',fz,f',rfl,_,rfl,_⟩
   ·simp at bh; omega
   ·obtain rfl:v = .slice (some ⟨b,off,none⟩) xs.length cap:=by simpa using nt
    have:(cw (.slice (some ⟨b,off,none⟩) xs.length cap) n j).block=b:=by unfold cw; rw [vD]
    rw [this]; exact hZ b (by simp)
  have Gc:fact Z w [] (.bg (cw v n j) (cl z u)):=⟨fun i u' hi=>jy i u' hi,fun _=>hblk⟩
  have dx:HL Z w (.bg (cw v n j) (cl z u) :: en z u) []:=.fact Gc (ve (ql Z fun b hb=>hZ b (Ll b hb)))
  obtain ⟨F',hp,jf⟩:=dx.build hS
  refine cu (v:=.pointer (some (cw v n j))) (fun w' hC=>?_) (ih z u B o ho _ w (av ha) ⟨Z,F',jf,hG.perm (by simpa using hp)⟩)
  rw [kn h1 h2 ((bC ha hx).trans hv) (bC ha hy) hz.1 (by omega),h3,hv]
  rfl
 | @load M q d x a t ty lk all l rk Γ fr m ht hx _ ih=>exact fun B o ho r w ha hs pos ah g=>ih ht.h hx B o ho r w ha hs _ _ _ _
 | @SN M α q d x v j ty o E z Γx all l rk Γ fr m h _ ih=>
  intro ht hx B o ho r w ha hs t pos ah g
  obtain ⟨Z,F,hS,_⟩:=id hs
  obtain ⟨_,⟨u,k,h1,h2,_⟩,_⟩:=h.sound hS
  exact ih ht hx B o ho r w ha hs ⟨u,k,h1,h2⟩ _ _ _ _
 | SP h _ ih=>
  intro ht hx B o ho r w ha hs t pos ah g
  obtain ⟨Z,F,hS,_⟩:=id hs
  exact cu (Ld ht (h.sound hS) (bC ha hx)) (ih B o ho _ w (av ha) hs)
 | SR _ ih=>
  intro ht hx B o ho r w ha hs hu t pos ah g
  obtain ⟨u,k,h1,h2,_⟩:=hu
  obtain rfl:u=_:=by simpa using h2
  exact cu (Ld ht h1 (bC ha hx)) (ih B o ho _ w (av ha) hs)
 | @SS M α q o' d x v j E z ty all l rk Γ Γ1 Γ' fr m h h2 _ ih=>
  intro ht hx B o ho r w ha hs hu t pos ah g
  obtain ⟨u,k,h1,CY⟩:=hu
  obtain ⟨Z,F,hS,hG⟩:=hs
  obtain ⟨dj,⟨u',k',h3,h4,h5⟩,tJ⟩:=(h u).sound hS
  rw [h1] at h3
  cases h3
  exact cu (Ld ht h1 (bC ha hx)) (ih u B o ho _ w (av ha) ⟨Z,F,(h2 u).sound h1 (tJ ⟨k',h4,h5⟩),hG⟩)
 | @ldp M α V q d x a S cl en z ty all l rk Γ Γx fr m qb h _ ih=>
  intro ht hx B o ho r w ha hs hu t pos ah g
  obtain ⟨u,k,h1,_⟩:=hu
  obtain ⟨Z,F,hS,hG⟩:=hs
  obtain ⟨dj,⟨u',k',h3,⟨p,ju,g',e1,bh,Ge,dp,rfl⟩,h5⟩,_⟩:=h.sound hS
  rw [h1] at h3
  cases h3
  obtain rfl:u = .pointer (some p):=by simpa using e1
  obtain ⟨v,rfl,hf⟩:=qb.op dp
  have hz:∀ b∈p.block :: g',Z b:=fun b hb=>h5 b hb
  have Gc:fact Z w [] (.bg p (cl z v)):=⟨fun j u hj=>Ge j u hj,fun _=>hz _ (by simp)⟩
  have dx:HL Z w (.bg p (cl z v) :: en z v) []:=.fact Gc (ve (hf Z fun b hb=>hz b (by simp [hb])))
  obtain ⟨F',hp,jf⟩:=dx.build hS
  exact cu (Ld ht h1 (bC ha hx)) (ih p v B o ho _ w (av ha) ⟨Z,F',jf,hG.perm (by simpa using hp)⟩)
 | K9 h _ ih=>
  intro ht hx B o ho r w ha hs t pos ah g
  obtain ⟨Z,F,hS,_⟩:=id hs
  obtain ⟨h1,h2⟩:=h.sound hS
  exact cu (Lg ht h1 (bC ha hx) h2) (ih B o ho _ w (av ha) hs)
 | @Qj M q d t ty ps zc cs pl all l rk Γ fr m hb hf _ ih=>
  intro B o ho r w ha hs pos ah g
  obtain ⟨Z,F,hS,_⟩:=id hs
  obtain ⟨fs,i,z,h1,h2,h3,h4,h5⟩:=hb.h
  refine cu (Bu ?_) (ih B o ho _ w (av ha) hs)
  have:=hf.fill ha hS
  unfold Program.built
  rw [h3,h1]
  simp only [h4,h2]
  rw [show z.cells=zc.toArray by rw [← h5]]
  exact this
 | @box M d x t ty v cs all l rk Γ fr m hx hc _ ih=>
  intro B o ho r w ha hs pos ah g
  obtain ⟨Z,F,hS,_⟩:=id hs
  refine ez (WL.box fun b w' hC bj hb=>ih b B o ho _ w' (av ha) (hs.new (f':=[b]) hC (fun _=>⟨rfl,?_⟩) (by simp) (vf hb)))
  rw [bC ha hx,hc.eq hS] at bj
  exact bj
 | @alloc M d t ty cs all l rk Γ fr m hz _ ih=>
  intro B o ho r w ha hs pos ah g
  obtain ⟨i,z,h1,h2,h3⟩:=hz.h
  refine ez (WL.alloc h1 h2 fun b w' hC bj hb=>ih b B o ho _ w' (av ha) (hs.new (f':=[b]) hC (fun _=>⟨rfl,?_⟩) (by simp) (vf hb)))
  rw [h3] at bj
  exact bj
 | @F5 M α d t e ty E z0 bt all l rk Γ fr m hz _ ih=>
  intro B o ho r w ha hs pos ah g
  obtain ⟨h1,_,i,z,h2,_⟩:=hz.h
  exact ez (WL.F5 E h1 h2 fun v w' f hC hO=>ih v B o ho _ w' (av ha) (hs.new hC (fun _=>hO.1) hO.2.1 hO.fresh))
 | @Za M d n ps us t e ty all l rk Γ fr m hz hl hn hb _ ih=>
  intro B o ho r w ha hs pos ah g
  obtain ⟨Z,F,hS,_⟩:=id hs
  exact ez (WL.val rfl (hl.op ha hS hz hn hb) (ih w.heap.size B o ho _ _ (av ha) (hs.new (f':=[w.heap.size]) (an.alloc _ _ _) (fun _=>⟨rfl,heap_alloc_new w _⟩) (by simp) (vf (Nat.le_refl _)))))
 | @Zb M d n ps us t e ty all l rk Γ fr m hz hl hn hb _ ih=>
  intro B o ho r w ha hs pos ah g
  obtain ⟨Z,F,hS,_⟩:=id hs
  exact ez (WL.val rfl (hl.op ha hS ⟨hz.h⟩ hn hb) (ih w.heap.size B o ho _ _ (av ha) (hs.new (f':=[w.heap.size]) (an.alloc _ _ _) (fun _=>⟨rfl,heap_alloc_new w _⟩) (by simp) (vf (Nat.le_refl _)))))
 | @lits M d n k ps us t e ty all l rk Γ fr m hz hl hn hb _ ih=>
  intro B o ho r w ha hs pos ah g
  obtain ⟨Z,F,hS,_⟩:=id hs
  exact ez (WL.val rfl (hl.op ha hS hz hn hb) (ih w.heap.size B o ho _ _ (av ha) (hs.new (f':=[w.heap.size]) (an.alloc _ _ _) (fun _=>⟨rfl,heap_alloc_new w _⟩) (by simp) (vf (Nat.le_refl _)))))
 | @F6 M α d x u t e ty E z0 bt all l rk Γ fr m hz hx hu _ ih=>
  intro B o ho r w ha hs pos ah g
  obtain ⟨h1,_,i,z,h2,h3,h4,_⟩:=hz.h
  obtain ⟨Z,F,hS,_⟩:=id hs
  have he:=bC ha hx
  refine ez (WL.F6 h1 h2 h3 h4 (by rw [he]; exact hu.one hS) fun b w' hC bj hb=>ih b B o ho _ w' (av ha) (hs.new (f':=[b]) hC (fun _=>⟨rfl,?_⟩) (by simp) (vf hb)))
  rw [he] at bj
  exact bj
 | @Jw M α d y a t e ty E z0 bt all l rk Γ fr f hz hy _ ih=>
  intro B o ho r w ha hs pos ah g
  obtain ⟨n,hn,S5⟩:=bind_some ho
  obtain ⟨e1,e2,e3⟩:=D5 hn
  obtain ⟨h1,hE,i,z,h2,h3,h4,h5,h6,h7⟩:=hz.h
  subst e1
  exact ez (WL.Jw E h1 h2 h3 (by rw [h4,hE]) rfl (bC ha hy) (by rw [h6]; exact e2) e3 fun v w' f hC hO=>ih n v B o S5 _ w' (av ha) (hs.new hC (fun _=>hO.1) hO.2.1 hO.fresh))
 | @make M α d x a t e ty E z0 bt all l rk Γ fr f hz hx _ ih=>
  intro B o ho r w ha hs pos ah g
  obtain ⟨n,hn,S5⟩:=bind_some ho
  obtain ⟨e1,e2,e3⟩:=D5 hn
  obtain ⟨h1,hE,i,z,h2,h3,h4,h5,h6,h7⟩:=hz.h
  subst e1
  exact ez (WL.make E h1 h2 h3 h4 hE h5 h7 (bC ha hx) (bC ha hx) (by rw [h6]; exact e2) e3 fun v w' f hC hO=>ih n v B o S5 _ w' (av ha) (hs.new hC (fun _=>hO.1) hO.2.1 hO.fresh))
 | @app M α d s x sv xv t e ty E z0 bt all l rk Γ fr m hz dy hx _ ih=>
  obtain ⟨h1,hE,i,z,h2,h3,h4,h5,h6,h7⟩:=hz.h
  exact ih ⟨h1,hE,i,z,h2,h3,h4,h5,h6⟩ dy hx
 | ax1 hc _ ih=>exact fun h1 hs hx=>ih h1 hs hx
 | @axi M d k s x sv yv o1 o2 t e ty xs ys bt all l rk Γ Γ1 Γx fr f h1 h2 _ ih=>
  intro hT dy hx B o ho r w ha hs pos ah g
  obtain ⟨u,hu,ho⟩:=bind_some ho
  obtain ⟨b1,b2⟩:=qx hu
  obtain ⟨q1,q2,i,z,q3,q4,q5,q6,q7⟩:=hT
  obtain ⟨Z,F,hS,hg⟩:=hs
  obtain ⟨n,F1,hp,hO,ik⟩:=h1.sound hS
  have l7:=hg.perm hp
  have dt:=List.nodup_append.1 l7.nd
  obtain ⟨dj,S6,⟨⟨kk,hk,CZ⟩,_⟩,_⟩:=h2.sound ik
  have hd:sb kk n:=fun b hb hm=>(CZ b hb).elim (fun h=>by
   cases o1
   ·exact l7.apart b (List.mem_append_left _ hm) h
   ·exact dt.2.2 b hm b ((S6 b h).resolve_left (by simp)) rfl) (fun h=>by
   cases o2
   ·exact l7.apart b (List.mem_append_left _ hm) h
   ·exact dt.2.2 b hm b ((S6 b h).resolve_left (by simp)) rfl)
  refine ez (WL.BA (E:=aK k) n w.heap.size xQ q1 q3 q4 q5 rfl q6 (bC ha dy) ⟨hO,dt.1,fun b hb=>.inl hb⟩ (bC ha hx) hk (by rw [q7]; exact b1) b2 (Nat.le_refl _) fun v w' f' hC tz dq=>ih v B o ho _ w' (av ha) (St.put ik l7 hC tz.1 tz.2.1 fun b hb=>(dq b hb).elim .inl fun h=>h.elim (fun h=>absurd h List.not_mem_nil) .inr))
 | @api M d b k y s x sv t e et ty xs bt all l rk Γ Γ1 Γ2 fr f h0 h1 _ ih=>
  intro hT dy hx B o ho r w ha hs pos ah g
  obtain ⟨u,hu,ho⟩:=bind_some ho
  obtain ⟨b1,b2⟩:=qx hu
  obtain ⟨q1,q2,i,z,q3,q4,q5,q6,q7⟩:=hT
  obtain ⟨Z,F,hS,hg⟩:=hs
  obtain ⟨n0,F0,vI,⟨rfl,bj⟩,yB⟩:=h0.sound hS
  obtain ⟨n,F1,hp,hO,ik⟩:=h1.sound yB
  have l7:Gd B Z (n++F1) w:=Gd.left (F':=[b]) (hg.perm ((List.perm_append_comm.trans (hp.append_left [b])).trans vI))
  have dt:=List.nodup_append.1 l7.nd
  refine ez (WL.wN (E:=aK k) (k:=[]) n w.heap.size q1 q3 q4 q5 rfl q6 (bC ha dy) ⟨hO,dt.1,fun b hb=>.inl hb⟩ (bC ha hx) bj ⟨rfl,rfl⟩ List.nodup_nil (fun _ h=>absurd h List.not_mem_nil) (fun _ h=>absurd h List.not_mem_nil) (by rw [q7]; exact b1) b2 (Nat.le_refl _) fun v w' f' hC tz dq=>ih v B o ho _ w' (av ha) (St.put ik l7 hC tz.1 tz.2.1 fun b hb=>(dq b hb).elim .inl fun h=>h.elim (fun h=>absurd h List.not_mem_nil) .inr))
 | SU hk _ ih=>exact ih
 | @apo M α d b s x sv u y xs t e e' et ty E bt all l rk Γ Γ1 Γ2 Γ3 fr f h0 h1 h2 _ ih=>
  intro hT dy hx B o ho r w ha hs pos ah g
  obtain ⟨_,hu,ho⟩:=bind_some ho
  obtain ⟨b1,b2⟩:=qx hu
  obtain ⟨q1,q2,i,z,q3,q4,q5,q6,q7⟩:=hT
  obtain ⟨Z,F,hS,hg⟩:=hs
  obtain ⟨n0,F0,vI,⟨rfl,bj⟩,yB⟩:=h0.sound hS
  obtain ⟨k,F1,tW,hK,ik⟩:=h1.sound yB
  obtain ⟨n,F2,qh,hO,jf⟩:=h2.sound ik
  have Ag:((n++k)++F2++[b]).Perm F:=by
   refine List.perm_append_comm.trans (.trans (List.Perm.append_left [b] ?_) vI)
   refine .trans ?_ tW
   refine .trans ?_ (qh.append_left k)
   rw [← List.append_assoc k n F2]
   exact List.perm_append_comm.append_right F2
  have l7:Gd B Z ((n++k)++F2) w:=Gd.left (hg.perm Ag)
  have dt:=List.nodup_append.1 l7.nd
  have AA:=List.nodup_append.1 dt.1
  have S7:fact Z w [] (.rd false Qh u y.length):=by
   obtain ⟨base,cap,hv,_⟩:=hK
   obtain rfl:u = .slice base y.length cap:=by simpa using hv
   exact ⟨[],⟨⟨_,_,rfl⟩,rfl⟩,fun b hb=>absurd hb List.not_mem_nil⟩
  refine ez (WL.wN (E:=aI e' E) (k:=k) (n++k) w.heap.size q1 q3 q4 q5 q2 q6 (bC ha dy) ⟨hO,AA.1,fun b hb=>.inl (List.mem_append_left _ hb)⟩ (bC ha hx) bj hK AA.2.1 (fun _ h=>.inl (List.mem_append_right _ h)) (fun b hb hm=>AA.2.2 b hm b hb rfl) (by rw [q7]; exact b1) b2 (Nat.le_refl _) fun v w' f' hC tz dq=>ih v B o ho _ w' (av ha) (St.put (jf.fact (e:=.rd false Qh u y.length) S7) l7 (hC.mono fun b hb=>List.mem_append_left _ hb) tz.1 tz.2.1 fun b hb=>(dq b hb).elim (fun h=>.inl (List.mem_append_left _ h)) fun h=>h.elim (fun h=>.inl (List.mem_append_right _ h)) .inr))
 | @ldn M α q o' d x v j Q T z ty all l rk Γ Γ1 Γ' fr m h h2 _ ih=>
  intro ht hx B o ho r w ha hs hu t pos ah g
  obtain ⟨u,k,h1,CY⟩:=hu
  obtain ⟨Z,F,hS,hG⟩:=hs
  obtain ⟨dj,⟨u',k',h3,h4,h5⟩,tJ⟩:=(h u).sound hS
  rw [h1] at h3
  cases h3
  exact cu (Ld ht h1 (bC ha hx)) (ih u B o ho _ w (av ha) ⟨Z,F,(h2 u).sound h1 (tJ ⟨k',h4,h5⟩),hG⟩)
 | @SV M x y a u t ty n all l rk Γ fr m ht hx hy _ ih=>exact ih ht.h hx hy
 | @stn M x y b j n us cs ds t e ty all l rk Γ Γ1 fr m h0 h1 h2 h3 _ ih=>
  intro hT hx hy B o ho r w ha hs pos ah g
  obtain ⟨i,hi,uy⟩:=hT
  obtain ⟨Z,F,hS,hg⟩:=hs
  obtain ⟨n0,F0,vI,⟨rfl,bj⟩,yB⟩:=h0.sound hS
  obtain ⟨e1,e2⟩:=h1.eq
  refine ez (WL.NM hi (by rw [h3,uy]) bj e1 (bC ha hx) (bC ha hy) (h2.one hS) fun w' hC uA=>ih B o ho _ w' ha (St.put (f:=[b]) (f':=[b]) yB (hg.perm vI) hC ⟨rfl,by rw [e2]; exact uA⟩ (by simp) fun b hb=>.inl hb))
 | @st1 M x y b j u cs ds t e ty all l rk Γ Γ1 fr m h0 h1 h2 _ ih=>
  intro hT hx hy B o ho r w ha hs pos ah g
  obtain ⟨i,hi,uy⟩:=hT
  obtain ⟨Z,F,hS,hg⟩:=hs
  obtain ⟨n0,F0,vI,⟨rfl,bj⟩,yB⟩:=h0.sound hS
  obtain ⟨e1,e2⟩:=h1.eq
  have e3:cs.set j u=ds:=by rw [e2,List.set_eq_take_append_cons_drop,if_pos (by simp at e1; omega)]; simp
  refine ez (WL.Gf hi uy bj (by simp at e1; omega) (bC ha hx) (bC ha hy) (h2.one hS) fun w' hC uA=>ih B o ho _ w' ha (St.put (f:=[b]) (f':=[b]) yB (hg.perm vI) hC ⟨rfl,by rw [← e3]; exact uA⟩ (by simp) fun b hb=>.inl hb))
 | XX hl _ ih=>exact fun hT hx hy=>ih hT hx hy hl
 | @sti M x y v j z k xs t e ty all l rk Γ Γ1 fr m h0 h1 _ ih=>
  intro hT hx hy _ B o ho r w ha hs pos ah g
  obtain ⟨i,hi,uy⟩:=hT
  obtain ⟨Z,F,hS,hg⟩:=hs
  obtain ⟨j0,j1⟩:=h0.sound hS
  obtain ⟨n,F1,hp,hO,ik⟩:=h1.sound hS
  have l7:=hg.perm hp
  have dt:=List.nodup_append.1 l7.nd
  rw [vc hO] at j1
  exact ez (WL.D4 (E:=aK k) n w.heap.size xQ rfl hi uy ⟨hO,dt.1,fun b hb=>.inl hb⟩ (List.getElem?_eq_getElem j1) (bC ha hx) (bC ha hy) ⟨rfl,rfl⟩ fun w' hC tz=>ih B o ho _ w' ha (St.put ik l7 hC tz.1 tz.2.1 fun b hb=>.inl hb))
 | @sri M x y v v' j j' z k zs xs t e e' ty o1 o2 all l rk Γ Γ1 Γx fr m h0 h1 h2 _ ih=>
  intro hT hx hy hl B o ho r w ha hs pos ah g
  obtain ⟨i,hi,uy⟩:=hT
  exact Lc (E:=aK k) xQ rfl hi uy hs hl h0 h1 .i h2 (bC ha hx) (bC ha hy) ⟨rfl,rfl⟩ fun w' h=>ih B o ho _ w' ha h
 | @K8 M q d f xs vs bg ty all l rk Γ fr m hf hx _ ih=>
  intro B o ho r w ha hs pos ah g
  obtain ⟨fn,c,f1,f2,f3⟩:=hf.h
  refine ih B o ho r w ha hs pos ah g fun w'=>?_
  rw [Ga f1 f2 f3,yy ha hx]
 | @cav M q d f x xs vs us ws as bs bg ty all l rk Γ fr m hv hx h1 h2 _ ih=>
  intro B o ho r w ha hs pos ah g
  refine ih.2 B o ho r w ha hs pos ah g fun w'=>?_
  obtain ⟨fn,c,f1,f2,f3⟩:=ih.1
  rw [NN (bC ha hv) f1 f2 f3,yy ha hx,List.append_assoc,h1.eq,h2.eq]
 | @fa f j hf _ ih=>exact ⟨hf.h,ih⟩
 | @cvq M β ow d f vs op ty Δ mo rt all l rk Γ fr g hc h0 h1 _ ih=>
  intro B o ho r w ha hs pos ah gg ql
  obtain ⟨y,hy,ho⟩:=bind_some ho
  refine ⟨tH (rt y ()),?_,ih y B o ho _ w (av ha) hs⟩
  intro w' hC
  unfold Oper.quietUpon
  rw [ql w']
  refine ⟨rfl,?_⟩
  obtain ⟨Z,F,hS,hG⟩:=hs
  have Gg:=hS.kh hC
  have nb:=hG.kh hC
  rw [vu] at hc
  refine (hc.2 w' (fun b=>Z b∨b∈F) [] (h1.sound (fun _ h=>.inl h) (fun _ _ h=>.inr h) Gg h0.ho) List.nodup_nil (fun b hb=>absurd hb List.not_mem_nil)
   (fun b hb=>hb.elim (nb.tb b) (Gg.lt b)) y hy).mono ?_
  rintro e EK ⟨v,he,Z2,F2,_,pg⟩
  exact ⟨he,hC.trans pg.j9⟩
 | @cvw M β V ow d f vs op ty Δ mo rt ps all l rk Γ fr g hc _ _ ih=>exact ih hc
 | @czt M β V d f vs op ty Δ mo rt ps all l rk Γ Γ1 fr g h0 h1 _ ih=>
  intro hc B o ho r w ha hs pos ah gg ql
  obtain ⟨y,hy,ho⟩:=bind_some ho
  unfold sr gf
  rw [ql w]
  obtain ⟨Z,F,hS,hG⟩:=hs
  obtain ⟨Fd,F1,a1,a2,a3⟩:=h0.sound hS
  have r3:=hG.perm a3
  rw [vu] at hc
  exact (EL hc (Z':=fun b=>Z b∨b∈F1) (h1.sound (fun _ h=>.inl h) (fun _ _ h=>.inr h) a2 a1) a2 r3 (fun _ h=>.inl h) (fun _ h=>h) (.inl (hc.1 rfl y)) hy).mono fun e w' ⟨v,h2,h3⟩=>⟨_,h2,ih y v B o ho _ w' (av ha) h3⟩
 | @czf M β V d f vs op ty Δ mo rt ps all l rk Γ Γ1 fr g h0 _ ih=>
  intro hc B o ho r w ha hs pos ah gg ql
  obtain ⟨y,hy,ho⟩:=bind_some ho
  unfold sr gf
  rw [ql w]
  obtain ⟨Z,F,hS,hG⟩:=hs
  obtain ⟨Fd,F1,Zn,a1,a2,a3⟩:=h0.sound hS
  have r3:=Gd.freeze (hG.perm a3) fun b hb=>hS.lt b (a3.mem_iff.1 (List.mem_append_right _ hb))
  rw [vu] at hc
  exact (EL hc a1 a2 r3 (fun _ h=>h) (fun _ h=>.inl h) (.inr fun _ h=>h) hy).mono fun e w' ⟨v,h2,h3⟩=>⟨_,h2,ih y v B o ho _ w' (av ha) h3⟩
 | mo0 _ ih=>exact fun B o ho r w ha hs=>ih B o ho r w ha hs
 | mn0 _ ih=>exact fun B o ho r w ha hs=>ih B o ho r w ha hs
theorem loop {S S1 V:Type} (k:Nat) (Δ:S1→V→List aq) (φ:S1→V→Fr) (v0:V) (f2:Fr) {fu:List KI} {kb:Kb R S} {c:Code} {s0:S1} {body:S1→Option (Out S1 R)} {f:S1→Option (Out S R)} {Γ Γ1 Γ2:QE} {fr:Fr}
   (ha:qw fr (φ s0 v0)) (hf:qw fr f2) (h0:EO Γ (Δ s0 v0) Γ1) (hn:OW Γ (Δ s0 v0)) (hs:jj Γ1 Γ2)
   (hb:∀ s v,D P cx (.p (φ s v) (Δ s v) f2 Γ2 fun fr Γ=>.c ⟨[],.loop V k Δ φ Γ2 f2⟩ c Γ fr (body s)))
   (hk:∀ s v,D P cx (.p (φ s v) (Δ s v) f2 Γ2 fun fr Γ=>.mn ⟨fu,kb⟩ Γ fr (f s))):Bx (na P cx (.bk true k ⟨fu,kb⟩ (.loop c) Γ fr (af (ae k (ag body s0)) f))):=by
 rw [mg]
 intro B o ho r w ph r4
 refine Jz (T:=TT P cx B) (LI B Δ φ _ f2) ho ⟨v0,qk (ha.all ph) (hf.sound ph),r4.enter h0 hn hs⟩ ?_ ?_ ?_
 ·intro x r w he hx
  subst he
  exact vH hx
 ·rintro s r w ⟨v,h1,h2⟩ o ho
  exact (hb s v).sound B o ho r w h1 h2
 ·rintro s r w ⟨v,h1,h2⟩ ho
  exact (hk s v).sound B o ho r w h1 h2
noncomputable def pc.{u,v,w} {A:Type u} {B:Type v} {C:Sort w} (f:A→B→C) (p:A×B):C:=Prod.rec (motive:=fun _=>C) f p
theorem iH {S S1 V A:Type} (k:Nat) (a0:A) (Δ:A→S1→V→List aq) (φ:A→S1→V→Fr) (v0:V) (f2:Fr) {fu:List KI} {kb:Kb R S} {c:Code} {s0:S1} {body:S1→Option (Out S1 R)} {f:S1→Option (Out S R)} {Γ Γ1 Γ2:QE} {fr:Fr}
   (ha:qw fr (φ a0 s0 v0)) (hf:qw fr f2) (h0:EO Γ (Δ a0 s0 v0) Γ1) (hn:OW Γ (Δ a0 s0 v0)) (hs:jj Γ1 Γ2)
   (hb:∀ s v,D P cx (.p (φ a0 s v) (Δ a0 s v) f2 Γ2 fun fr Γ=>.c ⟨[],.loop V k (Δ a0) (φ a0) Γ2 f2⟩ c Γ fr (body s)))
   (hk:∀ s v,D P cx (.p (φ a0 s v) (Δ a0 s v) f2 Γ2 fun fr Γ=>.mn ⟨fu,kb⟩ Γ fr (f s))):Bx (na P cx (.bk true k ⟨fu,kb⟩ (.loop c) Γ fr (af (ae k (ag body s0)) f))):=
 loop k (Δ a0) (φ a0) v0 f2 ha hf h0 hn hs hb hk
theorem quiet {S:Type} {id:Nat} {K:de R S} {ops:LO} {Γ:QE} {fr:Fr} {m:Option (Out S R)} (hB:(P.follows .mixedOrders && di cx.n ops && Region.lexB .any ops.toArray)=true) (h:D P cx (.rg (Ax ops) true ops K Γ fr m)):Bx (na P cx (.dr id ops K Γ fr m)):=by
 simp only [Bool.and_eq_true] at hB
 rw [mg]
 exact fun B o ho r w ha hs=>h.sound hB.1.2 (fun _=>⟨hB.1.1,hB.2⟩) B o ho r w ha hs _
theorem tail {S:Type} {id:Nat} (k:Nat) {K:de R S} {l ops tl:LO} {Γ:QE} {fr:Fr} {m:Option (Out S R)} (hB:(P.follows .mixedOrders && di cx.n l && ((l.take k).all fun o=>wU o.op) && Region.lexTailB .any l.toArray k)=true) (ho:ops=l.take k) (ht:tl=l.drop k)
  (h:D P cx (.o true l ops (.h l tl K) Γ fr m)):Bx (na P cx (.dr id l K Γ fr m)):=by
 simp only [Bool.and_eq_true] at hB
 obtain ⟨⟨⟨h1,h2⟩,h3⟩,h4⟩:=hB
 subst ho ht
 rw [mg]
 intro B o ho r w ha hs
 exact S8 k h1 h2 h3 h4 (an.refl _ _) (h.sound B o ho r w ha hs)
def Gh:Nat→List Value→Fr
 | _,[]=>[]
 | i,v :: l=>(i,v) :: Gh (i+1) l
theorem Lm {args:LV}:dc (fun t=>args.getD t undef) ((Gh 0 args).reverse++[]):=by
 refine qk ?_ DZ
 have key:∀ (l:LV) (i:Nat) (p:Nat×Value),p∈Gh i l→i≤p.1∧l[p.1 - i]? = some p.2:=by
  intro l
  induction l with
  | nil=>intro i p hp; cases hp
  | cons a l ih=>
   intro i p hp
   unfold Gh at hp
   rcases List.mem_cons.1 hp with rfl | hp
   ·simp
   ·obtain ⟨h1,h2⟩:=ih _ _ hp
    refine ⟨by omega,?_⟩
    rw [show p.1 - i=(p.1 - (i+1))+1 by omega]
    simpa using h2
 intro p hp
 obtain ⟨_,h⟩:=key args 0 p hp
 simp only [Nat.sub_zero] at h
 simp [List.getD_eq_getElem?_getD,h]
theorem bo {β V:Type} {post:β→V→List aq} (h:∀ y v,tS (post y v)=true):true=true→∀ y v,tS (post y v)=true:=fun _=>h
theorem Gi {β V:Type} {post:β→V→List aq}:false=true→∀ y v,tS (post y v)=true:=fun h=>nomatch h
theorem ct {f:FuncId} {fn:Func} {ow:Bool} {c:Code} {args:LV} {Δ:QE} {S V:Type} {m:Option (Out S R)} {ret:R→V→List Value} {post:R→V→List aq} (hw:ow=true→∀ y v,tS (post y v)=true) (hf:P.funcs[f]? = some fn) (hb:fn.body=some c) (hl:Nat.ble args.length fn.ntmps=true)
  (h:D P ⟨fn.ntmps,fn,V,ret,post⟩ (.p (Gh 0 args) Δ [] [] fun fr Γ=>.c ⟨[],.top⟩ c Γ fr m)):Ct P f ow (ak m) args Δ ret post:=by
 rw [vu]
 refine ⟨hw,?_⟩
 intro w Z F hh dt hap bh y hy
 have hs:=h.sound
 obtain ⟨F',hp,hS⟩:=hh.build (Γ:=[]) (F:=[]) rfl
 rw [List.append_nil] at hp
 have r4:St ⟨w,Z,F⟩ (Δ.reverse++[]) w:=⟨Z,F',hS,Gd.perm ⟨dt,hap,bh,fun b hb=>.inl hb,fun _ h=>h,fun _ h=>.inl h,an.refl _ _⟩ hp⟩
 exact (JB (Rr:=fun y e w'=>∃ v:V,e = .returned (tH (ret y v))∧P9 ⟨w,Z,F⟩ (post y v) w') hf hb rfl (Nat.le_of_ble_eq_true hl) (EN hy)
  fun o ho=>hs ⟨w,Z,F⟩ o ho _ _ Lm r4)
end
end Go.Dk
