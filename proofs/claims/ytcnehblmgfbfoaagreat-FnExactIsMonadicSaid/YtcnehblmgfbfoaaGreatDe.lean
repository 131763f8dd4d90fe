/- A calculus of walks: that its rules hold. No condition. -/
import Derived.Test.YtcnehblmgfbfoaaGreatDa
import Derived.Test.YtcnehblmgfbfoaaGreatLn
namespace Go.Dk
open Go Go.Li
section
variable {Z Z':Nat→Prop} {w w':World} {cur F f:LN} {Γ Γ' Γ1 Δ:QE} {e:ay} {B:Bs} {P:Program}
theorem Gd.left {F':LN} (h:Gd B Z (F++F') w):Gd B Z F w:=
 ⟨(List.nodup_append.1 h.nd).1,fun b hb=>h.apart b (List.mem_append_left _ hb),h.qT,fun b hb=>h.low b (List.mem_append_left _ hb),h.uU,h.vq,h.jf⟩
theorem HO.hl (h:OW Γ Δ):∀ {cur F F':LN},SA Z w Γ cur F'→HO Z w Δ F→HL Z w Δ F:=by
 induction h with
 | nil=>intro _ F _ _ h; cases h; exact .nil
 | own _ ih=>intro _ F _ hs h; cases h with | own h k=>exact .own h (ih hs k)
 | om _ ih=>intro _ F _ hs h; cases h with | own h k=>exact .own h (ih hs k)
 | row _ ih=>intro _ F _ hs h; cases h with | own h k=>exact .own h (ih hs k)
 | rd h _ ih=>intro _ F _ hs hh; cases hh with
  | own h k=>exact h.elim
  | rd k=>exact .fact (h.rd hs _) (ih hs k)
theorem FO.ho (h:FO Δ):HO Z w Δ []:=by
 induction h with
 | nil=>exact .nil
 | rd _ ih=>exact .rd ih
 | bb _ ih=>exact .bb ih
theorem p6.all {fr g:Fr} {r:NV} (h:p6 fr g) (ha:cn r fr):∀ p∈g,r p.1=p.2:=by
 induction h with
 | nil=>intro p hp; cases hp
 | cons h _ ih=>intro p hp; rcases List.mem_cons.1 hp with rfl | hp; exact ha _ _ h; exact ih p hp
theorem tV {r:NV} {f:Fr}:∀ {g:Fr},(∀ p∈g,r p.1=p.2)→cn r f→cn r (g++f):=by
 intro g
 induction g with
 | nil=>intro _ h; exact h
 | cons a g ih=>
  intro hg h t v hl
  obtain ⟨s,u⟩:=a
  rw [List.cons_append] at hl
  unfold look at hl
  cases hb:Nat.beq t s with
  | true=>rw [hb] at hl; cases hl; rw [Nat.eq_of_beq_eq_true hb]; exact hg (s,v) (by simp)
  | false=>rw [hb] at hl; exact ih (fun p hp=>hg p (by simp [hp])) h t v hl
theorem nt {r:NV} {f g:Fr} (hg:∀ p∈g,r p.1=p.2) (h:cn r f):cn r (g.reverse++f):=tV (fun p hp=>hg p (List.mem_reverse.1 hp)) h
theorem ic.sound (h:ic Γ Γ'):∀ {cur F:LN},SA Z w Γ cur F→SA Z w Γ' cur F:=by
 induction h with
 | nil=>intro _ _ h; exact h
 | own _ ih=>rintro _ _ ⟨f,F',h1,h2,h3⟩; exact ⟨f,F',h1,h2,ih h3⟩
 | om _ ih=>rintro _ _ ⟨f,F',h1,h2,h3⟩; exact ⟨f,F',h1,h2,ih h3⟩
 | row _ ih=>rintro _ _ ⟨f,F',h1,h2,h3⟩; exact ⟨f,F',h1,h2,ih h3⟩
 | Is _ ih=>intro _ _ h; exact ⟨h.1,ih h.2⟩
 | CI _ ih=>intro _ _ h; exact ⟨h.1,ih h.2⟩
 | ad _ ih=>intro _ _ h; exact ih h.2
 | bb _ ih=>intro _ _ h; exact ⟨h.1,ih h.2⟩
 | hd _ ih=>intro _ _ h; exact ih h.2
 | eb _ ih=>rintro _ _ ⟨f,F',h1,h2,h3⟩; exact ⟨f,F',h1,h2,ih h3⟩
theorem Oq {α:Type} {E:ah α} (hE:∀ {h:Array Obj} {cs:LV} {x y:α} {f g:LN},E.rep h cs x f→E.rep h cs y g→f=g) {h:Array Obj}:∀ {xs ys:List α} {cs:LV} {f g:LN},xs.length=ys.length→dp E h cs xs f→dp E h cs ys g→f=g:=by
 intro xs
 induction xs with
 | nil=>
  intro ys cs f g hl h1 h2
  cases ys with
  | nil=>obtain ⟨_,rfl⟩:=h1; obtain ⟨_,rfl⟩:=h2; rfl
  | cons y ys=>cases hl
 | cons x xs ih=>
  intro ys cs f g hl h1 h2
  cases ys with
  | nil=>cases hl
  | cons y ys=>
   obtain ⟨c,iw,f1,f2,rfl,rfl,a1,a2⟩:=h1
   obtain ⟨d,ds',g1,g2,e1,rfl,b1,b2⟩:=h2
   obtain ⟨rfl,rfl⟩:=List.append_inj e1 ((E.len a1).trans (E.len b1).symm)
   rw [hE a1 b1,ih (by simpa using hl) a2 b2]
theorem DT.fp {α:Type} {T:ah α} (h:DT T):∀ {h:Array Obj} {cs:LV} {x y:α} {f g:LN},T.rep h cs x f→T.rep h cs y g→f=g:=by
 induction h with
 | i=>rintro h cs x y f g ⟨_,rfl⟩ ⟨_,rfl⟩; rfl
 | b=>rintro h cs x y f g ⟨_,rfl⟩ ⟨_,rfl⟩; rfl
 | @own α e E _ ih=>
  rintro h cs x y f g ⟨base,cap,rfl,a⟩ ⟨G4,Kw,e1,b⟩
  simp only [List.cons.injEq,Value.slice.injEq,and_true] at e1
  obtain ⟨rfl,hl,rfl⟩:=e1
  rcases a with ⟨rfl,_,_,rfl⟩ | ⟨b1,cr,f',rfl,a2,rfl,_,_,_,a3⟩
  ·rcases b with ⟨_,_,_,rfl⟩ | ⟨FW,Vh,g',e1,_⟩
   ·rfl
   ·cases e1
  ·rcases b with ⟨e1,_⟩ | ⟨FW,Vh,g',e1,c2,rfl,_,_,_,c3⟩
   ·cases e1
   ·cases e1
    rw [a2] at c2
    cases c2
    rw [hl] at a3
    rw [Oq ih hl a3 c3]
theorem In.bb {p:Addr} {cs:LV} (h:In (.bb p cs) Γ):∀ {cur F:LN},SA Z w Γ cur F→∀ dh,fact Z w dh (.bb p cs):=by
 induction h with
 | here=>intro cur F h dh; exact h.1
 | @there a Γ _ ih=>
  intro cur F hS
  cases a with
  | own T v x=>obtain ⟨f,F',h1,h2,h3⟩:=hS; exact ih h3
  | om e E v xs=>obtain ⟨f,F',h1,h2,h3⟩:=hS; exact ih h3
  | row b cs e=>obtain ⟨f,F',h1,h2,h3⟩:=hS; exact ih h3
  | eb e E v xs j u=>obtain ⟨f,F',h1,h2,h3⟩:=hS; exact ih h3
  | _=>exact ih hS.2
theorem uY.get {α:Type} {T:ah α} {v:Value} {x:α} (h:uY (.rd true T v x) Γ):∀ {cur F:LN},SA Z w Γ cur F→fact Z w cur (.rd true T v x):=by
 induction h with
 | here=>intro cur F h; exact h.1
 | row _ ih=>rintro cur F ⟨f,F',h1,h2,h3⟩; exact ih h3
 | rd _ ih=>intro cur F h; exact ih h.2
 | ad _ ih=>intro cur F h; exact ih h.2
 | hd _ ih=>intro cur F h; exact ih h.2
 | bb _ ih=>intro cur F h; exact ih h.2
theorem Gb.sound {α β:Type} {T:ah α} {v u:Value} {x:α} {T':ah β} {z:β} (h:Gb T v x (.rd true T' u z) Γ):∀ {cur F:LN},SA Z w Γ cur F→∃ f,T.rep w.heap [v] x f∧fact Z w f (.rd true T' u z):=by
 induction h with
 | here h=>rintro cur F ⟨f,F',h1,h2,h3⟩; exact ⟨f,h2,h.get h3⟩
 | @there a Γ _ ih=>
  intro cur F hS
  cases a with
  | own T v x=>obtain ⟨f,F',h1,h2,h3⟩:=hS; exact ih h3
  | om e E v xs=>obtain ⟨f,F',h1,h2,h3⟩:=hS; exact ih h3
  | row b cs e=>obtain ⟨f,F',h1,h2,h3⟩:=hS; exact ih h3
  | eb e E v xs j u=>obtain ⟨f,F',h1,h2,h3⟩:=hS; exact ih h3
  | _=>exact ih hS.2
theorem MF.sound {o:Option ay} (h:MF Γ o Δ) {cur F:LN} (hs:SA Z w Γ cur F):∀ {dh Fd:LN},(∀ e,o=some e→lu Z w dh e)→HO Z w Δ Fd→SA Z w Δ dh Fd:=by
 induction h with
 | nil=>intro _ _ _ h; cases h; rfl
 | own _ ih=>intro _ _ _ h; cases h with | own h k=>exact ⟨_,_,rfl,h,ih (by rintro e he; cases he; exact h) k⟩
 | om _ ih=>intro _ _ _ h; cases h with | own h k=>exact ⟨_,_,rfl,h,ih (by rintro e he; cases he) k⟩
 | row _ ih=>intro _ _ ho h; cases h with | own h k=>exact ⟨_,_,rfl,h,ih ho k⟩
 | eb _ ih=>intro _ _ _ h; cases h with | own h k=>exact ⟨_,_,rfl,h,ih (by rintro e he; cases he) k⟩
 | rd h _ ih=>
  intro _ _ ho hh
  cases hh with
  | own h k=>exact h.elim
  | rd k=>exact ⟨h.rd hs _,ih ho k⟩
 | @CI α β T v u x T' z Δ hd h _ ih=>
  intro dh _ ho hh
  cases hh with
  | own h k=>exact h.elim
  | rd k=>
   obtain ⟨f,h1,h2⟩:=h.sound hs
   have h3:T.rep w.heap [v] x dh:=ho _ rfl
   rw [hd.fp h1 h3] at h2
   exact ⟨h2,ih ho k⟩
 | bb h _ ih=>
  intro _ _ ho hh
  cases hh with
  | own h k=>exact h.elim
  | bb k=>exact ⟨h.bb hs _,ih ho k⟩
theorem St.of {F':LN} (hs:SA Z w Γ [] F) (hg:Gd B Z F' w) (hp:F.Perm F'):St B Γ w:=⟨Z,F,hs,hg.perm hp⟩
theorem St.enter (h:St B Γ w) {Γ1 Γ2:QE} (h0:EO Γ Δ Γ1) (hw:OW Γ Δ) (h1:ic Γ1 Γ2):St B (Δ.reverse++Γ2) w:=by
 obtain ⟨Z,F,hs,hg⟩:=h
 obtain ⟨Fd,F1,a1,a2,a3⟩:=h0.sound hs
 obtain ⟨F2,b1,b2⟩:=HL.build (HO.hl hw hs a1) (h1.sound a2)
 exact St.of b2 hg (b1.trans a3)
theorem St.again (h:St B Γ w) {Γ1 Γ2 Γ3:QE} (h0:EO Γ Δ Γ1) (hw:OW Γ Δ) (h1:EO Γ1 Γ2 Γ3) (h2:MF Γ none Γ2):St B (Δ.reverse++Γ2) w:=by
 obtain ⟨Z,F,hs,hg⟩:=h
 obtain ⟨Fd,F1,a1,a2,a3⟩:=h0.sound hs
 obtain ⟨PL,F3,c1,c2,c3⟩:=h1.sound a2
 obtain ⟨F2,b1,b2⟩:=HL.build (HO.hl hw hs a1) (h2.sound hs (dh:=[]) (by rintro e he; cases he) c1)
 refine St.of (F':=Fd++PL) b2 (Gd.left (F':=F3) (hg.perm ?_)) b1
 rw [List.append_assoc]
 exact (c3.append_left Fd).trans a3
theorem St.leave (h:St B Γ w) (h0:EF Γ Δ Γ1):It B Δ w:=by
 obtain ⟨Z,F,hs,hg⟩:=h
 obtain ⟨Fd,F',Zn,a1,a2,a3⟩:=h0.sound hs
 refine ⟨_,Fd,a1,Gd.left (F':=F') (Gd.freeze (hg.perm a3) fun b hb=>hs.lt b (a3.mem_iff.1 (List.mem_append_right _ hb)))⟩
theorem St.back {β:Type} {e:TI} {E:ah β} {v u:Value} {xs:List β} {j:Int} {z:β} {Γ0:QE} (h:St B (.own E u z :: .eb e E v xs j u :: Γ0) w):St B (.own (aL e E) v (xs.set j.toNat z) :: Γ0) w:=by
 obtain ⟨Z,F,⟨k,F1,rfl,hk,f,F2,rfl,hf,hs⟩,hg⟩:=h
 obtain ⟨f',hp,hr⟩:=hf.2 w.heap (fun _ _=>rfl) z k hk
 have tD:(f'++F2).Perm (k++(f++F2)):=by
  rw [← List.append_assoc]
  exact (hp.trans List.perm_append_comm).append_right F2
 refine ⟨Z,f'++F2,⟨f',F2,rfl,hr,?_⟩,hg.perm tD⟩
 refine SA.mono (fun _ h=>h) (fun b hb=>hp.mem_iff.2 (List.mem_append_left _ hb)) hs
theorem gp {R M:Type} {cx:Cx R} {all l:LO} {rk:RK R M} {o:M} {r:NV} {d:Option Nat} {op:Op} {ty:TI} {pos:String} {af:Array Edge} {g:Option (Nat×Bool)}
  (h:WL P all (⟨d,op,ty,pos,af,none⟩ :: l) r w (yC P cx B rk o)):qe P cx B false ⟨d,op,ty,pos,af,g⟩ all l rk o r w:=by
 rcases h with ⟨_,h⟩ | ⟨hw,_⟩
 ·exact h
 ·cases hw
theorem St.put {F1 f':LN} (hS:SA Z w Γ' [] F1) (hg:Gd B Z (f++F1) w) (hC:aq f w w') (ho:lu Z w' f' e) (hn:f'.Nodup) (hs:∀ b∈f',b∈f∨w.heap.size≤b):St B (e :: Γ') w':=by
 have ey:=List.nodup_append.1 hg.nd
 have hk:SA Z w' Γ' [] F1:=hS.dq hC (fun b hb=>hg.apart b (List.mem_append_left _ hb)) (fun b _=>List.not_mem_nil) (fun b hb hm=>ey.2.2 b hb b hm rfl)
 refine ⟨Z,f'++F1,hk.cons ho,List.nodup_append.2 ⟨hn,ey.2.1,?_⟩,?_,fun b hb=>Nat.lt_of_lt_of_le (hg.qT b hb) hC.size,?_,hg.uU,hg.vq,hg.jf.then hC fun i hi=>hg.low i (List.mem_append_left _ hi)⟩
 ·rintro b hb c hc rfl
  rcases hs b hb with h | h
  ·exact ey.2.2 b h b hc rfl
  ·exact absurd (hS.lt b hc) (Nat.not_lt.2 h)
 ·intro b hb hz
  rcases List.mem_append.1 hb with hb | hb
  ·rcases hs b hb with h | h
   ·exact hg.apart b (List.mem_append_left _ h) hz
   ·exact absurd (hg.qT b hz) (Nat.not_lt.2 h)
  ·exact hg.apart b (List.mem_append_right _ hb) hz
 ·intro b hb
  rcases List.mem_append.1 hb with hb | hb
  ·rcases hs b hb with h | h
   ·exact hg.low b (List.mem_append_left _ h)
   ·exact .inr (Nat.le_trans hg.jf.size h)
  ·exact hg.low b (List.mem_append_right _ hb)
theorem St.new (h:St B Γ w) {f':LN} (hC:aq [] w w') (ho:∀ Z,lu Z w' f' e) (hn:f'.Nodup) (hs:∀ b∈f',w.heap.size≤b):St B (e :: Γ) w':=by
 obtain ⟨Z,F,hS,hg⟩:=h
 exact St.put (f:=[]) hS hg hC (ho Z) hn fun b hb=>.inr (hs b hb)
theorem Has.one {v:Value} (h:Has v Γ):∀ {cur F:LN},SA Z w Γ cur F→v.oneCell'=true:=by
 induction h with
 | @own α T x Γ=>rintro cur F ⟨f,F',_,h,_⟩; exact T.one h v (by simp)
 | @om α t E xs Γ=>rintro cur F ⟨f,F',_,⟨us,g,h,_⟩,_⟩; exact ah.one _ h v (by simp)
 | @rd o α T x Γ=>rintro cur F ⟨⟨g,h,_⟩,_⟩; exact T.one h v (by simp)
 | @there e Γ _ ih=>
  intro cur F hS
  cases e with
  | own T v x=>obtain ⟨f,F',h1,h2,h3⟩:=hS; exact ih h3
  | om e E v xs=>obtain ⟨f,F',h1,h2,h3⟩:=hS; exact ih h3
  | row b cs e=>obtain ⟨f,F',h1,h2,h3⟩:=hS; exact ih h3
  | eb e E v xs j u=>obtain ⟨f,F',h1,h2,h3⟩:=hS; exact ih h3
  | _=>exact ih hS.2
theorem One.one {v:Value} (h:One Γ v) (hS:SA Z w Γ cur F):v.oneCell'=true:=by
 cases h with
 | int=>rfl
 | bool=>rfl
 | ptr=>rfl
 | sl=>rfl
 | fn=>rfl
 | nf=>rfl
 | var h=>exact h.one hS
theorem ud.one {vs:LV} (h:ud Γ vs) (hS:SA Z w Γ cur F):∀ u∈vs,u.oneCell'=true:=by
 induction h with
 | nil=>intro u hu; cases hu
 | cons h _ ih=>intro u hu; rcases List.mem_cons.1 hu with rfl | hu; exact h.one hS; exact ih u hu
theorem qf.eq {v:Value} {cs:LV} (h:qf Γ v cs) (hS:SA Z w Γ cur F):v.cells.toList=cs:=by
 cases h with
 | agg=>rfl
 | one h=>rw [cells_one (h.one hS)]
theorem rb.eq {us cs ds:LV} {j:Nat} (h:rb us j cs ds):j+us.length≤cs.length∧ds=cs.take j++us++cs.drop (j+us.length):=by
 induction h with
 | nil=>simp
 | put _ ih=>obtain ⟨h1,h2⟩:=ih; refine ⟨by simp at h1 ⊢; omega,?_⟩; rw [h2]; simp
 | s _ ih=>
  obtain ⟨h1,h2⟩:=ih
  refine ⟨by simp; omega,?_⟩
  rw [h2]
  rename_i us cs ds j _
  rw [show j+1+us.length=(j+us.length)+1 by omega]
  simp
theorem rQ.eq {j n:Nat} {cs ds:LV} (h:rQ j n cs ds):ds.length=n∧(cs.drop j).take n=ds:=by
 induction h with
 | z=>simp
 | c _ ih=>obtain ⟨h1,h2⟩:=ih; simp at h2; simp [h1,h2]
 | s _ ih=>simpa using ih
theorem sw.sound {a:Addr} {n:Nat} {ds:LV} (h:sw Γ a n ds):∀ {cur F:LN},SA Z w Γ cur F→At w a ds∧ds.length=n:=by
 induction h with
 | row h=>
  rintro cur F ⟨f,F',h1,⟨_,h2⟩,_⟩
  obtain ⟨e1,e2⟩:=h.eq
  have:=At.sub h2.at (by rw [e1]; exact e2)
  rw [ir,Nat.zero_add] at this
  exact ⟨this,e1⟩
 | «at» h=>rintro cur F ⟨⟨h1,_⟩,_⟩; obtain ⟨e1,e2⟩:=h.eq; exact ⟨At.sub h1 (by rw [e1]; exact e2),e1⟩
 | Ir h=>rintro cur F ⟨⟨h1,_⟩,_⟩; obtain ⟨e1,e2⟩:=h.eq; exact ⟨At.sub (j:=0) h1 (by rw [e1]; exact e2),e1⟩
 | @there a n ds e Γ _ ih=>
  intro cur F hS
  cases e with
  | own T v x=>obtain ⟨f,F',h1,h2,h3⟩:=hS; exact ih h3
  | om e E v xs=>obtain ⟨f,F',h1,h2,h3⟩:=hS; exact ih h3
  | row b cs e=>obtain ⟨f,F',h1,h2,h3⟩:=hS; exact ih h3
  | eb e E v xs j u=>obtain ⟨f,F',h1,h2,h3⟩:=hS; exact ih h3
  | _=>exact ih hS.2
theorem te.sound {v:Value} {n:Nat} (h:te Γ v n):∀ {cur F:LN},SA Z w Γ cur F→∃ b c,v = .slice b n c:=by
 induction h with
 | lit=>intro _ _ _; exact ⟨_,_,rfl⟩
 | ln=>rintro cur F ⟨⟨g,⟨⟨a,c,hv⟩,_⟩,_⟩,_⟩; exact ⟨a,c,by simpa using hv⟩
 | rd h=>rintro cur F ⟨⟨g,h1,_⟩,_⟩; exact sy (h.le.le h1)
 | own h=>rintro cur F ⟨f,F',_,h1,_⟩; exact sy (h.le.le h1)
 | om=>rintro cur F ⟨f,F',_,h1,_⟩; obtain ⟨⟨g,h2,_⟩,_⟩:=G5 h1; exact sy h2
 | @there v n e Γ _ ih=>
  intro cur F hS
  cases e with
  | own T v x=>obtain ⟨f,F',h1,h2,h3⟩:=hS; exact ih h3
  | om e E v xs=>obtain ⟨f,F',h1,h2,h3⟩:=hS; exact ih h3
  | row b cs e=>obtain ⟨f,F',h1,h2,h3⟩:=hS; exact ih h3
  | eb e E v xs j u=>obtain ⟨f,F',h1,h2,h3⟩:=hS; exact ih h3
  | _=>exact ih hS.2
theorem yY.sound {k:IntKind} {us:LV} {xs:List Int} (h:yY k us xs):∀ (hp:Array Obj),us.length=xs.length∧dp (aK k) hp us xs []:=by
 induction h with
 | nil=>intro h; exact ⟨rfl,rfl,rfl⟩
 | cons _ ih=>intro h; obtain ⟨e1,e2⟩:=ih h; exact ⟨by simp [e1],[_],_,[],[],rfl,rfl,⟨rfl,rfl⟩,e2⟩
theorem zO.sound {α:Type} {E:ah α} {v:Value} {x:α} (h:zO Γ E v x Γ') {F:LN} (hS:SA Z w Γ [] F):∃ f F',(f++F').Perm F∧E.rep w.heap [v] x f∧SA Z w Γ' [] F':=by
 cases h with
 | int=>exact ⟨[],F,.refl _,⟨rfl,rfl⟩,hS⟩
 | bool=>exact ⟨[],F,.refl _,⟨rfl,rfl⟩,hS⟩
 | own h=>obtain ⟨f,F1,hp,ho,j5⟩:=h.sound hS; exact ⟨f,F1,hp,ho,j5⟩
 | @lit b n us k xs e Γ1 _ h0 h1 hn hb=>
  obtain ⟨f0,F1,hp,⟨rfl,br⟩,j5⟩:=h0.sound hS
  obtain ⟨e1,e2⟩:=yY.sound h1 w.heap
  have CO:=Nat.le_of_ble_eq_true hb
  refine ⟨[b],F1,hp,⟨some ⟨b,0,none⟩,n,by rw [← hn,e1],.inr ⟨b,us.toArray,[],rfl,br,rfl,by rw [← hn,e1]; exact Nat.le_refl _,Nat.le_trans CO (by decide),by rw [show (aK k).size=1 from rfl,Nat.mul_one]; simp [hn],?_⟩⟩,j5⟩
  rw [show (aK k).size=1 from rfl,Nat.mul_one,List.toList_toArray,← e1,List.take_length]
  exact e2
theorem Gc.sound {α:Type} {E:ah α} {us:LV} {xs:List α} (h:Gc Γ E us xs Γ'):∀ {F:LN},SA Z w Γ [] F→us.length=xs.length∧∃ f F',(f++F').Perm F∧dp E w.heap us xs f∧SA Z w Γ' [] F':=by
 induction h with
 | nil=>intro F hS; exact ⟨rfl,[],F,.refl _,⟨rfl,rfl⟩,hS⟩
 | cons h _ ih=>
  intro F hS
  obtain ⟨f1,F1,p1,r1,S1⟩:=h.sound hS
  obtain ⟨e,f2,F2,p2,r2,S2⟩:=ih S1
  exact ⟨by simp [e],f1++f2,F2,(by rw [List.append_assoc]; exact (p2.append_left f1).trans p1),⟨[_],_,f1,f2,rfl,rfl,r1,r2⟩,S2⟩
theorem BJ.sound {κ υ:Type} {ek:κ→Value} {eu:υ→Value} {v:Value} {x:List (κ×υ)} (h:BJ ek eu Γ v x):∀ {cur F:LN},SA Z w Γ cur F→∃ f,(qU ek eu).rep w.heap [v] x f:=by
 induction h with
 | own=>rintro cur F ⟨f,F',_,h2,_⟩; exact ⟨f,h2⟩
 | rd=>rintro cur F ⟨⟨f,h2,_⟩,_⟩; exact ⟨f,h2⟩
 | @there v x e Γ h ih=>
  intro cur F hS
  cases e with
  | own T v x=>obtain ⟨f,F',h1,h2,h3⟩:=hS; exact ih h3
  | om e E v xs=>obtain ⟨f,F',h1,h2,h3⟩:=hS; exact ih h3
  | row b cs e=>obtain ⟨f,F',h1,h2,h3⟩:=hS; exact ih h3
  | eb e E v xs j u=>obtain ⟨f,F',h1,h2,h3⟩:=hS; exact ih h3
  | _=>exact ih hS.2
theorem Rg.sound {v:Value} {j:Int} (h:Rg v j Γ):∀ {cur F:LN},SA Z w Γ cur F→0≤j∧j.toNat < ua v:=by
 induction h with
 | ad=>rintro cur F ⟨⟨h1,h2,_⟩,_⟩; exact ⟨h1,h2⟩
 | @there e Γ _ ih=>
  intro cur F hS
  cases e with
  | own T v x=>obtain ⟨f,F',h1,h2,h3⟩:=hS; exact ih h3
  | om e E v xs=>obtain ⟨f,F',h1,h2,h3⟩:=hS; exact ih h3
  | row b cs e=>obtain ⟨f,F',h1,h2,h3⟩:=hS; exact ih h3
  | eb e E v xs j u=>obtain ⟨f,F',h1,h2,h3⟩:=hS; exact ih h3
  | _=>exact ih hS.2
theorem Ot {pl:List (Nat×Nat)} {i:Nat} {p:Nat×Nat} (h:CN pl i=some p):pl[i]? = some p:=by
 induction pl generalizing i with
 | nil=>cases h
 | cons a l ih=>cases i with
  | zero=>simpa [CN] using h
  | succ n=>simpa using ih h
theorem CP:∀ (us:LV) (off k:Nat) (cs:Array Value),off+k+us.length≤cs.size→
  ((us.zipIdx k).foldl (fun (cs:Array Value) (p:Value×Nat)=>cs.setIfInBounds (off+p.2) p.1) cs).toList=cs.toList.take (off+k)++us++cs.toList.drop (off+k+us.length):=by
 intro us
 induction us with
 | nil=>intro off k cs h; simp
 | cons u us ih=>
  intro off k cs h
  simp only [List.zipIdx_cons,List.foldl_cons]
  simp only [List.length_cons] at h
  rw [ih off (k+1) _ (by simp; omega)]
  rw [Array.toList_setIfInBounds,show off+(k+1)=(off+k)+1 by omega]
  have hs:cs.toList.length=cs.size:=Array.length_toList
  generalize hl:cs.toList=l at *
  generalize off+k=o at *
  obtain ⟨a,x,b,rfl,rfl⟩ : ∃ a x b,l=a++x :: b∧a.length=o:=⟨l.take o,l[o]'(by omega),l.drop (o+1),by rw [List.getElem_cons_drop,List.take_append_drop],by rw [List.length_take]; omega⟩
  have e1:(a++x :: b).set a.length u=a++u :: b:=by simp
  rw [e1,List.length_cons]
  have e2:(a++u :: b).take (a.length+1)=a++[u]:=by rw [List.take_append,List.take_of_length_le (by omega)]; simp
  have e3:(a++u :: b).drop (a.length+1+us.length)=b.drop us.length:=by rw [show a.length+1+us.length=a.length+(us.length+1) by omega,List.drop_append,List.drop_eq_nil_of_le (by omega)]; simp
  have e4:(a++x :: b).drop (a.length+(us.length+1))=b.drop us.length:=by rw [List.drop_append,List.drop_eq_nil_of_le (by omega)]; simp
  have e5:(a++x :: b).take a.length=a:=by simp
  rw [e2,e3,e4,e5]
  simp
theorem sx.fill {fr:Fr} {r:NV} (ha:cn r fr) (hS:SA Z w Γ cur F) {k:Nat} {ps:List (Nat×Operand)} {us:LV} (h:sx Γ fr k ps us) :
  ∀ pre rn:List Value,pre.length=k→rn.length=us.length→Instr.fill (fun i=>some (i * 1,1)) (pre++rn).toArray (ps.map fun x=>(x.1,ev r x.2))=some (pre++us).toArray:=by
 induction h with
 | nil=>
  intro pre rn _ h2
  obtain rfl:rn=[]:=List.eq_nil_of_length_eq_zero h2
  rfl
 | @cons k x u ps us hx ho _ ih=>
  intro pre rn h1 h2
  cases rn with
  | nil=>cases h2
  | cons y rn=>
   have hc:=cells_one (ho.one hS)
   rw [List.map_cons,cB ha hx]
   unfold Instr.fill
   simp only [hc]
   rw [if_neg (by simp; omega)]
   have:=ih (pre++[u]) rn (by simp [h1]) (by simpa using h2)
   have e:(Array.foldl (fun cs (x:Value×Nat)=>cs.setIfInBounds (k * 1+x.2) x.1) (pre++y :: rn).toArray (#[u].zipIdx))=((pre++[u])++rn).toArray:=by
    subst h1
    simp
   first
    | (rw [e,this]; simp)
    | (simp only [e] at *; simp [this])
theorem sx.op {P:Program} {fr:Fr} {r:NV} {w':World} {t e n:Nat} {ps:List (Nat×Operand)} {us:LV} {d:Option Nat} {ty:TI} {pos:String} {af:Array Edge} {g:Option (Nat×Bool)} (hl:sx Γ fr 0 ps us) (ha:cn r fr) (hS:SA Z w Γ cur F) (hz:BI P t e) (hn:us.length=n) (hb:(Nat.ble 1 n && Nat.ble n 16777216)=true) :
  (execOp (ev r) ⟨d,.buildSlice t n ps.toArray,ty,pos,af,g⟩).run P w' = .ok (.value (.slice (some ⟨w'.heap.size,0,none⟩) n n)) (w'.alloc (.cells us.toArray e)):=by
 obtain ⟨h1,i,z,h2,h3,h4⟩:=hz.h
 rw [Bool.and_eq_true] at hb
 have b1:=Nat.le_of_ble_eq_true hb.1
 have b2:=Nat.le_of_ble_eq_true hb.2
 refine ID h1 h2 h3 h4 b1 b2 ?_
 have:=hl.fill ha hS [] ((Array.range (n * 1)).map (z.cells[· % z.cells.size]!)).toList rfl (by simp [hn])
 rw [List.nil_append,List.nil_append,Array.toArray_toList] at this
 rw [show (ps.toArray.map fun (x:Nat×Operand)=>(x.1,ev r x.2)).toList=ps.map fun x=>(x.1,ev r x.2) by simp]
 exact this
theorem wF.fill {n:Nat} {fr:Fr} {r:NV} (ha:cn r fr) (hS:SA Z w Γ cur F) {k:Nat} {ps:List (Nat×Operand)} {us:LV} (h:wF Γ fr n k ps us) :
  us.length=ps.length * n∧∀ pre rn:List Value,pre.length=k * n→rn.length=us.length→Instr.fill (fun i=>some (i * n,n)) (pre++rn).toArray (ps.map fun x=>(x.1,ev r x.2))=some (pre++us).toArray:=by
 induction h with
 | nil=>
  refine ⟨by simp,fun pre rn _ h2=>?_⟩
  obtain rfl:rn=[]:=List.eq_nil_of_length_eq_zero h2
  rfl
 | @cons k x v cs us ws ps hx hc hl _ KF ih=>
  obtain ⟨e0,ih⟩:=ih
  have KF:=KF.eq
  subst KF
  refine ⟨by rw [List.length_append,hl,e0,List.length_cons,Nat.succ_mul,Nat.add_comm],fun pre rn h1 h2=>?_⟩
  rw [List.length_append] at h2
  have hv:=hc.eq hS
  have o9:v.cells=cs.toArray:=by rw [← hv]
  rw [List.map_cons,cB ha hx]
  unfold Instr.fill
  simp only [o9]
  rw [if_neg (by simp; omega)]
  have hsf:=CP cs (k * n) 0 (pre++rn).toArray (by simp; omega)
  have:=ih (pre++cs) (rn.drop n) (by rw [List.length_append,h1,hl,Nat.succ_mul]) (by rw [List.length_drop]; omega)
  have e:(cs.toArray.zipIdx.foldl (fun (cs:Array Value) (x:Value×Nat)=>cs.setIfInBounds (k * n+x.2) x.1) (pre++rn).toArray)=((pre++cs)++rn.drop n).toArray:=by
   apply Array.toList_inj.1
   rw [← Array.foldl_toList]
   simp only [Array.toList_zipIdx]
   rw [hsf,← h1]
   simp only [Nat.add_zero,List.take_left',List.drop_append,List.append_assoc]
   rw [List.drop_eq_nil_of_le (by omega),show pre.length+cs.length - pre.length=n by omega]
   simp
  refine Eq.trans ?_ (this.trans (by simp))
  congr 1
theorem wF.op {P:Program} {fr:Fr} {r:NV} {w':World} {t e n k:Nat} {ps:List (Nat×Operand)} {us:LV} {d:Option Nat} {ty:TI} {pos:String} {af:Array Edge} {g:Option (Nat×Bool)} (hl:wF Γ fr k 0 ps us) (ha:cn r fr) (hS:SA Z w Γ cur F) (hz:LSc P t e k) (hn:ps.length=n) (hb:(Nat.ble 1 n && Nat.ble (n * k) 16777216)=true) :
  (execOp (ev r) ⟨d,.buildSlice t n ps.toArray,ty,pos,af,g⟩).run P w' = .ok (.value (.slice (some ⟨w'.heap.size,0,none⟩) n n)) (w'.alloc (.cells us.toArray e)):=by
 obtain ⟨h1,i,z,h2,h3,h4,h5⟩:=hz.h
 rw [Bool.and_eq_true] at hb
 have b1:=Nat.le_of_ble_eq_true hb.1
 have b2:=Nat.le_of_ble_eq_true hb.2
 obtain ⟨e1,hf⟩:=hl.fill ha hS
 have:=hf [] ((Array.range (n * k)).map (z.cells[· % z.cells.size]!)).toList (by simp) (by simp [e1,hn])
 rw [List.nil_append,List.nil_append,Array.toArray_toList] at this
 have ahN:0 < n * k:=Nat.mul_pos b1 h5
 have h:=run_buildSlice (P:=P) w' t e n (ps.toArray.map fun (x:Nat×Operand)=>(x.1,ev r x.2)) us.toArray i z h1 h2 h3 (by rw [h4]; omega) (by rw [h4]; omega) (by rw [h4]; simpa using this)
 simp only [execOp]
 simp at h
 simp [h]
theorem tI.fill {fr:Fr} {r:NV} {pl:List (Nat×Nat)} {ps:List (Nat×Operand)} {cs es:LV} (h:tI Γ fr pl ps cs es) (ha:cn r fr) (hS:SA Z w Γ cur F) :
  Instr.fill (fun i=>pl.toArray[i]?) cs.toArray (ps.map fun x=>(x.1,ev r x.2))=some es.toArray:=by
 induction h with
 | nil=>rfl
 | @cons i off k x v us cs ds es ps hp hx hc hl hs _ ih=>
  rw [List.map_cons,cB ha hx]
  have hv:=hc.eq hS
  have hp':pl.toArray[i]? = some (off,k):=by rw [List.getElem?_toArray]; exact Ot hp
  obtain ⟨e1,e2⟩:=hs.eq
  have p7:v.cells.size=us.length:=by rw [← hv]; simp
  unfold Instr.fill
  simp only [hp']
  rw [if_neg (by simp [p7,hl]; omega)]
  have o9:v.cells=us.toArray:=by rw [← hv]
  have:=CP us off 0 cs.toArray (by simpa using e1)
  rw [o9]
  have h2:(us.toArray.zipIdx.foldl (fun (cs:Array Value) (x:Value×Nat)=>cs.setIfInBounds (off+x.2) x.1) cs.toArray)=ds.toArray:=by
   apply Array.toList_inj.1
   rw [← Array.foldl_toList]
   simp only [Array.toList_zipIdx] 
   rw [this,e2]; simp
  refine Eq.trans ?_ ih
  congr 1
theorem wH {α:Type} {E:ah α} {t:TI} {v:Value} {xs:List α} {f:LN} (h:(aL t E).rep w.heap [v] xs f):ua v=xs.length:=by
 obtain ⟨base,cap,hv,_⟩:=h
 obtain rfl:v = .slice base xs.length cap:=by simpa using hv
 rfl
theorem vr.sound {fr:Fr} {r:NV} (ha:cn r fr) {fn:Func} {rs:List ResultVar} {vs:LV} (hr:fn.results=rs.toArray) (h:vr P fr Γ rs vs) {n:Nat} (hs:SA Z w Γ [] F) :
  ∀ a:Act,a.tmps.size=n→ca a=r→(results fn a.tmps).run P w = .ok (rN vs) w:=by
 rintro a - rfl
 have key:∀ {rs:List ResultVar} {vs:LV},vr P fr Γ rs vs→Sem.run P (rs.mapM fun | .tmp t=>pure (a.tmps.getD t undef) | .cell b t=>do loadVar t (← asAddr (a.tmps.getD b undef))) w = .ok vs w:=by
  intro rs vs h
  induction h with
  | nil=>rfl
  | @tmp t v l vs h _ ih=>
   rw [List.mapM_cons]
   have:=ha _ _ h
   simp only [ca] at this
   simp only [Sem.run_bind,this,ih,Sem.run_pure,Result.andThen_ok]
  | @cell t n ty p ds vs l hk h hw _ ih=>
   rw [List.mapM_cons]
   have:=ha _ _ h
   simp only [ca] at this
   obtain ⟨dd,i,k1,k2,k3,k4⟩:=hk.h
   obtain ⟨hc,hl⟩:=hw.sound hs
   have h3:=run_loadCells_list (P:=P) (w:=w) p ds hc
   rw [hl,← k4] at h3
   have h4:Sem.run P (do loadVar ty (← asAddr (a.tmps.getD t undef))) w = .ok (.agg ds.toArray) w:=by
    rw [this]
    simp [asAddr,loadVar,uf k1,k2,sizeOf,typeInfo,k3,h3]
   simp only [Sem.run_bind] at h4 ih ⊢
   rw [h4]
   simp only [ih,Sem.run_pure,Result.andThen_ok]
 have h2:=key h
 unfold results
 rw [hr,Sem.run_bind,List.mapM_toArray,← bind_pure_comp,Sem.run_bind]
 generalize hm:Sem.run P (List.mapM _ rs) w=z
 obtain rfl:z = .ok vs w:=hm.symm.trans h2
 simp only [Result.andThen_ok,Sem.run_pure]
 have e:∀ vs:List Value,(if h:vs.toArray.size=1 then vs.toArray[0] else Value.tuple vs.toArray)=rN vs:=by
  intro vs
  match vs with
  | []=>rfl
  | [v]=>rfl
  | a :: b :: l=>rw [dif_neg (by simp)]; rfl
 rw [e]
end
end Go.Dk
namespace Go.Dk
open Go Go.Li
section
variable {B:Bs} {P:Program} {R:Type} {cx:Cx R}
theorem TB {C:World→Prop} {ops:LO} {K:(Nat→Value)→World→Prop}:∀ (l':LO) (r:NV) (w:World),C w→QL P C ops l' r (fun r'=>∀ w',C w'→K r' w')→WL P ops l' r w K:=by
 intro l'
 induction l' with
 | nil=>intro r w hw hh; exact hh w hw
 | cons o l' ih=>
  intro r w hw hh
  rcases hh with ⟨CR,v,hv,hh⟩ | ⟨CR,hh⟩
  ·refine .inl ⟨CR,?_⟩
   have h3:=hv w hw
   unfold eg
   generalize (execOp (ev r) o).run P w=x at h3
   cases x with
   | halt y w'=>exact h3.elim
   | ok y w'=>
    cases y <;> simp only [Oper.quietUpon] at h3
    case value u=>obtain ⟨rfl,rfl⟩:=h3; exact ih _ _ hw hh
    case skip=>obtain ⟨rfl,rfl⟩:=h3; exact ih _ _ hw hh
    case enter f args=>
     obtain ⟨rfl,h3⟩:=h3
     exact h3.mono fun e BK ⟨he,KG⟩=>⟨v,he,ih _ _ KG hh⟩
  ·exact .inr ⟨CR,ih _ _ hw hh⟩
theorem KH {n id:Nat} {draw:Bool} {ops:LO} {Q:Exit→(Nat→Value)→World→Prop} {r:NV} {w:World} (hd:cu n ops=true) (hm:draw=true→P.follows .mixedOrders=true∧Region.lexB .any ops.toArray=true)
  (h:QL P (aq [] w) ops ops r fun r'=>∀ w',aq [] w w'→Q .normal r' w'):W P n (.region id ops.toArray draw) Q r w:=by
 cases draw with
 | true=>exact Ou (hm rfl).1 hd (fun _=>(hm rfl).2) (aq.refl _ _) (aq.drew _ _) h
 | false=>exact wI hd (TB _ _ _ (aq.refl _ _) h)
theorem Calls.TC {f:FuncId} {fn:Func} {c:Code} {xs:List Operand} {bb:Array TypeId} {r:NV} {w:World} {d:Option Nat} {ty:TI} {pos:String} {af:Array Edge} {g:Option (Nat×Bool)} {K:Value→World→Prop}
  (hf : P.funcs[f]? = some fn) (hb : fn.body = some c) (hn : (fn.name == "runtime.NumGoroutine") = false)
  (h:Calls P f (xs.map (ev r)).toArray w fun e w'=>∃ v,e = .returned v∧K v w'):eg P ⟨d,.call ⟨.value (.func f),xs.toArray,bb⟩,ty,pos,af,g⟩ r w K:=by
 unfold eg
 rw [CT hf hb hn]
 exact h
theorem CU {Z:Nat→Prop} {w:World}:∀ {Δ:QE},(∀ e∈Δ,fact Z w [] e)→HL Z w Δ []:=by
 intro Δ
 induction Δ with
 | nil=>intro _; exact .nil
 | cons e Δ ih=>intro h; exact .fact (h e (by simp)) (ih fun e he=>h e (by simp [he]))
theorem CV {Z Z2:Nat→Prop} {w:World}:∀ {Δ:QE} {F:LN},sO Δ=true→HL Z2 w Δ F→HL Z w Δ F:=by
 intro Δ
 induction Δ with
 | nil=>intro F _ h; cases h; exact .nil
 | cons e Δ ih=>
  intro F ho h
  cases e with
  | own T v x=>cases h with
   | own h k=>exact .own h (ih ho k)
   | fact h k=>exact h.elim
  | row b cs e=>cases h with
   | own h k=>exact .own h (ih ho k)
   | fact h k=>exact h.elim
  | _=>cases ho
theorem BL {f:FuncId} {ow:Bool} {vs:LV} {Δ Γ1:QE} {β V:Type} {mo:Option β} {rt:β→V→List Value} {ps:β→V→List ay} {w:World} {Z Z':Nat→Prop} {Fd F1:LN} {y:β} (hc:Pw P f ow vs Δ β V mo rt ps) (hl:HL Z' w Δ Fd) (a2:SA Z w Γ1 [] F1) (pg:Gd B Z (Fd++F1) w)
  (hz:∀ b,Z b→Z' b) (Nh:∀ b,Z' b→Z b∨b∈F1) (hm:(∀ v,sO (ps y v)=true)∨∀ b,Z' b→Z b) (hy:mo=some y) :
  Calls P f vs.toArray w fun e w'=>∃ v,e = .returned (rN (rt y v))∧St B ((ps y v).reverse++Γ1) w':=by
 have ey:=List.nodup_append.1 pg.nd
 refine (hc.2 w Z' Fd hl ey.1 (fun b hb hzb=>(Nh b hzb).elim (pg.apart b (List.mem_append_left _ hb)) (fun h=>ey.2.2 b hb b h rfl)) (fun b hb=>(Nh b hb).elim (pg.qT b) (a2.lt b)) y hy).mono ?_
 rintro e w' ⟨v,he,Z2,F2,tE,qF⟩
 refine ⟨v,he,?_⟩
 have hC:aq Fd w w':=qF.jf
 have hF1:SA Z w' Γ1 [] F1:=a2.dq hC (fun b hb=>pg.apart b (List.mem_append_left _ hb)) (fun b _=>List.not_mem_nil) (fun b hb hm=>ey.2.2 b hb b hm rfl)
 have fin:∀ Z3:Nat→Prop,HL Z3 w' (ps y v) F2→(∀ b,Z b→Z3 b)→(∀ b,Z3 b→Z b∨b∈Fd∨w.heap.size≤b)→(∀ b∈F2,¬ Z3 b)→(∀ b,Z3 b→b < w'.heap.size)→St B ((ps y v).reverse++Γ1) w':=by
  intro Z3 IE Vp Vq h33 h34
  obtain ⟨F3,b1,b2⟩:=IE.build (hF1.mono Vp fun _ h=>h)
  refine St.of b2 (F':=F2++F1) ?_ b1
  refine ⟨List.nodup_append.2 ⟨qF.nd,ey.2.1,?_⟩,?_,h34,?_,fun b hb=>Vp b (pg.uU b hb),?_,?_⟩
  ·rintro b hb c BG rfl
   rcases qF.low b hb with h | h
   ·exact ey.2.2 b h b BG rfl
   ·exact absurd (a2.lt b BG) (Nat.not_lt.2 h)
  ·intro b hb hz
   rcases List.mem_append.1 hb with hb | hb
   ·exact h33 b hb hz
   ·rcases Vq b hz with h | h | h
    ·exact pg.apart b (List.mem_append_right _ hb) h
    ·exact ey.2.2 b h b hb rfl
    ·exact absurd (a2.lt b hb) (Nat.not_lt.2 h)
  ·intro b hb
   rcases List.mem_append.1 hb with hb | hb
   ·rcases qF.low b hb with h | h
    ·exact pg.low b (List.mem_append_left _ h)
    ·exact .inr (Nat.le_trans pg.jf.size h)
   ·exact pg.low b (List.mem_append_right _ hb)
  ·intro b hb
   rcases Vq b hb with h | h | h
   ·exact pg.vq b h
   ·exact .inr (pg.low b (List.mem_append_left _ h))
   ·exact .inr (.inr (Nat.le_trans pg.jf.size h))
  ·exact pg.jf.then hC fun i hi=>pg.low i (List.mem_append_left _ hi)
 rcases hm with hm | hm
 ·exact fin Z (CV (hm v) tE) (fun _ h=>h) (fun _ h=>.inl h) (fun b hb h=>qF.apart b hb (qF.uU b (hz b h))) (fun b hb=>Nat.lt_of_lt_of_le (pg.qT b hb) hC.size)
 ·exact fin Z2 tE (fun b h=>qF.uU b (hz b h)) (fun b h=>(qF.vq b h).imp (hm b) id) qF.apart qF.qT
theorem IF {M α:Type} {rk:RK R M} {oo:M} {E E':ah α} {t:TI} {x y:OO} {i:TypeInfo} {Γ Γ1 Γx:QE} {w:World} {r:NV} {v v' u:Value} {j j':Int} {e e':TI} {zs:List α} {xs:List (List α)} {z:α} {o1 o2:Bool} {all l:LO} {ty:TI} {pos:String} {af:Array Edge} {g:Option (Nat×Bool)}
  (hE:∀ {h cs x f},E.rep h cs x f→f=[]) (h1:E.size=1) (hi:P.info? t=some i) (hs:i.size=1) (hS:St B Γ w) (hl:Loc Γ v (.row v' j')) (h0:Rg v j Γ) (hf:qD Γ v o1 o2 E' zs uW Γx) (hr:RT E E') (h2:dy Γ (.own (aL e (aL e' E)) v' xs) Γ1)
  (hx:ev r x = .pointer (some (fi v 1 j))) (hy:ev r y=u) (hu:E.rep w.heap [u] z [])
  (k:∀ w',St B (.own (aL e (aL e' E)) v' (xs.set j'.toNat (zs.set j.toNat z)) :: Γ1) w'→WL P all l (er r none undef) w' (yC P cx B rk oo)):qe P cx B false ⟨none,.store t x y,ty,pos,af,g⟩ all l rk oo r w:=by
 obtain ⟨Z,F,hS,hg⟩:=hS
 obtain ⟨j0,j1,hc⟩:=Loc.row hl rfl hS
 obtain ⟨r0,r1⟩:=h0.sound hS
 obtain ⟨dh,_,⟨⟨gg,hgg,_⟩,_⟩,_⟩:=hf.sound hS
 obtain ⟨f,F1,hp,hO,j5⟩:=h2.sound hS
 have jm:=hg.perm hp
 have ey:=List.nodup_append.1 jm.nd
 have hlen:ua v'=xs.length:=wH hO
 rw [hlen] at j1
 obtain ⟨k0,g0,a1,a2,a3⟩:=FQ rfl hO (List.getElem?_eq_getElem j1) hc
 have Vs:RT (aL e' E) (bB E'):=.own hr
 have hz:xs[j'.toNat]=zs:=Vs.uc (Vs.le.le a1) hgg
 rw [hz] at a1
 have tE:ua v=zs.length:=wH a1
 rw [tE] at r1
 have Ge:=List.nodup_append.1 (a2.nodup_iff.2 ey.1)
 refine gp (WL.AT (E:=E) k0 w.heap.size hE h1 hi hs ⟨a1,Ge.1,fun b hb=>.inl hb⟩ (List.getElem?_eq_getElem r1) hx hy hu fun w' hC p8=>k w' ?_)
 have hkf:∀ b∈k0,b∈f:=fun b hb=>a2.mem_iff.1 (List.mem_append_left _ hb)
 obtain ⟨f',b1,b2⟩:=a3.2 w'.heap (fun b hb=>hC.block b (a3.1 b hb) fun hm=>Ge.2.2 b hm b hb rfl) _ k0 p8.1
 have Vt:f'.Perm f:=b1.trans (List.perm_append_comm.trans a2)
 exact St.put j5 jm (hC.mono hkf) b2 (Vt.nodup_iff.2 ey.1) fun b hb=>.inl (Vt.mem_iff.1 hb)
theorem D.sound {J:Jd R} (h:D P cx J):lz P cx J:=by
 induction h with
 | pf _ ih=>simpa [lz] using ih
 | pe _ ih=>simpa [lz] using ih
 | pz _ ih=>simpa [lz] using ih
 | @csp A B' y k _ _ PM CW=>
  obtain ⟨a,z⟩:=y
  cases a with
  | none=>exact PM z
  | some a=>exact CW a z
 | @cso A y k _ _ PM CW=>
  cases y with
  | none=>exact PM
  | some a=>exact CW a
 | csd _ ih=>exact ih
 | tp1 _ ih=>exact ih
 | tp0 _ ih=>exact ih
 | tp2 _ ih=>exact ih
 | Tx=>exact fun B o ho=>nomatch ho
 | seq _ ih=>exact fun B o ho r w ha hs=>TD (ih B o ho r w ha hs)
 | skip _ ih=>exact fun B o ho r w ha hs=>PN (ih B o ho r w ha hs)
 | exit _ ih=>exact fun B o ho r w ha hs=>PO (ih B o ho r w ha hs)
 | cond hb _ ih=>exact fun B o ho r w ha hs=>IG (ha _ _ hb) (ih B o ho r w ha hs).1 (ih B o ho r w ha hs).2
 | cdt _ ih=>exact fun B o ho r w ha hs=>⟨fun _=>ih B o ho r w ha hs,fun h=>nomatch h⟩
 | cds _ _ CW PR=>exact fun B o ho r w ha hs=>⟨fun h=>CW B o (by rw [h] at ho; exact ho) r w ha hs,fun h=>PR B o (by rw [h] at ho; exact ho) r w ha hs⟩
 | ret hr _ h h1=>
  intro B o ho r w ha hs
  cases ho
  refine TE (sR ?_)
  obtain ⟨Z,F,hS,hg⟩:=hs
  refine ⟨_,h.sound ha hr hS,?_⟩
  exact ⟨_,rfl,St.leave ⟨Z,F,hS,hg⟩ h1⟩
 | block _ ih=>exact fun B o ho r w ha hs=>ih B o ho r w ha hs
 | bkf _ ih=>exact fun B o ho r w ha hs=>Gf (ih B o ho r w ha hs)
 | bks h=>rw [ma] at h; exact h
 | draw _ ih=>exact fun B o ho r w ha hs=>ih B o ho r w ha hs
 | drs h=>rw [ma] at h; exact h
 | inj h=>rw [ma] at h; exact h
 | region hd _ ih=>exact fun B o ho r w ha hs=>ih hd (fun h=>nomatch h) B o ho r w ha hs _
 | rgf _ ih=>exact fun hd _ B o ho r w ha hs id=>wI hd (ih B o ho r w ha hs)
 | rgq _ ih=>exact fun hd hm B o ho r w ha hs id=>KH hd hm (ih B o ho r w ha hs)
 | rgt _ ih=>exact fun hd _=>ih hd
 | rwu _ ih=>exact fun hd B o ho r w ha hs id=>wI hd (ih B o ho r w ha hs)
 | rwf ht _ _ _ ih zP=>
  intro hd B o ho r w ha hs id
  obtain ⟨g,hg,ho⟩:=bind_some ho
  refine KH hd (fun h=>nomatch h) (QL.meet _ (ih B g hg r w ha hs) ?_)
  intro r' je w' hC
  obtain ⟨h1,h2⟩:=je w' hC
  refine zP g B o ho r' w' ?_ (hs.j7 hC)
  intro s u hl
  unfold look at hl
  cases hb:Nat.beq s _ with
  | true=>rw [hb] at hl; cases hl; rw [Nat.eq_of_beq_eq_true hb]; exact h1
  | false=>rw [hb] at hl; exact h2 s u hl
 | tgn _ ih=>exact ih
 | tgg ht _ _ _ ih zP=>
  intro B o ho r w ha hs
  obtain ⟨g,hg,ho⟩:=bind_some ho
  refine QL.meet _ (ih B g hg r w ha hs) ?_
  intro r' je w' hC
  obtain ⟨h1,h2⟩:=je w' hC
  refine zP g B o ho r' w' ?_ (hs.j7 hC)
  intro s u hl
  unfold look at hl
  cases hb:Nat.beq s _ with
  | true=>rw [hb] at hl; cases hl; rw [Nat.eq_of_beq_eq_true hb]; exact h1
  | false=>rw [hb] at hl; exact h2 s u hl
 | rgg ht _ _ _ ih zP=>
  intro hd hm B o ho r w ha hs id
  obtain ⟨g,hg,ho⟩:=bind_some ho
  refine KH hd hm (QL.meet _ (ih B g hg r w ha hs) ?_)
  intro r' je w' hC
  obtain ⟨h1,h2⟩:=je w' hC
  refine zP g B o ho r' w' ?_ (hs.j7 hC)
  intro s u hl
  unfold look at hl
  cases hb:Nat.beq s _ with
  | true=>rw [hb] at hl; cases hl; rw [Nat.eq_of_beq_eq_true hb]; exact h1
  | false=>rw [hb] at hl; exact h2 s u hl
 | Wv hr _ h h1=>
  intro B o ho r w ha hs
  cases ho
  obtain ⟨Z,F,hS,hg⟩:=hs
  exact ⟨_,h.sound ha hr hS,⟨_,rfl,St.leave ⟨Z,F,hS,hg⟩ h1⟩⟩
 | Wr _ ih=>exact fun B o ho r w ha hs=>ih B o ho r w ha hs
 | Ws _ ih=>exact fun B o ho r w ha hs=>ih B o ho r w ha hs
 | @TA S V k Δ φ Γ2 Γ Γ1 Γ3 f2 fr s v _ ha hf h0 hw h1 h2=>
  intro B o ho r w ph hs
  cases ho
  exact ⟨v,nt (ha.all ph) (hf.sound ph),hs.again h0 hw h1 h2⟩
 | @Tz S V k Δ φ Γ2 Γ Γ1 Γ3 f2 fr s v _ ha hf h0 hw h1 h2=>
  intro B o ho r w ph hs
  cases ho
  refine ⟨rfl,?_⟩
  show (bif Nat.beq k k then _ else False)
  rw [show Nat.beq k k=true from Nat.beq_refl k]
  exact ⟨v,nt (ha.all ph) (hf.sound ph),hs.again h0 hw h1 h2⟩
 | Wt _ ih=>exact fun B o ho r w ha hs=>ih B o ho r w ha hs
 | @Wu S ez kb k j Γ fr m _ ih=>
  intro B o ho r w ha hs
  have:=ih B o ho r w ha hs
  show (bif Nat.beq k j then _ else _)
  cases hb:Nat.beq k j with
  | true=>rw [hb] at this; exact this
  | false=>rw [hb] at this; exact this
 | xbt _ ih=>exact fun B o ho r w ha hs=>ih B o ho r w ha hs
 | xbf _ ih=>exact fun B o ho r w ha hs=>ih B o ho r w ha hs
 | @Wq S q _ K Γ fr m _ ih=>
  intro B o ho r w ha hs
  cases q with
  | false=>exact ih B o ho r w ha hs
  | true=>exact fun w' hC=>ih B o ho r w' ha (hs.j7 hC)
 | @ogd q _ t f0 fr Γ b h k=>
  intro B o ho r w ha hs
  cases ho
  cases q with
  | false=>exact ⟨ha _ _ h,k.sound ha⟩
  | true=>exact fun w' hC=>⟨ha _ _ h,k.sound ha⟩
 | plain _ ih=>exact fun B o ho r w ha hs=>zo (qV rfl) (ih B o ho r w ha hs _ _ _)
 | grd hj hv _ ih=>exact fun B o ho r w ha hs=>ih hj hv B o ho r w ha hs _ _
 | gtt _ ih=>exact fun hj hv B o ho r w ha hs pos af=>zo ((uX rfl hj (ha _ _ hv)).trans rfl) (ih B o ho r w ha hs _ _ _)
 | gff _ ih=>exact fun hj hv B o ho r w ha hs pos af=>zo ((uX rfl hj (ha _ _ hv)).trans rfl) (ih B o ho r w ha hs _ _ _)
 | gtf _ ih=>exact fun hj hv B o ho r w ha hs pos af=>CM ((uX rfl hj (ha _ _ hv)).trans rfl) (ih B o ho _ w (bd ha) hs)
 | gft _ ih=>exact fun hj hv B o ho r w ha hs pos af=>CM ((uX rfl hj (ha _ _ hv)).trans rfl) (ih B o ho _ w (bd ha) hs)
 | @gsp M q b tt d op ty j t all l rk Γ fr m1 m2 _ _ CW PR=>
  intro hj hv B o ho r w ha hs pos af
  have key:∀ c:Bool,b=c→cn r ((t,.bool c) :: fr)∧look ((t,Value.bool c) :: fr) t=some (.bool c):=by
   intro c hc
   refine ⟨?_,by unfold look; rw [show Nat.beq t t=true from Nat.beq_refl t]; rfl⟩
   intro s u hl
   unfold look at hl
   cases hb:Nat.beq s t with
   | true=>rw [hb] at hl; cases hl; rw [Nat.eq_of_beq_eq_true hb,← hc]; exact ha _ _ hv
   | false=>rw [hb] at hl; exact ha s u hl
  cases b with
  | true=>exact CW hj (key true rfl).2 B o ho r w (key true rfl).1 hs pos af
  | false=>exact PR hj (key false rfl).2 B o ho r w (key false rfl).1 hs pos af
 | mv hx _ ih=>exact fun B o ho r w ha hs pos af g=>dv (Mv _ (cB ha hx)) (ih B o ho _ w (bd ha) hs)
 | as hx _ ih=>exact fun B o ho r w ha hs pos af g=>dv (Av _ (cB ha hx)) (ih B o ho _ w (bd ha) hs)
 | add hx hy _ ih=>exact fun B o ho r w ha hs pos af g=>dv (Ba (cB ha hx) (cB ha hy)) (ih B o ho _ w (bd ha) hs)
 | sub hx hy _ ih=>exact fun B o ho r w ha hs pos af g=>dv (Go.Li.Bs (cB ha hx) (cB ha hy)) (ih B o ho _ w (bd ha) hs)
 | lss hx hy _ ih=>exact fun B o ho r w ha hs pos af g=>dv (Bl (cB ha hx) (cB ha hy)) (ih B o ho _ w (bd ha) hs)
 | leq hx hy _ ih=>exact fun B o ho r w ha hs pos af g=>dv (Bk (cB ha hx) (cB ha hy)) (ih B o ho _ w (bd ha) hs)
 | gtr hx hy _ ih=>exact fun B o ho r w ha hs pos af g=>dv (Bg (cB ha hx) (cB ha hy)) (ih B o ho _ w (bd ha) hs)
 | geq hx hy _ ih=>exact fun B o ho r w ha hs pos af g=>dv (Bh (cB ha hx) (cB ha hy)) (ih B o ho _ w (bd ha) hs)
 | eql hx hy hb _ ih=>
  intro B o ho r w ha hs pos af g
  refine dv ?_ (ih B o ho _ w (bd ha) hs)
  cases hb with
  | int=>exact Be (cB ha hx) (cB ha hy)
  | @bool a b h=>exact fun _ _=>Ov (cB ha hx) (cB ha hy) h.h
  | @KC a h=>exact Wy h.h (cB ha hx) (cB ha hy)
  | @KD h=>exact Wz h.h (cB ha hx) (cB ha hy)
  | @s2 k0 k1 a b c e h=>
   obtain ⟨f0,f1,h1,h2,h3,h4,h5,h6,h7,h8,h9⟩:=h.h
   exact fun _ _=>KJ h1 h2 h3 h4 h5 h6 h7 h8 h9 (cB ha hx) (cB ha hy)
 | neq hx hy hb _ ih=>
  intro B o ho r w ha hs pos af g
  refine dv ?_ (ih B o ho _ w (bd ha) hs)
  cases hb with
  | int=>exact Bn (cB ha hx) (cB ha hy)
  | @bool a b h=>exact fun _ _=>KK (cB ha hx) (cB ha hy) h.h
  | @KC a h=>exact WA h.h (cB ha hx) (cB ha hy)
  | @KD h=>exact WB h.h (cB ha hx) (cB ha hy)
  | @s2 k0 k1 a b c e h=>
   obtain ⟨f0,f1,h1,h2,h3,h4,h5,h6,h7,h8,h9⟩:=h.h
   exact fun _ _=>KL h1 h2 h3 h4 h5 h6 h7 h8 h9 (cB ha hx) (cB ha hy)
 | not hx _ ih=>exact fun B o ho r w ha hs pos af g=>dv (Nt (cB ha hx)) (ih B o ho _ w (bd ha) hs)
 | KE hx _ ih=>exact fun B o ho r w ha hs pos af g=>dv (Nk (cB ha hx)) (ih B o ho _ w (bd ha) hs)
 | @pick M q d c x y ty b v all l rk Γ fr m hc hx _ ih=>
  intro B o ho r w ha hs pos af g
  refine dv ?_ (ih B o ho _ w (bd ha) hs)
  intro w' _
  rw [Gg (cB ha hc)]
  cases b
  ·rw [← cB ha hx]; rfl
  ·rw [← cB ha hx]; rfl
 | ext hx hv _ ih=>exact fun B o ho r w ha hs pos af g=>dv (Ex _ (cB ha hx) (by simpa using hv)) (ih B o ho _ w (bd ha) hs)
 | @PE M q d s k off x ty a a' all l rk Γ fr m hf hx hq _ ih=>
  intro B o ho r w ha hs pos af g
  refine dv ?_ (ih B o ho _ w (bd ha) hs)
  rw [hq.eq]
  exact Fp hf.h (cB ha hx)
 | @len M q d n x v t ty all l rk Γ fr m ht hx hr _ ih=>
  intro B o ho r w ha hs pos af g
  obtain ⟨Z,F,hS,_⟩:=id hs
  obtain ⟨b,c,rfl⟩:=hr.sound hS
  obtain ⟨e,i,h1,_,_⟩:=ht.h
  exact dv (fun _ _=>zQ h1 (cB ha hx)) (ih B o ho _ w (bd ha) hs)
 | @idx M α q d x y v k j t ty o1 o2 E xs Γ' all l rk Γ fr f ht hx hy hr hE _ ih=>
  intro B o ho r w ha hs pos af g
  obtain ⟨z,hz,ho⟩:=bind_some ho
  replace hz:=zq hz
  obtain ⟨Z,F,hS,hG⟩:=hs
  obtain ⟨dh,_,⟨⟨n,hn,_⟩,CX⟩,wJ⟩:=(hr z).sound hS
  exact dv (Ix ht.h hn hz (cB ha hx) (cB ha hy) hE) (ih z B o ho _ w (bd ha) ⟨Z,F,wJ (CX hE j z hz.1 hz.2),hG⟩)
 | @cvb M q d x k k2 n s t ty all l rk Γ fr m ht hx _ ih=>
  intro B o ho r w ha hs pos af g
  exact dv (fun _ _=>Ow ht.h.1 ht.h.2 (cB ha hx)) (ih B o ho _ w (bd ha) hs)
 | @cvs M q o1 o2 d x v xs s t ty all l rk Γ Γx fr m ht hx hr _ ih=>
  intro B o ho r w ha hs pos af g
  obtain ⟨e,h1,h2,h3⟩:=ht.h
  obtain ⟨Z,F,hS,_⟩:=id hs
  obtain ⟨dh,_,⟨⟨f0,Ni,_⟩,_⟩,_⟩:=hr.sound hS
  exact dv (fun w' hC=>KM h1 h2 h3 (by rw [cB ha hx]; exact ah.dq _ Ni hC fun _ _=>List.not_mem_nil)) (ih B o ho _ w (bd ha) hs)
 | @mkm M κ υ d t ty bq ek eu all l rk Γ fr m ht _ ih=>
  intro B o ho r w ha hs pos af g
  exact gp (WL.val rfl Ha (ih _ B o ho _ _ (bd ha) (hs.new (f':=[w.heap.size]) (aq.alloc _ _ _) (fun _=>⟨w.heap.size,#[],0,rfl,rfl,(MapKept.heap_alloc w _).1,rfl⟩) (by simp) (tW (Nat.le_refl _)))))
 | @mpu M κ υ x y z v t ty bq ek eu xs a b all l rk Γ Γ1 fr m ht hx hy hz h1 _ ih=>
  intro B o ho r w ha hs pos af g
  obtain ⟨kt,vt,kd,q1,q2,q3⟩:=ht.h
  obtain ⟨Z,F,hS,hg⟩:=hs
  obtain ⟨n,F1,hp,hO,j5⟩:=h1.sound hS
  obtain ⟨i,es,ck,rfl,e1,e2⟩:=IH (P:=P) (d:=none) (ty:=ty) (pos:=pos) (af:=af) (g:=none) (ek:=ek) (sT:=eu) (a:=a) (b:=b) (x:=x) (k:=y) (v:=z) (r:=r) q3 q1 q2 (by rw [cB ha hx]; exact hO) (cB ha hy) (cB ha hz)
  rw [cB ha hx] at e2
  exact gp (WL.skip rfl e1 (ih B o ho _ _ ha (St.put (f:=[i]) (f':=[i]) j5 (hg.perm hp) (aq.setObj _ _ _) e2 (by simp) fun b hb=>.inl hb)))
 | @load M q d x a t ty lk all l rk Γ fr m ht hx _ ih=>exact fun B o ho r w ha hs pos af g=>ih ht.h hx B o ho r w ha hs _ _ _ _
 | @PF M α q d x v j ty o E z Γx all l rk Γ fr m h _ ih=>
  intro ht hx B o ho r w ha hs t pos af g
  obtain ⟨Z,F,hS,_⟩:=id hs
  obtain ⟨_,⟨u,k,h1,h2,_⟩,_⟩:=h.sound hS
  exact ih ht hx B o ho r w ha hs ⟨u,k,h1,h2⟩ _ _ _ _
 | PG h _ ih=>
  intro ht hx B o ho r w ha hs t pos af g
  obtain ⟨Z,F,hS,_⟩:=id hs
  exact dv (Ld ht (h.sound hS) (cB ha hx)) (ih B o ho _ w (bd ha) hs)
 | PH _ ih=>
  intro ht hx B o ho r w ha hs hu t pos af g
  obtain ⟨u,k,h1,h2,_⟩:=hu
  obtain rfl:u=_:=by simpa using h2
  exact dv (Ld ht h1 (cB ha hx)) (ih B o ho _ w (bd ha) hs)
 | @PI M α q o' d x v j E z ty all l rk Γ Γ1 Γ' fr m h h2 _ ih=>
  intro ht hx B o ho r w ha hs hu t pos af g
  obtain ⟨u,k,h1,Nj⟩:=hu
  obtain ⟨Z,F,hS,hG⟩:=hs
  obtain ⟨dh,⟨u',k',h3,h4,h5⟩,wJ⟩:=(h u).sound hS
  rw [h1] at h3
  cases h3
  exact dv (Ld ht h1 (cB ha hx)) (ih u B o ho _ w (bd ha) ⟨Z,F,(h2 u).sound h1 (wJ ⟨k',h4,h5⟩),hG⟩)
 | @ldp M α V q d x a S cl en z ty all l rk Γ Γx fr m xp h _ ih=>
  intro ht hx B o ho r w ha hs hu t pos af g
  obtain ⟨u,k,h1,_⟩:=hu
  obtain ⟨Z,F,hS,hG⟩:=hs
  obtain ⟨dh,⟨u',k',h3,⟨p,iw,g',e1,bo,qH,e6,rfl⟩,h5⟩,_⟩:=h.sound hS
  rw [h1] at h3
  cases h3
  obtain rfl:u = .pointer (some p):=by simpa using e1
  obtain ⟨v,rfl,hf⟩:=xp.op e6
  have hz:∀ b∈p.block :: g',Z b:=fun b hb=>h5 b hb
  have PS:fact Z w [] (.bb p (cl z v)):=⟨fun j u hj=>qH j u hj,fun _=>hz _ (by simp)⟩
  have jr:HL Z w (.bb p (cl z v) :: en z v) []:=.fact PS (CU (hf Z fun b hb=>hz b (by simp [hb])))
  obtain ⟨F',hp,n5⟩:=jr.build hS
  exact dv (Ld ht h1 (cB ha hx)) (ih p v B o ho _ w (bd ha) ⟨Z,F',n5,hG.perm (by simpa using hp)⟩)
 | IC h _ ih=>
  intro ht hx B o ho r w ha hs t pos af g
  obtain ⟨Z,F,hS,_⟩:=id hs
  obtain ⟨h1,h2⟩:=h.sound hS
  exact dv (Lg ht h1 (cB ha hx) h2) (ih B o ho _ w (bd ha) hs)
 | @Ng M q d t ty ps zc cs pl all l rk Γ fr m hb hf _ ih=>
  intro B o ho r w ha hs pos af g
  obtain ⟨Z,F,hS,_⟩:=id hs
  obtain ⟨fs,i,z,h1,h2,h3,h4,h5⟩:=hb.h
  refine dv (Bu ?_) (ih B o ho _ w (bd ha) hs)
  have:=hf.fill ha hS
  unfold Program.built
  rw [h3,h1]
  simp only [h4,h2]
  rw [show z.cells=zc.toArray by rw [← h5]]
  exact this
 | @box M d x t ty v cs all l rk Γ fr m hx hc _ ih=>
  intro B o ho r w ha hs pos af g
  obtain ⟨Z,F,hS,_⟩:=id hs
  refine gp (WL.box fun b w' hC br hb=>ih b B o ho _ w' (bd ha) (hs.new (f':=[b]) hC (fun _=>⟨rfl,?_⟩) (by simp) (tW hb)))
  rw [cB ha hx,hc.eq hS] at br
  exact br
 | @alloc M d t ty cs all l rk Γ fr m hz _ ih=>
  intro B o ho r w ha hs pos af g
  obtain ⟨i,z,h1,h2,h3⟩:=hz.h
  refine gp (WL.alloc h1 h2 fun b w' hC br hb=>ih b B o ho _ w' (bd ha) (hs.new (f':=[b]) hC (fun _=>⟨rfl,?_⟩) (by simp) (tW hb)))
  rw [h3] at br
  exact br
 | @G8 M α d t e ty E z0 bt all l rk Γ fr m hz _ ih=>
  intro B o ho r w ha hs pos af g
  obtain ⟨h1,_,i,z,h2,_⟩:=hz.h
  exact gp (WL.G8 E h1 h2 fun v w' f hC hO=>ih v B o ho _ w' (bd ha) (hs.new hC (fun _=>hO.1) hO.2.1 hO.fresh))
 | @Ww M d n ps us t e ty all l rk Γ fr m hz hl hn hb _ ih=>
  intro B o ho r w ha hs pos af g
  obtain ⟨Z,F,hS,_⟩:=id hs
  exact gp (WL.val rfl (hl.op ha hS hz hn hb) (ih w.heap.size B o ho _ _ (bd ha) (hs.new (f':=[w.heap.size]) (aq.alloc _ _ _) (fun _=>⟨rfl,heap_alloc_new w _⟩) (by simp) (tW (Nat.le_refl _)))))
 | @Wx M d n ps us t e ty all l rk Γ fr m hz hl hn hb _ ih=>
  intro B o ho r w ha hs pos af g
  obtain ⟨Z,F,hS,_⟩:=id hs
  exact gp (WL.val rfl (hl.op ha hS ⟨hz.h⟩ hn hb) (ih w.heap.size B o ho _ _ (bd ha) (hs.new (f':=[w.heap.size]) (aq.alloc _ _ _) (fun _=>⟨rfl,heap_alloc_new w _⟩) (by simp) (tW (Nat.le_refl _)))))
 | @AS M α d x u t e ty E z0 bt all l rk Γ fr m hz hx hu _ ih=>
  intro B o ho r w ha hs pos af g
  obtain ⟨h1,_,i,z,h2,h3,h4,_⟩:=hz.h
  obtain ⟨Z,F,hS,_⟩:=id hs
  have he:=cB ha hx
  refine gp (WL.AS h1 h2 h3 h4 (by rw [he]; exact hu.one hS) fun b w' hC br hb=>ih b B o ho _ w' (bd ha) (hs.new (f':=[b]) hC (fun _=>⟨rfl,?_⟩) (by simp) (tW hb)))
  rw [he] at br
  exact br
 | @G9 M α d y a t e ty E z0 bt all l rk Γ fr f hz hy _ ih=>
  intro B o ho r w ha hs pos af g
  obtain ⟨n,hn,PT⟩:=bind_some ho
  obtain ⟨e1,e2,e3⟩:=AU hn
  obtain ⟨h1,hE,i,z,h2,h3,h4,h5,h6,h7⟩:=hz.h
  subst e1
  exact gp (WL.G9 E h1 h2 h3 (by rw [h4,hE]) rfl (cB ha hy) (by rw [h6]; exact e2) e3 fun v w' f hC hO=>ih n v B o PT _ w' (bd ha) (hs.new hC (fun _=>hO.1) hO.2.1 hO.fresh))
 | @make M α d x a t e ty E z0 bt all l rk Γ fr f hz hx _ ih=>
  intro B o ho r w ha hs pos af g
  obtain ⟨n,hn,PT⟩:=bind_some ho
  obtain ⟨e1,e2,e3⟩:=AU hn
  obtain ⟨h1,hE,i,z,h2,h3,h4,h5,h6,h7⟩:=hz.h
  subst e1
  exact gp (WL.make E h1 h2 h3 h4 hE h5 h7 (cB ha hx) (cB ha hx) (by rw [h6]; exact e2) e3 fun v w' f hC hO=>ih n v B o PT _ w' (bd ha) (hs.new hC (fun _=>hO.1) hO.2.1 hO.fresh))
 | @app M α d s x sv xv t e ty E z0 bt all l rk Γ fr m hz jk hx _ ih=>
  obtain ⟨h1,hE,i,z,h2,h3,h4,h5,h6,h7⟩:=hz.h
  exact ih ⟨h1,hE,i,z,h2,h3,h4,h5,h6⟩ jk hx
 | ax1 hc _ ih=>exact fun h1 hs hx=>ih h1 hs hx
 | @axi M d k s x sv yv o1 o2 t e ty xs ys bt all l rk Γ Γ1 Γx fr f h1 h2 _ ih=>
  intro hT jk hx B o ho r w ha hs pos af g
  obtain ⟨u,hu,ho⟩:=bind_some ho
  obtain ⟨b1,b2⟩:=rq hu
  obtain ⟨q1,q2,i,z,q3,q4,q5,q6,q7⟩:=hT
  obtain ⟨Z,F,hS,hg⟩:=hs
  obtain ⟨n,F1,hp,hO,j5⟩:=h1.sound hS
  have jm:=hg.perm hp
  have ey:=List.nodup_append.1 jm.nd
  obtain ⟨dh,PU,⟨⟨kk,hk,Nl⟩,_⟩,_⟩:=h2.sound j5
  have hd:p9 kk n:=fun b hb hm=>(Nl b hb).elim (fun h=>by
   cases o1
   ·exact jm.apart b (List.mem_append_left _ hm) h
   ·exact ey.2.2 b hm b ((PU b h).resolve_left (by simp)) rfl) (fun h=>by
   cases o2
   ·exact jm.apart b (List.mem_append_left _ hm) h
   ·exact ey.2.2 b hm b ((PU b h).resolve_left (by simp)) rfl)
  refine gp (WL.yD (E:=aK k) n w.heap.size uZ q1 q3 q4 q5 rfl q6 (cB ha jk) ⟨hO,ey.1,fun b hb=>.inl hb⟩ (cB ha hx) hk (by rw [q7]; exact b1) b2 (Nat.le_refl _) fun v w' f' hC p8 ei=>ih v B o ho _ w' (bd ha) (St.put j5 jm hC p8.1 p8.2.1 fun b hb=>(ei b hb).elim .inl fun h=>h.elim (fun h=>absurd h List.not_mem_nil) .inr))
 | @api M d b k y s x sv t e et ty xs bt all l rk Γ Γ1 Γ2 fr f h0 h1 _ ih=>
  intro hT jk hx B o ho r w ha hs pos af g
  obtain ⟨u,hu,ho⟩:=bind_some ho
  obtain ⟨b1,b2⟩:=rq hu
  obtain ⟨q1,q2,i,z,q3,q4,q5,q6,q7⟩:=hT
  obtain ⟨Z,F,hS,hg⟩:=hs
  obtain ⟨n0,F0,zR,⟨rfl,br⟩,zS⟩:=h0.sound hS
  obtain ⟨n,F1,hp,hO,j5⟩:=h1.sound zS
  have jm:Gd B Z (n++F1) w:=Gd.left (F':=[b]) (hg.perm ((List.perm_append_comm.trans (hp.append_left [b])).trans zR))
  have ey:=List.nodup_append.1 jm.nd
  refine gp (WL.tX (E:=aK k) (k:=[]) n w.heap.size q1 q3 q4 q5 rfl q6 (cB ha jk) ⟨hO,ey.1,fun b hb=>.inl hb⟩ (cB ha hx) br ⟨rfl,rfl⟩ List.nodup_nil (fun _ h=>absurd h List.not_mem_nil) (fun _ h=>absurd h List.not_mem_nil) (by rw [q7]; exact b1) b2 (Nat.le_refl _) fun v w' f' hC p8 ei=>ih v B o ho _ w' (bd ha) (St.put j5 jm hC p8.1 p8.2.1 fun b hb=>(ei b hb).elim .inl fun h=>h.elim (fun h=>absurd h List.not_mem_nil) .inr))
 | PJ hk _ ih=>exact ih
 | @apo M α d b s x sv u y xs t e e' et ty E bt all l rk Γ Γ1 Γ2 Γ3 fr f h0 h1 h2 _ ih=>
  intro hT jk hx B o ho r w ha hs pos af g
  obtain ⟨_,hu,ho⟩:=bind_some ho
  obtain ⟨b1,b2⟩:=rq hu
  obtain ⟨q1,q2,i,z,q3,q4,q5,q6,q7⟩:=hT
  obtain ⟨Z,F,hS,hg⟩:=hs
  obtain ⟨n0,F0,zR,⟨rfl,br⟩,zS⟩:=h0.sound hS
  obtain ⟨k,F1,vL,hK,j5⟩:=h1.sound zS
  obtain ⟨n,F2,tD,hO,n5⟩:=h2.sound j5
  have CY:((n++k)++F2++[b]).Perm F:=by
   refine List.perm_append_comm.trans (.trans (List.Perm.append_left [b] ?_) zR)
   refine .trans ?_ vL
   refine .trans ?_ (tD.append_left k)
   rw [← List.append_assoc k n F2]
   exact List.perm_append_comm.append_right F2
  have jm:Gd B Z ((n++k)++F2) w:=Gd.left (hg.perm CY)
  have ey:=List.nodup_append.1 jm.nd
  have CZ:=List.nodup_append.1 ey.1
  have PV:fact Z w [] (.rd false Nf u y.length):=by
   obtain ⟨base,cap,hv,_⟩:=hK
   obtain rfl:u = .slice base y.length cap:=by simpa using hv
   exact ⟨[],⟨⟨_,_,rfl⟩,rfl⟩,fun b hb=>absurd hb List.not_mem_nil⟩
  refine gp (WL.tX (E:=aL e' E) (k:=k) (n++k) w.heap.size q1 q3 q4 q5 q2 q6 (cB ha jk) ⟨hO,CZ.1,fun b hb=>.inl (List.mem_append_left _ hb)⟩ (cB ha hx) br hK CZ.2.1 (fun _ h=>.inl (List.mem_append_right _ h)) (fun b hb hm=>CZ.2.2 b hm b hb rfl) (by rw [q7]; exact b1) b2 (Nat.le_refl _) fun v w' f' hC p8 ei=>ih v B o ho _ w' (bd ha) (St.put (n5.fact (e:=.rd false Nf u y.length) PV) jm (hC.mono fun b hb=>List.mem_append_left _ hb) p8.1 p8.2.1 fun b hb=>(ei b hb).elim (fun h=>.inl (List.mem_append_left _ h)) fun h=>h.elim (fun h=>.inl (List.mem_append_right _ h)) .inr))
 | @PK M x y a u t ty n all l rk Γ fr m ht hx hy _ ih=>exact ih ht.h hx hy
 | @stn M x y b j n us cs ds t e ty all l rk Γ Γ1 fr m h0 h1 h2 h3 _ ih=>
  intro hT hx hy B o ho r w ha hs pos af g
  obtain ⟨i,hi,p7⟩:=hT
  obtain ⟨Z,F,hS,hg⟩:=hs
  obtain ⟨n0,F0,zR,⟨rfl,br⟩,zS⟩:=h0.sound hS
  obtain ⟨e1,e2⟩:=h1.eq
  refine gp (WL.KN hi (by rw [h3,p7]) br e1 (cB ha hx) (cB ha hy) (h2.one hS) fun w' hC tJ=>ih B o ho _ w' ha (St.put (f:=[b]) (f':=[b]) zS (hg.perm zR) hC ⟨rfl,by rw [e2]; exact tJ⟩ (by simp) fun b hb=>.inl hb))
 | @st1 M x y b j u cs ds t e ty all l rk Γ Γ1 fr m h0 h1 h2 _ ih=>
  intro hT hx hy B o ho r w ha hs pos af g
  obtain ⟨i,hi,p7⟩:=hT
  obtain ⟨Z,F,hS,hg⟩:=hs
  obtain ⟨n0,F0,zR,⟨rfl,br⟩,zS⟩:=h0.sound hS
  obtain ⟨e1,e2⟩:=h1.eq
  have e3:cs.set j u=ds:=by rw [e2,List.set_eq_take_append_cons_drop,if_pos (by simp at e1; omega)]; simp
  refine gp (WL.KO hi p7 br (by simp at e1; omega) (cB ha hx) (cB ha hy) (h2.one hS) fun w' hC tJ=>ih B o ho _ w' ha (St.put (f:=[b]) (f':=[b]) zS (hg.perm zR) hC ⟨rfl,by rw [← e3]; exact tJ⟩ (by simp) fun b hb=>.inl hb))
 | stl hl _ ih=>exact fun hT hx hy=>ih hT hx hy hl
 | @sti M x y v j z k xs t e ty all l rk Γ Γ1 fr m h0 h1 _ ih=>
  intro hT hx hy _ B o ho r w ha hs pos af g
  obtain ⟨i,hi,p7⟩:=hT
  obtain ⟨Z,F,hS,hg⟩:=hs
  obtain ⟨j0,j1⟩:=h0.sound hS
  obtain ⟨n,F1,hp,hO,j5⟩:=h1.sound hS
  have jm:=hg.perm hp
  have ey:=List.nodup_append.1 jm.nd
  rw [wH hO] at j1
  exact gp (WL.AT (E:=aK k) n w.heap.size uZ rfl hi p7 ⟨hO,ey.1,fun b hb=>.inl hb⟩ (List.getElem?_eq_getElem j1) (cB ha hx) (cB ha hy) ⟨rfl,rfl⟩ fun w' hC p8=>ih B o ho _ w' ha (St.put j5 jm hC p8.1 p8.2.1 fun b hb=>.inl hb))
 | @sri M x y v v' j j' z k zs xs t e e' ty o1 o2 all l rk Γ Γ1 Γx fr m h0 h1 h2 _ ih=>
  intro hT hx hy hl B o ho r w ha hs pos af g
  obtain ⟨i,hi,p7⟩:=hT
  exact IF (E:=aK k) uZ rfl hi p7 hs hl h0 h1 .i h2 (cB ha hx) (cB ha hy) ⟨rfl,rfl⟩ fun w' h=>ih B o ho _ w' ha h
 | @stw M α x y v u j z xs E t e e' ty all l rk Γ Γ1 Γ2 fr m h0 h1 h2 _ ih=>
  intro hT hx hy _ B o ho r w ha hs pos af g
  obtain ⟨i,hi,p7⟩:=hT
  obtain ⟨Z,F,hS,hg⟩:=hs
  obtain ⟨j0,j1⟩:=h0.sound hS
  obtain ⟨k,F1,vL,hK,j5⟩:=h1.sound hS
  obtain ⟨n,F2,tD,hO,n5⟩:=h2.sound j5
  have CY:((n++k)++F2).Perm F:=by
   refine .trans ?_ vL
   refine .trans ?_ (tD.append_left k)
   rw [← List.append_assoc k n F2]
   exact List.perm_append_comm.append_right F2
  have jm:Gd B Z ((n++k)++F2) w:=hg.perm CY
  have ey:=List.nodup_append.1 jm.nd
  have CZ:=List.nodup_append.1 ey.1
  rw [wH hO] at j1
  exact gp (WL.KP (E:=aL e' E) (k:=k) (n++k) w.heap.size rfl hi p7 ⟨hO,CZ.1,fun b hb=>.inl (List.mem_append_left _ hb)⟩ (List.getElem?_eq_getElem j1) (cB ha hx) (cB ha hy) hK CZ.2.1 (fun _ h=>.inl (List.mem_append_right _ h)) (fun b hb hm=>CZ.2.2 b hm b hb rfl) fun w' f' hC p8 ei=>ih B o ho _ w' ha (St.put n5 jm (hC.mono fun b hb=>List.mem_append_left _ hb) p8.1 p8.2.1 fun b hb=>(ei b hb).elim (fun h=>.inl (List.mem_append_left _ h)) fun h=>h.elim (fun h=>.inl (List.mem_append_right _ h)) .inr))
 | @IB M q d f xs vs bb ty all l rk Γ fr m hf hx _ ih=>
  intro B o ho r w ha hs pos af g
  obtain ⟨fn,c,f1,f2,f3⟩:=hf.h
  refine ih B o ho r w ha hs pos af g fun w'=>?_
  rw [CT f1 f2 f3,tU ha hx]
 | @cav M q d f x xs vs us ws as bs bb ty all l rk Γ fr m hv hx h1 h2 _ ih=>
  intro B o ho r w ha hs pos af g
  refine ih.2 B o ho r w ha hs pos af g fun w'=>?_
  obtain ⟨fn,c,f1,f2,f3⟩:=ih.1
  rw [C0 (cB ha hv) f1 f2 f3,tU ha hx,List.append_assoc,h1.eq,h2.eq]
 | @fa f j hf _ ih=>exact ⟨hf.h,ih⟩
 | @mkf M q d f xs ys as bs ty all l rk Γ fr m hx hy _ ih=>
  intro B o ho r w ha hs pos af g
  refine dv ?_ (ih B o ho _ w (bd ha) hs)
  intro w' _
  rw [Fj,tU ha hx,tU ha hy]
 | cvn=>exact fun B o ho=>nomatch ho
 | @cvq M β ow d f vs op ty Δ mo rt all l rk Γ fr g hc h0 h1 _ ih=>
  intro B o ho r w ha hs pos af gg ru
  obtain ⟨y,hy,ho⟩:=bind_some ho
  refine ⟨rN (rt y ()),?_,ih y B o ho _ w (bd ha) hs⟩
  intro w' hC
  unfold Oper.quietUpon
  rw [ru w']
  refine ⟨rfl,?_⟩
  obtain ⟨Z,F,hS,hG⟩:=hs
  have C1:=hS.j7 hC
  have ug:=hG.j7 hC
  rw [uV] at hc
  refine (hc.2 w' (fun b=>Z b∨b∈F) [] (h1.sound (fun _ h=>.inl h) (fun _ _ h=>.inr h) C1 h0.ho) List.nodup_nil (fun b hb=>absurd hb List.not_mem_nil)
   (fun b hb=>hb.elim (ug.qT b) (C1.lt b)) y hy).mono ?_
  rintro e BK ⟨v,he,Z2,F2,_,qF⟩
  exact ⟨he,hC.trans qF.jf⟩
 | @cvw M β V ow d f vs op ty Δ mo rt ps all l rk Γ fr g hc _ _ ih=>exact ih hc
 | @czt M β V d f vs op ty Δ mo rt ps all l rk Γ Γ1 fr g h0 h1 _ ih=>
  intro hc B o ho r w ha hs pos af gg ru
  obtain ⟨y,hy,ho⟩:=bind_some ho
  unfold qe eg
  rw [ru w]
  obtain ⟨Z,F,hS,hG⟩:=hs
  obtain ⟨Fd,F1,a1,a2,a3⟩:=h0.sound hS
  have pg:=hG.perm a3
  rw [uV] at hc
  exact (BL hc (Z':=fun b=>Z b∨b∈F1) (h1.sound (fun _ h=>.inl h) (fun _ _ h=>.inr h) a2 a1) a2 pg (fun _ h=>.inl h) (fun _ h=>h) (.inl (hc.1 rfl y)) hy).mono fun e w' ⟨v,h2,h3⟩=>⟨_,h2,ih y v B o ho _ w' (bd ha) h3⟩
 | @czf M β V d f vs op ty Δ mo rt ps all l rk Γ Γ1 fr g h0 _ ih=>
  intro hc B o ho r w ha hs pos af gg ru
  obtain ⟨y,hy,ho⟩:=bind_some ho
  unfold qe eg
  rw [ru w]
  obtain ⟨Z,F,hS,hG⟩:=hs
  obtain ⟨Fd,F1,Zn,a1,a2,a3⟩:=h0.sound hS
  have pg:=Gd.freeze (hG.perm a3) fun b hb=>hS.lt b (a3.mem_iff.1 (List.mem_append_right _ hb))
  rw [uV] at hc
  exact (BL hc a1 a2 pg (fun _ h=>h) (fun _ h=>.inl h) (.inr fun _ h=>h) hy).mono fun e w' ⟨v,h2,h3⟩=>⟨_,h2,ih y v B o ho _ w' (bd ha) h3⟩
 | mo0 _ ih=>exact fun B o ho r w ha hs=>ih B o ho r w ha hs
 | mn0 _ ih=>exact fun B o ho r w ha hs=>ih B o ho r w ha hs
theorem loop {S S1 V:Type} (k:Nat) (Δ:S1→V→List ay) (φ:S1→V→Fr) (v0:V) (f2:Fr) {ez:List KI} {kb:Kb R S} {c:Code} {s0:S1} {body:S1→Option (Out S1 R)} {f:S1→Option (Out S R)} {Γ Γ1 Γ2:QE} {fr:Fr}
   (ha:p6 fr (φ s0 v0)) (hf:p6 fr f2) (h0:EO Γ (Δ s0 v0) Γ1) (hn:OW Γ (Δ s0 v0)) (hs:ic Γ1 Γ2)
   (hb:∀ s v,D P cx (.p (φ s v) (Δ s v) f2 Γ2 fun fr Γ=>.c ⟨[],.loop V k Δ φ Γ2 f2⟩ c Γ fr (body s)))
   (hk:∀ s v,D P cx (.p (φ s v) (Δ s v) f2 Γ2 fun fr Γ=>.mn ⟨ez,kb⟩ Γ fr (f s))):Bx (lz P cx (.bk true k ⟨ez,kb⟩ (.loop c) Γ fr (aj (ag k (ai body s0)) f))):=by
 rw [ma]
 intro B o ho r w ph mw
 refine Hb (T:=TT P cx B) (LI B Δ φ _ f2) ho ⟨v0,nt (ha.all ph) (hf.sound ph),mw.enter h0 hn hs⟩ ?_ ?_ ?_
 ·intro x r w he hx
  subst he
  exact sR hx
 ·rintro s r w ⟨v,h1,h2⟩ o ho
  exact (hb s v).sound B o ho r w h1 h2
 ·rintro s r w ⟨v,h1,h2⟩ ho
  exact (hk s v).sound B o ho r w h1 h2
noncomputable def pc.{u,v,w} {A:Type u} {B:Type v} {C:Sort w} (f:A→B→C) (p:A×B):C:=Prod.rec (motive:=fun _=>C) f p
theorem q9 {S S1 V A:Type} (k:Nat) (a0:A) (Δ:A→S1→V→List ay) (φ:A→S1→V→Fr) (v0:V) (f2:Fr) {ez:List KI} {kb:Kb R S} {c:Code} {s0:S1} {body:S1→Option (Out S1 R)} {f:S1→Option (Out S R)} {Γ Γ1 Γ2:QE} {fr:Fr}
   (ha:p6 fr (φ a0 s0 v0)) (hf:p6 fr f2) (h0:EO Γ (Δ a0 s0 v0) Γ1) (hn:OW Γ (Δ a0 s0 v0)) (hs:ic Γ1 Γ2)
   (hb:∀ s v,D P cx (.p (φ a0 s v) (Δ a0 s v) f2 Γ2 fun fr Γ=>.c ⟨[],.loop V k (Δ a0) (φ a0) Γ2 f2⟩ c Γ fr (body s)))
   (hk:∀ s v,D P cx (.p (φ a0 s v) (Δ a0 s v) f2 Γ2 fun fr Γ=>.mn ⟨ez,kb⟩ Γ fr (f s))):Bx (lz P cx (.bk true k ⟨ez,kb⟩ (.loop c) Γ fr (aj (ag k (ai body s0)) f))):=
 loop k (Δ a0) (φ a0) v0 f2 ha hf h0 hn hs hb hk
theorem quiet {S:Type} {id:Nat} {K:cq R S} {ops:LO} {Γ:QE} {fr:Fr} {m:Option (Out S R)} (hB:(P.follows .mixedOrders && cu cx.n ops && Region.lexB .any ops.toArray)=true) (h:D P cx (.rg (wG ops) true ops K Γ fr m)):Bx (lz P cx (.dr id ops K Γ fr m)):=by
 simp only [Bool.and_eq_true] at hB
 rw [ma]
 exact fun B o ho r w ha hs=>h.sound hB.1.2 (fun _=>⟨hB.1.1,hB.2⟩) B o ho r w ha hs _
theorem tail {S:Type} {id:Nat} (k:Nat) {K:cq R S} {l ops tl:LO} {Γ:QE} {fr:Fr} {m:Option (Out S R)} (hB:(P.follows .mixedOrders && cu cx.n l && ((l.take k).all fun o=>zT o.op) && Region.lexTailB .any l.toArray k)=true) (ho:ops=l.take k) (ht:tl=l.drop k)
  (h:D P cx (.o true l ops (.h l tl K) Γ fr m)):Bx (lz P cx (.dr id l K Γ fr m)):=by
 simp only [Bool.and_eq_true] at hB
 obtain ⟨⟨⟨h1,h2⟩,h3⟩,h4⟩:=hB
 subst ho ht
 rw [ma]
 intro B o ho r w ha hs
 exact PW k h1 h2 h3 h4 (aq.refl _ _) (h.sound B o ho r w ha hs)
def AV:Nat→List Value→Fr
 | _,[]=>[]
 | i,v :: l=>(i,v) :: AV (i+1) l
theorem BM {args:LV}:cn (fun t=>args.getD t undef) ((AV 0 args).reverse++[]):=by
 refine nt ?_ yB
 have key:∀ (l:LV) (i:Nat) (p:Nat×Value),p∈AV i l→i≤p.1∧l[p.1 - i]? = some p.2:=by
  intro l
  induction l with
  | nil=>intro i p hp; cases hp
  | cons a l ih=>
   intro i p hp
   unfold AV at hp
   rcases List.mem_cons.1 hp with rfl | hp
   ·simp
   ·obtain ⟨h1,h2⟩:=ih _ _ hp
    refine ⟨by omega,?_⟩
    rw [show p.1 - i=(p.1 - (i+1))+1 by omega]
    simpa using h2
 intro p hp
 obtain ⟨_,h⟩:=key args 0 p hp
 simp only [Nat.sub_zero] at h
 simp [List.getD_eq_getElem?_getD,h]
theorem bn {β V:Type} {post:β→V→List ay} (h:∀ y v,sO (post y v)=true):true=true→∀ y v,sO (post y v)=true:=fun _=>h
theorem Vu {β V:Type} {post:β→V→List ay}:false=true→∀ y v,sO (post y v)=true:=fun h=>nomatch h
theorem ct {f:FuncId} {fn:Func} {ow:Bool} {c:Code} {args:LV} {Δ:QE} {S V:Type} {m:Option (Out S R)} {ret:R→V→List Value} {post:R→V→List ay} (hw:ow=true→∀ y v,sO (post y v)=true) (hf:P.funcs[f]? = some fn) (hb:fn.body=some c) (hl:Nat.ble args.length fn.ntmps=true)
  (h:D P ⟨fn.ntmps,fn,V,ret,post⟩ (.p (AV 0 args) Δ [] [] fun fr Γ=>.c ⟨[],.top⟩ c Γ fr m)):Ct P f ow (an m) args Δ ret post:=by
 rw [uV]
 refine ⟨hw,?_⟩
 intro w Z F hh ey PX bo y hy
 have hs:=h.sound
 obtain ⟨F',hp,hS⟩:=hh.build (Γ:=[]) (F:=[]) rfl
 rw [List.append_nil] at hp
 have mw:St ⟨w,Z,F⟩ (Δ.reverse++[]) w:=⟨Z,F',hS,Gd.perm ⟨ey,PX,bo,fun b hb=>.inl hb,fun _ h=>h,fun _ h=>.inl h,aq.refl _ _⟩ hp⟩
 exact (Hc (Rr:=fun y e w'=>∃ v:V,e = .returned (rN (ret y v))∧It ⟨w,Z,F⟩ (post y v) w') hf hb rfl (Nat.le_of_ble_eq_true hl) (BN hy)
  fun o ho=>hs ⟨w,Z,F⟩ o ho _ _ BM mw)
theorem ctv {f:FuncId} {fn:Func} {ow:Bool} {c:Code} {args:LV} {Δ:QE} {V:Type} {m:Option (Out R R)} {ret:R→V→List Value} {post:R→V→List ay} (hw:ow=true→∀ y v,sO (post y v)=true) (hf:P.funcs[f]? = some fn) (hb:fn.body=some c) (hl:Nat.ble args.length fn.ntmps=true)
  (h:D P ⟨fn.ntmps,fn,V,ret,post⟩ (.p (AV 0 args) Δ [] [] fun fr Γ=>.c ⟨[],.KA⟩ c Γ fr m)):Ct P f ow (C2 m) args Δ ret post:=by
 rw [uV]
 refine ⟨hw,?_⟩
 intro w Z F hh ey PX bo y hy
 have hs:=h.sound
 obtain ⟨F',hp,hS⟩:=hh.build (Γ:=[]) (F:=[]) rfl
 rw [List.append_nil] at hp
 have mw:St ⟨w,Z,F⟩ (Δ.reverse++[]) w:=⟨Z,F',hS,Gd.perm ⟨ey,PX,bo,fun b hb=>.inl hb,fun _ h=>h,fun _ h=>.inl h,aq.refl _ _⟩ hp⟩
 exact (Fk (Rr:=fun y e w'=>∃ v:V,e = .returned (rN (ret y v))∧It ⟨w,Z,F⟩ (post y v) w') hf hb rfl (Nat.le_of_ble_eq_true hl) hy
  fun o ho=>hs ⟨w,Z,F⟩ o ho _ _ BM mw)
end
end Go.Dk
