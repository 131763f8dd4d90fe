/- A calculus of walks: that its rules hold. No condition. -/
import Derived.Test.YtcnehblmgfbfoaaGreatDa
import Derived.Test.YtcnehblmgfbfoaaGreatLn
namespace Go.Dk
open Go Go.Li
section
variable {Z Z':Nat→Prop} {w w':World} {cur F f:LN} {Γ Γ' Γ1 Δ:QE} {e:ay} {B:Bs} {P:Program}
theorem Gd.left {F':LN} (h:Gd B Z (F++F') w):Gd B Z F w:=
 ⟨(List.nodup_append.1 h.nd).1,fun b hb=>h.apart b (List.mem_append_left _ hb),h.qc,fun b hb=>h.low b (List.mem_append_left _ hb),h.tC,h.tD,h.iv⟩
theorem HO.hl (h:OW Γ Δ):∀ {cur F F':LN},SA Z w Γ cur F'→HO Z w Δ F→HL Z w Δ F:=by
 induction h with
 | nil=>intro _ F _ _ h; cases h; exact .nil
 | own _ ih=>intro _ F _ hs h; cases h with | own h k=>exact .own h (ih hs k)
 | om _ ih=>intro _ F _ hs h; cases h with | own h k=>exact .own h (ih hs k)
 | row _ ih=>intro _ F _ hs h; cases h with | own h k=>exact .own h (ih hs k)
 | rd h _ ih=>intro _ F _ hs hh; cases hh with
  | own h k=>exact h.elim
  | rd k=>exact .fact (h.rd hs _) (ih hs k)
theorem FO.ho (h:FO Δ):HO Z w Δ []:=by
 induction h with
 | nil=>exact .nil
 | rd _ ih=>exact .rd ih
 | aw _ ih=>exact .aw ih
theorem qb.all {fr g:Fr} {r:NV} (h:qb fr g) (ha:cf r fr):∀ p∈g,r p.1=p.2:=by
 induction h with
 | nil=>intro p hp; cases hp
 | cons h _ ih=>intro p hp; rcases List.mem_cons.1 hp with rfl | hp; exact ha _ _ h; exact ih p hp
theorem tk {r:NV} {f:Fr}:∀ {g:Fr},(∀ p∈g,r p.1=p.2)→cf r f→cf r (g++f):=by
 intro g
 induction g with
 | nil=>intro _ h; exact h
 | cons a g ih=>
  intro hg h t v hl
  obtain ⟨s,u⟩:=a
  rw [List.cons_append] at hl
  unfold look at hl
  cases hb:Nat.beq t s with
  | true=>rw [hb] at hl; cases hl; rw [Nat.eq_of_beq_eq_true hb]; exact hg (s,v) (by simp)
  | false=>rw [hb] at hl; exact ih (fun p hp=>hg p (by simp [hp])) h t v hl
theorem rS {r:NV} {f g:Fr} (hg:∀ p∈g,r p.1=p.2) (h:cf r f):cf r (g.reverse++f):=tk (fun p hp=>hg p (List.mem_reverse.1 hp)) h
theorem gu.sound (h:gu Γ Γ'):∀ {cur F:LN},SA Z w Γ cur F→SA Z w Γ' cur F:=by
 induction h with
 | nil=>intro _ _ h; exact h
 | own _ ih=>rintro _ _ ⟨f,F',h1,h2,h3⟩; exact ⟨f,F',h1,h2,ih h3⟩
 | om _ ih=>rintro _ _ ⟨f,F',h1,h2,h3⟩; exact ⟨f,F',h1,h2,ih h3⟩
 | row _ ih=>rintro _ _ ⟨f,F',h1,h2,h3⟩; exact ⟨f,F',h1,h2,ih h3⟩
 | Hf _ ih=>intro _ _ h; exact ⟨h.1,ih h.2⟩
 | B3 _ ih=>intro _ _ h; exact ⟨h.1,ih h.2⟩
 | ad _ ih=>intro _ _ h; exact ih h.2
 | aw _ ih=>intro _ _ h; exact ⟨h.1,ih h.2⟩
 | hd _ ih=>intro _ _ h; exact ih h.2
 | dn _ ih=>rintro _ _ ⟨f,F',h1,h2,h3⟩; exact ⟨f,F',h1,h2,ih h3⟩
theorem M3 {α:Type} {E:ag α} (hE:∀ {h:Array Obj} {cs:LV} {x y:α} {f g:LN},E.rep h cs x f→E.rep h cs y g→f=g) {h:Array Obj}:∀ {xs ys:List α} {cs:LV} {f g:LN},xs.length=ys.length→db E h cs xs f→db E h cs ys g→f=g:=by
 intro xs
 induction xs with
 | nil=>
  intro ys cs f g hl h1 h2
  cases ys with
  | nil=>obtain ⟨_,rfl⟩:=h1; obtain ⟨_,rfl⟩:=h2; rfl
  | cons y ys=>cases hl
 | cons x xs ih=>
  intro ys cs f g hl h1 h2
  cases ys with
  | nil=>cases hl
  | cons y ys=>
   obtain ⟨c,ic,f1,f2,rfl,rfl,a1,a2⟩:=h1
   obtain ⟨d,YI,g1,g2,e1,rfl,b1,b2⟩:=h2
   obtain ⟨rfl,rfl⟩:=List.append_inj e1 ((E.len a1).trans (E.len b1).symm)
   rw [hE a1 b1,ih (by simpa using hl) a2 b2]
theorem DT.fp {α:Type} {T:ag α} (h:DT T):∀ {h:Array Obj} {cs:LV} {x y:α} {f g:LN},T.rep h cs x f→T.rep h cs y g→f=g:=by
 induction h with
 | i=>rintro h cs x y f g ⟨_,rfl⟩ ⟨_,rfl⟩; rfl
 | b=>rintro h cs x y f g ⟨_,rfl⟩ ⟨_,rfl⟩; rfl
 | @own α e E _ ih=>
  rintro h cs x y f g ⟨base,cap,rfl,a⟩ ⟨Sm,UG,e1,b⟩
  simp only [List.cons.injEq,Value.slice.injEq,and_true] at e1
  obtain ⟨rfl,hl,rfl⟩:=e1
  rcases a with ⟨rfl,_,_,rfl⟩ | ⟨b1,cr,f',rfl,a2,rfl,_,_,_,a3⟩
  ·rcases b with ⟨_,_,_,rfl⟩ | ⟨EG,TC,g',e1,_⟩
   ·rfl
   ·cases e1
  ·rcases b with ⟨e1,_⟩ | ⟨EG,TC,g',e1,c2,rfl,_,_,_,c3⟩
   ·cases e1
   ·cases e1
    rw [a2] at c2
    cases c2
    rw [hl] at a3
    rw [M3 ih hl a3 c3]
theorem In.aw {p:Addr} {cs:LV} (h:In (.aw p cs) Γ):∀ {cur F:LN},SA Z w Γ cur F→∀ cy,fact Z w cy (.aw p cs):=by
 induction h with
 | here=>intro cur F h cy; exact h.1
 | @there a Γ _ ih=>
  intro cur F hS
  cases a with
  | own T v x=>obtain ⟨f,F',h1,h2,h3⟩:=hS; exact ih h3
  | om e E v xs=>obtain ⟨f,F',h1,h2,h3⟩:=hS; exact ih h3
  | row b cs e=>obtain ⟨f,F',h1,h2,h3⟩:=hS; exact ih h3
  | dn e E v xs j u=>obtain ⟨f,F',h1,h2,h3⟩:=hS; exact ih h3
  | _=>exact ih hS.2
theorem uF.get {α:Type} {T:ag α} {v:Value} {x:α} (h:uF (.rd true T v x) Γ):∀ {cur F:LN},SA Z w Γ cur F→fact Z w cur (.rd true T v x):=by
 induction h with
 | here=>intro cur F h; exact h.1
 | row _ ih=>rintro cur F ⟨f,F',h1,h2,h3⟩; exact ih h3
 | rd _ ih=>intro cur F h; exact ih h.2
 | ad _ ih=>intro cur F h; exact ih h.2
 | hd _ ih=>intro cur F h; exact ih h.2
 | aw _ ih=>intro cur F h; exact ih h.2
theorem EV.sound {α β:Type} {T:ag α} {v u:Value} {x:α} {T':ag β} {z:β} (h:EV T v x (.rd true T' u z) Γ):∀ {cur F:LN},SA Z w Γ cur F→∃ f,T.rep w.heap [v] x f∧fact Z w f (.rd true T' u z):=by
 induction h with
 | here h=>rintro cur F ⟨f,F',h1,h2,h3⟩; exact ⟨f,h2,h.get h3⟩
 | @there a Γ _ ih=>
  intro cur F hS
  cases a with
  | own T v x=>obtain ⟨f,F',h1,h2,h3⟩:=hS; exact ih h3
  | om e E v xs=>obtain ⟨f,F',h1,h2,h3⟩:=hS; exact ih h3
  | row b cs e=>obtain ⟨f,F',h1,h2,h3⟩:=hS; exact ih h3
  | dn e E v xs j u=>obtain ⟨f,F',h1,h2,h3⟩:=hS; exact ih h3
  | _=>exact ih hS.2
theorem MF.sound {o:Option ay} (h:MF Γ o Δ) {cur F:LN} (hs:SA Z w Γ cur F):∀ {cy Fd:LN},(∀ e,o=some e→lh Z w cy e)→HO Z w Δ Fd→SA Z w Δ cy Fd:=by
 induction h with
 | nil=>intro _ _ _ h; cases h; rfl
 | own _ ih=>intro _ _ _ h; cases h with | own h k=>exact ⟨_,_,rfl,h,ih (by rintro e he; cases he; exact h) k⟩
 | om _ ih=>intro _ _ _ h; cases h with | own h k=>exact ⟨_,_,rfl,h,ih (by rintro e he; cases he) k⟩
 | row _ ih=>intro _ _ ho h; cases h with | own h k=>exact ⟨_,_,rfl,h,ih ho k⟩
 | dn _ ih=>intro _ _ _ h; cases h with | own h k=>exact ⟨_,_,rfl,h,ih (by rintro e he; cases he) k⟩
 | rd h _ ih=>
  intro _ _ ho hh
  cases hh with
  | own h k=>exact h.elim
  | rd k=>exact ⟨h.rd hs _,ih ho k⟩
 | @B3 α β T v u x T' z Δ hd h _ ih=>
  intro cy _ ho hh
  cases hh with
  | own h k=>exact h.elim
  | rd k=>
   obtain ⟨f,h1,h2⟩:=h.sound hs
   have h3:T.rep w.heap [v] x cy:=ho _ rfl
   rw [hd.fp h1 h3] at h2
   exact ⟨h2,ih ho k⟩
 | aw h _ ih=>
  intro _ _ ho hh
  cases hh with
  | own h k=>exact h.elim
  | aw k=>exact ⟨h.aw hs _,ih ho k⟩
theorem St.of {F':LN} (hs:SA Z w Γ [] F) (hg:Gd B Z F' w) (hp:F.Perm F'):St B Γ w:=⟨Z,F,hs,hg.perm hp⟩
theorem St.enter (h:St B Γ w) {Γ1 Γ2:QE} (h0:EO Γ Δ Γ1) (hw:OW Γ Δ) (h1:gu Γ1 Γ2):St B (Δ.reverse++Γ2) w:=by
 obtain ⟨Z,F,hs,hg⟩:=h
 obtain ⟨Fd,F1,a1,a2,a3⟩:=h0.sound hs
 obtain ⟨F2,b1,b2⟩:=HL.build (HO.hl hw hs a1) (h1.sound a2)
 exact St.of b2 hg (b1.trans a3)
theorem St.again (h:St B Γ w) {Γ1 Γ2 Γ3:QE} (h0:EO Γ Δ Γ1) (hw:OW Γ Δ) (h1:EO Γ1 Γ2 Γ3) (h2:MF Γ none Γ2):St B (Δ.reverse++Γ2) w:=by
 obtain ⟨Z,F,hs,hg⟩:=h
 obtain ⟨Fd,F1,a1,a2,a3⟩:=h0.sound hs
 obtain ⟨Ov,F3,c1,c2,c3⟩:=h1.sound a2
 obtain ⟨F2,b1,b2⟩:=HL.build (HO.hl hw hs a1) (h2.sound hs (cy:=[]) (by rintro e he; cases he) c1)
 refine St.of (F':=Fd++Ov) b2 (Gd.left (F':=F3) (hg.perm ?_)) b1
 rw [List.append_assoc]
 exact (c3.append_left Fd).trans a3
theorem St.leave (h:St B Γ w) (h0:EF Γ Δ Γ1):Hg B Δ w:=by
 obtain ⟨Z,F,hs,hg⟩:=h
 obtain ⟨Fd,F',Zn,a1,a2,a3⟩:=h0.sound hs
 refine ⟨_,Fd,a1,Gd.left (F':=F') (Gd.freeze (hg.perm a3) fun b hb=>hs.lt b (a3.mem_iff.1 (List.mem_append_right _ hb)))⟩
theorem St.back {β:Type} {e:TI} {E:ag β} {v u:Value} {xs:List β} {j:Int} {z:β} {Γ0:QE} (h:St B (.own E u z :: .dn e E v xs j u :: Γ0) w):St B (.own (aI e E) v (xs.set j.toNat z) :: Γ0) w:=by
 obtain ⟨Z,F,⟨k,F1,rfl,hk,f,F2,rfl,hf,hs⟩,hg⟩:=h
 obtain ⟨f',hp,hr⟩:=hf.2 w.heap (fun _ _=>rfl) z k hk
 have sR:(f'++F2).Perm (k++(f++F2)):=by
  rw [← List.append_assoc]
  exact (hp.trans List.perm_append_comm).append_right F2
 refine ⟨Z,f'++F2,⟨f',F2,rfl,hr,?_⟩,hg.perm sR⟩
 refine SA.mono (fun _ h=>h) (fun b hb=>hp.mem_iff.2 (List.mem_append_left _ hb)) hs
theorem fk {R M:Type} {cx:Cx R} {all l:LO} {rk:RK R M} {o:M} {r:NV} {d:Option Nat} {op:Op} {ty:TI} {pos:String} {ae:Array Edge} {g:Option (Nat×Bool)}
  (h:WL P all (⟨d,op,ty,pos,ae,none⟩ :: l) r w (x6 P cx B rk o)):pQ P cx B false ⟨d,op,ty,pos,ae,g⟩ all l rk o r w:=by
 rcases h with ⟨_,h⟩ | ⟨hw,_⟩
 ·exact h
 ·cases hw
theorem St.put {F1 f':LN} (hS:SA Z w Γ' [] F1) (hg:Gd B Z (f++F1) w) (hC:ao f w w') (ho:lh Z w' f' e) (hn:f'.Nodup) (hs:∀ b∈f',b∈f∨w.heap.size≤b):St B (e :: Γ') w':=by
 have dv:=List.nodup_append.1 hg.nd
 have hk:SA Z w' Γ' [] F1:=hS.cw hC (fun b hb=>hg.apart b (List.mem_append_left _ hb)) (fun b _=>List.not_mem_nil) (fun b hb hm=>dv.2.2 b hb b hm rfl)
 refine ⟨Z,f'++F1,hk.cons ho,List.nodup_append.2 ⟨hn,dv.2.1,?_⟩,?_,fun b hb=>Nat.lt_of_lt_of_le (hg.qc b hb) hC.size,?_,hg.tC,hg.tD,hg.iv.then hC fun i hi=>hg.low i (List.mem_append_left _ hi)⟩
 ·rintro b hb c hc rfl
  rcases hs b hb with h | h
  ·exact dv.2.2 b h b hc rfl
  ·exact absurd (hS.lt b hc) (Nat.not_lt.2 h)
 ·intro b hb hz
  rcases List.mem_append.1 hb with hb | hb
  ·rcases hs b hb with h | h
   ·exact hg.apart b (List.mem_append_left _ h) hz
   ·exact absurd (hg.qc b hz) (Nat.not_lt.2 h)
  ·exact hg.apart b (List.mem_append_right _ hb) hz
 ·intro b hb
  rcases List.mem_append.1 hb with hb | hb
  ·rcases hs b hb with h | h
   ·exact hg.low b (List.mem_append_left _ h)
   ·exact .inr (Nat.le_trans hg.iv.size h)
  ·exact hg.low b (List.mem_append_right _ hb)
theorem St.new (h:St B Γ w) {f':LN} (hC:ao [] w w') (ho:∀ Z,lh Z w' f' e) (hn:f'.Nodup) (hs:∀ b∈f',w.heap.size≤b):St B (e :: Γ) w':=by
 obtain ⟨Z,F,hS,hg⟩:=h
 exact St.put (f:=[]) hS hg hC (ho Z) hn fun b hb=>.inr (hs b hb)
theorem Has.one {v:Value} (h:Has v Γ):∀ {cur F:LN},SA Z w Γ cur F→v.oneCell'=true:=by
 induction h with
 | @own α T x Γ=>rintro cur F ⟨f,F',_,h,_⟩; exact T.one h v (by simp)
 | @om α t E xs Γ=>rintro cur F ⟨f,F',_,⟨us,g,h,_⟩,_⟩; exact ag.one _ h v (by simp)
 | @rd o α T x Γ=>rintro cur F ⟨⟨g,h,_⟩,_⟩; exact T.one h v (by simp)
 | @there e Γ _ ih=>
  intro cur F hS
  cases e with
  | own T v x=>obtain ⟨f,F',h1,h2,h3⟩:=hS; exact ih h3
  | om e E v xs=>obtain ⟨f,F',h1,h2,h3⟩:=hS; exact ih h3
  | row b cs e=>obtain ⟨f,F',h1,h2,h3⟩:=hS; exact ih h3
  | dn e E v xs j u=>obtain ⟨f,F',h1,h2,h3⟩:=hS; exact ih h3
  | _=>exact ih hS.2
theorem One.one {v:Value} (h:One Γ v) (hS:SA Z w Γ cur F):v.oneCell'=true:=by
 cases h with
 | int=>rfl
 | bool=>rfl
 | ptr=>rfl
 | sl=>rfl
 | fn=>rfl
 | nf=>rfl
 | var h=>exact h.one hS
theorem tE.one {vs:LV} (h:tE Γ vs) (hS:SA Z w Γ cur F):∀ u∈vs,u.oneCell'=true:=by
 induction h with
 | nil=>intro u hu; cases hu
 | cons h _ ih=>intro u hu; rcases List.mem_cons.1 hu with rfl | hu; exact h.one hS; exact ih u hu
theorem pR.eq {v:Value} {cs:LV} (h:pR Γ v cs) (hS:SA Z w Γ cur F):v.cells.toList=cs:=by
 cases h with
 | agg=>rfl
 | one h=>rw [cells_one (h.one hS)]
theorem qA.eq {us cs ds:LV} {j:Nat} (h:qA us j cs ds):j+us.length≤cs.length∧ds=cs.take j++us++cs.drop (j+us.length):=by
 induction h with
 | nil=>simp
 | put _ ih=>obtain ⟨h1,h2⟩:=ih; refine ⟨by simp at h1 ⊢; omega,?_⟩; rw [h2]; simp
 | s _ ih=>
  obtain ⟨h1,h2⟩:=ih
  refine ⟨by simp; omega,?_⟩
  rw [h2]
  rename_i us cs ds j _
  rw [show j+1+us.length=(j+us.length)+1 by omega]
  simp
theorem q8.eq {j n:Nat} {cs ds:LV} (h:q8 j n cs ds):ds.length=n∧(cs.drop j).take n=ds:=by
 induction h with
 | z=>simp
 | c _ ih=>obtain ⟨h1,h2⟩:=ih; simp at h2; simp [h1,h2]
 | s _ ih=>simpa using ih
theorem rQ.sound {a:Addr} {n:Nat} {ds:LV} (h:rQ Γ a n ds):∀ {cur F:LN},SA Z w Γ cur F→At w a ds∧ds.length=n:=by
 induction h with
 | row h=>
  rintro cur F ⟨f,F',h1,⟨_,h2⟩,_⟩
  obtain ⟨e1,e2⟩:=h.eq
  have:=At.sub h2.at (by rw [e1]; exact e2)
  rw [iy,Nat.zero_add] at this
  exact ⟨this,e1⟩
 | «at» h=>rintro cur F ⟨⟨h1,_⟩,_⟩; obtain ⟨e1,e2⟩:=h.eq; exact ⟨At.sub h1 (by rw [e1]; exact e2),e1⟩
 | He h=>rintro cur F ⟨⟨h1,_⟩,_⟩; obtain ⟨e1,e2⟩:=h.eq; exact ⟨At.sub (j:=0) h1 (by rw [e1]; exact e2),e1⟩
 | @there a n ds e Γ _ ih=>
  intro cur F hS
  cases e with
  | own T v x=>obtain ⟨f,F',h1,h2,h3⟩:=hS; exact ih h3
  | om e E v xs=>obtain ⟨f,F',h1,h2,h3⟩:=hS; exact ih h3
  | row b cs e=>obtain ⟨f,F',h1,h2,h3⟩:=hS; exact ih h3
  | dn e E v xs j u=>obtain ⟨f,F',h1,h2,h3⟩:=hS; exact ih h3
  | _=>exact ih hS.2
theorem sL.sound {v:Value} {n:Nat} (h:sL Γ v n):∀ {cur F:LN},SA Z w Γ cur F→∃ b c,v = .slice b n c:=by
 induction h with
 | lit=>intro _ _ _; exact ⟨_,_,rfl⟩
 | ln=>rintro cur F ⟨⟨g,⟨⟨a,c,hv⟩,_⟩,_⟩,_⟩; exact ⟨a,c,by simpa using hv⟩
 | rd h=>rintro cur F ⟨⟨g,h1,_⟩,_⟩; exact rT (h.le.le h1)
 | own h=>rintro cur F ⟨f,F',_,h1,_⟩; exact rT (h.le.le h1)
 | om=>rintro cur F ⟨f,F',_,h1,_⟩; obtain ⟨⟨g,h2,_⟩,_⟩:=FU h1; exact rT h2
 | @there v n e Γ _ ih=>
  intro cur F hS
  cases e with
  | own T v x=>obtain ⟨f,F',h1,h2,h3⟩:=hS; exact ih h3
  | om e E v xs=>obtain ⟨f,F',h1,h2,h3⟩:=hS; exact ih h3
  | row b cs e=>obtain ⟨f,F',h1,h2,h3⟩:=hS; exact ih h3
  | dn e E v xs j u=>obtain ⟨f,F',h1,h2,h3⟩:=hS; exact ih h3
  | _=>exact ih hS.2
theorem yt.sound {k:IntKind} {us:LV} {xs:List Int} (h:yt k us xs):∀ (hp:Array Obj),us.length=xs.length∧db (aJ k) hp us xs []:=by
 induction h with
 | nil=>intro h; exact ⟨rfl,rfl,rfl⟩
 | cons _ ih=>intro h; obtain ⟨e1,e2⟩:=ih h; exact ⟨by simp [e1],[_],_,[],[],rfl,rfl,⟨rfl,rfl⟩,e2⟩
theorem zk.sound {α:Type} {E:ag α} {v:Value} {x:α} (h:zk Γ E v x Γ') {F:LN} (hS:SA Z w Γ [] F):∃ f F',(f++F').Perm F∧E.rep w.heap [v] x f∧SA Z w Γ' [] F':=by
 cases h with
 | int=>exact ⟨[],F,.refl _,⟨rfl,rfl⟩,hS⟩
 | bool=>exact ⟨[],F,.refl _,⟨rfl,rfl⟩,hS⟩
 | own h=>obtain ⟨f,F1,hp,ho,jz⟩:=h.sound hS; exact ⟨f,F1,hp,ho,jz⟩
 | @lit b n us k xs e Γ1 _ h0 h1 hn hb=>
  obtain ⟨f0,F1,hp,⟨rfl,bo⟩,jz⟩:=h0.sound hS
  obtain ⟨e1,e2⟩:=yt.sound h1 w.heap
  have B9:=Nat.le_of_ble_eq_true hb
  refine ⟨[b],F1,hp,⟨some ⟨b,0,none⟩,n,by rw [← hn,e1],.inr ⟨b,us.toArray,[],rfl,bo,rfl,by rw [← hn,e1]; exact Nat.le_refl _,Nat.le_trans B9 (by decide),by rw [show (aJ k).size=1 from rfl,Nat.mul_one]; simp [hn],?_⟩⟩,jz⟩
  rw [show (aJ k).size=1 from rfl,Nat.mul_one,List.toList_toArray,← e1,List.take_length]
  exact e2
theorem EW.sound {α:Type} {E:ag α} {us:LV} {xs:List α} (h:EW Γ E us xs Γ'):∀ {F:LN},SA Z w Γ [] F→us.length=xs.length∧∃ f F',(f++F').Perm F∧db E w.heap us xs f∧SA Z w Γ' [] F':=by
 induction h with
 | nil=>intro F hS; exact ⟨rfl,[],F,.refl _,⟨rfl,rfl⟩,hS⟩
 | cons h _ ih=>
  intro F hS
  obtain ⟨f1,F1,p1,r1,S1⟩:=h.sound hS
  obtain ⟨e,f2,F2,p2,r2,S2⟩:=ih S1
  exact ⟨by simp [e],f1++f2,F2,(by rw [List.append_assoc]; exact (p2.append_left f1).trans p1),⟨[_],_,f1,f2,rfl,rfl,r1,r2⟩,S2⟩
theorem AY.sound {κ υ:Type} {ek:κ→Value} {eu:υ→Value} {v:Value} {x:List (κ×υ)} (h:AY ek eu Γ v x):∀ {cur F:LN},SA Z w Γ cur F→∃ f,(o3 ek eu).rep w.heap [v] x f:=by
 induction h with
 | own=>rintro cur F ⟨f,F',_,h2,_⟩; exact ⟨f,h2⟩
 | rd=>rintro cur F ⟨⟨f,h2,_⟩,_⟩; exact ⟨f,h2⟩
 | @there v x e Γ h ih=>
  intro cur F hS
  cases e with
  | own T v x=>obtain ⟨f,F',h1,h2,h3⟩:=hS; exact ih h3
  | om e E v xs=>obtain ⟨f,F',h1,h2,h3⟩:=hS; exact ih h3
  | row b cs e=>obtain ⟨f,F',h1,h2,h3⟩:=hS; exact ih h3
  | dn e E v xs j u=>obtain ⟨f,F',h1,h2,h3⟩:=hS; exact ih h3
  | _=>exact ih hS.2
theorem Rg.sound {v:Value} {j:Int} (h:Rg v j Γ):∀ {cur F:LN},SA Z w Γ cur F→0≤j∧j.toNat < tA v:=by
 induction h with
 | ad=>rintro cur F ⟨⟨h1,h2,_⟩,_⟩; exact ⟨h1,h2⟩
 | @there e Γ _ ih=>
  intro cur F hS
  cases e with
  | own T v x=>obtain ⟨f,F',h1,h2,h3⟩:=hS; exact ih h3
  | om e E v xs=>obtain ⟨f,F',h1,h2,h3⟩:=hS; exact ih h3
  | row b cs e=>obtain ⟨f,F',h1,h2,h3⟩:=hS; exact ih h3
  | dn e E v xs j u=>obtain ⟨f,F',h1,h2,h3⟩:=hS; exact ih h3
  | _=>exact ih hS.2
theorem M4 {pl:List (Nat×Nat)} {i:Nat} {p:Nat×Nat} (h:B8 pl i=some p):pl[i]? = some p:=by
 induction pl generalizing i with
 | nil=>cases h
 | cons a l ih=>cases i with
  | zero=>simpa [B8] using h
  | succ n=>simpa using ih h
theorem Ca:∀ (us:LV) (off k:Nat) (cs:Array Value),off+k+us.length≤cs.size→
  ((us.zipIdx k).foldl (fun (cs:Array Value) (p:Value×Nat)=>cs.setIfInBounds (off+p.2) p.1) cs).toList=cs.toList.take (off+k)++us++cs.toList.drop (off+k+us.length):=by
 intro us
 induction us with
 | nil=>intro off k cs h; simp
 | cons u us ih=>
  intro off k cs h
  simp only [List.zipIdx_cons,List.foldl_cons]
  simp only [List.length_cons] at h
  rw [ih off (k+1) _ (by simp; omega)]
  rw [Array.toList_setIfInBounds,show off+(k+1)=(off+k)+1 by omega]
  have hs:cs.toList.length=cs.size:=Array.length_toList
  generalize hl:cs.toList=l at *
  generalize off+k=o at *
  obtain ⟨a,x,b,rfl,rfl⟩ : ∃ a x b,l=a++x :: b∧a.length=o:=⟨l.take o,l[o]'(by omega),l.drop (o+1),by rw [List.getElem_cons_drop,List.take_append_drop],by rw [List.length_take]; omega⟩
  have e1:(a++x :: b).set a.length u=a++u :: b:=by simp
  rw [e1,List.length_cons]
  have e2:(a++u :: b).take (a.length+1)=a++[u]:=by rw [List.take_append,List.take_of_length_le (by omega)]; simp
  have e3:(a++u :: b).drop (a.length+1+us.length)=b.drop us.length:=by rw [show a.length+1+us.length=a.length+(us.length+1) by omega,List.drop_append,List.drop_eq_nil_of_le (by omega)]; simp
  have e4:(a++x :: b).drop (a.length+(us.length+1))=b.drop us.length:=by rw [List.drop_append,List.drop_eq_nil_of_le (by omega)]; simp
  have e5:(a++x :: b).take a.length=a:=by simp
  rw [e2,e3,e4,e5]
  simp
theorem rR.fill {fr:Fr} {r:NV} (ha:cf r fr) (hS:SA Z w Γ cur F) {k:Nat} {ps:List (Nat×Operand)} {us:LV} (h:rR Γ fr k ps us) :
  ∀ pre qK:List Value,pre.length=k→qK.length=us.length→Instr.fill (fun i=>some (i * 1,1)) (pre++qK).toArray (ps.map fun x=>(x.1,ev r x.2))=some (pre++us).toArray:=by
 induction h with
 | nil=>
  intro pre qK _ h2
  obtain rfl:qK=[]:=List.eq_nil_of_length_eq_zero h2
  rfl
 | @cons k x u ps us hx ho _ ih=>
  intro pre qK h1 h2
  cases qK with
  | nil=>cases h2
  | cons y qK=>
   have hc:=cells_one (ho.one hS)
   rw [List.map_cons,bL ha hx]
   unfold Instr.fill
   simp only [hc]
   rw [if_neg (by simp; omega)]
   have:=ih (pre++[u]) qK (by simp [h1]) (by simpa using h2)
   have e:(Array.foldl (fun cs (x:Value×Nat)=>cs.setIfInBounds (k * 1+x.2) x.1) (pre++y :: qK).toArray (#[u].zipIdx))=((pre++[u])++qK).toArray:=by
    subst h1
    simp
   first
    | (rw [e,this]; simp)
    | (simp only [e] at *; simp [this])
theorem rR.op {P:Program} {fr:Fr} {r:NV} {w':World} {t e n:Nat} {ps:List (Nat×Operand)} {us:LV} {d:Option Nat} {ty:TI} {pos:String} {ae:Array Edge} {g:Option (Nat×Bool)} (hl:rR Γ fr 0 ps us) (ha:cf r fr) (hS:SA Z w Γ cur F) (hz:AX P t e) (hn:us.length=n) (hb:(Nat.ble 1 n && Nat.ble n 16777216)=true) :
  (execOp (ev r) ⟨d,.buildSlice t n ps.toArray,ty,pos,ae,g⟩).run P w' = .ok (.value (.slice (some ⟨w'.heap.size,0,none⟩) n n)) (w'.alloc (.cells us.toArray e)):=by
 obtain ⟨h1,i,z,h2,h3,h4⟩:=hz.h
 rw [Bool.and_eq_true] at hb
 have b1:=Nat.le_of_ble_eq_true hb.1
 have b2:=Nat.le_of_ble_eq_true hb.2
 refine Ho h1 h2 h3 h4 b1 b2 ?_
 have:=hl.fill ha hS [] ((Array.range (n * 1)).map (z.cells[· % z.cells.size]!)).toList rfl (by simp [hn])
 rw [List.nil_append,List.nil_append,Array.toArray_toList] at this
 rw [show (ps.toArray.map fun (x:Nat×Operand)=>(x.1,ev r x.2)).toList=ps.map fun x=>(x.1,ev r x.2) by simp]
 exact this
theorem vV.fill {n:Nat} {fr:Fr} {r:NV} (ha:cf r fr) (hS:SA Z w Γ cur F) {k:Nat} {ps:List (Nat×Operand)} {us:LV} (h:vV Γ fr n k ps us) :
  us.length=ps.length * n∧∀ pre qK:List Value,pre.length=k * n→qK.length=us.length→Instr.fill (fun i=>some (i * n,n)) (pre++qK).toArray (ps.map fun x=>(x.1,ev r x.2))=some (pre++us).toArray:=by
 induction h with
 | nil=>
  refine ⟨by simp,fun pre qK _ h2=>?_⟩
  obtain rfl:qK=[]:=List.eq_nil_of_length_eq_zero h2
  rfl
 | @cons k x v cs us ws ps hx hc hl _ JB ih=>
  obtain ⟨e0,ih⟩:=ih
  have JB:=JB.eq
  subst JB
  refine ⟨by rw [List.length_append,hl,e0,List.length_cons,Nat.succ_mul,Nat.add_comm],fun pre qK h1 h2=>?_⟩
  rw [List.length_append] at h2
  have hv:=hc.eq hS
  have o4:v.cells=cs.toArray:=by rw [← hv]
  rw [List.map_cons,bL ha hx]
  unfold Instr.fill
  simp only [o4]
  rw [if_neg (by simp; omega)]
  have ZQ:=Ca cs (k * n) 0 (pre++qK).toArray (by simp; omega)
  have:=ih (pre++cs) (qK.drop n) (by rw [List.length_append,h1,hl,Nat.succ_mul]) (by rw [List.length_drop]; omega)
  have e:(cs.toArray.zipIdx.foldl (fun (cs:Array Value) (x:Value×Nat)=>cs.setIfInBounds (k * n+x.2) x.1) (pre++qK).toArray)=((pre++cs)++qK.drop n).toArray:=by
   apply Array.toList_inj.1
   rw [← Array.foldl_toList]
   simp only [Array.toList_zipIdx]
   rw [ZQ,← h1]
   simp only [Nat.add_zero,List.take_left',List.drop_append,List.append_assoc]
   rw [List.drop_eq_nil_of_le (by omega),show pre.length+cs.length - pre.length=n by omega]
   simp
  refine Eq.trans ?_ (this.trans (by simp))
  congr 1
theorem vV.op {P:Program} {fr:Fr} {r:NV} {w':World} {t e n k:Nat} {ps:List (Nat×Operand)} {us:LV} {d:Option Nat} {ty:TI} {pos:String} {ae:Array Edge} {g:Option (Nat×Bool)} (hl:vV Γ fr k 0 ps us) (ha:cf r fr) (hS:SA Z w Γ cur F) (hz:YW P t e k) (hn:ps.length=n) (hb:(Nat.ble 1 n && Nat.ble (n * k) 16777216)=true) :
  (execOp (ev r) ⟨d,.buildSlice t n ps.toArray,ty,pos,ae,g⟩).run P w' = .ok (.value (.slice (some ⟨w'.heap.size,0,none⟩) n n)) (w'.alloc (.cells us.toArray e)):=by
 obtain ⟨h1,i,z,h2,h3,h4,h5⟩:=hz.h
 rw [Bool.and_eq_true] at hb
 have b1:=Nat.le_of_ble_eq_true hb.1
 have b2:=Nat.le_of_ble_eq_true hb.2
 obtain ⟨e1,hf⟩:=hl.fill ha hS
 have:=hf [] ((Array.range (n * k)).map (z.cells[· % z.cells.size]!)).toList (by simp) (by simp [e1,hn])
 rw [List.nil_append,List.nil_append,Array.toArray_toList] at this
 have afA:0 < n * k:=Nat.mul_pos b1 h5
 have h:=run_buildSlice (P:=P) w' t e n (ps.toArray.map fun (x:Nat×Operand)=>(x.1,ev r x.2)) us.toArray i z h1 h2 h3 (by rw [h4]; omega) (by rw [h4]; omega) (by rw [h4]; simpa using this)
 simp only [execOp]
 simp at h
 simp [h]
theorem sY.fill {fr:Fr} {r:NV} {pl:List (Nat×Nat)} {ps:List (Nat×Operand)} {cs es:LV} (h:sY Γ fr pl ps cs es) (ha:cf r fr) (hS:SA Z w Γ cur F) :
  Instr.fill (fun i=>pl.toArray[i]?) cs.toArray (ps.map fun x=>(x.1,ev r x.2))=some es.toArray:=by
 induction h with
 | nil=>rfl
 | @cons i off k x v us cs ds es ps hp hx hc hl hs _ ih=>
  rw [List.map_cons,bL ha hx]
  have hv:=hc.eq hS
  have ZR:pl.toArray[i]? = some (off,k):=by rw [List.getElem?_toArray]; exact M4 hp
  obtain ⟨e1,e2⟩:=hs.eq
  have qe:v.cells.size=us.length:=by rw [← hv]; simp
  unfold Instr.fill
  simp only [ZR]
  rw [if_neg (by simp [qe,hl]; omega)]
  have o4:v.cells=us.toArray:=by rw [← hv]
  have:=Ca us off 0 cs.toArray (by simpa using e1)
  rw [o4]
  have h2:(us.toArray.zipIdx.foldl (fun (cs:Array Value) (x:Value×Nat)=>cs.setIfInBounds (off+x.2) x.1) cs.toArray)=ds.toArray:=by
   apply Array.toList_inj.1
   rw [← Array.foldl_toList]
   simp only [Array.toList_zipIdx] 
   rw [this,e2]; simp
  refine Eq.trans ?_ ih
  congr 1
theorem vX {α:Type} {E:ag α} {t:TI} {v:Value} {xs:List α} {f:LN} (h:(aI t E).rep w.heap [v] xs f):tA v=xs.length:=by
 obtain ⟨base,cap,hv,_⟩:=h
 obtain rfl:v = .slice base xs.length cap:=by simpa using hv
 rfl
theorem u9.sound {fr:Fr} {r:NV} (ha:cf r fr) {fn:Func} {rs:List ResultVar} {vs:LV} (hr:fn.results=rs.toArray) (h:u9 P fr Γ rs vs) {n:Nat} (hs:SA Z w Γ [] F) :
  ∀ a:Act,a.tmps.size=n→b9 a=r→(results fn a.tmps).run P w = .ok (qX vs) w:=by
 rintro a - rfl
 have key:∀ {rs:List ResultVar} {vs:LV},u9 P fr Γ rs vs→Sem.run P (rs.mapM fun | .tmp t=>pure (a.tmps.getD t undef) | .cell b t=>do loadVar t (← asAddr (a.tmps.getD b undef))) w = .ok vs w:=by
  intro rs vs h
  induction h with
  | nil=>rfl
  | @tmp t v l vs h _ ih=>
   rw [List.mapM_cons]
   have:=ha _ _ h
   simp only [b9] at this
   simp only [Sem.run_bind,this,ih,Sem.run_pure,Result.andThen_ok]
  | @cell t n ty p ds vs l hk h hw _ ih=>
   rw [List.mapM_cons]
   have:=ha _ _ h
   simp only [b9] at this
   obtain ⟨dd,i,k1,k2,k3,k4⟩:=hk.h
   obtain ⟨hc,hl⟩:=hw.sound hs
   have h3:=run_loadCells_list (P:=P) (w:=w) p ds hc
   rw [hl,← k4] at h3
   have h4:Sem.run P (do loadVar ty (← asAddr (a.tmps.getD t undef))) w = .ok (.agg ds.toArray) w:=by
    rw [this]
    simp [asAddr,loadVar,tH k1,k2,sizeOf,typeInfo,k3,h3]
   simp only [Sem.run_bind] at h4 ih ⊢
   rw [h4]
   simp only [ih,Sem.run_pure,Result.andThen_ok]
 have h2:=key h
 unfold results
 rw [hr,Sem.run_bind,List.mapM_toArray,← bind_pure_comp,Sem.run_bind]
 generalize hm:Sem.run P (List.mapM _ rs) w=z
 obtain rfl:z = .ok vs w:=hm.symm.trans h2
 simp only [Result.andThen_ok,Sem.run_pure]
 have e:∀ vs:List Value,(if h:vs.toArray.size=1 then vs.toArray[0] else Value.tuple vs.toArray)=qX vs:=by
  intro vs
  match vs with
  | []=>rfl
  | [v]=>rfl
  | a :: b :: l=>rw [dif_neg (by simp)]; rfl
 rw [e]
end
end Go.Dk
namespace Go.Dk
open Go Go.Li
section
variable {B:Bs} {P:Program} {R:Type} {cx:Cx R}
theorem Sr {C:World→Prop} {ops:LO} {K:(Nat→Value)→World→Prop}:∀ (l':LO) (r:NV) (w:World),C w→QL P C ops l' r (fun r'=>∀ w',C w'→K r' w')→WL P ops l' r w K:=by
 intro l'
 induction l' with
 | nil=>intro r w hw hh; exact hh w hw
 | cons o l' ih=>
  intro r w hw hh
  rcases hh with ⟨Cb,v,hv,hh⟩ | ⟨Cb,hh⟩
  ·refine .inl ⟨Cb,?_⟩
   have h3:=hv w hw
   unfold dq
   generalize (execOp (ev r) o).run P w=x at h3
   cases x with
   | halt y w'=>exact h3.elim
   | ok y w'=>
    cases y <;> simp only [Oper.quietUpon] at h3
    case value u=>obtain ⟨rfl,rfl⟩:=h3; exact ih _ _ hw hh
    case skip=>obtain ⟨rfl,rfl⟩:=h3; exact ih _ _ hw hh
    case enter f args=>
     obtain ⟨rfl,h3⟩:=h3
     exact h3.mono fun e AZ ⟨he,JC⟩=>⟨v,he,ih _ _ JC hh⟩
  ·exact .inr ⟨Cb,ih _ _ hw hh⟩
theorem JD {n id:Nat} {draw:Bool} {ops:LO} {Q:Exit→(Nat→Value)→World→Prop} {r:NV} {w:World} (hd:cg n ops=true) (hm:draw=true→P.follows .mixedOrders=true∧Region.lexB .any ops.toArray=true)
  (h:QL P (ao [] w) ops ops r fun r'=>∀ w',ao [] w w'→Q .normal r' w'):W P n (.region id ops.toArray draw) Q r w:=by
 cases draw with
 | true=>exact M5 (hm rfl).1 hd (fun _=>(hm rfl).2) (ao.refl _ _) (ao.drew _ _) h
 | false=>exact tI hd (Sr _ _ _ (ao.refl _ _) h)
theorem Calls.Ss {f:FuncId} {fn:Func} {c:Code} {xs:List Operand} {aw:Array TypeId} {r:NV} {w:World} {d:Option Nat} {ty:TI} {pos:String} {ae:Array Edge} {g:Option (Nat×Bool)} {K:Value→World→Prop}
  (hf : P.funcs[f]? = some fn) (hb : fn.body = some c) (hn : (fn.name == "runtime.NumGoroutine") = false)
  (h:Calls P f (xs.map (ev r)).toArray w fun e w'=>∃ v,e = .returned v∧K v w'):dq P ⟨d,.call ⟨.value (.func f),xs.toArray,aw⟩,ty,pos,ae,g⟩ r w K:=by
 unfold dq
 rw [Cc hf hb hn]
 exact h
theorem Cd {Z:Nat→Prop} {w:World}:∀ {Δ:QE},(∀ e∈Δ,fact Z w [] e)→HL Z w Δ []:=by
 intro Δ
 induction Δ with
 | nil=>intro _; exact .nil
 | cons e Δ ih=>intro h; exact .fact (h e (by simp)) (ih fun e he=>h e (by simp [he]))
theorem Ce {Z Z2:Nat→Prop} {w:World}:∀ {Δ:QE} {F:LN},sd Δ=true→HL Z2 w Δ F→HL Z w Δ F:=by
 intro Δ
 induction Δ with
 | nil=>intro F _ h; cases h; exact .nil
 | cons e Δ ih=>
  intro F ho h
  cases e with
  | own T v x=>cases h with
   | own h k=>exact .own h (ih ho k)
   | fact h k=>exact h.elim
  | row b cs e=>cases h with
   | own h k=>exact .own h (ih ho k)
   | fact h k=>exact h.elim
  | _=>cases ho
theorem A3 {f:FuncId} {ow:Bool} {vs:LV} {Δ Γ1:QE} {β V:Type} {mo:Option β} {rt:β→V→List Value} {ps:β→V→List ay} {w:World} {Z Z':Nat→Prop} {Fd F1:LN} {y:β} (hc:Od P f ow vs Δ β V mo rt ps) (hl:HL Z' w Δ Fd) (a2:SA Z w Γ1 [] F1) (o5:Gd B Z (Fd++F1) w)
  (hz:∀ b,Z b→Z' b) (LS:∀ b,Z' b→Z b∨b∈F1) (hm:(∀ v,sd (ps y v)=true)∨∀ b,Z' b→Z b) (hy:mo=some y) :
  Calls P f vs.toArray w fun e w'=>∃ v,e = .returned (qX (rt y v))∧St B ((ps y v).reverse++Γ1) w':=by
 have dv:=List.nodup_append.1 o5.nd
 refine (hc.2 w Z' Fd hl dv.1 (fun b hb ZS=>(LS b ZS).elim (o5.apart b (List.mem_append_left _ hb)) (fun h=>dv.2.2 b hb b h rfl)) (fun b hb=>(LS b hb).elim (o5.qc b) (a2.lt b)) y hy).mono ?_
 rintro e w' ⟨v,he,Z2,F2,sS,pH⟩
 refine ⟨v,he,?_⟩
 have hC:ao Fd w w':=pH.iv
 have ZT:SA Z w' Γ1 [] F1:=a2.cw hC (fun b hb=>o5.apart b (List.mem_append_left _ hb)) (fun b _=>List.not_mem_nil) (fun b hb hm=>dv.2.2 b hb b hm rfl)
 have fin:∀ Z3:Nat→Prop,HL Z3 w' (ps y v) F2→(∀ b,Z b→Z3 b)→(∀ b,Z3 b→Z b∨b∈Fd∨w.heap.size≤b)→(∀ b∈F2,¬ Z3 b)→(∀ b,Z3 b→b < w'.heap.size)→St B ((ps y v).reverse++Γ1) w':=by
  intro Z3 Hp TM TN ZU ZV
  obtain ⟨F3,b1,b2⟩:=Hp.build (ZT.mono TM fun _ h=>h)
  refine St.of b2 (F':=F2++F1) ?_ b1
  refine ⟨List.nodup_append.2 ⟨pH.nd,dv.2.1,?_⟩,?_,ZV,?_,fun b hb=>TM b (o5.tC b hb),?_,?_⟩
  ·rintro b hb c AV rfl
   rcases pH.low b hb with h | h
   ·exact dv.2.2 b h b AV rfl
   ·exact absurd (a2.lt b AV) (Nat.not_lt.2 h)
  ·intro b hb hz
   rcases List.mem_append.1 hb with hb | hb
   ·exact ZU b hb hz
   ·rcases TN b hz with h | h | h
    ·exact o5.apart b (List.mem_append_right _ hb) h
    ·exact dv.2.2 b h b hb rfl
    ·exact absurd (a2.lt b hb) (Nat.not_lt.2 h)
  ·intro b hb
   rcases List.mem_append.1 hb with hb | hb
   ·rcases pH.low b hb with h | h
    ·exact o5.low b (List.mem_append_left _ h)
    ·exact .inr (Nat.le_trans o5.iv.size h)
   ·exact o5.low b (List.mem_append_right _ hb)
  ·intro b hb
   rcases TN b hb with h | h | h
   ·exact o5.tD b h
   ·exact .inr (o5.low b (List.mem_append_left _ h))
   ·exact .inr (.inr (Nat.le_trans o5.iv.size h))
  ·exact o5.iv.then hC fun i hi=>o5.low i (List.mem_append_left _ hi)
 rcases hm with hm | hm
 ·exact fin Z (Ce (hm v) sS) (fun _ h=>h) (fun _ h=>.inl h) (fun b hb h=>pH.apart b hb (pH.tC b (hz b h))) (fun b hb=>Nat.lt_of_lt_of_le (o5.qc b hb) hC.size)
 ·exact fin Z2 sS (fun b h=>pH.tC b (hz b h)) (fun b h=>(pH.tD b h).imp (hm b) id) pH.apart pH.qc
theorem Hq {M α:Type} {rk:RK R M} {oo:M} {E E':ag α} {t:TI} {x y:OO} {i:TypeInfo} {Γ Γ1 Γx:QE} {w:World} {r:NV} {v v' u:Value} {j j':Int} {e e':TI} {zs:List α} {xs:List (List α)} {z:α} {o1 o2:Bool} {all l:LO} {ty:TI} {pos:String} {ae:Array Edge} {g:Option (Nat×Bool)}
  (hE:∀ {h cs x f},E.rep h cs x f→f=[]) (h1:E.size=1) (hi:P.info? t=some i) (hs:i.size=1) (hS:St B Γ w) (hl:Loc Γ v (.row v' j')) (h0:Rg v j Γ) (hf:qw Γ v o1 o2 E' zs uA Γx) (hr:RT E E') (h2:dh Γ (.own (aI e (aI e' E)) v' xs) Γ1)
  (hx:ev r x = .pointer (some (ep v 1 j))) (hy:ev r y=u) (hu:E.rep w.heap [u] z [])
  (k:∀ w',St B (.own (aI e (aI e' E)) v' (xs.set j'.toNat (zs.set j.toNat z)) :: Γ1) w'→WL P all l (dw r none undef) w' (x6 P cx B rk oo)):pQ P cx B false ⟨none,.store t x y,ty,pos,ae,g⟩ all l rk oo r w:=by
 obtain ⟨Z,F,hS,hg⟩:=hS
 obtain ⟨j0,j1,hc⟩:=Loc.row hl rfl hS
 obtain ⟨r0,r1⟩:=h0.sound hS
 obtain ⟨cy,_,⟨⟨gg,ZW,_⟩,_⟩,_⟩:=hf.sound hS
 obtain ⟨f,F1,hp,hO,jz⟩:=h2.sound hS
 have je:=hg.perm hp
 have dv:=List.nodup_append.1 je.nd
 have hlen:tA v'=xs.length:=vX hO
 rw [hlen] at j1
 obtain ⟨k0,g0,a1,a2,a3⟩:=EC rfl hO (List.getElem?_eq_getElem j1) hc
 have TO:RT (aI e' E) (bE E'):=.own hr
 have hz:xs[j'.toNat]=zs:=TO.tB (TO.le.le a1) ZW
 rw [hz] at a1
 have sS:tA v=zs.length:=vX a1
 rw [sS] at r1
 have EX:=List.nodup_append.1 (a2.nodup_iff.2 dv.1)
 refine fk (WL.Ao (E:=E) k0 w.heap.size hE h1 hi hs ⟨a1,EX.1,fun b hb=>.inl hb⟩ (List.getElem?_eq_getElem r1) hx hy hu fun w' hC pJ=>k w' ?_)
 have ZX:∀ b∈k0,b∈f:=fun b hb=>a2.mem_iff.1 (List.mem_append_left _ hb)
 obtain ⟨f',b1,b2⟩:=a3.2 w'.heap (fun b hb=>hC.block b (a3.1 b hb) fun hm=>EX.2.2 b hm b hb rfl) _ k0 pJ.1
 have TP:f'.Perm f:=b1.trans (List.perm_append_comm.trans a2)
 exact St.put jz je (hC.mono ZX) b2 (TP.nodup_iff.2 dv.1) fun b hb=>.inl (TP.mem_iff.1 hb)
theorem D.sound {J:Jd R} (h:D P cx J):ni P cx J:=by
 induction h with
 | pf _ ih=>simpa [ni] using ih
 | pe _ ih=>simpa [ni] using ih
 | pz _ ih=>simpa [ni] using ih
 | @Zo A B' y k _ _ Ow Cf=>
  obtain ⟨a,z⟩:=y
  cases a with
  | none=>exact Ow z
  | some a=>exact Cf a z
 | @Zp A y k _ _ Ow Cf=>
  cases y with
  | none=>exact Ow
  | some a=>exact Cf a
 | Zq _ ih=>exact ih
 | Y9 _ ih=>exact ih
 | Zr _ ih=>exact ih
 | Zs _ ih=>exact ih
 | Sn=>exact fun B o ho=>nomatch ho
 | seq _ ih=>exact fun B o ho r w ha hs=>Su (ih B o ho r w ha hs)
 | skip _ ih=>exact fun B o ho r w ha hs=>Ox (ih B o ho r w ha hs)
 | exit _ ih=>exact fun B o ho r w ha hs=>Oy (ih B o ho r w ha hs)
 | cond hb _ ih=>exact fun B o ho r w ha hs=>Hr (ha _ _ hb) (ih B o ho r w ha hs).1 (ih B o ho r w ha hs).2
 | YZ _ ih=>exact fun B o ho r w ha hs=>⟨fun _=>ih B o ho r w ha hs,fun h=>nomatch h⟩
 | Y0 _ _ Cf Oz=>exact fun B o ho r w ha hs=>⟨fun h=>Cf B o (by rw [h] at ho; exact ho) r w ha hs,fun h=>Oz B o (by rw [h] at ho; exact ho) r w ha hs⟩
 | ret hr _ h h1=>
  intro B o ho r w ha hs
  cases ho
  refine Sw (uB ?_)
  obtain ⟨Z,F,hS,hg⟩:=hs
  refine ⟨_,h.sound ha hr hS,?_⟩
  exact ⟨_,rfl,St.leave ⟨Z,F,hS,hg⟩ h1⟩
 | block _ ih=>exact fun B o ho r w ha hs=>ih B o ho r w ha hs
 | Zt _ ih=>exact fun B o ho r w ha hs=>EY (ih B o ho r w ha hs)
 | Zu h=>rw [pG] at h; exact h
 | draw _ ih=>exact fun B o ho r w ha hs=>ih B o ho r w ha hs
 | Zv h=>rw [pG] at h; exact h
 | inj h=>rw [pG] at h; exact h
 | region hd _ ih=>exact fun B o ho r w ha hs=>ih hd (fun h=>nomatch h) B o ho r w ha hs _
 | YY _ ih=>exact fun hd _ B o ho r w ha hs id=>tI hd (ih B o ho r w ha hs)
 | Zw _ ih=>exact fun hd hm B o ho r w ha hs id=>JD hd hm (ih B o ho r w ha hs)
 | Zx _ ih=>exact fun hd _=>ih hd
 | TL _ ih=>exact fun hd B o ho r w ha hs id=>tI hd (ih B o ho r w ha hs)
 | Zy _ ih=>exact fun hd B o ho r w ha hs id=>tI hd (ih B o ho r w ha hs)
 | Zz ht _ _ _ ih zl=>
  intro hd B o ho r w ha hs id
  obtain ⟨g,hg,ho⟩:=bind_some ho
  refine JD hd (fun h=>nomatch h) (QL.meet _ (ih B g hg r w ha hs) ?_)
  intro r' jd w' hC
  obtain ⟨h1,h2⟩:=jd w' hC
  refine zl g B o ho r' w' ?_ (hs.iq hC)
  intro s u hl
  unfold look at hl
  cases hb:Nat.beq s _ with
  | true=>rw [hb] at hl; cases hl; rw [Nat.eq_of_beq_eq_true hb]; exact h1
  | false=>rw [hb] at hl; exact h2 s u hl
 | @ZA S q _ K Γ fr m _ ih=>
  intro B o ho r w ha hs
  cases q with
  | false=>exact ih B o ho r w ha hs
  | true=>exact fun w' hC=>ih B o ho r w' ha (hs.iq hC)
 | Zh _ ih=>exact ih
 | Zi ht _ _ _ ih zl=>
  intro B o ho r w ha hs
  obtain ⟨g,hg,ho⟩:=bind_some ho
  refine QL.meet _ (ih B g hg r w ha hs) ?_
  intro r' jd w' hC
  obtain ⟨h1,h2⟩:=jd w' hC
  refine zl g B o ho r' w' ?_ (hs.iq hC)
  intro s u hl
  unfold look at hl
  cases hb:Nat.beq s _ with
  | true=>rw [hb] at hl; cases hl; rw [Nat.eq_of_beq_eq_true hb]; exact h1
  | false=>rw [hb] at hl; exact h2 s u hl
 | ZB ht _ _ _ ih zl=>
  intro hd hm B o ho r w ha hs id
  obtain ⟨g,hg,ho⟩:=bind_some ho
  refine JD hd hm (QL.meet _ (ih B g hg r w ha hs) ?_)
  intro r' jd w' hC
  obtain ⟨h1,h2⟩:=jd w' hC
  refine zl g B o ho r' w' ?_ (hs.iq hC)
  intro s u hl
  unfold look at hl
  cases hb:Nat.beq s _ with
  | true=>rw [hb] at hl; cases hl; rw [Nat.eq_of_beq_eq_true hb]; exact h1
  | false=>rw [hb] at hl; exact h2 s u hl
 | UP hr _ h h1=>
  intro B o ho r w ha hs
  cases ho
  obtain ⟨Z,F,hS,hg⟩:=hs
  exact ⟨_,h.sound ha hr hS,⟨_,rfl,St.leave ⟨Z,F,hS,hg⟩ h1⟩⟩
 | UL _ ih=>exact fun B o ho r w ha hs=>ih B o ho r w ha hs
 | UM _ ih=>exact fun B o ho r w ha hs=>ih B o ho r w ha hs
 | @Sq S V k Δ φ Γ2 Γ Γ1 Γ3 f2 fr s v _ ha hf h0 hw h1 h2=>
  intro B o ho r w vq hs
  cases ho
  exact ⟨v,rS (ha.all vq) (hf.sound vq),hs.again h0 hw h1 h2⟩
 | @Sp S V k Δ φ Γ2 Γ Γ1 Γ3 f2 fr s v _ ha hf h0 hw h1 h2=>
  intro B o ho r w vq hs
  cases ho
  refine ⟨rfl,?_⟩
  show (bif Nat.beq k k then _ else False)
  rw [show Nat.beq k k=true from Nat.beq_refl k]
  exact ⟨v,rS (ha.all vq) (hf.sound vq),hs.again h0 hw h1 h2⟩
 | UN _ ih=>exact fun B o ho r w ha hs=>ih B o ho r w ha hs
 | @UO S fi kb k j Γ fr m _ ih=>
  intro B o ho r w ha hs
  have:=ih B o ho r w ha hs
  show (bif Nat.beq k j then _ else _)
  cases hb:Nat.beq k j with
  | true=>rw [hb] at this; exact this
  | false=>rw [hb] at this; exact this
 | Y1 _ ih=>exact fun B o ho r w ha hs=>ih B o ho r w ha hs
 | @UK S q _ K Γ fr m _ ih=>
  intro B o ho r w ha hs
  cases q with
  | false=>exact ih B o ho r w ha hs
  | true=>exact fun w' hC=>ih B o ho r w' ha (hs.iq hC)
 | @Y8 q _ t f0 fr Γ b h k=>
  intro B o ho r w ha hs
  cases ho
  cases q with
  | false=>exact ⟨ha _ _ h,k.sound ha⟩
  | true=>exact fun w' hC=>⟨ha _ _ h,k.sound ha⟩
 | plain _ ih=>exact fun B o ho r w ha hs=>yM (qx rfl) (ih B o ho r w ha hs _ _ _)
 | Y2 hj hv _ ih=>exact fun B o ho r w ha hs=>ih hj hv B o ho r w ha hs _ _
 | Y3 _ ih=>exact fun hj hv B o ho r w ha hs pos ae=>yM ((uC rfl hj (ha _ _ hv)).trans rfl) (ih B o ho r w ha hs _ _ _)
 | Y4 _ ih=>exact fun hj hv B o ho r w ha hs pos ae=>yM ((uC rfl hj (ha _ _ hv)).trans rfl) (ih B o ho r w ha hs _ _ _)
 | Y5 _ ih=>exact fun hj hv B o ho r w ha hs pos ae=>B7 ((uC rfl hj (ha _ _ hv)).trans rfl) (ih B o ho _ w (bc ha) hs)
 | Y6 _ ih=>exact fun hj hv B o ho r w ha hs pos ae=>B7 ((uC rfl hj (ha _ _ hv)).trans rfl) (ih B o ho _ w (bc ha) hs)
 | @Y7 M q b tt d op ty j t all l rk Γ fr m1 m2 _ _ Cf Oz=>
  intro hj hv B o ho r w ha hs pos ae
  have key:∀ c:Bool,b=c→cf r ((t,.bool c) :: fr)∧look ((t,Value.bool c) :: fr) t=some (.bool c):=by
   intro c hc
   refine ⟨?_,by unfold look; rw [show Nat.beq t t=true from Nat.beq_refl t]; rfl⟩
   intro s u hl
   unfold look at hl
   cases hb:Nat.beq s t with
   | true=>rw [hb] at hl; cases hl; rw [Nat.eq_of_beq_eq_true hb,← hc]; exact ha _ _ hv
   | false=>rw [hb] at hl; exact ha s u hl
  cases b with
  | true=>exact Cf hj (key true rfl).2 B o ho r w (key true rfl).1 hs pos ae
  | false=>exact Oz hj (key false rfl).2 B o ho r w (key false rfl).1 hs pos ae
 | mv hx _ ih=>exact fun B o ho r w ha hs pos ae g=>dj (Mv _ (bL ha hx)) (ih B o ho _ w (bc ha) hs)
 | as hx _ ih=>exact fun B o ho r w ha hs pos ae g=>dj (Av _ (bL ha hx)) (ih B o ho _ w (bc ha) hs)
 | add hx hy _ ih=>exact fun B o ho r w ha hs pos ae g=>dj (Ba (bL ha hx) (bL ha hy)) (ih B o ho _ w (bc ha) hs)
 | sub hx hy _ ih=>exact fun B o ho r w ha hs pos ae g=>dj (Go.Li.Bs (bL ha hx) (bL ha hy)) (ih B o ho _ w (bc ha) hs)
 | lss hx hy _ ih=>exact fun B o ho r w ha hs pos ae g=>dj (Bl (bL ha hx) (bL ha hy)) (ih B o ho _ w (bc ha) hs)
 | leq hx hy _ ih=>exact fun B o ho r w ha hs pos ae g=>dj (Bk (bL ha hx) (bL ha hy)) (ih B o ho _ w (bc ha) hs)
 | gtr hx hy _ ih=>exact fun B o ho r w ha hs pos ae g=>dj (Bg (bL ha hx) (bL ha hy)) (ih B o ho _ w (bc ha) hs)
 | geq hx hy _ ih=>exact fun B o ho r w ha hs pos ae g=>dj (Bh (bL ha hx) (bL ha hy)) (ih B o ho _ w (bc ha) hs)
 | eql hx hy hb _ ih=>
  intro B o ho r w ha hs pos ae g
  refine dj ?_ (ih B o ho _ w (bc ha) hs)
  cases hb with
  | int=>exact Be (bL ha hx) (bL ha hy)
  | @bool a b h=>exact fun _ _=>M6 (bL ha hx) (bL ha hy) h.h
  | @Jx a h=>exact US h.h (bL ha hx) (bL ha hy)
  | @Jy h=>exact UT h.h (bL ha hx) (bL ha hy)
  | @s2 k0 k1 a b c e h=>
   obtain ⟨f0,f1,h1,h2,h3,h4,h5,h6,h7,h8,h9⟩:=h.h
   exact fun _ _=>JE h1 h2 h3 h4 h5 h6 h7 h8 h9 (bL ha hx) (bL ha hy)
 | neq hx hy hb _ ih=>
  intro B o ho r w ha hs pos ae g
  refine dj ?_ (ih B o ho _ w (bc ha) hs)
  cases hb with
  | int=>exact Bn (bL ha hx) (bL ha hy)
  | @bool a b h=>exact fun _ _=>JF (bL ha hx) (bL ha hy) h.h
  | @Jx a h=>exact UU h.h (bL ha hx) (bL ha hy)
  | @Jy h=>exact UW h.h (bL ha hx) (bL ha hy)
  | @s2 k0 k1 a b c e h=>
   obtain ⟨f0,f1,h1,h2,h3,h4,h5,h6,h7,h8,h9⟩:=h.h
   exact fun _ _=>JG h1 h2 h3 h4 h5 h6 h7 h8 h9 (bL ha hx) (bL ha hy)
 | not hx _ ih=>exact fun B o ho r w ha hs pos ae g=>dj (Nt (bL ha hx)) (ih B o ho _ w (bc ha) hs)
 | Jz hx _ ih=>exact fun B o ho r w ha hs pos ae g=>dj (Nk (bL ha hx)) (ih B o ho _ w (bc ha) hs)
 | @pick M q d c x y ty b v all l rk Γ fr m hc hx _ ih=>
  intro B o ho r w ha hs pos ae g
  refine dj ?_ (ih B o ho _ w (bc ha) hs)
  intro w' _
  rw [EZ (bL ha hc)]
  cases b
  ·rw [← bL ha hx]; rfl
  ·rw [← bL ha hx]; rfl
 | ext hx hv _ ih=>exact fun B o ho r w ha hs pos ae g=>dj (Ex _ (bL ha hx) (by simpa using hv)) (ih B o ho _ w (bc ha) hs)
 | @Oj M q d s k off x ty a a' all l rk Γ fr m hf hx hq _ ih=>
  intro B o ho r w ha hs pos ae g
  refine dj ?_ (ih B o ho _ w (bc ha) hs)
  rw [hq.eq]
  exact Fp hf.h (bL ha hx)
 | @len M q d n x v t ty all l rk Γ fr m ht hx hr _ ih=>
  intro B o ho r w ha hs pos ae g
  obtain ⟨Z,F,hS,_⟩:=id hs
  obtain ⟨b,c,rfl⟩:=hr.sound hS
  obtain ⟨e,i,h1,_,_⟩:=ht.h
  exact dj (fun _ _=>zm h1 (bL ha hx)) (ih B o ho _ w (bc ha) hs)
 | @idx M α q d x y v k j t ty o1 o2 E xs Γ' all l rk Γ fr f ht hx hy hr hE _ ih=>
  intro B o ho r w ha hs pos ae g
  obtain ⟨z,hz,ho⟩:=bind_some ho
  replace hz:=yO hz
  obtain ⟨Z,F,hS,hG⟩:=hs
  obtain ⟨cy,_,⟨⟨n,hn,_⟩,Cg⟩,yP⟩:=(hr z).sound hS
  exact dj (Ix ht.h hn hz (bL ha hx) (bL ha hy) hE) (ih z B o ho _ w (bc ha) ⟨Z,F,yP (Cg hE j z hz.1 hz.2),hG⟩)
 | @ZM M q d x k k2 n s t ty all l rk Γ fr m ht hx _ ih=>
  intro B o ho r w ha hs pos ae g
  exact dj (fun _ _=>M8 ht.h.1 ht.h.2 (bL ha hx)) (ih B o ho _ w (bc ha) hs)
 | @ZN M q o1 o2 d x v xs s t ty all l rk Γ Γx fr m ht hx hr _ ih=>
  intro B o ho r w ha hs pos ae g
  obtain ⟨e,h1,h2,h3⟩:=ht.h
  obtain ⟨Z,F,hS,_⟩:=id hs
  obtain ⟨cy,_,⟨⟨f0,LU,_⟩,_⟩,_⟩:=hr.sound hS
  exact dj (fun w' hC=>JH h1 h2 h3 (by rw [bL ha hx]; exact ag.cw _ LU hC fun _ _=>List.not_mem_nil)) (ih B o ho _ w (bc ha) hs)
 | @ZO M κ υ d t ty bq ek eu all l rk Γ fr m ht _ ih=>
  intro B o ho r w ha hs pos ae g
  exact fk (WL.val rfl F4 (ih _ B o ho _ _ (bc ha) (hs.new (f':=[w.heap.size]) (ao.alloc _ _ _) (fun _=>⟨w.heap.size,#[],0,rfl,rfl,(MapKept.heap_alloc w _).1,rfl⟩) (by simp) (tn (Nat.le_refl _)))))
 | @ZP M κ υ x y z v t ty bq ek eu xs a b all l rk Γ Γ1 fr m ht hx hy hz h1 _ ih=>
  intro B o ho r w ha hs pos ae g
  obtain ⟨kt,vt,kd,q1,q2,q3⟩:=ht.h
  obtain ⟨Z,F,hS,hg⟩:=hs
  obtain ⟨n,F1,hp,hO,jz⟩:=h1.sound hS
  obtain ⟨i,es,ck,rfl,e1,e2⟩:=Hs (P:=P) (d:=none) (ty:=ty) (pos:=pos) (ae:=ae) (g:=none) (ek:=ek) (sh:=eu) (a:=a) (b:=b) (x:=x) (k:=y) (v:=z) (r:=r) q3 q1 q2 (by rw [bL ha hx]; exact hO) (bL ha hy) (bL ha hz)
  rw [bL ha hx] at e2
  exact fk (WL.skip rfl e1 (ih B o ho _ _ ha (St.put (f:=[i]) (f':=[i]) jz (hg.perm hp) (ao.setObj _ _ _) e2 (by simp) fun b hb=>.inl hb)))
 | @load M q d x a t ty lk all l rk Γ fr m ht hx _ ih=>exact fun B o ho r w ha hs pos ae g=>ih ht.h hx B o ho r w ha hs _ _ _ _
 | @Ol M α q d x v j ty o E z Γx all l rk Γ fr m h _ ih=>
  intro ht hx B o ho r w ha hs t pos ae g
  obtain ⟨Z,F,hS,_⟩:=id hs
  obtain ⟨_,⟨u,k,h1,h2,_⟩,_⟩:=h.sound hS
  exact ih ht hx B o ho r w ha hs ⟨u,k,h1,h2⟩ _ _ _ _
 | Om h _ ih=>
  intro ht hx B o ho r w ha hs t pos ae g
  obtain ⟨Z,F,hS,_⟩:=id hs
  exact dj (Ld ht (h.sound hS) (bL ha hx)) (ih B o ho _ w (bc ha) hs)
 | Oo _ ih=>
  intro ht hx B o ho r w ha hs hu t pos ae g
  obtain ⟨u,k,h1,h2,_⟩:=hu
  obtain rfl:u=_:=by simpa using h2
  exact dj (Ld ht h1 (bL ha hx)) (ih B o ho _ w (bc ha) hs)
 | @Oq M α q o' d x v j E z ty all l rk Γ Γ1 Γ' fr m h h2 _ ih=>
  intro ht hx B o ho r w ha hs hu t pos ae g
  obtain ⟨u,k,h1,LW⟩:=hu
  obtain ⟨Z,F,hS,hG⟩:=hs
  obtain ⟨cy,⟨u',k',h3,h4,h5⟩,yP⟩:=(h u).sound hS
  rw [h1] at h3
  cases h3
  exact dj (Ld ht h1 (bL ha hx)) (ih u B o ho _ w (bc ha) ⟨Z,F,(h2 u).sound h1 (yP ⟨k',h4,h5⟩),hG⟩)
 | @YX M α V q d x a S cl en z ty all l rk Γ Γx fr m wT h _ ih=>
  intro ht hx B o ho r w ha hs hu t pos ae g
  obtain ⟨u,k,h1,_⟩:=hu
  obtain ⟨Z,F,hS,hG⟩:=hs
  obtain ⟨cy,⟨u',k',h3,⟨p,ic,g',e1,bj,qf,ew,rfl⟩,h5⟩,_⟩:=h.sound hS
  rw [h1] at h3
  cases h3
  obtain rfl:u = .pointer (some p):=by simpa using e1
  obtain ⟨v,rfl,hf⟩:=wT.op ew
  have hz:∀ b∈p.block :: g',Z b:=fun b hb=>h5 b hb
  have OA:fact Z w [] (.aw p (cl z v)):=⟨fun j u hj=>qf j u hj,fun _=>hz _ (by simp)⟩
  have jh:HL Z w (.aw p (cl z v) :: en z v) []:=.fact OA (Cd (hf Z fun b hb=>hz b (by simp [hb])))
  obtain ⟨F',hp,my⟩:=jh.build hS
  exact dj (Ld ht h1 (bL ha hx)) (ih p v B o ho _ w (bc ha) ⟨Z,F',my,hG.perm (by simpa using hp)⟩)
 | Hn h _ ih=>
  intro ht hx B o ho r w ha hs t pos ae g
  obtain ⟨Z,F,hS,_⟩:=id hs
  obtain ⟨h1,h2⟩:=h.sound hS
  exact dj (Lg ht h1 (bL ha hx) h2) (ih B o ho _ w (bc ha) hs)
 | @LR M q d t ty ps zc cs pl all l rk Γ fr m hb hf _ ih=>
  intro B o ho r w ha hs pos ae g
  obtain ⟨Z,F,hS,_⟩:=id hs
  obtain ⟨fs,i,z,h1,h2,h3,h4,h5⟩:=hb.h
  refine dj (Bu ?_) (ih B o ho _ w (bc ha) hs)
  have:=hf.fill ha hS
  unfold Program.built
  rw [h3,h1]
  simp only [h4,h2]
  rw [show z.cells=zc.toArray by rw [← h5]]
  exact this
 | @box M d x t ty v cs all l rk Γ fr m hx hc _ ih=>
  intro B o ho r w ha hs pos ae g
  obtain ⟨Z,F,hS,_⟩:=id hs
  refine fk (WL.box fun b w' hC bo hb=>ih b B o ho _ w' (bc ha) (hs.new (f':=[b]) hC (fun _=>⟨rfl,?_⟩) (by simp) (tn hb)))
  rw [bL ha hx,hc.eq hS] at bo
  exact bo
 | @alloc M d t ty cs all l rk Γ fr m hz _ ih=>
  intro B o ho r w ha hs pos ae g
  obtain ⟨i,z,h1,h2,h3⟩:=hz.h
  refine fk (WL.alloc h1 h2 fun b w' hC bo hb=>ih b B o ho _ w' (bc ha) (hs.new (f':=[b]) hC (fun _=>⟨rfl,?_⟩) (by simp) (tn hb)))
  rw [h3] at bo
  exact bo
 | @Am M α d t e ty E z0 bt all l rk Γ fr m hz _ ih=>
  intro B o ho r w ha hs pos ae g
  obtain ⟨h1,_,i,z,h2,_⟩:=hz.h
  exact fk (WL.Am E h1 h2 fun v w' f hC hO=>ih v B o ho _ w' (bc ha) (hs.new hC (fun _=>hO.1) hO.2.1 hO.fresh))
 | @UQ M d n ps us t e ty all l rk Γ fr m hz hl hn hb _ ih=>
  intro B o ho r w ha hs pos ae g
  obtain ⟨Z,F,hS,_⟩:=id hs
  exact fk (WL.val rfl (hl.op ha hS hz hn hb) (ih w.heap.size B o ho _ _ (bc ha) (hs.new (f':=[w.heap.size]) (ao.alloc _ _ _) (fun _=>⟨rfl,heap_alloc_new w _⟩) (by simp) (tn (Nat.le_refl _)))))
 | @UR M d n ps us t e ty all l rk Γ fr m hz hl hn hb _ ih=>
  intro B o ho r w ha hs pos ae g
  obtain ⟨Z,F,hS,_⟩:=id hs
  exact fk (WL.val rfl (hl.op ha hS ⟨hz.h⟩ hn hb) (ih w.heap.size B o ho _ _ (bc ha) (hs.new (f':=[w.heap.size]) (ao.alloc _ _ _) (fun _=>⟨rfl,heap_alloc_new w _⟩) (by simp) (tn (Nat.le_refl _)))))
 | @An M α d x u t e ty E z0 bt all l rk Γ fr m hz hx hu _ ih=>
  intro B o ho r w ha hs pos ae g
  obtain ⟨h1,_,i,z,h2,h3,h4,_⟩:=hz.h
  obtain ⟨Z,F,hS,_⟩:=id hs
  have he:=bL ha hx
  refine fk (WL.An h1 h2 h3 h4 (by rw [he]; exact hu.one hS) fun b w' hC bo hb=>ih b B o ho _ w' (bc ha) (hs.new (f':=[b]) hC (fun _=>⟨rfl,?_⟩) (by simp) (tn hb)))
  rw [he] at bo
  exact bo
 | @FZ M α d y a t e ty E z0 bt all l rk Γ fr f hz hy _ ih=>
  intro B o ho r w ha hs pos ae g
  obtain ⟨n,hn,OB⟩:=bind_some ho
  obtain ⟨e1,e2,e3⟩:=Ap hn
  obtain ⟨h1,hE,i,z,h2,h3,h4,h5,h6,h7⟩:=hz.h
  subst e1
  exact fk (WL.FZ E h1 h2 h3 (by rw [h4,hE]) rfl (bL ha hy) (by rw [h6]; exact e2) e3 fun v w' f hC hO=>ih n v B o OB _ w' (bc ha) (hs.new hC (fun _=>hO.1) hO.2.1 hO.fresh))
 | @make M α d x a t e ty E z0 bt all l rk Γ fr f hz hx _ ih=>
  intro B o ho r w ha hs pos ae g
  obtain ⟨n,hn,OB⟩:=bind_some ho
  obtain ⟨e1,e2,e3⟩:=Ap hn
  obtain ⟨h1,hE,i,z,h2,h3,h4,h5,h6,h7⟩:=hz.h
  subst e1
  exact fk (WL.make E h1 h2 h3 h4 hE h5 h7 (bL ha hx) (bL ha hx) (by rw [h6]; exact e2) e3 fun v w' f hC hO=>ih n v B o OB _ w' (bc ha) (hs.new hC (fun _=>hO.1) hO.2.1 hO.fresh))
 | @app M α d s x sv xv t e ty E z0 bt all l rk Γ fr m hz fg hx _ ih=>
  obtain ⟨h1,hE,i,z,h2,h3,h4,h5,h6,h7⟩:=hz.h
  exact ih ⟨h1,hE,i,z,h2,h3,h4,h5,h6⟩ fg hx
 | ZC hc _ ih=>exact fun h1 hs hx=>ih h1 hs hx
 | @ZD M d k s x sv yv o1 o2 t e ty xs ys bt all l rk Γ Γ1 Γx fr f h1 h2 _ ih=>
  intro hT fg hx B o ho r w ha hs pos ae g
  obtain ⟨u,hu,ho⟩:=bind_some ho
  obtain ⟨b1,b2⟩:=qL hu
  obtain ⟨q1,q2,i,z,q3,q4,q5,q6,q7⟩:=hT
  obtain ⟨Z,F,hS,hg⟩:=hs
  obtain ⟨n,F1,hp,hO,jz⟩:=h1.sound hS
  have je:=hg.perm hp
  have dv:=List.nodup_append.1 je.nd
  obtain ⟨cy,OC,⟨⟨kk,hk,E0⟩,_⟩,_⟩:=h2.sound jz
  have hd:pK kk n:=fun b hb hm=>(E0 b hb).elim (fun h=>by
   cases o1
   ·exact je.apart b (List.mem_append_left _ hm) h
   ·exact dv.2.2 b hm b ((OC b h).resolve_left (by simp)) rfl) (fun h=>by
   cases o2
   ·exact je.apart b (List.mem_append_left _ hm) h
   ·exact dv.2.2 b hm b ((OC b h).resolve_left (by simp)) rfl)
  refine fk (WL.x7 (E:=aJ k) n w.heap.size uG q1 q3 q4 q5 rfl q6 (bL ha fg) ⟨hO,dv.1,fun b hb=>.inl hb⟩ (bL ha hx) hk (by rw [q7]; exact b1) b2 (Nat.le_refl _) fun v w' f' hC pJ ea=>ih v B o ho _ w' (bc ha) (St.put jz je hC pJ.1 pJ.2.1 fun b hb=>(ea b hb).elim .inl fun h=>h.elim (fun h=>absurd h List.not_mem_nil) .inr))
 | @ZE M d b k y s x sv t e et ty xs bt all l rk Γ Γ1 Γ2 fr f h0 h1 _ ih=>
  intro hT fg hx B o ho r w ha hs pos ae g
  obtain ⟨u,hu,ho⟩:=bind_some ho
  obtain ⟨b1,b2⟩:=qL hu
  obtain ⟨q1,q2,i,z,q3,q4,q5,q6,q7⟩:=hT
  obtain ⟨Z,F,hS,hg⟩:=hs
  obtain ⟨n0,F0,zn,⟨rfl,bo⟩,zo⟩:=h0.sound hS
  obtain ⟨n,F1,hp,hO,jz⟩:=h1.sound zo
  have je:Gd B Z (n++F1) w:=Gd.left (F':=[b]) (hg.perm ((List.perm_append_comm.trans (hp.append_left [b])).trans zn))
  have dv:=List.nodup_append.1 je.nd
  refine fk (WL.tr (E:=aJ k) (k:=[]) n w.heap.size q1 q3 q4 q5 rfl q6 (bL ha fg) ⟨hO,dv.1,fun b hb=>.inl hb⟩ (bL ha hx) bo ⟨rfl,rfl⟩ List.nodup_nil (fun _ h=>absurd h List.not_mem_nil) (fun _ h=>absurd h List.not_mem_nil) (by rw [q7]; exact b1) b2 (Nat.le_refl _) fun v w' f' hC pJ ea=>ih v B o ho _ w' (bc ha) (St.put jz je hC pJ.1 pJ.2.1 fun b hb=>(ea b hb).elim .inl fun h=>h.elim (fun h=>absurd h List.not_mem_nil) .inr))
 | Ot hk _ ih=>exact ih
 | @ZF M α d b s x sv u y xs t e e' et ty E bt all l rk Γ Γ1 Γ2 Γ3 fr f h0 h1 h2 _ ih=>
  intro hT fg hx B o ho r w ha hs pos ae g
  obtain ⟨_,hu,ho⟩:=bind_some ho
  obtain ⟨b1,b2⟩:=qL hu
  obtain ⟨q1,q2,i,z,q3,q4,q5,q6,q7⟩:=hT
  obtain ⟨Z,F,hS,hg⟩:=hs
  obtain ⟨n0,F0,zn,⟨rfl,bo⟩,zo⟩:=h0.sound hS
  obtain ⟨k,F1,vr,hK,jz⟩:=h1.sound zo
  obtain ⟨n,F2,sR,hO,my⟩:=h2.sound jz
  have Ch:((n++k)++F2++[b]).Perm F:=by
   refine List.perm_append_comm.trans (.trans (List.Perm.append_left [b] ?_) zn)
   refine .trans ?_ vr
   refine .trans ?_ (sR.append_left k)
   rw [← List.append_assoc k n F2]
   exact List.perm_append_comm.append_right F2
  have je:Gd B Z ((n++k)++F2) w:=Gd.left (hg.perm Ch)
  have dv:=List.nodup_append.1 je.nd
  have Ci:=List.nodup_append.1 dv.1
  have OD:fact Z w [] (.rd false LP u y.length):=by
   obtain ⟨base,cap,hv,_⟩:=hK
   obtain rfl:u = .slice base y.length cap:=by simpa using hv
   exact ⟨[],⟨⟨_,_,rfl⟩,rfl⟩,fun b hb=>absurd hb List.not_mem_nil⟩
  refine fk (WL.tr (E:=aI e' E) (k:=k) (n++k) w.heap.size q1 q3 q4 q5 q2 q6 (bL ha fg) ⟨hO,Ci.1,fun b hb=>.inl (List.mem_append_left _ hb)⟩ (bL ha hx) bo hK Ci.2.1 (fun _ h=>.inl (List.mem_append_right _ h)) (fun b hb hm=>Ci.2.2 b hm b hb rfl) (by rw [q7]; exact b1) b2 (Nat.le_refl _) fun v w' f' hC pJ ea=>ih v B o ho _ w' (bc ha) (St.put (my.fact (e:=.rd false LP u y.length) OD) je (hC.mono fun b hb=>List.mem_append_left _ hb) pJ.1 pJ.2.1 fun b hb=>(ea b hb).elim (fun h=>.inl (List.mem_append_left _ h)) fun h=>h.elim (fun h=>.inl (List.mem_append_right _ h)) .inr))
 | @Ou M x y a u t ty n all l rk Γ fr m ht hx hy _ ih=>exact ih ht.h hx hy
 | @ZG M x y b j n us cs ds t e ty all l rk Γ Γ1 fr m h0 h1 h2 h3 _ ih=>
  intro hT hx hy B o ho r w ha hs pos ae g
  obtain ⟨i,hi,qe⟩:=hT
  obtain ⟨Z,F,hS,hg⟩:=hs
  obtain ⟨n0,F0,zn,⟨rfl,bo⟩,zo⟩:=h0.sound hS
  obtain ⟨e1,e2⟩:=h1.eq
  refine fk (WL.JI hi (by rw [h3,qe]) bo e1 (bL ha hx) (bL ha hy) (h2.one hS) fun w' hC sZ=>ih B o ho _ w' ha (St.put (f:=[b]) (f':=[b]) zo (hg.perm zn) hC ⟨rfl,by rw [e2]; exact sZ⟩ (by simp) fun b hb=>.inl hb))
 | @ZH M x y b j u cs ds t e ty all l rk Γ Γ1 fr m h0 h1 h2 _ ih=>
  intro hT hx hy B o ho r w ha hs pos ae g
  obtain ⟨i,hi,qe⟩:=hT
  obtain ⟨Z,F,hS,hg⟩:=hs
  obtain ⟨n0,F0,zn,⟨rfl,bo⟩,zo⟩:=h0.sound hS
  obtain ⟨e1,e2⟩:=h1.eq
  have e3:cs.set j u=ds:=by rw [e2,List.set_eq_take_append_cons_drop,if_pos (by simp at e1; omega)]; simp
  refine fk (WL.JJ hi qe bo (by simp at e1; omega) (bL ha hx) (bL ha hy) (h2.one hS) fun w' hC sZ=>ih B o ho _ w' ha (St.put (f:=[b]) (f':=[b]) zo (hg.perm zn) hC ⟨rfl,by rw [← e3]; exact sZ⟩ (by simp) fun b hb=>.inl hb))
 | ZI hl _ ih=>exact fun hT hx hy=>ih hT hx hy hl
 | @ZJ M x y v j z k xs t e ty all l rk Γ Γ1 fr m h0 h1 _ ih=>
  intro hT hx hy _ B o ho r w ha hs pos ae g
  obtain ⟨i,hi,qe⟩:=hT
  obtain ⟨Z,F,hS,hg⟩:=hs
  obtain ⟨j0,j1⟩:=h0.sound hS
  obtain ⟨n,F1,hp,hO,jz⟩:=h1.sound hS
  have je:=hg.perm hp
  have dv:=List.nodup_append.1 je.nd
  rw [vX hO] at j1
  exact fk (WL.Ao (E:=aJ k) n w.heap.size uG rfl hi qe ⟨hO,dv.1,fun b hb=>.inl hb⟩ (List.getElem?_eq_getElem j1) (bL ha hx) (bL ha hy) ⟨rfl,rfl⟩ fun w' hC pJ=>ih B o ho _ w' ha (St.put jz je hC pJ.1 pJ.2.1 fun b hb=>.inl hb))
 | @ZL M x y v v' j j' z k zs xs t e e' ty o1 o2 all l rk Γ Γ1 Γx fr m h0 h1 h2 _ ih=>
  intro hT hx hy hl B o ho r w ha hs pos ae g
  obtain ⟨i,hi,qe⟩:=hT
  exact Hq (E:=aJ k) uG rfl hi qe hs hl h0 h1 .i h2 (bL ha hx) (bL ha hy) ⟨rfl,rfl⟩ fun w' h=>ih B o ho _ w' ha h
 | @ZK M α x y v u j z xs E t e e' ty all l rk Γ Γ1 Γ2 fr m h0 h1 h2 _ ih=>
  intro hT hx hy _ B o ho r w ha hs pos ae g
  obtain ⟨i,hi,qe⟩:=hT
  obtain ⟨Z,F,hS,hg⟩:=hs
  obtain ⟨j0,j1⟩:=h0.sound hS
  obtain ⟨k,F1,vr,hK,jz⟩:=h1.sound hS
  obtain ⟨n,F2,sR,hO,my⟩:=h2.sound jz
  have Ch:((n++k)++F2).Perm F:=by
   refine .trans ?_ vr
   refine .trans ?_ (sR.append_left k)
   rw [← List.append_assoc k n F2]
   exact List.perm_append_comm.append_right F2
  have je:Gd B Z ((n++k)++F2) w:=hg.perm Ch
  have dv:=List.nodup_append.1 je.nd
  have Ci:=List.nodup_append.1 dv.1
  rw [vX hO] at j1
  exact fk (WL.JK (E:=aI e' E) (k:=k) (n++k) w.heap.size rfl hi qe ⟨hO,Ci.1,fun b hb=>.inl (List.mem_append_left _ hb)⟩ (List.getElem?_eq_getElem j1) (bL ha hx) (bL ha hy) hK Ci.2.1 (fun _ h=>.inl (List.mem_append_right _ h)) (fun b hb hm=>Ci.2.2 b hm b hb rfl) fun w' f' hC pJ ea=>ih B o ho _ w' ha (St.put my je (hC.mono fun b hb=>List.mem_append_left _ hb) pJ.1 pJ.2.1 fun b hb=>(ea b hb).elim (fun h=>.inl (List.mem_append_left _ h)) fun h=>h.elim (fun h=>.inl (List.mem_append_right _ h)) .inr))
 | @Hm M q d f xs vs aw ty all l rk Γ fr m hf hx _ ih=>
  intro B o ho r w ha hs pos ae g
  obtain ⟨fn,c,f1,f2,f3⟩:=hf.h
  refine ih B o ho r w ha hs pos ae g fun w'=>?_
  rw [Cc f1 f2 f3,tf ha hx]
 | @Zk M q d f x xs vs us ws as bs aw ty all l rk Γ fr m hv hx h1 h2 _ ih=>
  intro B o ho r w ha hs pos ae g
  refine ih.2 B o ho r w ha hs pos ae g fun w'=>?_
  obtain ⟨fn,c,f1,f2,f3⟩:=ih.1
  rw [Cj (bL ha hv) f1 f2 f3,tf ha hx,List.append_assoc,h1.eq,h2.eq]
 | @fa f j hf _ ih=>exact ⟨hf.h,ih⟩
 | @Zm M q d f xs ys as bs ty all l rk Γ fr m hx hy _ ih=>
  intro B o ho r w ha hs pos ae g
  refine dj ?_ (ih B o ho _ w (bc ha) hs)
  intro w' _
  rw [Ef,tf ha hx,tf ha hy]
 | Za=>exact fun B o ho=>nomatch ho
 | @Zb M β ow d f vs op ty Δ mo rt all l rk Γ fr g hc h0 h1 _ ih=>
  intro B o ho r w ha hs pos ae gg qM
  obtain ⟨y,hy,ho⟩:=bind_some ho
  refine ⟨qX (rt y ()),?_,ih y B o ho _ w (bc ha) hs⟩
  intro w' hC
  unfold Oper.quietUpon
  rw [qM w']
  refine ⟨rfl,?_⟩
  obtain ⟨Z,F,hS,hG⟩:=hs
  have Ck:=hS.iq hC
  have nr:=hG.iq hC
  rw [uz] at hc
  refine (hc.2 w' (fun b=>Z b∨b∈F) [] (h1.sound (fun _ h=>.inl h) (fun _ _ h=>.inr h) Ck h0.ho) List.nodup_nil (fun b hb=>absurd hb List.not_mem_nil)
   (fun b hb=>hb.elim (nr.qc b) (Ck.lt b)) y hy).mono ?_
  rintro e AZ ⟨v,he,Z2,F2,_,pH⟩
  exact ⟨he,hC.trans pH.iv⟩
 | @Zc M β V ow d f vs op ty Δ mo rt ps all l rk Γ fr g hc _ _ ih=>exact ih hc
 | @Zd M β V d f vs op ty Δ mo rt ps all l rk Γ Γ1 fr g h0 h1 _ ih=>
  intro hc B o ho r w ha hs pos ae gg qM
  obtain ⟨y,hy,ho⟩:=bind_some ho
  unfold pQ dq
  rw [qM w]
  obtain ⟨Z,F,hS,hG⟩:=hs
  obtain ⟨Fd,F1,a1,a2,a3⟩:=h0.sound hS
  have o5:=hG.perm a3
  rw [uz] at hc
  exact (A3 hc (Z':=fun b=>Z b∨b∈F1) (h1.sound (fun _ h=>.inl h) (fun _ _ h=>.inr h) a2 a1) a2 o5 (fun _ h=>.inl h) (fun _ h=>h) (.inl (hc.1 rfl y)) hy).mono fun e w' ⟨v,h2,h3⟩=>⟨_,h2,ih y v B o ho _ w' (bc ha) h3⟩
 | @Ze M β V d f vs op ty Δ mo rt ps all l rk Γ Γ1 fr g h0 _ ih=>
  intro hc B o ho r w ha hs pos ae gg qM
  obtain ⟨y,hy,ho⟩:=bind_some ho
  unfold pQ dq
  rw [qM w]
  obtain ⟨Z,F,hS,hG⟩:=hs
  obtain ⟨Fd,F1,Zn,a1,a2,a3⟩:=h0.sound hS
  have o5:=Gd.freeze (hG.perm a3) fun b hb=>hS.lt b (a3.mem_iff.1 (List.mem_append_right _ hb))
  rw [uz] at hc
  exact (A3 hc a1 a2 o5 (fun _ h=>h) (fun _ h=>.inl h) (.inr fun _ h=>h) hy).mono fun e w' ⟨v,h2,h3⟩=>⟨_,h2,ih y v B o ho _ w' (bc ha) h3⟩
 | Zf _ ih=>exact fun B o ho r w ha hs=>ih B o ho r w ha hs.back
 | Zg _ ih=>exact fun B o ho r w ha hs=>ih B o ho r w ha hs
 | Zj _ ih=>exact fun B o ho r w ha hs=>ih B o ho r w ha hs
theorem loop {S S1 V:Type} (k:Nat) (Δ:S1→V→List ay) (φ:S1→V→Fr) (v0:V) (f2:Fr) {fi:List KI} {kb:Kb R S} {c:Code} {s0:S1} {body:S1→Option (Out S1 R)} {f:S1→Option (Out S R)} {Γ Γ1 Γ2:QE} {fr:Fr}
   (ha:qb fr (φ s0 v0)) (hf:qb fr f2) (h0:EO Γ (Δ s0 v0) Γ1) (hn:OW Γ (Δ s0 v0)) (hs:gu Γ1 Γ2)
   (hb:∀ s v,D P cx (.p (φ s v) (Δ s v) f2 Γ2 fun fr Γ=>.c ⟨[],.loop V k Δ φ Γ2 f2⟩ c Γ fr (body s)))
   (hk:∀ s v,D P cx (.p (φ s v) (Δ s v) f2 Γ2 fun fr Γ=>.mn ⟨fi,kb⟩ Γ fr (f s))):Bx (ni P cx (.bk true k ⟨fi,kb⟩ (.loop c) Γ fr (aj (ah k (ai body s0)) f))):=by
 rw [pG]
 intro B o ho r w vq ma
 refine F5 (T:=TT P cx B) (LI B Δ φ _ f2) ho ⟨v0,rS (ha.all vq) (hf.sound vq),ma.enter h0 hn hs⟩ ?_ ?_ ?_
 ·intro x r w he hx
  subst he
  exact uB hx
 ·rintro s r w ⟨v,h1,h2⟩ o ho
  exact (hb s v).sound B o ho r w h1 h2
 ·rintro s r w ⟨v,h1,h2⟩ ho
  exact (hk s v).sound B o ho r w h1 h2
noncomputable def pc.{u,v,w} {A:Type u} {B:Type v} {C:Sort w} (f:A→B→C) (p:A×B):C:=Prod.rec (motive:=fun _=>C) f p
theorem mb {S S1 V A:Type} (k:Nat) (a0:A) (Δ:A→S1→V→List ay) (φ:A→S1→V→Fr) (v0:V) (f2:Fr) {fi:List KI} {kb:Kb R S} {c:Code} {s0:S1} {body:S1→Option (Out S1 R)} {f:S1→Option (Out S R)} {Γ Γ1 Γ2:QE} {fr:Fr}
   (ha:qb fr (φ a0 s0 v0)) (hf:qb fr f2) (h0:EO Γ (Δ a0 s0 v0) Γ1) (hn:OW Γ (Δ a0 s0 v0)) (hs:gu Γ1 Γ2)
   (hb:∀ s v,D P cx (.p (φ a0 s v) (Δ a0 s v) f2 Γ2 fun fr Γ=>.c ⟨[],.loop V k (Δ a0) (φ a0) Γ2 f2⟩ c Γ fr (body s)))
   (hk:∀ s v,D P cx (.p (φ a0 s v) (Δ a0 s v) f2 Γ2 fun fr Γ=>.mn ⟨fi,kb⟩ Γ fr (f s))):Bx (ni P cx (.bk true k ⟨fi,kb⟩ (.loop c) Γ fr (aj (ah k (ai body s0)) f))):=
 loop k (Δ a0) (φ a0) v0 f2 ha hf h0 hn hs hb hk
theorem quiet {S:Type} {id:Nat} {K:ch R S} {ops:LO} {Γ:QE} {fr:Fr} {m:Option (Out S R)} (hB:(P.follows .mixedOrders && cg cx.n ops && Region.lexB .any ops.toArray)=true) (h:D P cx (.rg (vW ops) true ops K Γ fr m)):Bx (ni P cx (.dr id ops K Γ fr m)):=by
 simp only [Bool.and_eq_true] at hB
 rw [pG]
 exact fun B o ho r w ha hs=>h.sound hB.1.2 (fun _=>⟨hB.1.1,hB.2⟩) B o ho r w ha hs _
theorem tail {S:Type} {id:Nat} (k:Nat) {K:ch R S} {l ops tl:LO} {Γ:QE} {fr:Fr} {m:Option (Out S R)} (hB:(P.follows .mixedOrders && cg cx.n l && ((l.take k).all fun o=>zp o.op) && Region.lexTailB .any l.toArray k)=true) (ho:ops=l.take k) (ht:tl=l.drop k)
  (h:D P cx (.o true l ops (.h l tl K) Γ fr m)):Bx (ni P cx (.dr id l K Γ fr m)):=by
 simp only [Bool.and_eq_true] at hB
 obtain ⟨⟨⟨h1,h2⟩,h3⟩,h4⟩:=hB
 subst ho ht
 rw [pG]
 intro B o ho r w ha hs
 exact OF k h1 h2 h3 h4 (ao.refl _ _) (h.sound B o ho r w ha hs)
def Aq:Nat→List Value→Fr
 | _,[]=>[]
 | i,v :: l=>(i,v) :: Aq (i+1) l
theorem A4 {args:LV}:cf (fun t=>args.getD t undef) ((Aq 0 args).reverse++[]):=by
 refine rS ?_ xZ
 have key:∀ (l:LV) (i:Nat) (p:Nat×Value),p∈Aq i l→i≤p.1∧l[p.1 - i]? = some p.2:=by
  intro l
  induction l with
  | nil=>intro i p hp; cases hp
  | cons a l ih=>
   intro i p hp
   unfold Aq at hp
   rcases List.mem_cons.1 hp with rfl | hp
   ·simp
   ·obtain ⟨h1,h2⟩:=ih _ _ hp
    refine ⟨by omega,?_⟩
    rw [show p.1 - i=(p.1 - (i+1))+1 by omega]
    simpa using h2
 intro p hp
 obtain ⟨_,h⟩:=key args 0 p hp
 simp only [Nat.sub_zero] at h
 simp [List.getD_eq_getElem?_getD,h]
theorem bp {β V:Type} {post:β→V→List ay} (h:∀ y v,sd (post y v)=true):true=true→∀ y v,sd (post y v)=true:=fun _=>h
theorem OG {β V:Type} {post:β→V→List ay}:false=true→∀ y v,sd (post y v)=true:=fun h=>nomatch h
theorem ct {f:FuncId} {fn:Func} {ow:Bool} {c:Code} {args:LV} {Δ:QE} {S V:Type} {m:Option (Out S R)} {ret:R→V→List Value} {post:R→V→List ay} (hw:ow=true→∀ y v,sd (post y v)=true) (hf:P.funcs[f]? = some fn) (hb:fn.body=some c) (hl:Nat.ble args.length fn.ntmps=true)
  (h:D P ⟨fn.ntmps,fn,V,ret,post⟩ (.p (Aq 0 args) Δ [] [] fun fr Γ=>.c ⟨[],.top⟩ c Γ fr m)):Ct P f ow (an m) args Δ ret post:=by
 rw [uz]
 refine ⟨hw,?_⟩
 intro w Z F hh dv OH bj y hy
 have hs:=h.sound
 obtain ⟨F',hp,hS⟩:=hh.build (Γ:=[]) (F:=[]) rfl
 rw [List.append_nil] at hp
 have ma:St ⟨w,Z,F⟩ (Δ.reverse++[]) w:=⟨Z,F',hS,Gd.perm ⟨dv,OH,bj,fun b hb=>.inl hb,fun _ h=>h,fun _ h=>.inl h,ao.refl _ _⟩ hp⟩
 exact (F6 (Rr:=fun y e w'=>∃ v:V,e = .returned (qX (ret y v))∧Hg ⟨w,Z,F⟩ (post y v) w') hf hb rfl (Nat.le_of_ble_eq_true hl) (A5 hy)
  fun o ho=>hs ⟨w,Z,F⟩ o ho _ _ A4 ma)
theorem TQ {f:FuncId} {fn:Func} {ow:Bool} {c:Code} {args:LV} {Δ:QE} {V:Type} {m:Option (Out R R)} {ret:R→V→List Value} {post:R→V→List ay} (hw:ow=true→∀ y v,sd (post y v)=true) (hf:P.funcs[f]? = some fn) (hb:fn.body=some c) (hl:Nat.ble args.length fn.ntmps=true)
  (h:D P ⟨fn.ntmps,fn,V,ret,post⟩ (.p (Aq 0 args) Δ [] [] fun fr Γ=>.c ⟨[],.Jv⟩ c Γ fr m)):Ct P f ow (Cm m) args Δ ret post:=by
 rw [uz]
 refine ⟨hw,?_⟩
 intro w Z F hh dv OH bj y hy
 have hs:=h.sound
 obtain ⟨F',hp,hS⟩:=hh.build (Γ:=[]) (F:=[]) rfl
 rw [List.append_nil] at hp
 have ma:St ⟨w,Z,F⟩ (Δ.reverse++[]) w:=⟨Z,F',hS,Gd.perm ⟨dv,OH,bj,fun b hb=>.inl hb,fun _ h=>h,fun _ h=>.inl h,ao.refl _ _⟩ hp⟩
 exact (Eg (Rr:=fun y e w'=>∃ v:V,e = .returned (qX (ret y v))∧Hg ⟨w,Z,F⟩ (post y v) w') hf hb rfl (Nat.le_of_ble_eq_true hl) hy
  fun o ho=>hs ⟨w,Z,F⟩ o ho _ _ A4 ma)
end
end Go.Dk
