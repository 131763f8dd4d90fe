/- A calculus of walks: that its rules hold. No condition. -/
import Derived.Test.YtcnehblmgfbfoaaGreatDa
import Derived.Test.YtcnehblmgfbfoaaGreatLn
namespace Go.Dk
open Go Go.Li
section
variable {Z Z':Nat→Prop} {w w':World} {cur F f:LN} {Γ Γ' Γ1 Δ:QE} {e:aq} {B:Bs} {P:Program}
theorem Gd.left {F':LN} (h:Gd B Z (F++F') w):Gd B Z F w:=
 ⟨(List.nodup_append.1 h.nd).1,fun b hb=>h.apart b (List.mem_append_left _ hb),h.nh,fun b hb=>h.low b (List.mem_append_left _ hb),h.wk,h.vH,h.jf⟩
theorem HO.hl (h:OW Γ Δ):∀ {cur F F':LN},SA Z w Γ cur F'→HO Z w Δ F→HL Z w Δ F:=by
 induction h with
 | nil=>intro _ F _ _ h; cases h; exact .nil
 | own _ ih=>intro _ F _ hs h; cases h with | own h k=>exact .own h (ih hs k)
 | om _ ih=>intro _ F _ hs h; cases h with | own h k=>exact .own h (ih hs k)
 | row _ ih=>intro _ F _ hs h; cases h with | own h k=>exact .own h (ih hs k)
 | rd h _ ih=>intro _ F _ hs hh; cases hh with
  | own h k=>exact h.elim
  | rd k=>exact .fact (h.rd hs _) (ih hs k)
theorem FO.ho (h:FO Δ):HO Z w Δ []:=by
 induction h with
 | nil=>exact .nil
 | rd _ ih=>exact .rd ih
 | au _ ih=>exact .au ih
theorem qm.all {fr g:Fr} {r:NV} (h:qm fr g) (ha:cq r fr):∀ p∈g,r p.1=p.2:=by
 induction h with
 | nil=>intro p hp; cases hp
 | cons h _ ih=>intro p hp; rcases List.mem_cons.1 hp with rfl | hp; exact ha _ _ h; exact ih p hp
theorem mw {r:NV} {f:Fr}:∀ {g:Fr},(∀ p∈g,r p.1=p.2)→cq r f→cq r (g++f):=by
 intro g
 induction g with
 | nil=>intro _ h; exact h
 | cons a g ih=>
  intro hg h t v hl
  obtain ⟨s,u⟩:=a
  rw [List.cons_append] at hl
  unfold look at hl
  cases hb:Nat.beq t s with
  | true=>rw [hb] at hl; cases hl; rw [Nat.eq_of_beq_eq_true hb]; exact hg (s,v) (by simp)
  | false=>rw [hb] at hl; exact ih (fun p hp=>hg p (by simp [hp])) h t v hl
theorem uD {r:NV} {f g:Fr} (hg:∀ p∈g,r p.1=p.2) (h:cq r f):cq r (g.reverse++f):=mw (fun p hp=>hg p (List.mem_reverse.1 hp)) h
theorem jy.sound (h:jy Γ Γ'):∀ {cur F:LN},SA Z w Γ cur F→SA Z w Γ' cur F:=by
 induction h with
 | nil=>intro _ _ h; exact h
 | own _ ih=>rintro _ _ ⟨f,F',h1,h2,h3⟩; exact ⟨f,F',h1,h2,ih h3⟩
 | om _ ih=>rintro _ _ ⟨f,F',h1,h2,h3⟩; exact ⟨f,F',h1,h2,ih h3⟩
 | row _ ih=>rintro _ _ ⟨f,F',h1,h2,h3⟩; exact ⟨f,F',h1,h2,ih h3⟩
 | Nr _ ih=>intro _ _ h; exact ⟨h.1,ih h.2⟩
 | HM _ ih=>intro _ _ h; exact ⟨h.1,ih h.2⟩
 | ad _ ih=>intro _ _ h; exact ih h.2
 | au _ ih=>intro _ _ h; exact ⟨h.1,ih h.2⟩
 | hd _ ih=>intro _ _ h; exact ih h.2
 | fv _ ih=>rintro _ _ ⟨f,F',h1,h2,h3⟩; exact ⟨f,F',h1,h2,ih h3⟩
theorem TS {α:Type} {E:ah α} (hE:∀ {h:Array Obj} {cs:LV} {x y:α} {f g:LN},E.rep h cs x f→E.rep h cs y g→f=g) {h:Array Obj}:∀ {xs ys:List α} {cs:LV} {f g:LN},xs.length=ys.length→dm E h cs xs f→dm E h cs ys g→f=g:=by
 intro xs
 induction xs with
 | nil=>
  intro ys cs f g hl h1 h2
  cases ys with
  | nil=>obtain ⟨_,rfl⟩:=h1; obtain ⟨_,rfl⟩:=h2; rfl
  | cons y ys=>cases hl
 | cons x xs ih=>
  intro ys cs f g hl h1 h2
  cases ys with
  | nil=>cases hl
  | cons y ys=>
   obtain ⟨c,lf,f1,f2,rfl,rfl,a1,a2⟩:=h1
   obtain ⟨d,U0,g1,g2,e1,rfl,b1,b2⟩:=h2
   obtain ⟨rfl,rfl⟩:=List.append_inj e1 ((E.len a1).trans (E.len b1).symm)
   rw [hE a1 b1,ih (by simpa using hl) a2 b2]
theorem DT.fp {α:Type} {T:ah α} (h:DT T):∀ {h:Array Obj} {cs:LV} {x y:α} {f g:LN},T.rep h cs x f→T.rep h cs y g→f=g:=by
 induction h with
 | i=>rintro h cs x y f g ⟨_,rfl⟩ ⟨_,rfl⟩; rfl
 | b=>rintro h cs x y f g ⟨_,rfl⟩ ⟨_,rfl⟩; rfl
 | @own α e E _ ih=>
  rintro h cs x y f g ⟨base,cap,rfl,a⟩ ⟨Lx,PX,e1,b⟩
  simp only [List.cons.injEq,Value.slice.injEq,and_true] at e1
  obtain ⟨rfl,hl,rfl⟩:=e1
  rcases a with ⟨rfl,_,_,rfl⟩ | ⟨b1,cr,f',rfl,a2,rfl,_,_,_,a3⟩
  ·rcases b with ⟨_,_,_,rfl⟩ | ⟨Kr,cr',g',e1,_⟩
   ·rfl
   ·cases e1
  ·rcases b with ⟨e1,_⟩ | ⟨Kr,cr',g',e1,c2,rfl,_,_,_,c3⟩
   ·cases e1
   ·cases e1
    rw [a2] at c2
    cases c2
    rw [hl] at a3
    rw [TS ih hl a3 c3]
theorem In.au {p:Addr} {cs:LV} (h:In (.au p cs) Γ):∀ {cur F:LN},SA Z w Γ cur F→∀ dg,fact Z w dg (.au p cs):=by
 induction h with
 | here=>intro cur F h dg; exact h.1
 | @there a Γ _ ih=>
  intro cur F hS
  cases a with
  | own T v x=>obtain ⟨f,F',h1,h2,h3⟩:=hS; exact ih h3
  | om e E v xs=>obtain ⟨f,F',h1,h2,h3⟩:=hS; exact ih h3
  | row b cs e=>obtain ⟨f,F',h1,h2,h3⟩:=hS; exact ih h3
  | fv e E v xs j u=>obtain ⟨f,F',h1,h2,h3⟩:=hS; exact ih h3
  | _=>exact ih hS.2
theorem yR.get {α:Type} {T:ah α} {v:Value} {x:α} (h:yR (.rd true T v x) Γ):∀ {cur F:LN},SA Z w Γ cur F→fact Z w cur (.rd true T v x):=by
 induction h with
 | here=>intro cur F h; exact h.1
 | row _ ih=>rintro cur F ⟨f,F',h1,h2,h3⟩; exact ih h3
 | rd _ ih=>intro cur F h; exact ih h.2
 | ad _ ih=>intro cur F h; exact ih h.2
 | hd _ ih=>intro cur F h; exact ih h.2
 | au _ ih=>intro cur F h; exact ih h.2
theorem KC.sound {α β:Type} {T:ah α} {v u:Value} {x:α} {T':ah β} {z:β} (h:KC T v x (.rd true T' u z) Γ):∀ {cur F:LN},SA Z w Γ cur F→∃ f,T.rep w.heap [v] x f∧fact Z w f (.rd true T' u z):=by
 induction h with
 | here h=>rintro cur F ⟨f,F',h1,h2,h3⟩; exact ⟨f,h2,h.get h3⟩
 | @there a Γ _ ih=>
  intro cur F hS
  cases a with
  | own T v x=>obtain ⟨f,F',h1,h2,h3⟩:=hS; exact ih h3
  | om e E v xs=>obtain ⟨f,F',h1,h2,h3⟩:=hS; exact ih h3
  | row b cs e=>obtain ⟨f,F',h1,h2,h3⟩:=hS; exact ih h3
  | fv e E v xs j u=>obtain ⟨f,F',h1,h2,h3⟩:=hS; exact ih h3
  | _=>exact ih hS.2
theorem MF.sound {o:Option aq} (h:MF Γ o Δ) {cur F:LN} (hs:SA Z w Γ cur F):∀ {dg Fd:LN},(∀ e,o=some e→pw Z w dg e)→HO Z w Δ Fd→SA Z w Δ dg Fd:=by
 induction h with
 | nil=>intro _ _ _ h; cases h; rfl
 | own _ ih=>intro _ _ _ h; cases h with | own h k=>exact ⟨_,_,rfl,h,ih (by rintro e he; cases he; exact h) k⟩
 | om _ ih=>intro _ _ _ h; cases h with | own h k=>exact ⟨_,_,rfl,h,ih (by rintro e he; cases he) k⟩
 | row _ ih=>intro _ _ ho h; cases h with | own h k=>exact ⟨_,_,rfl,h,ih ho k⟩
 | fv _ ih=>intro _ _ _ h; cases h with | own h k=>exact ⟨_,_,rfl,h,ih (by rintro e he; cases he) k⟩
 | rd h _ ih=>
  intro _ _ ho hh
  cases hh with
  | own h k=>exact h.elim
  | rd k=>exact ⟨h.rd hs _,ih ho k⟩
 | @HM α β T v u x T' z Δ hd h _ ih=>
  intro dg _ ho hh
  cases hh with
  | own h k=>exact h.elim
  | rd k=>
   obtain ⟨f,h1,h2⟩:=h.sound hs
   have h3:T.rep w.heap [v] x dg:=ho _ rfl
   rw [hd.fp h1 h3] at h2
   exact ⟨h2,ih ho k⟩
 | au h _ ih=>
  intro _ _ ho hh
  cases hh with
  | own h k=>exact h.elim
  | au k=>exact ⟨h.au hs _,ih ho k⟩
theorem St.of {F':LN} (hs:SA Z w Γ [] F) (hg:Gd B Z F' w) (hp:F.Perm F'):St B Γ w:=⟨Z,F,hs,hg.perm hp⟩
theorem St.enter (h:St B Γ w) {Γ1 Γ2:QE} (h0:EO Γ Δ Γ1) (hw:OW Γ Δ) (h1:jy Γ1 Γ2):St B (Δ.reverse++Γ2) w:=by
 obtain ⟨Z,F,hs,hg⟩:=h
 obtain ⟨Fd,F1,a1,a2,a3⟩:=h0.sound hs
 obtain ⟨F2,b1,b2⟩:=HL.build (HO.hl hw hs a1) (h1.sound a2)
 exact St.of b2 hg (b1.trans a3)
theorem St.again (h:St B Γ w) {Γ1 Γ2 Γ3:QE} (h0:EO Γ Δ Γ1) (hw:OW Γ Δ) (h1:EO Γ1 Γ2 Γ3) (h2:MF Γ none Γ2):St B (Δ.reverse++Γ2) w:=by
 obtain ⟨Z,F,hs,hg⟩:=h
 obtain ⟨Fd,F1,a1,a2,a3⟩:=h0.sound hs
 obtain ⟨Vk,F3,c1,c2,c3⟩:=h1.sound a2
 obtain ⟨F2,b1,b2⟩:=HL.build (HO.hl hw hs a1) (h2.sound hs (dg:=[]) (by rintro e he; cases he) c1)
 refine St.of (F':=Fd++Vk) b2 (Gd.left (F':=F3) (hg.perm ?_)) b1
 rw [List.append_assoc]
 exact (c3.append_left Fd).trans a3
theorem St.leave (h:St B Γ w) (h0:EF Γ Δ Γ1):Ns B Δ w:=by
 obtain ⟨Z,F,hs,hg⟩:=h
 obtain ⟨Fd,F',Zn,a1,a2,a3⟩:=h0.sound hs
 refine ⟨_,Fd,a1,Gd.left (F':=F') (Gd.freeze (hg.perm a3) fun b hb=>hs.lt b (a3.mem_iff.1 (List.mem_append_right _ hb)))⟩
theorem St.back {β:Type} {e:TI} {E:ah β} {v u:Value} {xs:List β} {j:Int} {z:β} {Γ0:QE} (h:St B (.own E u z :: .fv e E v xs j u :: Γ0) w):St B (.own (aJ e E) v (xs.set j.toNat z) :: Γ0) w:=by
 obtain ⟨Z,F,⟨k,F1,rfl,hk,f,F2,rfl,hf,hs⟩,hg⟩:=h
 obtain ⟨f',hp,hr⟩:=hf.2 w.heap (fun _ _=>rfl) z k hk
 have nv:(f'++F2).Perm (k++(f++F2)):=by
  rw [← List.append_assoc]
  exact (hp.trans List.perm_append_comm).append_right F2
 refine ⟨Z,f'++F2,⟨f',F2,rfl,hr,?_⟩,hg.perm nv⟩
 refine SA.mono (fun _ h=>h) (fun b hb=>hp.mem_iff.2 (List.mem_append_left _ hb)) hs
theorem St.SR {α β:Type} {T:ah α} {v':Value} {x':α} {e:TI} {E:ah β} {v u:Value} {xs:List β} {j:Int} {z:β} {Γ0:QE} (h:St B (.own T v' x' :: .own E u z :: .fv e E v xs j u :: Γ0) w):St B (.own T v' x' :: .own (aJ e E) v (xs.set j.toNat z) :: Γ0) w:=by
 obtain ⟨Z,F,⟨n,F0,rfl,hn,k,F1,rfl,hk,f,F2,rfl,hf,hs⟩,hg⟩:=h
 obtain ⟨f',hp,hr⟩:=hf.2 w.heap (fun _ _=>rfl) z k hk
 have nv:(n++(f'++F2)).Perm (n++(k++(f++F2))):=by
  rw [← List.append_assoc k f F2]
  exact ((hp.trans List.perm_append_comm).append_right F2).append_left n
 refine ⟨Z,n++(f'++F2),⟨n,_,rfl,hn,f',F2,rfl,hr,?_⟩,hg.perm nv⟩
 refine SA.mono (fun _ h=>h) (fun b hb=>hp.mem_iff.2 (List.mem_append_left _ hb)) hs
theorem dj {R M:Type} {cx:Cx R} {all l:LO} {rk:RK R M} {o:M} {r:NV} {d:Option Nat} {op:Op} {ty:TI} {pos:String} {ab:Array Edge} {g:Option (Nat×Bool)}
  (h:WL P all (⟨d,op,ty,pos,ab,none⟩ :: l) r w (CN P cx B rk o)):sH P cx B false ⟨d,op,ty,pos,ab,g⟩ all l rk o r w:=by
 rcases h with ⟨_,h⟩ | ⟨hw,_⟩
 ·exact h
 ·cases hw
theorem St.put {F1 f':LN} (hS:SA Z w Γ' [] F1) (hg:Gd B Z (f++F1) w) (hC:ak f w w') (ho:pw Z w' f' e) (hn:f'.Nodup) (hs:∀ b∈f',b∈f∨w.heap.size≤b):St B (e :: Γ') w':=by
 have cp:=List.nodup_append.1 hg.nd
 have hk:SA Z w' Γ' [] F1:=hS.dp hC (fun b hb=>hg.apart b (List.mem_append_left _ hb)) (fun b _=>List.not_mem_nil) (fun b hb hm=>cp.2.2 b hb b hm rfl)
 refine ⟨Z,f'++F1,hk.cons ho,List.nodup_append.2 ⟨hn,cp.2.1,?_⟩,?_,fun b hb=>Nat.lt_of_lt_of_le (hg.nh b hb) hC.size,?_,hg.wk,hg.vH,hg.jf.then hC fun i hi=>hg.low i (List.mem_append_left _ hi)⟩
 ·rintro b hb c hc rfl
  rcases hs b hb with h | h
  ·exact cp.2.2 b h b hc rfl
  ·exact absurd (hS.lt b hc) (Nat.not_lt.2 h)
 ·intro b hb hz
  rcases List.mem_append.1 hb with hb | hb
  ·rcases hs b hb with h | h
   ·exact hg.apart b (List.mem_append_left _ h) hz
   ·exact absurd (hg.nh b hz) (Nat.not_lt.2 h)
  ·exact hg.apart b (List.mem_append_right _ hb) hz
 ·intro b hb
  rcases List.mem_append.1 hb with hb | hb
  ·rcases hs b hb with h | h
   ·exact hg.low b (List.mem_append_left _ h)
   ·exact .inr (Nat.le_trans hg.jf.size h)
  ·exact hg.low b (List.mem_append_right _ hb)
theorem St.new (h:St B Γ w) {f':LN} (hC:ak [] w w') (ho:∀ Z,pw Z w' f' e) (hn:f'.Nodup) (hs:∀ b∈f',w.heap.size≤b):St B (e :: Γ) w':=by
 obtain ⟨Z,F,hS,hg⟩:=h
 exact St.put (f:=[]) hS hg hC (ho Z) hn fun b hb=>.inr (hs b hb)
theorem Has.one {v:Value} (h:Has v Γ):∀ {cur F:LN},SA Z w Γ cur F→v.oneCell'=true:=by
 induction h with
 | @own α T x Γ=>rintro cur F ⟨f,F',_,h,_⟩; exact T.one h v (by simp)
 | @om α t E xs Γ=>rintro cur F ⟨f,F',_,⟨us,g,h,_⟩,_⟩; exact ah.one _ h v (by simp)
 | @rd o α T x Γ=>rintro cur F ⟨⟨g,h,_⟩,_⟩; exact T.one h v (by simp)
 | @there e Γ _ ih=>
  intro cur F hS
  cases e with
  | own T v x=>obtain ⟨f,F',h1,h2,h3⟩:=hS; exact ih h3
  | om e E v xs=>obtain ⟨f,F',h1,h2,h3⟩:=hS; exact ih h3
  | row b cs e=>obtain ⟨f,F',h1,h2,h3⟩:=hS; exact ih h3
  | fv e E v xs j u=>obtain ⟨f,F',h1,h2,h3⟩:=hS; exact ih h3
  | _=>exact ih hS.2
theorem One.one {v:Value} (h:One Γ v) (hS:SA Z w Γ cur F):v.oneCell'=true:=by
 cases h with
 | int=>rfl
 | bool=>rfl
 | ptr=>rfl
 | sl=>rfl
 | fn=>rfl
 | nf=>rfl
 | var h=>exact h.one hS
theorem uZ.one {vs:LV} (h:uZ Γ vs) (hS:SA Z w Γ cur F):∀ u∈vs,u.oneCell'=true:=by
 induction h with
 | nil=>intro u hu; cases hu
 | cons h _ ih=>intro u hu; rcases List.mem_cons.1 hu with rfl | hu; exact h.one hS; exact ih u hu
theorem rU.eq {v:Value} {cs:LV} (h:rU Γ v cs) (hS:SA Z w Γ cur F):v.cells.toList=cs:=by
 cases h with
 | agg=>rfl
 | one h=>rw [cells_one (h.one hS)]
theorem sJ.eq {us cs ds:LV} {j:Nat} (h:sJ us j cs ds):j+us.length≤cs.length∧ds=cs.take j++us++cs.drop (j+us.length):=by
 induction h with
 | nil=>simp
 | put _ ih=>obtain ⟨h1,h2⟩:=ih; refine ⟨by simp at h1 ⊢; omega,?_⟩; rw [h2]; simp
 | s _ ih=>
  obtain ⟨h1,h2⟩:=ih
  refine ⟨by simp; omega,?_⟩
  rw [h2]
  rename_i us cs ds j _
  rw [show j+1+us.length=(j+us.length)+1 by omega]
  simp
theorem u2.eq {j n:Nat} {cs ds:LV} (h:u2 j n cs ds):ds.length=n∧(cs.drop j).take n=ds:=by
 induction h with
 | z=>simp
 | c _ ih=>obtain ⟨h1,h2⟩:=ih; simp at h2; simp [h1,h2]
 | s _ ih=>simpa using ih
theorem ug.sound {a:Addr} {n:Nat} {ds:LV} (h:ug Γ a n ds):∀ {cur F:LN},SA Z w Γ cur F→At w a ds∧ds.length=n:=by
 induction h with
 | row h=>
  rintro cur F ⟨f,F',h1,⟨_,h2⟩,_⟩
  obtain ⟨e1,e2⟩:=h.eq
  have:=At.sub h2.at (by rw [e1]; exact e2)
  rw [gw,Nat.zero_add] at this
  exact ⟨this,e1⟩
 | «at» h=>rintro cur F ⟨⟨h1,_⟩,_⟩; obtain ⟨e1,e2⟩:=h.eq; exact ⟨At.sub h1 (by rw [e1]; exact e2),e1⟩
 | Nq h=>rintro cur F ⟨⟨h1,_⟩,_⟩; obtain ⟨e1,e2⟩:=h.eq; exact ⟨At.sub (j:=0) h1 (by rw [e1]; exact e2),e1⟩
 | @there a n ds e Γ _ ih=>
  intro cur F hS
  cases e with
  | own T v x=>obtain ⟨f,F',h1,h2,h3⟩:=hS; exact ih h3
  | om e E v xs=>obtain ⟨f,F',h1,h2,h3⟩:=hS; exact ih h3
  | row b cs e=>obtain ⟨f,F',h1,h2,h3⟩:=hS; exact ih h3
  | fv e E v xs j u=>obtain ⟨f,F',h1,h2,h3⟩:=hS; exact ih h3
  | _=>exact ih hS.2
theorem u3.sound {v:Value} {n:Nat} (h:u3 Γ v n):∀ {cur F:LN},SA Z w Γ cur F→∃ b c,v = .slice b n c:=by
 induction h with
 | lit=>intro _ _ _; exact ⟨_,_,rfl⟩
 | ln=>rintro cur F ⟨⟨g,⟨⟨a,c,hv⟩,_⟩,_⟩,_⟩; exact ⟨a,c,by simpa using hv⟩
 | rd h=>rintro cur F ⟨⟨g,h1,_⟩,_⟩; exact tu (h.le.le h1)
 | own h=>rintro cur F ⟨f,F',_,h1,_⟩; exact tu (h.le.le h1)
 | om=>rintro cur F ⟨f,F',_,h1,_⟩; obtain ⟨⟨g,h2,_⟩,_⟩:=Ly h1; exact tu h2
 | @there v n e Γ _ ih=>
  intro cur F hS
  cases e with
  | own T v x=>obtain ⟨f,F',h1,h2,h3⟩:=hS; exact ih h3
  | om e E v xs=>obtain ⟨f,F',h1,h2,h3⟩:=hS; exact ih h3
  | row b cs e=>obtain ⟨f,F',h1,h2,h3⟩:=hS; exact ih h3
  | fv e E v xs j u=>obtain ⟨f,F',h1,h2,h3⟩:=hS; exact ih h3
  | _=>exact ih hS.2
theorem w5.sound {k:IntKind} {us:LV} {xs:List Int} (h:w5 k us xs):∀ (hp:Array Obj),us.length=xs.length∧dm (aN k) hp us xs []:=by
 induction h with
 | nil=>intro h; exact ⟨rfl,rfl,rfl⟩
 | cons _ ih=>intro h; obtain ⟨e1,e2⟩:=ih h; exact ⟨by simp [e1],[_],_,[],[],rfl,rfl,⟨rfl,rfl⟩,e2⟩
theorem BG.sound {α:Type} {E:ah α} {v:Value} {x:α} (h:BG Γ E v x Γ') {F:LN} (hS:SA Z w Γ [] F):∃ f F',(f++F').Perm F∧E.rep w.heap [v] x f∧SA Z w Γ' [] F':=by
 cases h with
 | int=>exact ⟨[],F,.refl _,⟨rfl,rfl⟩,hS⟩
 | bool=>exact ⟨[],F,.refl _,⟨rfl,rfl⟩,hS⟩
 | own h=>obtain ⟨f,F1,hp,ho,ep⟩:=h.sound hS; exact ⟨f,F1,hp,ho,ep⟩
 | @lit b n us k xs e Γ1 _ h0 h1 hn hb=>
  obtain ⟨f0,F1,hp,⟨rfl,av⟩,ep⟩:=h0.sound hS
  obtain ⟨e1,e2⟩:=w5.sound h1 w.heap
  have xF:=Nat.le_of_ble_eq_true hb
  refine ⟨[b],F1,hp,⟨some ⟨b,0,none⟩,n,by rw [← hn,e1],.inr ⟨b,us.toArray,[],rfl,av,rfl,by rw [← hn,e1]; exact Nat.le_refl _,Nat.le_trans xF (by decide),by rw [show (aN k).size=1 from rfl,Nat.mul_one]; simp [hn],?_⟩⟩,ep⟩
  rw [show (aN k).size=1 from rfl,Nat.mul_one,List.toList_toArray,← e1,List.take_length]
  exact e2
theorem H4.sound {α:Type} {E:ah α} {us:LV} {xs:List α} (h:H4 Γ E us xs Γ'):∀ {F:LN},SA Z w Γ [] F→us.length=xs.length∧∃ f F',(f++F').Perm F∧dm E w.heap us xs f∧SA Z w Γ' [] F':=by
 induction h with
 | nil=>intro F hS; exact ⟨rfl,[],F,.refl _,⟨rfl,rfl⟩,hS⟩
 | cons h _ ih=>
  intro F hS
  obtain ⟨f1,F1,p1,r1,S1⟩:=h.sound hS
  obtain ⟨e,f2,F2,p2,r2,S2⟩:=ih S1
  exact ⟨by simp [e],f1++f2,F2,(by rw [List.append_assoc]; exact (p2.append_left f1).trans p1),⟨[_],_,f1,f2,rfl,rfl,r1,r2⟩,S2⟩
theorem Dp.sound {κ υ:Type} {ek:κ→Value} {eu:υ→Value} {v:Value} {x:List (κ×υ)} (h:Dp ek eu Γ v x):∀ {cur F:LN},SA Z w Γ cur F→∃ f,(sG ek eu).rep w.heap [v] x f:=by
 induction h with
 | own=>rintro cur F ⟨f,F',_,h2,_⟩; exact ⟨f,h2⟩
 | rd=>rintro cur F ⟨⟨f,h2,_⟩,_⟩; exact ⟨f,h2⟩
 | @there v x e Γ h ih=>
  intro cur F hS
  cases e with
  | own T v x=>obtain ⟨f,F',h1,h2,h3⟩:=hS; exact ih h3
  | om e E v xs=>obtain ⟨f,F',h1,h2,h3⟩:=hS; exact ih h3
  | row b cs e=>obtain ⟨f,F',h1,h2,h3⟩:=hS; exact ih h3
  | fv e E v xs j u=>obtain ⟨f,F',h1,h2,h3⟩:=hS; exact ih h3
  | _=>exact ih hS.2
theorem Rg.sound {v:Value} {j:Int} (h:Rg v j Γ):∀ {cur F:LN},SA Z w Γ cur F→0≤j∧j.toNat < vG v:=by
 induction h with
 | ad=>rintro cur F ⟨⟨h1,h2,_⟩,_⟩; exact ⟨h1,h2⟩
 | @there e Γ _ ih=>
  intro cur F hS
  cases e with
  | own T v x=>obtain ⟨f,F',h1,h2,h3⟩:=hS; exact ih h3
  | om e E v xs=>obtain ⟨f,F',h1,h2,h3⟩:=hS; exact ih h3
  | row b cs e=>obtain ⟨f,F',h1,h2,h3⟩:=hS; exact ih h3
  | fv e E v xs j u=>obtain ⟨f,F',h1,h2,h3⟩:=hS; exact ih h3
  | _=>exact ih hS.2
theorem TU {pl:List (Nat×Nat)} {i:Nat} {p:Nat×Nat} (h:HU pl i=some p):pl[i]? = some p:=by
 induction pl generalizing i with
 | nil=>cases h
 | cons a l ih=>cases i with
  | zero=>simpa [HU] using h
  | succ n=>simpa using ih h
theorem H6:∀ (us:LV) (off k:Nat) (cs:Array Value),off+k+us.length≤cs.size→
  ((us.zipIdx k).foldl (fun (cs:Array Value) (p:Value×Nat)=>cs.setIfInBounds (off+p.2) p.1) cs).toList=cs.toList.take (off+k)++us++cs.toList.drop (off+k+us.length):=by
 intro us
 induction us with
 | nil=>intro off k cs h; simp
 | cons u us ih=>
  intro off k cs h
  simp only [List.zipIdx_cons,List.foldl_cons]
  simp only [List.length_cons] at h
  rw [ih off (k+1) _ (by simp; omega)]
  rw [Array.toList_setIfInBounds,show off+(k+1)=(off+k)+1 by omega]
  have hs:cs.toList.length=cs.size:=Array.length_toList
  generalize hl:cs.toList=l at *
  generalize off+k=o at *
  obtain ⟨a,x,b,rfl,rfl⟩ : ∃ a x b,l=a++x :: b∧a.length=o:=⟨l.take o,l[o]'(by omega),l.drop (o+1),by rw [List.getElem_cons_drop,List.take_append_drop],by rw [List.length_take]; omega⟩
  have e1:(a++x :: b).set a.length u=a++u :: b:=by simp
  rw [e1,List.length_cons]
  have e2:(a++u :: b).take (a.length+1)=a++[u]:=by rw [List.take_append,List.take_of_length_le (by omega)]; simp
  have e3:(a++u :: b).drop (a.length+1+us.length)=b.drop us.length:=by rw [show a.length+1+us.length=a.length+(us.length+1) by omega,List.drop_append,List.drop_eq_nil_of_le (by omega)]; simp
  have e4:(a++x :: b).drop (a.length+(us.length+1))=b.drop us.length:=by rw [List.drop_append,List.drop_eq_nil_of_le (by omega)]; simp
  have e5:(a++x :: b).take a.length=a:=by simp
  rw [e2,e3,e4,e5]
  simp
theorem vK.fill {fr:Fr} {r:NV} (ha:cq r fr) (hS:SA Z w Γ cur F) {k:Nat} {ps:List (Nat×Operand)} {us:LV} (h:vK Γ fr k ps us) :
  ∀ pre uE:List Value,pre.length=k→uE.length=us.length→Instr.fill (fun i=>some (i * 1,1)) (pre++uE).toArray (ps.map fun x=>(x.1,ev r x.2))=some (pre++us).toArray:=by
 induction h with
 | nil=>
  intro pre uE _ h2
  obtain rfl:uE=[]:=List.eq_nil_of_length_eq_zero h2
  rfl
 | @cons k x u ps us hx ho _ ih=>
  intro pre uE h1 h2
  cases uE with
  | nil=>cases h2
  | cons y uE=>
   have hc:=cells_one (ho.one hS)
   rw [List.map_cons,aQ ha hx]
   unfold Instr.fill
   simp only [hc]
   rw [if_neg (by simp; omega)]
   have:=ih (pre++[u]) uE (by simp [h1]) (by simpa using h2)
   have e:(Array.foldl (fun cs (x:Value×Nat)=>cs.setIfInBounds (k * 1+x.2) x.1) (pre++y :: uE).toArray (#[u].zipIdx))=((pre++[u])++uE).toArray:=by
    subst h1
    simp
   first
    | (rw [e,this]; simp)
    | (simp only [e] at *; simp [this])
theorem vK.op {P:Program} {fr:Fr} {r:NV} {w':World} {t e n:Nat} {ps:List (Nat×Operand)} {us:LV} {d:Option Nat} {ty:TI} {pos:String} {ab:Array Edge} {g:Option (Nat×Bool)} (hl:vK Γ fr 0 ps us) (ha:cq r fr) (hS:SA Z w Γ cur F) (hz:HW P t e) (hn:us.length=n) (hb:(Nat.ble 1 n && Nat.ble n 16777216)=true) :
  (execOp (ev r) ⟨d,.buildSlice t n ps.toArray,ty,pos,ab,g⟩).run P w' = .ok (.value (.slice (some ⟨w'.heap.size,0,none⟩) n n)) (w'.alloc (.cells us.toArray e)):=by
 obtain ⟨h1,i,z,h2,h3,h4⟩:=hz.h
 rw [Bool.and_eq_true] at hb
 have b1:=Nat.le_of_ble_eq_true hb.1
 have b2:=Nat.le_of_ble_eq_true hb.2
 refine NC h1 h2 h3 h4 b1 b2 ?_
 have:=hl.fill ha hS [] ((Array.range (n * 1)).map (z.cells[· % z.cells.size]!)).toList rfl (by simp [hn])
 rw [List.nil_append,List.nil_append,Array.toArray_toList] at this
 rw [show (ps.toArray.map fun (x:Nat×Operand)=>(x.1,ev r x.2)).toList=ps.map fun x=>(x.1,ev r x.2) by simp]
 exact this
theorem xf.fill {n:Nat} {fr:Fr} {r:NV} (ha:cq r fr) (hS:SA Z w Γ cur F) {k:Nat} {ps:List (Nat×Operand)} {us:LV} (h:xf Γ fr n k ps us) :
  us.length=ps.length * n∧∀ pre uE:List Value,pre.length=k * n→uE.length=us.length→Instr.fill (fun i=>some (i * n,n)) (pre++uE).toArray (ps.map fun x=>(x.1,ev r x.2))=some (pre++us).toArray:=by
 induction h with
 | nil=>
  refine ⟨by simp,fun pre uE _ h2=>?_⟩
  obtain rfl:uE=[]:=List.eq_nil_of_length_eq_zero h2
  rfl
 | @cons k x v cs us ws ps hx hc hl _ P7 ih=>
  obtain ⟨e0,ih⟩:=ih
  have P7:=P7.eq
  subst P7
  refine ⟨by rw [List.length_append,hl,e0,List.length_cons,Nat.succ_mul,Nat.add_comm],fun pre uE h1 h2=>?_⟩
  rw [List.length_append] at h2
  have hv:=hc.eq hS
  have rW:v.cells=cs.toArray:=by rw [← hv]
  rw [List.map_cons,aQ ha hx]
  unfold Instr.fill
  simp only [rW]
  rw [if_neg (by simp; omega)]
  have hsf:=H6 cs (k * n) 0 (pre++uE).toArray (by simp; omega)
  have:=ih (pre++cs) (uE.drop n) (by rw [List.length_append,h1,hl,Nat.succ_mul]) (by rw [List.length_drop]; omega)
  have e:(cs.toArray.zipIdx.foldl (fun (cs:Array Value) (x:Value×Nat)=>cs.setIfInBounds (k * n+x.2) x.1) (pre++uE).toArray)=((pre++cs)++uE.drop n).toArray:=by
   apply Array.toList_inj.1
   rw [← Array.foldl_toList]
   simp only [Array.toList_zipIdx]
   rw [hsf,← h1]
   simp only [Nat.add_zero,List.take_left',List.drop_append,List.append_assoc]
   rw [List.drop_eq_nil_of_le (by omega),show pre.length+cs.length - pre.length=n by omega]
   simp
  refine Eq.trans ?_ (this.trans (by simp))
  congr 1
theorem xf.op {P:Program} {fr:Fr} {r:NV} {w':World} {t e n k:Nat} {ps:List (Nat×Operand)} {us:LV} {d:Option Nat} {ty:TI} {pos:String} {ab:Array Edge} {g:Option (Nat×Bool)} (hl:xf Γ fr k 0 ps us) (ha:cq r fr) (hS:SA Z w Γ cur F) (hz:Nx P t e k) (hn:ps.length=n) (hb:(Nat.ble 1 n && Nat.ble (n * k) 16777216)=true) :
  (execOp (ev r) ⟨d,.buildSlice t n ps.toArray,ty,pos,ab,g⟩).run P w' = .ok (.value (.slice (some ⟨w'.heap.size,0,none⟩) n n)) (w'.alloc (.cells us.toArray e)):=by
 obtain ⟨h1,i,z,h2,h3,h4,h5⟩:=hz.h
 rw [Bool.and_eq_true] at hb
 have b1:=Nat.le_of_ble_eq_true hb.1
 have b2:=Nat.le_of_ble_eq_true hb.2
 obtain ⟨e1,hf⟩:=hl.fill ha hS
 have:=hf [] ((Array.range (n * k)).map (z.cells[· % z.cells.size]!)).toList (by simp) (by simp [e1,hn])
 rw [List.nil_append,List.nil_append,Array.toArray_toList] at this
 have P8:0 < n * k:=Nat.mul_pos b1 h5
 have h:=run_buildSlice (P:=P) w' t e n (ps.toArray.map fun (x:Nat×Operand)=>(x.1,ev r x.2)) us.toArray i z h1 h2 h3 (by rw [h4]; omega) (by rw [h4]; omega) (by rw [h4]; simpa using this)
 simp only [execOp]
 simp at h
 simp [h]
theorem xe.fill {fr:Fr} {r:NV} {pl:List (Nat×Nat)} {ps:List (Nat×Operand)} {cs es:LV} (h:xe Γ fr pl ps cs es) (ha:cq r fr) (hS:SA Z w Γ cur F) :
  Instr.fill (fun i=>pl.toArray[i]?) cs.toArray (ps.map fun x=>(x.1,ev r x.2))=some es.toArray:=by
 induction h with
 | nil=>rfl
 | @cons i off k x v us cs ds es ps hp hx hc hl hs _ ih=>
  rw [List.map_cons,aQ ha hx]
  have hv:=hc.eq hS
  have BU:pl.toArray[i]? = some (off,k):=by rw [List.getElem?_toArray]; exact TU hp
  obtain ⟨e1,e2⟩:=hs.eq
  have me:v.cells.size=us.length:=by rw [← hv]; simp
  unfold Instr.fill
  simp only [BU]
  rw [if_neg (by simp [me,hl]; omega)]
  have rW:v.cells=us.toArray:=by rw [← hv]
  have:=H6 us off 0 cs.toArray (by simpa using e1)
  rw [rW]
  have h2:(us.toArray.zipIdx.foldl (fun (cs:Array Value) (x:Value×Nat)=>cs.setIfInBounds (off+x.2) x.1) cs.toArray)=ds.toArray:=by
   apply Array.toList_inj.1
   rw [← Array.foldl_toList]
   simp only [Array.toList_zipIdx] 
   rw [this,e2]; simp
  refine Eq.trans ?_ ih
  congr 1
theorem o7 {α:Type} {E:ah α} {t:TI} {v:Value} {xs:List α} {f:LN} (h:(aJ t E).rep w.heap [v] xs f):vG v=xs.length:=by
 obtain ⟨base,cap,hv,_⟩:=h
 obtain rfl:v = .slice base xs.length cap:=by simpa using hv
 rfl
theorem zD.sound {fr:Fr} {r:NV} (ha:cq r fr) {fn:Func} {rs:List ResultVar} {vs:LV} (hr:fn.results=rs.toArray) (h:zD P fr Γ rs vs) {n:Nat} (hs:SA Z w Γ [] F) :
  ∀ a:Act,a.tmps.size=n→cu a=r→(results fn a.tmps).run P w = .ok (l7 vs) w:=by
 rintro a - rfl
 have key:∀ {rs:List ResultVar} {vs:LV},zD P fr Γ rs vs→Sem.run P (rs.mapM fun | .tmp t=>pure (a.tmps.getD t undef) | .cell b t=>do loadVar t (← asAddr (a.tmps.getD b undef))) w = .ok vs w:=by
  intro rs vs h
  induction h with
  | nil=>rfl
  | @tmp t v l vs h _ ih=>
   rw [List.mapM_cons]
   have:=ha _ _ h
   simp only [cu] at this
   simp only [Sem.run_bind,this,ih,Sem.run_pure,Result.andThen_ok]
  | @cell t n ty p ds vs l hk h hw _ ih=>
   rw [List.mapM_cons]
   have:=ha _ _ h
   simp only [cu] at this
   obtain ⟨dd,i,k1,k2,k3,k4⟩:=hk.h
   obtain ⟨hc,hl⟩:=hw.sound hs
   have h3:=run_loadCells_list (P:=P) (w:=w) p ds hc
   rw [hl,← k4] at h3
   have h4:Sem.run P (do loadVar ty (← asAddr (a.tmps.getD t undef))) w = .ok (.agg ds.toArray) w:=by
    rw [this]
    simp [asAddr,loadVar,vL k1,k2,sizeOf,typeInfo,k3,h3]
   simp only [Sem.run_bind] at h4 ih ⊢
   rw [h4]
   simp only [ih,Sem.run_pure,Result.andThen_ok]
 have h2:=key h
 unfold results
 rw [hr,Sem.run_bind,List.mapM_toArray,← bind_pure_comp,Sem.run_bind]
 generalize hm:Sem.run P (List.mapM _ rs) w=z
 obtain rfl:z = .ok vs w:=hm.symm.trans h2
 simp only [Result.andThen_ok,Sem.run_pure]
 have e:∀ vs:List Value,(if h:vs.toArray.size=1 then vs.toArray[0] else Value.tuple vs.toArray)=l7 vs:=by
  intro vs
  match vs with
  | []=>rfl
  | [v]=>rfl
  | a :: b :: l=>rw [dif_neg (by simp)]; rfl
 rw [e]
end
end Go.Dk
namespace Go.Dk
open Go Go.Li
section
variable {B:Bs} {P:Program} {R:Type} {cx:Cx R}
theorem ZH {C:World→Prop} {ops:LO} {K:(Nat→Value)→World→Prop}:∀ (l':LO) (r:NV) (w:World),C w→QL P C ops l' r (fun r'=>∀ w',C w'→K r' w')→WL P ops l' r w K:=by
 intro l'
 induction l' with
 | nil=>intro r w hw hh; exact hh w hw
 | cons o l' ih=>
  intro r w hw hh
  rcases hh with ⟨H7,v,hv,hh⟩ | ⟨H7,hh⟩
  ·refine .inl ⟨H7,?_⟩
   have h3:=hv w hw
   unfold fh
   generalize (execOp (ev r) o).run P w=x at h3
   cases x with
   | halt y w'=>exact h3.elim
   | ok y w'=>
    cases y <;> simp only [Oper.quietUpon] at h3
    case value u=>obtain ⟨rfl,rfl⟩:=h3; exact ih _ _ hw hh
    case skip=>obtain ⟨rfl,rfl⟩:=h3; exact ih _ _ hw hh
    case enter f args=>
     obtain ⟨rfl,h3⟩:=h3
     exact h3.mono fun e zP ⟨he,P9⟩=>⟨v,he,ih _ _ P9 hh⟩
  ·exact .inr ⟨H7,ih _ _ hw hh⟩
theorem Qa {n id:Nat} {draw:Bool} {ops:LO} {Q:Exit→(Nat→Value)→World→Prop} {r:NV} {w:World} (hd:dh n ops=true) (hm:draw=true→P.follows .mixedOrders=true∧Region.lexB .any ops.toArray=true)
  (h:QL P (ak [] w) ops ops r fun r'=>∀ w',ak [] w w'→Q .normal r' w'):W P n (.region id ops.toArray draw) Q r w:=by
 cases draw with
 | true=>exact TV (hm rfl).1 hd (fun _=>(hm rfl).2) (ak.refl _ _) (ak.drew _ _) h
 | false=>exact xG hd (ZH _ _ _ (ak.refl _ _) h)
theorem Calls.CO {f:FuncId} {fn:Func} {c:Code} {xs:List Operand} {au:Array TypeId} {r:NV} {w:World} {d:Option Nat} {ty:TI} {pos:String} {ab:Array Edge} {g:Option (Nat×Bool)} {K:Value→World→Prop}
  (hf : P.funcs[f]? = some fn) (hb : fn.body = some c) (hn : (fn.name == "runtime.NumGoroutine") = false)
  (h:Calls P f (xs.map (ev r)).toArray w fun e w'=>∃ v,e = .returned v∧K v w'):fh P ⟨d,.call ⟨.value (.func f),xs.toArray,au⟩,ty,pos,ab,g⟩ r w K:=by
 unfold fh
 rw [Ar hf hb hn]
 exact h
theorem vM {Z:Nat→Prop} {w:World}:∀ {Δ:QE},(∀ e∈Δ,fact Z w [] e)→HL Z w Δ []:=by
 intro Δ
 induction Δ with
 | nil=>intro _; exact .nil
 | cons e Δ ih=>intro h; exact .fact (h e (by simp)) (ih fun e he=>h e (by simp [he]))
theorem wm {Z Z2:Nat→Prop} {w:World}:∀ {Δ:QE} {F:LN},qu Δ=true→HL Z2 w Δ F→HL Z w Δ F:=by
 intro Δ
 induction Δ with
 | nil=>intro F _ h; cases h; exact .nil
 | cons e Δ ih=>
  intro F ho h
  cases e with
  | own T v x=>cases h with
   | own h k=>exact .own h (ih ho k)
   | fact h k=>exact h.elim
  | row b cs e=>cases h with
   | own h k=>exact .own h (ih ho k)
   | fact h k=>exact h.elim
  | _=>cases ho
theorem GP {f:FuncId} {ow:Bool} {vs:LV} {Δ Γ1:QE} {β V:Type} {mo:Option β} {rt:β→V→List Value} {ps:β→V→List aq} {w:World} {Z Z':Nat→Prop} {Fd F1:LN} {y:β} (hc:SB P f ow vs Δ β V mo rt ps) (hl:HL Z' w Δ Fd) (a2:SA Z w Γ1 [] F1) (ke:Gd B Z (Fd++F1) w)
  (hz:∀ b,Z b→Z' b) (BV:∀ b,Z' b→Z b∨b∈F1) (hm:(∀ v,qu (ps y v)=true)∨∀ b,Z' b→Z b) (hy:mo=some y) :
  Calls P f vs.toArray w fun e w'=>∃ v,e = .returned (l7 (rt y v))∧St B ((ps y v).reverse++Γ1) w':=by
 have cp:=List.nodup_append.1 ke.nd
 refine (hc.2 w Z' Fd hl cp.1 (fun b hb Vl=>(BV b Vl).elim (ke.apart b (List.mem_append_left _ hb)) (fun h=>cp.2.2 b hb b h rfl)) (fun b hb=>(BV b hb).elim (ke.nh b) (a2.lt b)) y hy).mono ?_
 rintro e w' ⟨v,he,Z2,F2,ox,gq⟩
 refine ⟨v,he,?_⟩
 have hC:ak Fd w w':=gq.jf
 have hF1:SA Z w' Γ1 [] F1:=a2.dp hC (fun b hb=>ke.apart b (List.mem_append_left _ hb)) (fun b _=>List.not_mem_nil) (fun b hb hm=>cp.2.2 b hb b hm rfl)
 have fin:∀ Z3:Nat→Prop,HL Z3 w' (ps y v) F2→(∀ b,Z b→Z3 b)→(∀ b,Z3 b→Z b∨b∈Fd∨w.heap.size≤b)→(∀ b∈F2,¬ Z3 b)→(∀ b,Z3 b→b < w'.heap.size)→St B ((ps y v).reverse++Γ1) w':=by
  intro Z3 w6 h31 h32 h33 h34
  obtain ⟨F3,b1,b2⟩:=w6.build (hF1.mono h31 fun _ h=>h)
  refine St.of b2 (F':=F2++F1) ?_ b1
  refine ⟨List.nodup_append.2 ⟨gq.nd,cp.2.1,?_⟩,?_,h34,?_,fun b hb=>h31 b (ke.wk b hb),?_,?_⟩
  ·rintro b hb c BR rfl
   rcases gq.low b hb with h | h
   ·exact cp.2.2 b h b BR rfl
   ·exact absurd (a2.lt b BR) (Nat.not_lt.2 h)
  ·intro b hb hz
   rcases List.mem_append.1 hb with hb | hb
   ·exact h33 b hb hz
   ·rcases h32 b hz with h | h | h
    ·exact ke.apart b (List.mem_append_right _ hb) h
    ·exact cp.2.2 b h b hb rfl
    ·exact absurd (a2.lt b hb) (Nat.not_lt.2 h)
  ·intro b hb
   rcases List.mem_append.1 hb with hb | hb
   ·rcases gq.low b hb with h | h
    ·exact ke.low b (List.mem_append_left _ h)
    ·exact .inr (Nat.le_trans ke.jf.size h)
   ·exact ke.low b (List.mem_append_right _ hb)
  ·intro b hb
   rcases h32 b hb with h | h | h
   ·exact ke.vH b h
   ·exact .inr (ke.low b (List.mem_append_left _ h))
   ·exact .inr (.inr (Nat.le_trans ke.jf.size h))
  ·exact ke.jf.then hC fun i hi=>ke.low i (List.mem_append_left _ hi)
 rcases hm with hm | hm
 ·exact fin Z (wm (hm v) ox) (fun _ h=>h) (fun _ h=>.inl h) (fun b hb h=>gq.apart b hb (gq.wk b (hz b h))) (fun b hb=>Nat.lt_of_lt_of_le (ke.nh b hb) hC.size)
 ·exact fin Z2 ox (fun b h=>gq.wk b (hz b h)) (fun b h=>(gq.vH b h).imp (hm b) id) gq.apart gq.nh
theorem GQ {M α:Type} {rk:RK R M} {oo:M} {E E':ah α} {t:TI} {x y:OO} {i:TypeInfo} {Γ Γ1 Γx:QE} {w:World} {r:NV} {v v' u:Value} {j j':Int} {e e':TI} {zs:List α} {xs:List (List α)} {z:α} {o1 o2:Bool} {all l:LO} {ty:TI} {pos:String} {ab:Array Edge} {g:Option (Nat×Bool)}
  (hE:∀ {h cs x f},E.rep h cs x f→f=[]) (h1:E.size=1) (hi:P.info? t=some i) (hs:i.size=1) (hS:St B Γ w) (hl:Loc Γ v (.row v' j')) (h0:Rg v j Γ) (hf:lr Γ v o1 o2 E' zs o6 Γx) (hr:RT E E') (h2:bz Γ (.own (aJ e (aJ e' E)) v' xs) Γ1)
  (hx:ev r x = .pointer (some (cn v 1 j))) (hy:ev r y=u) (hu:E.rep w.heap [u] z [])
  (k:∀ w',St B (.own (aJ e (aJ e' E)) v' (xs.set j'.toNat (zs.set j.toNat z)) :: Γ1) w'→WL P all l (gf r none undef) w' (CN P cx B rk oo)):sH P cx B false ⟨none,.store t x y,ty,pos,ab,g⟩ all l rk oo r w:=by
 obtain ⟨Z,F,hS,hg⟩:=hS
 obtain ⟨j0,j1,hc⟩:=Loc.row hl rfl hS
 obtain ⟨r0,r1⟩:=h0.sound hS
 obtain ⟨dg,_,⟨⟨gg,ND,_⟩,_⟩,_⟩:=hf.sound hS
 obtain ⟨f,F1,hp,hO,ep⟩:=h2.sound hS
 have fw:=hg.perm hp
 have cp:=List.nodup_append.1 fw.nd
 have hlen:vG v'=xs.length:=o7 hO
 rw [hlen] at j1
 obtain ⟨k0,g0,a1,a2,a3⟩:=Kn rfl hO (List.getElem?_eq_getElem j1) hc
 have hro:RT (aJ e' E) (aV E'):=.own hr
 have hz:xs[j'.toNat]=zs:=hro.uy (hro.le.le a1) ND
 rw [hz] at a1
 have ox:vG v=zs.length:=o7 a1
 rw [ox] at r1
 have w7:=List.nodup_append.1 (a2.nodup_iff.2 cp.1)
 refine dj (WL.CP (E:=E) k0 w.heap.size hE h1 hi hs ⟨a1,w7.1,fun b hb=>.inl hb⟩ (List.getElem?_eq_getElem r1) hx hy hu fun w' hC lu=>k w' ?_)
 have hkf:∀ b∈k0,b∈f:=fun b hb=>a2.mem_iff.1 (List.mem_append_left _ hb)
 obtain ⟨f',b1,b2⟩:=a3.2 w'.heap (fun b hb=>hC.block b (a3.1 b hb) fun hm=>w7.2.2 b hm b hb rfl) _ k0 lu.1
 have hpf:f'.Perm f:=b1.trans (List.perm_append_comm.trans a2)
 exact St.put ep fw (hC.mono hkf) b2 (hpf.nodup_iff.2 cp.1) fun b hb=>.inl (hpf.mem_iff.1 hb)
theorem D.sound {J:Jd R} (h:D P cx J):qa P cx J:=by
 induction h with
 | pf _ ih=>simpa [qa] using ih
 | pe _ ih=>simpa [qa] using ih
 | pz _ ih=>simpa [qa] using ih
 | @csp A B' y k _ _ Vm Ez=>
  obtain ⟨a,z⟩:=y
  cases a with
  | none=>exact Vm z
  | some a=>exact Ez a z
 | @cso A y k _ _ Vm Ez=>
  cases y with
  | none=>exact Vm
  | some a=>exact Ez a
 | Vf _ ih=>exact ih
 | tp1 _ ih=>exact ih
 | tp0 _ ih=>exact ih
 | tp2 _ ih=>exact ih
 | ZE=>exact fun B o ho=>nomatch ho
 | seq _ ih=>exact fun B o ho r w ha hs=>ZI (ih B o ho r w ha hs)
 | skip _ ih=>exact fun B o ho r w ha hs=>Vn (ih B o ho r w ha hs)
 | exit _ ih=>exact fun B o ho r w ha hs=>Vp (ih B o ho r w ha hs)
 | cond hb _ ih=>exact fun B o ho r w ha hs=>NG (ha _ _ hb) (ih B o ho r w ha hs).1 (ih B o ho r w ha hs).2
 | cdt _ ih=>exact fun B o ho r w ha hs=>⟨fun _=>ih B o ho r w ha hs,fun h=>nomatch h⟩
 | cdf _ ih=>exact fun B o ho r w ha hs=>⟨(fun h=>nomatch h),fun _=>ih B o ho r w ha hs⟩
 | cds _ _ Ez NH=>exact fun B o ho r w ha hs=>⟨fun h=>Ez B o (by rw [h] at ho; exact ho) r w ha hs,fun h=>NH B o (by rw [h] at ho; exact ho) r w ha hs⟩
 | ret hr _ h h1=>
  intro B o ho r w ha hs
  cases ho
  refine ZJ (yO ?_)
  obtain ⟨Z,F,hS,hg⟩:=hs
  refine ⟨_,h.sound ha hr hS,?_⟩
  exact ⟨_,rfl,St.leave ⟨Z,F,hS,hg⟩ h1⟩
 | block _ ih=>exact fun B o ho r w ha hs=>ih B o ho r w ha hs
 | bkf _ ih=>exact fun B o ho r w ha hs=>KD (ih B o ho r w ha hs)
 | bks h=>rw [nb] at h; exact h
 | draw _ ih=>exact fun B o ho r w ha hs=>ih B o ho r w ha hs
 | drs h=>rw [nb] at h; exact h
 | inj h=>rw [nb] at h; exact h
 | region hd _ ih=>exact fun B o ho r w ha hs=>ih hd (fun h=>nomatch h) B o ho r w ha hs _
 | rgf _ ih=>exact fun hd _ B o ho r w ha hs id=>xG hd (ih B o ho r w ha hs)
 | rgq _ ih=>exact fun hd hm B o ho r w ha hs id=>Qa hd hm (ih B o ho r w ha hs)
 | rgt _ ih=>exact fun hd _=>ih hd
 | rwu _ ih=>exact fun hd B o ho r w ha hs id=>xG hd (ih B o ho r w ha hs)
 | rwt _ ih=>exact fun hd B o ho r w ha hs id=>xG hd (ih B o ho r w ha hs)
 | rwf ht _ _ _ ih EA=>
  intro hd B o ho r w ha hs id
  obtain ⟨g,hg,ho⟩:=bind_some ho
  refine Qa hd (fun h=>nomatch h) (QL.meet _ (ih B g hg r w ha hs) ?_)
  intro r' eh w' hC
  obtain ⟨h1,h2⟩:=eh w' hC
  refine EA g B o ho r' w' ?_ (hs.ic hC)
  intro s u hl
  unfold look at hl
  cases hb:Nat.beq s _ with
  | true=>rw [hb] at hl; cases hl; rw [Nat.eq_of_beq_eq_true hb]; exact h1
  | false=>rw [hb] at hl; exact h2 s u hl
 | @osl S q _ K Γ fr m _ ih=>
  intro B o ho r w ha hs
  cases q with
  | false=>exact ih B o ho r w ha hs
  | true=>exact fun w' hC=>ih B o ho r w' ha (hs.ic hC)
 | @ohl S q all tail K Γ fr m _ ih=>
  intro B o ho r w ha hs
  cases q with
  | false=>exact ih B o ho r w ha hs
  | true=>exact fun w' hC=>ih B o ho r w' ha (hs.ic hC)
 | @as1 S α β q d op ty all l K Γ fr m f g _ ih=>
  intro B o ho
  refine ih B o ?_
  rw [← ho]
  cases m <;> rfl
 | @as2 S α β q d op ty al all tail l K Γ fr m f g _ ih=>
  intro B o ho
  refine ih B o ?_
  rw [← ho]
  cases m <;> rfl
 | tgn _ ih=>exact ih
 | tgg ht _ _ _ ih EA=>
  intro B o ho r w ha hs
  obtain ⟨g,hg,ho⟩:=bind_some ho
  refine QL.meet _ (ih B g hg r w ha hs) ?_
  intro r' eh w' hC
  obtain ⟨h1,h2⟩:=eh w' hC
  refine EA g B o ho r' w' ?_ (hs.ic hC)
  intro s u hl
  unfold look at hl
  cases hb:Nat.beq s _ with
  | true=>rw [hb] at hl; cases hl; rw [Nat.eq_of_beq_eq_true hb]; exact h1
  | false=>rw [hb] at hl; exact h2 s u hl
 | rgg ht _ _ _ ih EA=>
  intro hd hm B o ho r w ha hs id
  obtain ⟨g,hg,ho⟩:=bind_some ho
  refine Qa hd hm (QL.meet _ (ih B g hg r w ha hs) ?_)
  intro r' eh w' hC
  obtain ⟨h1,h2⟩:=eh w' hC
  refine EA g B o ho r' w' ?_ (hs.ic hC)
  intro s u hl
  unfold look at hl
  cases hb:Nat.beq s _ with
  | true=>rw [hb] at hl; cases hl; rw [Nat.eq_of_beq_eq_true hb]; exact h1
  | false=>rw [hb] at hl; exact h2 s u hl
 | ab2 hr _ h h1=>
  intro B o ho r w ha hs
  cases ho
  obtain ⟨Z,F,hS,hg⟩:=hs
  exact ⟨_,h.sound ha hr hS,⟨_,rfl,St.leave ⟨Z,F,hS,hg⟩ h1⟩⟩
 | abY _ ih=>exact fun B o ho r w ha hs=>ih B o ho r w ha hs
 | abZ _ ih=>exact fun B o ho r w ha hs=>ih B o ho r w ha hs
 | @ZG S V k Δ φ Γ2 Γ Γ1 Γ3 f2 fr s v _ ha hf h0 hw h1 h2=>
  intro B o ho r w tG hs
  cases ho
  exact ⟨v,uD (ha.all tG) (hf.sound tG),hs.again h0 hw h1 h2⟩
 | @ZF S V k Δ φ Γ2 Γ Γ1 Γ3 f2 fr s v _ ha hf h0 hw h1 h2=>
  intro B o ho r w tG hs
  cases ho
  refine ⟨rfl,?_⟩
  show (bif Nat.beq k k then _ else False)
  rw [show Nat.beq k k=true from Nat.beq_refl k]
  exact ⟨v,uD (ha.all tG) (hf.sound tG),hs.again h0 hw h1 h2⟩
 | ab0 _ ih=>exact fun B o ho r w ha hs=>ih B o ho r w ha hs
 | @ab1 S iz kb k j Γ fr m _ ih=>
  intro B o ho r w ha hs
  have:=ih B o ho r w ha hs
  show (bif Nat.beq k j then _ else _)
  cases hb:Nat.beq k j with
  | true=>rw [hb] at this; exact this
  | false=>rw [hb] at this; exact this
 | xbt _ ih=>exact fun B o ho r w ha hs=>ih B o ho r w ha hs
 | xbf _ ih=>exact fun B o ho r w ha hs=>ih B o ho r w ha hs
 | @abX S q _ K Γ fr m _ ih=>
  intro B o ho r w ha hs
  cases q with
  | false=>exact ih B o ho r w ha hs
  | true=>exact fun w' hC=>ih B o ho r w' ha (hs.ic hC)
 | @ogd q _ t f0 fr Γ b h k=>
  intro B o ho r w ha hs
  cases ho
  cases q with
  | false=>exact ⟨ha _ _ h,k.sound ha⟩
  | true=>exact fun w' hC=>⟨ha _ _ h,k.sound ha⟩
 | plain _ ih=>exact fun B o ho r w ha hs=>DO (tS rfl) (ih B o ho r w ha hs _ _ _)
 | grd hj hv _ ih=>exact fun B o ho r w ha hs=>ih hj hv B o ho r w ha hs _ _
 | gtt _ ih=>exact fun hj hv B o ho r w ha hs pos ab=>DO ((yP rfl hj (ha _ _ hv)).trans rfl) (ih B o ho r w ha hs _ _ _)
 | gff _ ih=>exact fun hj hv B o ho r w ha hs pos ab=>DO ((yP rfl hj (ha _ _ hv)).trans rfl) (ih B o ho r w ha hs _ _ _)
 | gtf _ ih=>exact fun hj hv B o ho r w ha hs pos ab=>DP ((yP rfl hj (ha _ _ hv)).trans rfl) (ih B o ho _ w (an ha) hs)
 | gft _ ih=>exact fun hj hv B o ho r w ha hs pos ab=>DP ((yP rfl hj (ha _ _ hv)).trans rfl) (ih B o ho _ w (an ha) hs)
 | gun _ ih=>exact fun hj hv B o ho r w ha hs pos ab=>DP (HT rfl hj (ha _ _ hv)) (ih B o ho _ w (an ha) hs)
 | @gsb M α q b tt d op ty j t all l rk Γ fr m1 m2 f _ _ Ez NH=>
  intro hj hv B o ho r w ha hs pos ab
  have key:∀ c:Bool,b=c→cq r ((t,.bool c) :: fr)∧look ((t,Value.bool c) :: fr) t=some (.bool c):=by
   intro c hc
   refine ⟨?_,by unfold look; rw [show Nat.beq t t=true from Nat.beq_refl t]; rfl⟩
   intro s u hl
   unfold look at hl
   cases hb:Nat.beq s t with
   | true=>rw [hb] at hl; cases hl; rw [Nat.eq_of_beq_eq_true hb,← hc]; exact ha _ _ hv
   | false=>rw [hb] at hl; exact ha s u hl
  cases b with
  | true=>exact Ez hj (key true rfl).2 B o ho r w (key true rfl).1 hs pos ab
  | false=>exact NH hj (key false rfl).2 B o ho r w (key false rfl).1 hs pos ab
 | @gsp M q b tt d op ty j t all l rk Γ fr m1 m2 _ _ Ez NH=>
  intro hj hv B o ho r w ha hs pos ab
  have key:∀ c:Bool,b=c→cq r ((t,.bool c) :: fr)∧look ((t,Value.bool c) :: fr) t=some (.bool c):=by
   intro c hc
   refine ⟨?_,by unfold look; rw [show Nat.beq t t=true from Nat.beq_refl t]; rfl⟩
   intro s u hl
   unfold look at hl
   cases hb:Nat.beq s t with
   | true=>rw [hb] at hl; cases hl; rw [Nat.eq_of_beq_eq_true hb,← hc]; exact ha _ _ hv
   | false=>rw [hb] at hl; exact ha s u hl
  cases b with
  | true=>exact Ez hj (key true rfl).2 B o ho r w (key true rfl).1 hs pos ab
  | false=>exact NH hj (key false rfl).2 B o ho r w (key false rfl).1 hs pos ab
 | @assoc α β q d op ty all l gt g0 Γ fr m f g _ ih=>
  intro B o ho
  refine ih B o ?_
  rw [← ho]
  cases m <;> rfl
 | mv hx _ ih=>exact fun B o ho r w ha hs pos ab g=>bu (Mv _ (aQ ha hx)) (ih B o ho _ w (an ha) hs)
 | as hx _ ih=>exact fun B o ho r w ha hs pos ab g=>bu (Av _ (aQ ha hx)) (ih B o ho _ w (an ha) hs)
 | add hx hy _ ih=>exact fun B o ho r w ha hs pos ab g=>bu (Ba (aQ ha hx) (aQ ha hy)) (ih B o ho _ w (an ha) hs)
 | sub hx hy _ ih=>exact fun B o ho r w ha hs pos ab g=>bu (Go.Li.Bs (aQ ha hx) (aQ ha hy)) (ih B o ho _ w (an ha) hs)
 | mul hx hy _ ih=>exact fun B o ho r w ha hs pos ab g=>bu (Bm (aQ ha hx) (aQ ha hy)) (ih B o ho _ w (an ha) hs)
 | lss hx hy _ ih=>exact fun B o ho r w ha hs pos ab g=>bu (Bl (aQ ha hx) (aQ ha hy)) (ih B o ho _ w (an ha) hs)
 | leq hx hy _ ih=>exact fun B o ho r w ha hs pos ab g=>bu (Bk (aQ ha hx) (aQ ha hy)) (ih B o ho _ w (an ha) hs)
 | gtr hx hy _ ih=>exact fun B o ho r w ha hs pos ab g=>bu (Bg (aQ ha hx) (aQ ha hy)) (ih B o ho _ w (an ha) hs)
 | geq hx hy _ ih=>exact fun B o ho r w ha hs pos ab g=>bu (Bh (aQ ha hx) (aQ ha hy)) (ih B o ho _ w (an ha) hs)
 | eql hx hy hb _ ih=>
  intro B o ho r w ha hs pos ab g
  refine bu ?_ (ih B o ho _ w (an ha) hs)
  cases hb with
  | int=>exact Be (aQ ha hx) (aQ ha hy)
  | @bool a b h=>exact fun _ _=>TW (aQ ha hx) (aQ ha hy) h.h
  | @P1 a h=>exact ab5 h.h (aQ ha hx) (aQ ha hy)
  | @P2 h=>exact ab6 h.h (aQ ha hx) (aQ ha hy)
  | @s2 k0 k1 a b c e h=>
   obtain ⟨f0,f1,h1,h2,h3,h4,h5,h6,h7,h8,h9⟩:=h.h
   exact fun _ _=>Qb h1 h2 h3 h4 h5 h6 h7 h8 h9 (aQ ha hx) (aQ ha hy)
 | neq hx hy hb _ ih=>
  intro B o ho r w ha hs pos ab g
  refine bu ?_ (ih B o ho _ w (an ha) hs)
  cases hb with
  | int=>exact Bn (aQ ha hx) (aQ ha hy)
  | @bool a b h=>exact fun _ _=>Qc (aQ ha hx) (aQ ha hy) h.h
  | @P1 a h=>exact ab7 h.h (aQ ha hx) (aQ ha hy)
  | @P2 h=>exact ab8 h.h (aQ ha hx) (aQ ha hy)
  | @s2 k0 k1 a b c e h=>
   obtain ⟨f0,f1,h1,h2,h3,h4,h5,h6,h7,h8,h9⟩:=h.h
   exact fun _ _=>Qd h1 h2 h3 h4 h5 h6 h7 h8 h9 (aQ ha hx) (aQ ha hy)
 | not hx _ ih=>exact fun B o ho r w ha hs pos ab g=>bu (Nt (aQ ha hx)) (ih B o ho _ w (an ha) hs)
 | neg hx _ ih=>exact fun B o ho r w ha hs pos ab g=>bu (Ng (aQ ha hx)) (ih B o ho _ w (an ha) hs)
 | P3 hx _ ih=>exact fun B o ho r w ha hs pos ab g=>bu (Nk (aQ ha hx)) (ih B o ho _ w (an ha) hs)
 | @pick M q d c x y ty b v all l rk Γ fr m hc hx _ ih=>
  intro B o ho r w ha hs pos ab g
  refine bu ?_ (ih B o ho _ w (an ha) hs)
  intro w' _
  rw [KE (aQ ha hc)]
  cases b
  ·rw [← aQ ha hx]; rfl
  ·rw [← aQ ha hx]; rfl
 | @Vg M q d s k off x cs v ty all l rk Γ fr m hf hx hc _ ih=>
  intro B o ho r w ha hs pos ab g
  obtain ⟨fs,f,ds,h1,h2,h3,h4,h5⟩:=hf.h
  exact bu (fun _ _=>DR h1 h2 h3 h4 h5 (aQ ha hx) (by simpa using hc)) (ih B o ho _ w (an ha) hs)
 | ext hx hv _ ih=>exact fun B o ho r w ha hs pos ab g=>bu (Ex _ (aQ ha hx) (by simpa using hv)) (ih B o ho _ w (an ha) hs)
 | @U9 M q d s k off x ty a a' all l rk Γ fr m hf hx hq _ ih=>
  intro B o ho r w ha hs pos ab g
  refine bu ?_ (ih B o ho _ w (an ha) hs)
  rw [hq.eq]
  exact Fp hf.h (aQ ha hx)
 | @len M q d n x v t ty all l rk Γ fr m ht hx hr _ ih=>
  intro B o ho r w ha hs pos ab g
  obtain ⟨Z,F,hS,_⟩:=id hs
  obtain ⟨b,c,rfl⟩:=hr.sound hS
  obtain ⟨e,i,h1,_,_⟩:=ht.h
  exact bu (fun _ _=>wo h1 (aQ ha hx)) (ih B o ho _ w (an ha) hs)
 | @idx M α q d x y v k j t ty o1 o2 E xs Γ' all l rk Γ fr f ht hx hy hr hE _ ih=>
  intro B o ho r w ha hs pos ab g
  obtain ⟨z,hz,ho⟩:=bind_some ho
  replace hz:=rm hz
  obtain ⟨Z,F,hS,hG⟩:=hs
  obtain ⟨dg,_,⟨⟨n,hn,_⟩,H8⟩,sK⟩:=(hr z).sound hS
  exact bu (Ix ht.h hn hz (aQ ha hx) (aQ ha hy) hE) (ih z B o ho _ w (an ha) ⟨Z,F,sK (H8 hE j z hz.1 hz.2),hG⟩)
 | P5 hx hy _ ih=>exact fun B o ho r w ha hs pos ab g=>bu (fun _ _=>NI (aQ ha hx) (aQ ha hy)) (ih B o ho _ w (an ha) hs)
 | P6 hx hy _ ih=>exact fun B o ho r w ha hs pos ab g=>bu (fun _ _=>NJ (aQ ha hx) (aQ ha hy)) (ih B o ho _ w (an ha) hs)
 | @SP M κ υ q d x y v t ty bq ek eu xs a z0 all l rk Γ fr m ht hz hx hy hr _ ih=>
  intro B o ho r w ha hs pos ab g
  obtain ⟨Z,F,hS,_⟩:=id hs
  obtain ⟨f,hm⟩:=hr.sound hS
  obtain ⟨kt,vt,kd,h1,h2,h3⟩:=ht.h
  obtain ⟨kt',vt',i,g1,g2,g3⟩:=hz.h
  rw [h1] at g1
  cases g1
  exact bu (fun w' hC=>NK (ek:=ek) (sq:=eu) h3 h1 h2 g2 g3 (by rw [aQ ha hx]; exact ah.dp _ hm hC fun _ _=>List.not_mem_nil) (aQ ha hy)) (ih B o ho _ w (an ha) hs)
 | @Ey M α q d b n x us E xs e ty all l rk Γ Γ1 Γ2 fr m hx h0 h1 hE hn hb _ ih=>
  intro B o ho r w ha hs pos ab g
  have he:=aQ ha hx
  refine bu (v:=.slice (some ⟨b,0,none⟩) n n) (fun _ _=>by rw [← he]; rfl) (ih B o ho _ w (an ha) ?_)
  obtain ⟨Z,F,hS,hg⟩:=hs
  obtain ⟨f0,F1,hp,⟨rfl,av⟩,ep⟩:=h0.sound hS
  obtain ⟨e1,f,F2,nv,hr,ja⟩:=h1.sound ep
  have xF:=Nat.le_of_ble_eq_true hb
  refine ⟨Z,([b]++f)++F2,⟨[b]++f,F2,rfl,⟨some ⟨b,0,none⟩,n,by rw [← hn,e1],.inr ⟨b,us.toArray,f,rfl,av,rfl,by rw [← hn,e1]; exact Nat.le_refl _,Nat.le_trans xF (by decide),by rw [hE,Nat.mul_one]; simp [hn],?_⟩⟩,ja.any⟩,hg.perm (by rw [List.append_assoc]; exact (nv.append_left [b]).trans hp)⟩
  rw [hE,Nat.mul_one,List.toList_toArray,← e1,List.take_length]
  exact hr
 | @lnm M κ υ q d x v t ty bq ek eu xs all l rk Γ fr m ht hx hr _ ih=>
  intro B o ho r w ha hs pos ab g
  obtain ⟨Z,F,hS,_⟩:=id hs
  obtain ⟨f,hm⟩:=hr.sound hS
  obtain ⟨kt,vt,kd,h1,_,_⟩:=ht.h
  exact bu (fun w' hC=>TX (ek:=ek) (sq:=eu) h1 (by rw [aQ ha hx]; exact ah.dp _ hm hC fun _ _=>List.not_mem_nil)) (ih B o ho _ w (an ha) hs)
 | @Vj M q d x k k2 n s t ty all l rk Γ fr m ht hx _ ih=>
  intro B o ho r w ha hs pos ab g
  exact bu (fun _ _=>KF ht.h.1 ht.h.2 (aQ ha hx)) (ih B o ho _ w (an ha) hs)
 | @rV M q d op x y k k' a b t t' ty all l rk Γ fr f hx hy hk _ ih=>
  intro B o ho r w ha hs pos ab g
  obtain ⟨z,hz,ho⟩:=bind_some ho
  have rX:Ny op=true∨k=k':=by
   cases hk with
   | same=>exact .inr rfl
   | sh h=>exact .inl h
  exact bu (fun _ _=>NL (aQ ha hx) (aQ ha hy) rX hz) (ih z B o ho _ w (an ha) hs)
 | @cvs M q o1 o2 d x v xs s t ty all l rk Γ Γx fr m ht hx hr _ ih=>
  intro B o ho r w ha hs pos ab g
  obtain ⟨e,h1,h2,h3⟩:=ht.h
  obtain ⟨Z,F,hS,_⟩:=id hs
  obtain ⟨dg,_,⟨⟨f0,Dq,_⟩,_⟩,_⟩:=hr.sound hS
  exact bu (fun w' hC=>Qe h1 h2 h3 (by rw [aQ ha hx]; exact ah.dp _ Dq hC fun _ _=>List.not_mem_nil)) (ih B o ho _ w (an ha) hs)
 | @mkm M κ υ d t ty bq ek eu all l rk Γ fr m ht _ ih=>
  intro B o ho r w ha hs pos ab g
  exact dj (WL.val rfl LD (ih _ B o ho _ _ (an ha) (hs.new (f':=[w.heap.size]) (ak.alloc _ _ _) (fun _=>⟨w.heap.size,#[],0,rfl,rfl,(MapKept.heap_alloc w _).1,rfl⟩) (by simp) (vN (Nat.le_refl _)))))
 | @mpu M κ υ x y z v t ty bq ek eu xs a b all l rk Γ Γ1 fr m ht hx hy hz h1 _ ih=>
  intro B o ho r w ha hs pos ab g
  obtain ⟨kt,vt,kd,q1,q2,q3⟩:=ht.h
  obtain ⟨Z,F,hS,hg⟩:=hs
  obtain ⟨n,F1,hp,hO,ep⟩:=h1.sound hS
  obtain ⟨i,es,ck,rfl,e1,e2⟩:=NM (P:=P) (d:=none) (ty:=ty) (pos:=pos) (ab:=ab) (g:=none) (ek:=ek) (sq:=eu) (a:=a) (b:=b) (x:=x) (k:=y) (v:=z) (r:=r) q3 q1 q2 (by rw [aQ ha hx]; exact hO) (aQ ha hy) (aQ ha hz)
  rw [aQ ha hx] at e2
  exact dj (WL.skip rfl e1 (ih B o ho _ _ ha (St.put (f:=[i]) (f':=[i]) ep (hg.perm hp) (ak.setObj _ _ _) e2 (by simp) fun b hb=>.inl hb)))
 | @P4 M q d n k x v t ty all l rk Γ fr m ht hx hr _ ih=>
  intro B o ho r w ha hs pos ab g
  obtain ⟨Z,F,hS,_⟩:=id hs
  obtain ⟨e,i,h1,_,_⟩:=ht.h
  obtain ⟨b,c,hv⟩:=hr.sound hS
  exact bu (v:=.int .i64 (n:Int)) (fun _ _=>wo h1 ((aQ ha hx).trans hv)) (ih B o ho _ w (an ha) hs)
 | @qe M α V q d n x y v k j t ty S cl en xs all l rk Γ Γx fr f ht hx hy hr qn hn _ ih=>
  intro B o ho r w ha hs pos ab g
  replace qn:SO S V cl en:=by cases qn; assumption
  obtain ⟨z,hz,ho⟩:=bind_some ho
  replace hz:=rm hz
  obtain ⟨e,i,h1,h2,h3⟩:=ht.h
  obtain ⟨Z,F,hS,hG⟩:=hs
  obtain ⟨dg,_,⟨⟨f0,Dq,tH⟩,_⟩,_⟩:=hr.sound hS
  have hZ:∀ b∈f0,Z b:=fun b hb=>(tH b hb).elim id id
  obtain ⟨⟨a,c,hv⟩,bb,cs,f1,c9,NN,ik⟩:=tv Dq j hz.1 hz.2
  have mh:(sg S).size=n:=hn
  rw [mh] at ik
  obtain ⟨u,rfl,rY⟩:=qn.op c9.2
  have hblk:Z (cn v n j).block:=by
   obtain ⟨base,cap,kh,eh⟩:=Dq
   rcases eh with ⟨rfl,_⟩ | ⟨b,off,cr,e',fz,f',rfl,_,rfl,_⟩
   ·simp at bb; omega
   ·obtain rfl:v = .slice (some ⟨b,off,none⟩) xs.length cap:=by simpa using kh
    have:(cn (.slice (some ⟨b,off,none⟩) xs.length cap) n j).block=b:=by unfold cn; rw [wi]
    rw [this]; exact hZ b (by simp)
  have H9:fact Z w [] (.au (cn v n j) (cl z u)):=⟨fun i u' hi=>ik i u' hi,fun _=>hblk⟩
  have fk:HL Z w (.au (cn v n j) (cl z u) :: en z u) []:=.fact H9 (vM (rY Z fun b hb=>hZ b (NN b hb)))
  obtain ⟨F',hp,ja⟩:=fk.build hS
  refine bu (v:=.pointer (some (cn v n j))) (fun w' hC=>?_) (ih z u B o ho _ w (an ha) ⟨Z,F',ja,hG.perm (by simpa using hp)⟩)
  rw [ni h1 h2 ((aQ ha hx).trans hv) (aQ ha hy) hz.1 (by omega),h3,hv]
  rfl
 | @load M q d x a t ty lk all l rk Γ fr m ht hx _ ih=>exact fun B o ho r w ha hs pos ab g=>ih ht.h hx B o ho r w ha hs _ _ _ _
 | @Va M α q d x v j ty o E z Γx all l rk Γ fr m h _ ih=>
  intro ht hx B o ho r w ha hs t pos ab g
  obtain ⟨Z,F,hS,_⟩:=id hs
  obtain ⟨_,⟨u,k,h1,h2,_⟩,_⟩:=h.sound hS
  exact ih ht hx B o ho r w ha hs ⟨u,k,h1,h2⟩ _ _ _ _
 | Vb h _ ih=>
  intro ht hx B o ho r w ha hs t pos ab g
  obtain ⟨Z,F,hS,_⟩:=id hs
  exact bu (Ld ht (h.sound hS) (aQ ha hx)) (ih B o ho _ w (an ha) hs)
 | Vc _ ih=>
  intro ht hx B o ho r w ha hs hu t pos ab g
  obtain ⟨u,k,h1,h2,_⟩:=hu
  obtain rfl:u=_:=by simpa using h2
  exact bu (Ld ht h1 (aQ ha hx)) (ih B o ho _ w (an ha) hs)
 | Vd _ ih=>
  intro ht hx B o ho r w ha hs hu t pos ab g
  obtain ⟨u,k,h1,h2,_⟩:=hu
  obtain rfl:u=_:=by simpa using h2
  exact bu (Ld ht h1 (aQ ha hx)) (ih B o ho _ w (an ha) hs)
 | @Ve M α q o' d x v j E z ty all l rk Γ Γ1 Γ' fr m h h2 _ ih=>
  intro ht hx B o ho r w ha hs hu t pos ab g
  obtain ⟨u,k,h1,NO⟩:=hu
  obtain ⟨Z,F,hS,hG⟩:=hs
  obtain ⟨dg,⟨u',k',h3,h4,h5⟩,sK⟩:=(h u).sound hS
  rw [h1] at h3
  cases h3
  exact bu (Ld ht h1 (aQ ha hx)) (ih u B o ho _ w (an ha) ⟨Z,F,(h2 u).sound h1 (sK ⟨k',h4,h5⟩),hG⟩)
 | @ldp M α V q d x a S cl en z ty all l rk Γ Γx fr m qn h _ ih=>
  intro ht hx B o ho r w ha hs hu t pos ab g
  obtain ⟨u,k,h1,_⟩:=hu
  obtain ⟨Z,F,hS,hG⟩:=hs
  obtain ⟨dg,⟨u',k',h3,⟨p,lf,g',e1,bb,nw,c9,rfl⟩,h5⟩,_⟩:=h.sound hS
  rw [h1] at h3
  cases h3
  obtain rfl:u = .pointer (some p):=by simpa using e1
  obtain ⟨v,rfl,hf⟩:=qn.op c9
  have hz:∀ b∈p.block :: g',Z b:=fun b hb=>h5 b hb
  have H9:fact Z w [] (.au p (cl z v)):=⟨fun j u hj=>nw j u hj,fun _=>hz _ (by simp)⟩
  have fk:HL Z w (.au p (cl z v) :: en z v) []:=.fact H9 (vM (hf Z fun b hb=>hz b (by simp [hb])))
  obtain ⟨F',hp,ja⟩:=fk.build hS
  exact bu (Ld ht h1 (aQ ha hx)) (ih p v B o ho _ w (an ha) ⟨Z,F',ja,hG.perm (by simpa using hp)⟩)
 | NB h _ ih=>
  intro ht hx B o ho r w ha hs t pos ab g
  obtain ⟨Z,F,hS,_⟩:=id hs
  obtain ⟨h1,h2⟩:=h.sound hS
  exact bu (Lg ht h1 (aQ ha hx) h2) (ih B o ho _ w (an ha) hs)
 | @SN M q d t ty ps zc cs pl all l rk Γ fr m hb hf _ ih=>
  intro B o ho r w ha hs pos ab g
  obtain ⟨Z,F,hS,_⟩:=id hs
  obtain ⟨fs,i,z,h1,h2,h3,h4,h5⟩:=hb.h
  refine bu (Bu ?_) (ih B o ho _ w (an ha) hs)
  have:=hf.fill ha hS
  unfold Program.built
  rw [h3,h1]
  simp only [h4,h2]
  rw [show z.cells=zc.toArray by rw [← h5]]
  exact this
 | @box M d x t ty v cs all l rk Γ fr m hx hc _ ih=>
  intro B o ho r w ha hs pos ab g
  obtain ⟨Z,F,hS,_⟩:=id hs
  refine dj (WL.box fun b w' hC av hb=>ih b B o ho _ w' (an ha) (hs.new (f':=[b]) hC (fun _=>⟨rfl,?_⟩) (by simp) (vN hb)))
  rw [aQ ha hx,hc.eq hS] at av
  exact av
 | @alloc M d t ty cs all l rk Γ fr m hz _ ih=>
  intro B o ho r w ha hs pos ab g
  obtain ⟨i,z,h1,h2,h3⟩:=hz.h
  refine dj (WL.alloc h1 h2 fun b w' hC av hb=>ih b B o ho _ w' (an ha) (hs.new (f':=[b]) hC (fun _=>⟨rfl,?_⟩) (by simp) (vN hb)))
  rw [h3] at av
  exact av
 | @H5 M α d t e ty E z0 bt all l rk Γ fr m hz _ ih=>
  intro B o ho r w ha hs pos ab g
  obtain ⟨h1,_,i,z,h2,_⟩:=hz.h
  exact dj (WL.H5 E h1 h2 fun v w' f hC hO=>ih v B o ho _ w' (an ha) (hs.new hC (fun _=>hO.1) hO.2.1 hO.fresh))
 | @ab3 M d n ps us t e ty all l rk Γ fr m hz hl hn hb _ ih=>
  intro B o ho r w ha hs pos ab g
  obtain ⟨Z,F,hS,_⟩:=id hs
  exact dj (WL.val rfl (hl.op ha hS hz hn hb) (ih w.heap.size B o ho _ _ (an ha) (hs.new (f':=[w.heap.size]) (ak.alloc _ _ _) (fun _=>⟨rfl,heap_alloc_new w _⟩) (by simp) (vN (Nat.le_refl _)))))
 | @ab4 M d n ps us t e ty all l rk Γ fr m hz hl hn hb _ ih=>
  intro B o ho r w ha hs pos ab g
  obtain ⟨Z,F,hS,_⟩:=id hs
  exact dj (WL.val rfl (hl.op ha hS ⟨hz.h⟩ hn hb) (ih w.heap.size B o ho _ _ (an ha) (hs.new (f':=[w.heap.size]) (ak.alloc _ _ _) (fun _=>⟨rfl,heap_alloc_new w _⟩) (by simp) (vN (Nat.le_refl _)))))
 | @lits M d n k ps us t e ty all l rk Γ fr m hz hl hn hb _ ih=>
  intro B o ho r w ha hs pos ab g
  obtain ⟨Z,F,hS,_⟩:=id hs
  exact dj (WL.val rfl (hl.op ha hS hz hn hb) (ih w.heap.size B o ho _ _ (an ha) (hs.new (f':=[w.heap.size]) (ak.alloc _ _ _) (fun _=>⟨rfl,heap_alloc_new w _⟩) (by simp) (vN (Nat.le_refl _)))))
 | @Ge M α d x u t e ty E z0 bt all l rk Γ fr m hz hx hu _ ih=>
  intro B o ho r w ha hs pos ab g
  obtain ⟨h1,_,i,z,h2,h3,h4,_⟩:=hz.h
  obtain ⟨Z,F,hS,_⟩:=id hs
  have he:=aQ ha hx
  refine dj (WL.Ge h1 h2 h3 h4 (by rw [he]; exact hu.one hS) fun b w' hC av hb=>ih b B o ho _ w' (an ha) (hs.new (f':=[b]) hC (fun _=>⟨rfl,?_⟩) (by simp) (vN hb)))
  rw [he] at av
  exact av
 | @LC M α d y a t e ty E z0 bt all l rk Γ fr f hz hy _ ih=>
  intro B o ho r w ha hs pos ab g
  obtain ⟨n,hn,Vq⟩:=bind_some ho
  obtain ⟨e1,e2,e3⟩:=Gf hn
  obtain ⟨h1,hE,i,z,h2,h3,h4,h5,h6,h7⟩:=hz.h
  subst e1
  exact dj (WL.LC E h1 h2 h3 (by rw [h4,hE]) rfl (aQ ha hy) (by rw [h6]; exact e2) e3 fun v w' f hC hO=>ih n v B o Vq _ w' (an ha) (hs.new hC (fun _=>hO.1) hO.2.1 hO.fresh))
 | @make M α d x a t e ty E z0 bt all l rk Γ fr f hz hx _ ih=>
  intro B o ho r w ha hs pos ab g
  obtain ⟨n,hn,Vq⟩:=bind_some ho
  obtain ⟨e1,e2,e3⟩:=Gf hn
  obtain ⟨h1,hE,i,z,h2,h3,h4,h5,h6,h7⟩:=hz.h
  subst e1
  exact dj (WL.make E h1 h2 h3 h4 hE h5 h7 (aQ ha hx) (aQ ha hx) (by rw [h6]; exact e2) e3 fun v w' f hC hO=>ih n v B o Vq _ w' (an ha) (hs.new hC (fun _=>hO.1) hO.2.1 hO.fresh))
 | @app M α d s x sv xv t e ty E z0 bt all l rk Γ fr m hz b9 hx _ ih=>
  obtain ⟨h1,hE,i,z,h2,h3,h4,h5,h6,h7⟩:=hz.h
  exact ih ⟨h1,hE,i,z,h2,h3,h4,h5,h6⟩ b9 hx
 | ax1 hc _ ih=>exact fun h1 hs hx=>ih h1 hs hx
 | @axi M d k s x sv yv o1 o2 t e ty xs ys bt all l rk Γ Γ1 Γx fr f h1 h2 _ ih=>
  intro hT b9 hx B o ho r w ha hs pos ab g
  obtain ⟨u,hu,ho⟩:=bind_some ho
  obtain ⟨b1,b2⟩:=ie hu
  obtain ⟨q1,q2,i,z,q3,q4,q5,q6,q7⟩:=hT
  obtain ⟨Z,F,hS,hg⟩:=hs
  obtain ⟨n,F1,hp,hO,ep⟩:=h1.sound hS
  have fw:=hg.perm hp
  have cp:=List.nodup_append.1 fw.nd
  obtain ⟨dg,Qf,⟨⟨kk,hk,Dr⟩,_⟩,_⟩:=h2.sound ep
  have hd:rZ kk n:=fun b hb hm=>(Dr b hb).elim (fun h=>by
   cases o1
   ·exact fw.apart b (List.mem_append_left _ hm) h
   ·exact cp.2.2 b hm b ((Qf b h).resolve_left (by simp)) rfl) (fun h=>by
   cases o2
   ·exact fw.apart b (List.mem_append_left _ hm) h
   ·exact cp.2.2 b hm b ((Qf b h).resolve_left (by simp)) rfl)
  refine dj (WL.uF (E:=aN k) n w.heap.size uG q1 q3 q4 q5 rfl q6 (aQ ha b9) ⟨hO,cp.1,fun b hb=>.inl hb⟩ (aQ ha hx) hk (by rw [q7]; exact b1) b2 (Nat.le_refl _) fun v w' f' hC lu bp=>ih v B o ho _ w' (an ha) (St.put ep fw hC lu.1 lu.2.1 fun b hb=>(bp b hb).elim .inl fun h=>h.elim (fun h=>absurd h List.not_mem_nil) .inr))
 | @axb M d s x sv yv o1 o2 t e ty xs ys bt all l rk Γ Γ1 Γx fr f h1 h2 _ ih=>
  intro hT b9 hx B o ho r w ha hs pos ab g
  obtain ⟨u,hu,ho⟩:=bind_some ho
  obtain ⟨b1,b2⟩:=ie hu
  obtain ⟨q1,q2,i,z,q3,q4,q5,q6,q7⟩:=hT
  obtain ⟨Z,F,hS,hg⟩:=hs
  obtain ⟨n,F1,hp,hO,ep⟩:=h1.sound hS
  have fw:=hg.perm hp
  have cp:=List.nodup_append.1 fw.nd
  obtain ⟨dg,Qf,⟨⟨kk,hk,Dr⟩,_⟩,_⟩:=h2.sound ep
  refine dj (WL.uF (E:=jc) n w.heap.size As q1 q3 q4 q5 rfl q6 (aQ ha b9) ⟨hO,cp.1,fun b hb=>.inl hb⟩ (aQ ha hx) hk (by rw [q7]; exact b1) b2 (Nat.le_refl _) fun v w' f' hC lu bp=>ih v B o ho _ w' (an ha) (St.put ep fw hC lu.1 lu.2.1 fun b hb=>(bp b hb).elim .inl fun h=>h.elim (fun h=>absurd h List.not_mem_nil) .inr))
 | @api M d b k y s x sv t e et ty xs bt all l rk Γ Γ1 Γ2 fr f h0 h1 _ ih=>
  intro hT b9 hx B o ho r w ha hs pos ab g
  obtain ⟨u,hu,ho⟩:=bind_some ho
  obtain ⟨b1,b2⟩:=ie hu
  obtain ⟨q1,q2,i,z,q3,q4,q5,q6,q7⟩:=hT
  obtain ⟨Z,F,hS,hg⟩:=hs
  obtain ⟨n0,F0,r3,⟨rfl,av⟩,sL⟩:=h0.sound hS
  obtain ⟨n,F1,hp,hO,ep⟩:=h1.sound sL
  have fw:Gd B Z (n++F1) w:=Gd.left (F':=[b]) (hg.perm ((List.perm_append_comm.trans (hp.append_left [b])).trans r3))
  have cp:=List.nodup_append.1 fw.nd
  refine dj (WL.tw (E:=aN k) (k:=[]) n w.heap.size q1 q3 q4 q5 rfl q6 (aQ ha b9) ⟨hO,cp.1,fun b hb=>.inl hb⟩ (aQ ha hx) av ⟨rfl,rfl⟩ List.nodup_nil (fun _ h=>absurd h List.not_mem_nil) (fun _ h=>absurd h List.not_mem_nil) (by rw [q7]; exact b1) b2 (Nat.le_refl _) fun v w' f' hC lu bp=>ih v B o ho _ w' (an ha) (St.put ep fw hC lu.1 lu.2.1 fun b hb=>(bp b hb).elim .inl fun h=>h.elim (fun h=>absurd h List.not_mem_nil) .inr))
 | @apb M d b y s x sv t e et ty xs bt all l rk Γ Γ1 Γ2 fr f h0 h1 _ ih=>
  intro hT b9 hx B o ho r w ha hs pos ab g
  obtain ⟨u,hu,ho⟩:=bind_some ho
  obtain ⟨b1,b2⟩:=ie hu
  obtain ⟨q1,q2,i,z,q3,q4,q5,q6,q7⟩:=hT
  obtain ⟨Z,F,hS,hg⟩:=hs
  obtain ⟨n0,F0,r3,⟨rfl,av⟩,sL⟩:=h0.sound hS
  obtain ⟨n,F1,hp,hO,ep⟩:=h1.sound sL
  have fw:Gd B Z (n++F1) w:=Gd.left (F':=[b]) (hg.perm ((List.perm_append_comm.trans (hp.append_left [b])).trans r3))
  have cp:=List.nodup_append.1 fw.nd
  refine dj (WL.tw (E:=jc) (k:=[]) n w.heap.size q1 q3 q4 q5 rfl q6 (aQ ha b9) ⟨hO,cp.1,fun b hb=>.inl hb⟩ (aQ ha hx) av ⟨rfl,rfl⟩ List.nodup_nil (fun _ h=>absurd h List.not_mem_nil) (fun _ h=>absurd h List.not_mem_nil) (by rw [q7]; exact b1) b2 (Nat.le_refl _) fun v w' f' hC lu bp=>ih v B o ho _ w' (an ha) (St.put ep fw hC lu.1 lu.2.1 fun b hb=>(bp b hb).elim .inl fun h=>h.elim (fun h=>absurd h List.not_mem_nil) .inr))
 | Vh hk _ ih=>exact ih
 | @apo M α d b s x sv u y xs t e e' et ty E bt all l rk Γ Γ1 Γ2 Γ3 fr f h0 h1 h2 _ ih=>
  intro hT b9 hx B o ho r w ha hs pos ab g
  obtain ⟨_,hu,ho⟩:=bind_some ho
  obtain ⟨b1,b2⟩:=ie hu
  obtain ⟨q1,q2,i,z,q3,q4,q5,q6,q7⟩:=hT
  obtain ⟨Z,F,hS,hg⟩:=hs
  obtain ⟨n0,F0,r3,⟨rfl,av⟩,sL⟩:=h0.sound hS
  obtain ⟨k,F1,n9,hK,ep⟩:=h1.sound sL
  obtain ⟨n,F2,nv,hO,ja⟩:=h2.sound ep
  have uH:((n++k)++F2++[b]).Perm F:=by
   refine List.perm_append_comm.trans (.trans (List.Perm.append_left [b] ?_) r3)
   refine .trans ?_ n9
   refine .trans ?_ (nv.append_left k)
   rw [← List.append_assoc k n F2]
   exact List.perm_append_comm.append_right F2
  have fw:Gd B Z ((n++k)++F2) w:=Gd.left (hg.perm uH)
  have cp:=List.nodup_append.1 fw.nd
  have xH:=List.nodup_append.1 cp.1
  have EB:fact Z w [] (.rd false SG u y.length):=by
   obtain ⟨base,cap,hv,_⟩:=hK
   obtain rfl:u = .slice base y.length cap:=by simpa using hv
   exact ⟨[],⟨⟨_,_,rfl⟩,rfl⟩,fun b hb=>absurd hb List.not_mem_nil⟩
  refine dj (WL.tw (E:=aJ e' E) (k:=k) (n++k) w.heap.size q1 q3 q4 q5 q2 q6 (aQ ha b9) ⟨hO,xH.1,fun b hb=>.inl (List.mem_append_left _ hb)⟩ (aQ ha hx) av hK xH.2.1 (fun _ h=>.inl (List.mem_append_right _ h)) (fun b hb hm=>xH.2.2 b hm b hb rfl) (by rw [q7]; exact b1) b2 (Nat.le_refl _) fun v w' f' hC lu bp=>ih v B o ho _ w' (an ha) (St.put (ja.fact (e:=.rd false SG u y.length) EB) fw (hC.mono fun b hb=>List.mem_append_left _ hb) lu.1 lu.2.1 fun b hb=>(bp b hb).elim (fun h=>.inl (List.mem_append_left _ h)) fun h=>h.elim (fun h=>.inl (List.mem_append_right _ h)) .inr))
 | @ldn M α q o' d x v j Q T z ty all l rk Γ Γ1 Γ' fr m h h2 _ ih=>
  intro ht hx B o ho r w ha hs hu t pos ab g
  obtain ⟨u,k,h1,NO⟩:=hu
  obtain ⟨Z,F,hS,hG⟩:=hs
  obtain ⟨dg,⟨u',k',h3,h4,h5⟩,sK⟩:=(h u).sound hS
  rw [h1] at h3
  cases h3
  exact bu (Ld ht h1 (aQ ha hx)) (ih u B o ho _ w (an ha) ⟨Z,F,(h2 u).sound h1 (sK ⟨k',h4,h5⟩),hG⟩)
 | @apn M α d b s x sv u y xs t e e' et ty E Q T bt all l rk Γ Γ1 Γ2 fr f h0 h1 h2 _ ih=>
  intro hT b9 hx B o ho r w ha hs pos ab g
  obtain ⟨_,hu,ho⟩:=bind_some ho
  obtain ⟨b1,b2⟩:=ie hu
  obtain ⟨q1,q2,i,z,q3,q4,q5,q6,q7⟩:=hT
  obtain ⟨Z,F,hS,hg⟩:=hs
  obtain ⟨n0,F0,r3,⟨rfl,av⟩,sL⟩:=h0.sound hS
  obtain ⟨k,hk,zQ⟩:=h1.rd sL []
  obtain ⟨n,F1,hp,⟨us,gg,hO,hr,n7,BH⟩,ep⟩:=h2.sound sL
  have fw:Gd B Z (n++F1) w:=Gd.left (F':=[b]) (hg.perm ((List.perm_append_comm.trans (hp.append_left [b])).trans r3))
  have cp:=List.nodup_append.1 fw.nd
  have u4:∀ b∈k,Z b:=fun b hb=>zQ b hb
  have yS:∀ b∈n,¬ Z b:=fun b hb=>fw.apart b (List.mem_append_left _ hb)
  refine dj (Ia.tw (E:=so Q T) (G:=n) (B:=w.heap.size) (g:=gg) (k:=k) q1 q3 q4 q5 q6 (aQ ha b9) ⟨us,⟨hO,cp.1,fun b hb=>.inl hb⟩,hr,BH⟩ (aQ ha hx) av hk (fun b hb hm=>yS b hm (u4 b hb)) (fun b hb hm=>yS b hm (n7 b hb)) (by rw [q7]; exact b1) b2 (Nat.le_refl _) fun v w' f' hC lu bp=>?_)
  obtain ⟨EC,bm,eh,Au⟩:=lu
  exact ih v B o ho _ w' (an ha) (St.put ep fw hC ⟨EC,_,bm.1,eh,(fun b hb=>(List.mem_append.1 hb).elim (n7 b) (u4 b)),Au⟩ bm.2.1 fun b hb=>(bp b hb).elim .inl fun h=>h.elim (fun h=>absurd h List.not_mem_nil) .inr)
 | @apm M α d b s x sv u y xs t e e' et ty E E1 bt all l rk Γ Γ1 Γ2 Γx fr f h0 h1 h2 _ ih=>
  intro hT b9 hx B o ho r w ha hs pos ab g
  obtain ⟨_,hu,ho⟩:=bind_some ho
  obtain ⟨b1,b2⟩:=ie hu
  obtain ⟨q1,q2,i,z,q3,q4,q5,q6,q7⟩:=hT
  obtain ⟨Z,F,hS,hg⟩:=hs
  obtain ⟨n0,F0,r3,⟨rfl,av⟩,sL⟩:=h0.sound hS
  obtain ⟨dg,_,⟨⟨k,hk,zQ⟩,_⟩,_⟩:=h1.sound sL
  obtain ⟨n,F1,hp,⟨us,gg,hO,hr,n7,BH⟩,ep⟩:=h2.sound sL
  have fw:Gd B Z (n++F1) w:=Gd.left (F':=[b]) (hg.perm ((List.perm_append_comm.trans (hp.append_left [b])).trans r3))
  have cp:=List.nodup_append.1 fw.nd
  have u4:∀ b∈k,Z b:=fun b hb=>(zQ b hb).elim id id
  have yS:∀ b∈n,¬ Z b:=fun b hb=>fw.apart b (List.mem_append_left _ hb)
  refine dj (Ia.tw (E:=aV E1) (G:=n) (B:=w.heap.size) (g:=gg) (k:=k) q1 q3 q4 q5 q6 (aQ ha b9) ⟨us,⟨hO,cp.1,fun b hb=>.inl hb⟩,hr,BH⟩ (aQ ha hx) av hk (fun b hb hm=>yS b hm (u4 b hb)) (fun b hb hm=>yS b hm (n7 b hb)) (by rw [q7]; exact b1) b2 (Nat.le_refl _) fun v w' f' hC lu bp=>?_)
  obtain ⟨EC,bm,eh,Au⟩:=lu
  exact ih v B o ho _ w' (an ha) (St.put ep fw hC ⟨EC,_,bm.1,eh,(fun b hb=>(List.mem_append.1 hb).elim (n7 b) (u4 b)),Au⟩ bm.2.1 fun b hb=>(bp b hb).elim .inl fun h=>h.elim (fun h=>absurd h List.not_mem_nil) .inr)
 | @axm M α d s x sv yv xs ys t e e' ty E E1 bt all l rk Γ Γ1 Γx fr f h2 h1 _ ih=>
  intro hT b9 hx B o ho r w ha hs pos ab g
  obtain ⟨_,hu,ho⟩:=bind_some ho
  obtain ⟨b1,b2⟩:=ie hu
  obtain ⟨q1,q2,i,z,q3,q4,q5,q6,q7⟩:=hT
  obtain ⟨Z,F,hS,hg⟩:=hs
  obtain ⟨dg,_,⟨⟨k,hk,zQ⟩,_⟩,_⟩:=h2.sound hS
  obtain ⟨n,F1,hp,⟨us,gg,hO,hr,n7,BH⟩,ep⟩:=h1.sound hS
  have fw:=hg.perm hp
  have cp:=List.nodup_append.1 fw.nd
  have u4:∀ b∈k,Z b:=fun b hb=>(zQ b hb).elim id id
  have yS:∀ b∈n,¬ Z b:=fun b hb=>fw.apart b (List.mem_append_left _ hb)
  refine dj (Ia.uF (E:=aV E1) (G:=n) (B:=w.heap.size) (g:=gg) (k:=k) q1 q3 q4 q5 q6 (aQ ha b9) ⟨us,⟨hO,cp.1,fun b hb=>.inl hb⟩,hr,BH⟩ (aQ ha hx) hk (fun b hb hm=>yS b hm (u4 b hb)) (fun b hb hm=>yS b hm (n7 b hb)) (by rw [q7]; exact b1) b2 (Nat.le_refl _) fun v w' f' g' hC lu bp gq=>?_)
  obtain ⟨EC,bm,eh,Au⟩:=lu
  exact ih v B o ho _ w' (an ha) (St.put ep fw hC ⟨EC,_,bm.1,eh,(fun b hb=>(gq b hb).elim (n7 b) (u4 b)),Au⟩ bm.2.1 fun b hb=>(bp b hb).elim .inl fun h=>h.elim (fun h=>absurd h List.not_mem_nil) .inr)
 | @Vi M x y a u t ty n all l rk Γ fr m ht hx hy _ ih=>exact ih ht.h hx hy
 | @stn M x y b j n us cs ds t e ty all l rk Γ Γ1 fr m h0 h1 h2 h3 _ ih=>
  intro hT hx hy B o ho r w ha hs pos ab g
  obtain ⟨i,hi,me⟩:=hT
  obtain ⟨Z,F,hS,hg⟩:=hs
  obtain ⟨n0,F0,r3,⟨rfl,av⟩,sL⟩:=h0.sound hS
  obtain ⟨e1,e2⟩:=h1.eq
  refine dj (WL.Qh hi (by rw [h3,me]) av e1 (aQ ha hx) (aQ ha hy) (h2.one hS) fun w' hC lz=>ih B o ho _ w' ha (St.put (f:=[b]) (f':=[b]) sL (hg.perm r3) hC ⟨rfl,by rw [e2]; exact lz⟩ (by simp) fun b hb=>.inl hb))
 | @st1 M x y b j u cs ds t e ty all l rk Γ Γ1 fr m h0 h1 h2 _ ih=>
  intro hT hx hy B o ho r w ha hs pos ab g
  obtain ⟨i,hi,me⟩:=hT
  obtain ⟨Z,F,hS,hg⟩:=hs
  obtain ⟨n0,F0,r3,⟨rfl,av⟩,sL⟩:=h0.sound hS
  obtain ⟨e1,e2⟩:=h1.eq
  have e3:cs.set j u=ds:=by rw [e2,List.set_eq_take_append_cons_drop,if_pos (by simp at e1; omega)]; simp
  refine dj (WL.DS hi me av (by simp at e1; omega) (aQ ha hx) (aQ ha hy) (h2.one hS) fun w' hC lz=>ih B o ho _ w' ha (St.put (f:=[b]) (f':=[b]) sL (hg.perm r3) hC ⟨rfl,by rw [← e3]; exact lz⟩ (by simp) fun b hb=>.inl hb))
 | stl hl _ ih=>exact fun hT hx hy=>ih hT hx hy hl
 | @sti M x y v j z k xs t e ty all l rk Γ Γ1 fr m h0 h1 _ ih=>
  intro hT hx hy _ B o ho r w ha hs pos ab g
  obtain ⟨i,hi,me⟩:=hT
  obtain ⟨Z,F,hS,hg⟩:=hs
  obtain ⟨j0,j1⟩:=h0.sound hS
  obtain ⟨n,F1,hp,hO,ep⟩:=h1.sound hS
  have fw:=hg.perm hp
  have cp:=List.nodup_append.1 fw.nd
  rw [o7 hO] at j1
  exact dj (WL.CP (E:=aN k) n w.heap.size uG rfl hi me ⟨hO,cp.1,fun b hb=>.inl hb⟩ (List.getElem?_eq_getElem j1) (aQ ha hx) (aQ ha hy) ⟨rfl,rfl⟩ fun w' hC lu=>ih B o ho _ w' ha (St.put ep fw hC lu.1 lu.2.1 fun b hb=>.inl hb))
 | @stb M x y v j z xs t e ty all l rk Γ Γ1 fr m h0 h1 _ ih=>
  intro hT hx hy _ B o ho r w ha hs pos ab g
  obtain ⟨i,hi,me⟩:=hT
  obtain ⟨Z,F,hS,hg⟩:=hs
  obtain ⟨j0,j1⟩:=h0.sound hS
  obtain ⟨n,F1,hp,hO,ep⟩:=h1.sound hS
  have fw:=hg.perm hp
  have cp:=List.nodup_append.1 fw.nd
  rw [o7 hO] at j1
  exact dj (WL.CP (E:=jc) n w.heap.size As rfl hi me ⟨hO,cp.1,fun b hb=>.inl hb⟩ (List.getElem?_eq_getElem j1) (aQ ha hx) (aQ ha hy) ⟨rfl,rfl⟩ fun w' hC lu=>ih B o ho _ w' ha (St.put ep fw hC lu.1 lu.2.1 fun b hb=>.inl hb))
 | @sri M x y v v' j j' z k zs xs t e e' ty o1 o2 all l rk Γ Γ1 Γx fr m h0 h1 h2 _ ih=>
  intro hT hx hy hl B o ho r w ha hs pos ab g
  obtain ⟨i,hi,me⟩:=hT
  exact GQ (E:=aN k) uG rfl hi me hs hl h0 h1 .i h2 (aQ ha hx) (aQ ha hy) ⟨rfl,rfl⟩ fun w' h=>ih B o ho _ w' ha h
 | @srb M x y v v' j j' z zs xs t e e' ty o1 o2 all l rk Γ Γ1 Γx fr m h0 h1 h2 _ ih=>
  intro hT hx hy hl B o ho r w ha hs pos ab g
  obtain ⟨i,hi,me⟩:=hT
  exact GQ (E:=jc) As rfl hi me hs hl h0 h1 .b h2 (aQ ha hx) (aQ ha hy) ⟨rfl,rfl⟩ fun w' h=>ih B o ho _ w' ha h
 | @stm M α x y v u j z xs E t e ty all l rk Γ Γ1 Γx fr m h0 h1 h2 _ ih=>
  intro hT hx hy _ B o ho r w ha hs pos ab g
  obtain ⟨i,hi,me⟩:=hT
  obtain ⟨Z,F,hS,hg⟩:=hs
  obtain ⟨j0,j1⟩:=h0.sound hS
  obtain ⟨dg,_,⟨⟨k,hk,zQ⟩,_⟩,_⟩:=h1.sound hS
  obtain ⟨n,F1,hp,⟨us,gg,hO,hr,n7,BH⟩,ep⟩:=h2.sound hS
  have fw:=hg.perm hp
  have cp:=List.nodup_append.1 fw.nd
  have u4:∀ b∈k,Z b:=fun b hb=>(zQ b hb).elim id id
  have yS:∀ b∈n,¬ Z b:=fun b hb=>fw.apart b (List.mem_append_left _ hb)
  have hl:us.length=xs.length:=by have:=jq hr; rw [BH,Nat.mul_one] at this; exact this
  have wj:vG v=us.length:=o7 hO
  rw [wj,hl] at j1
  refine dj (Ia.store (E:=aV E) (G:=n) (B:=w.heap.size) (g:=gg) (k:=k) hi me ⟨us,⟨hO,cp.1,fun b hb=>.inl hb⟩,hr,BH⟩ (List.getElem?_eq_getElem j1) (aQ ha hx) (aQ ha hy) hk (fun b hb hm=>yS b hm (u4 b hb)) (fun b hb hm=>yS b hm (n7 b hb)) fun w' g' hC lu gq=>?_)
  obtain ⟨EC,bm,eh,Au⟩:=lu
  exact ih B o ho _ w' ha (St.put ep fw hC ⟨EC,_,bm.1,eh,(fun b hb=>(gq b hb).elim (n7 b) (u4 b)),Au⟩ bm.2.1 fun b hb=>.inl hb)
 | @stw M α x y v u j z xs E t e e' ty all l rk Γ Γ1 Γ2 fr m h0 h1 h2 _ ih=>
  intro hT hx hy _ B o ho r w ha hs pos ab g
  obtain ⟨i,hi,me⟩:=hT
  obtain ⟨Z,F,hS,hg⟩:=hs
  obtain ⟨j0,j1⟩:=h0.sound hS
  obtain ⟨k,F1,n9,hK,ep⟩:=h1.sound hS
  obtain ⟨n,F2,nv,hO,ja⟩:=h2.sound ep
  have uH:((n++k)++F2).Perm F:=by
   refine .trans ?_ n9
   refine .trans ?_ (nv.append_left k)
   rw [← List.append_assoc k n F2]
   exact List.perm_append_comm.append_right F2
  have fw:Gd B Z ((n++k)++F2) w:=hg.perm uH
  have cp:=List.nodup_append.1 fw.nd
  have xH:=List.nodup_append.1 cp.1
  rw [o7 hO] at j1
  exact dj (WL.Qi (E:=aJ e' E) (k:=k) (n++k) w.heap.size rfl hi me ⟨hO,xH.1,fun b hb=>.inl (List.mem_append_left _ hb)⟩ (List.getElem?_eq_getElem j1) (aQ ha hx) (aQ ha hy) hK xH.2.1 (fun _ h=>.inl (List.mem_append_right _ h)) (fun b hb hm=>xH.2.2 b hm b hb rfl) fun w' f' hC lu bp=>ih B o ho _ w' ha (St.put ja fw (hC.mono fun b hb=>List.mem_append_left _ hb) lu.1 lu.2.1 fun b hb=>(bp b hb).elim (fun h=>.inl (List.mem_append_left _ h)) fun h=>h.elim (fun h=>.inl (List.mem_append_right _ h)) .inr))
 | @Nz M q d f xs vs au ty all l rk Γ fr m hf hx _ ih=>
  intro B o ho r w ha hs pos ab g
  obtain ⟨fn,c,f1,f2,f3⟩:=hf.h
  refine ih B o ho r w ha hs pos ab g fun w'=>?_
  rw [Ar f1 f2 f3,mq ha hx]
 | @cav M q d f x xs vs us ws as bs au ty all l rk Γ fr m hv hx h1 h2 _ ih=>
  intro B o ho r w ha hs pos ab g
  refine ih.2 B o ho r w ha hs pos ab g fun w'=>?_
  obtain ⟨fn,c,f1,f2,f3⟩:=ih.1
  rw [Ib (aQ ha hv) f1 f2 f3,mq ha hx,List.append_assoc,h1.eq,h2.eq]
 | @fa f j hf _ ih=>exact ⟨hf.h,ih⟩
 | @ia t a j hf _ ih=>exact ⟨hf.h,ih⟩
 | @im t name nm f j hf hn _ ih=>
  rw [nb] at hn
  subst hn
  exact ⟨f,hf.h,ih⟩
 | @cin M q d name t x u xs vs au ty all l rk Γ fr m hv hx _ ih=>
  intro B o ho r w ha hs pos ab g
  obtain ⟨f,h1,h2⟩:=ih
  refine h2 B o ho r w ha hs pos ab g fun w'=>?_
  rw [GR h1 (aQ ha hv),mq ha hx]
 | @mkf M q d f xs ys as bs ty all l rk Γ fr m hx hy _ ih=>
  intro B o ho r w ha hs pos ab g
  refine bu ?_ (ih B o ho _ w (an ha) hs)
  intro w' _
  rw [J3,mq ha hx,mq ha hy]
 | @mki M q d x v t ty all l rk Γ fr m hf hx _ ih=>
  intro B o ho r w ha hs pos ab g
  obtain ⟨ds,h1,h2⟩:=hf.h
  exact bu (If h1 h2 _ (aQ ha hx)) (ih B o ho _ w (an ha) hs)
 | @tas M q d x u t a xt ty all l rk Γ fr m hx _ ih=>exact fun B o ho r w ha hs pos ab g=>bu (Ta ih.1 (aQ ha hx)) (ih.2 B o ho _ w (an ha) hs)
 | @atl M q d f x a n au ty all l rk Γ fr m hf hx hc _ ih=>
  intro B o ho r w ha hs pos ab g
  obtain ⟨fn,h1,h2,h3,h4,h5⟩:=hf.h
  obtain ⟨Z,F,hS,hG⟩:=id hs
  exact bu (fun w' hC=>NP h1 h2 h3 h4 h5 (aQ ha hx) (hc.sound (hS.ic hC))) (ih B o ho _ w (an ha) hs)
 | @ata M d f x y b j n z cs ds au ty e all l rk Γ Γ1 fr m hf hx hy h0 h1 h2 _ ih=>
  intro B o ho r w ha hs pos ab g
  obtain ⟨fn,q1,q2,q3,q4,q5⟩:=hf.h
  obtain ⟨Z,F,hS,hg⟩:=hs
  obtain ⟨n0,F0,r3,⟨rfl,av⟩,sL⟩:=h0.sound hS
  obtain ⟨e1,e2⟩:=h2.eq
  have e3:cs.set j (.int .i64 (ai (n+z)))=ds:=by rw [e2,List.set_eq_take_append_cons_drop,if_pos (by simp at e1; omega)]; simp
  refine dj (WL.ZK q1 q2 q3 q4 q5 av h1 (aQ ha hx) (aQ ha hy) fun w' hC lz=>ih B o ho _ w' (an ha) (St.put (f:=[b]) (f':=[b]) sL (hg.perm r3) hC ⟨rfl,by rw [← e3]; exact lz⟩ (by simp) fun b hb=>.inl hb))
 | cvn=>exact fun B o ho=>nomatch ho
 | @cvq M β ow d f vs op ty Δ mo rt all l rk Γ fr g hc h0 h1 _ ih=>
  intro B o ho r w ha hs pos ab gg rY
  obtain ⟨y,hy,ho⟩:=bind_some ho
  refine ⟨l7 (rt y ()),?_,ih y B o ho _ w (an ha) hs⟩
  intro w' hC
  unfold Oper.quietUpon
  rw [rY w']
  refine ⟨rfl,?_⟩
  obtain ⟨Z,F,hS,hG⟩:=hs
  have Ic:=hS.ic hC
  have l5:=hG.ic hC
  rw [p9] at hc
  refine (hc.2 w' (fun b=>Z b∨b∈F) [] (h1.sound (fun _ h=>.inl h) (fun _ _ h=>.inr h) Ic h0.ho) List.nodup_nil (fun b hb=>absurd hb List.not_mem_nil)
   (fun b hb=>hb.elim (l5.nh b) (Ic.lt b)) y hy).mono ?_
  rintro e zP ⟨v,he,Z2,F2,_,gq⟩
  exact ⟨he,hC.trans gq.jf⟩
 | @cvw M β V ow d f vs op ty Δ mo rt ps all l rk Γ fr g hc _ _ ih=>exact ih hc
 | @czt M β V d f vs op ty Δ mo rt ps all l rk Γ Γ1 fr g h0 h1 _ ih=>
  intro hc B o ho r w ha hs pos ab gg rY
  obtain ⟨y,hy,ho⟩:=bind_some ho
  unfold sH fh
  rw [rY w]
  obtain ⟨Z,F,hS,hG⟩:=hs
  obtain ⟨Fd,F1,a1,a2,a3⟩:=h0.sound hS
  have ke:=hG.perm a3
  rw [p9] at hc
  exact (GP hc (Z':=fun b=>Z b∨b∈F1) (h1.sound (fun _ h=>.inl h) (fun _ _ h=>.inr h) a2 a1) a2 ke (fun _ h=>.inl h) (fun _ h=>h) (.inl (hc.1 rfl y)) hy).mono fun e w' ⟨v,h2,h3⟩=>⟨_,h2,ih y v B o ho _ w' (an ha) h3⟩
 | @czf M β V d f vs op ty Δ mo rt ps all l rk Γ Γ1 fr g h0 _ ih=>
  intro hc B o ho r w ha hs pos ab gg rY
  obtain ⟨y,hy,ho⟩:=bind_some ho
  unfold sH fh
  rw [rY w]
  obtain ⟨Z,F,hS,hG⟩:=hs
  obtain ⟨Fd,F1,Zn,a1,a2,a3⟩:=h0.sound hS
  have ke:=Gd.freeze (hG.perm a3) fun b hb=>hS.lt b (a3.mem_iff.1 (List.mem_append_right _ hb))
  rw [p9] at hc
  exact (GP hc a1 a2 ke (fun _ h=>h) (fun _ h=>.inl h) (.inr fun _ h=>h) hy).mono fun e w' ⟨v,h2,h3⟩=>⟨_,h2,ih y v B o ho _ w' (an ha) h3⟩
 | mo1 _ ih=>exact fun B o ho r w ha hs=>ih B o ho r w ha hs.back
 | mo2 _ ih=>exact fun B o ho r w ha hs=>ih B o ho r w ha hs.SR
 | mo0 _ ih=>exact fun B o ho r w ha hs=>ih B o ho r w ha hs
 | mn1 _ ih=>exact fun B o ho r w ha hs=>ih B o ho r w ha hs.back
 | mn2 _ ih=>exact fun B o ho r w ha hs=>ih B o ho r w ha hs.SR
 | mn0 _ ih=>exact fun B o ho r w ha hs=>ih B o ho r w ha hs
theorem loop {S S1 V:Type} (k:Nat) (Δ:S1→V→List aq) (φ:S1→V→Fr) (v0:V) (f2:Fr) {iz:List KI} {kb:Kb R S} {c:Code} {s0:S1} {body:S1→Option (Out S1 R)} {f:S1→Option (Out S R)} {Γ Γ1 Γ2:QE} {fr:Fr}
   (ha:qm fr (φ s0 v0)) (hf:qm fr f2) (h0:EO Γ (Δ s0 v0) Γ1) (hn:OW Γ (Δ s0 v0)) (hs:jy Γ1 Γ2)
   (hb:∀ s v,D P cx (.p (φ s v) (Δ s v) f2 Γ2 fun fr Γ=>.c ⟨[],.loop V k Δ φ Γ2 f2⟩ c Γ fr (body s)))
   (hk:∀ s v,D P cx (.p (φ s v) (Δ s v) f2 Γ2 fun fr Γ=>.mn ⟨iz,kb⟩ Γ fr (f s))):Bx (qa P cx (.bk true k ⟨iz,kb⟩ (.loop c) Γ fr (ag (ae k (af body s0)) f))):=by
 rw [nb]
 intro B o ho r w tG oh
 refine LF (T:=TT P cx B) (LI B Δ φ _ f2) ho ⟨v0,uD (ha.all tG) (hf.sound tG),oh.enter h0 hn hs⟩ ?_ ?_ ?_
 ·intro x r w he hx
  subst he
  exact yO hx
 ·rintro s r w ⟨v,h1,h2⟩ o ho
  exact (hb s v).sound B o ho r w h1 h2
 ·rintro s r w ⟨v,h1,h2⟩ ho
  exact (hk s v).sound B o ho r w h1 h2
noncomputable def pc.{u,v,w} {A:Type u} {B:Type v} {C:Sort w} (f:A→B→C) (p:A×B):C:=Prod.rec (motive:=fun _=>C) f p
theorem de {S S1 V A:Type} (k:Nat) (a0:A) (Δ:A→S1→V→List aq) (φ:A→S1→V→Fr) (v0:V) (f2:Fr) {iz:List KI} {kb:Kb R S} {c:Code} {s0:S1} {body:S1→Option (Out S1 R)} {f:S1→Option (Out S R)} {Γ Γ1 Γ2:QE} {fr:Fr}
   (ha:qm fr (φ a0 s0 v0)) (hf:qm fr f2) (h0:EO Γ (Δ a0 s0 v0) Γ1) (hn:OW Γ (Δ a0 s0 v0)) (hs:jy Γ1 Γ2)
   (hb:∀ s v,D P cx (.p (φ a0 s v) (Δ a0 s v) f2 Γ2 fun fr Γ=>.c ⟨[],.loop V k (Δ a0) (φ a0) Γ2 f2⟩ c Γ fr (body s)))
   (hk:∀ s v,D P cx (.p (φ a0 s v) (Δ a0 s v) f2 Γ2 fun fr Γ=>.mn ⟨iz,kb⟩ Γ fr (f s))):Bx (qa P cx (.bk true k ⟨iz,kb⟩ (.loop c) Γ fr (ag (ae k (af body s0)) f))):=
 loop k (Δ a0) (φ a0) v0 f2 ha hf h0 hn hs hb hk
theorem quiet {S:Type} {id:Nat} {K:ch R S} {ops:LO} {Γ:QE} {fr:Fr} {m:Option (Out S R)} (hB:(P.follows .mixedOrders && dh cx.n ops && Region.lexB .any ops.toArray)=true) (h:D P cx (.rg (BT ops) true ops K Γ fr m)):Bx (qa P cx (.dr id ops K Γ fr m)):=by
 simp only [Bool.and_eq_true] at hB
 rw [nb]
 exact fun B o ho r w ha hs=>h.sound hB.1.2 (fun _=>⟨hB.1.1,hB.2⟩) B o ho r w ha hs _
theorem tail {S:Type} {id:Nat} (k:Nat) {K:ch R S} {l ops tl:LO} {Γ:QE} {fr:Fr} {m:Option (Out S R)} (hB:(P.follows .mixedOrders && dh cx.n l && ((l.take k).all fun o=>BW o.op) && Region.lexTailB .any l.toArray k)=true) (ho:ops=l.take k) (ht:tl=l.drop k)
  (h:D P cx (.o true l ops (.h l tl K) Γ fr m)):Bx (qa P cx (.dr id l K Γ fr m)):=by
 simp only [Bool.and_eq_true] at hB
 obtain ⟨⟨⟨h1,h2⟩,h3⟩,h4⟩:=hB
 subst ho ht
 rw [nb]
 intro B o ho r w ha hs
 exact Vs k h1 h2 h3 h4 (ak.refl _ _) (h.sound B o ho r w ha hs)
def Gg:Nat→List Value→Fr
 | _,[]=>[]
 | i,v :: l=>(i,v) :: Gg (i+1) l
theorem GS {args:LV}:cq (fun t=>args.getD t undef) ((Gg 0 args).reverse++[]):=by
 refine uD ?_ vF
 have key:∀ (l:LV) (i:Nat) (p:Nat×Value),p∈Gg i l→i≤p.1∧l[p.1 - i]? = some p.2:=by
  intro l
  induction l with
  | nil=>intro i p hp; cases hp
  | cons a l ih=>
   intro i p hp
   unfold Gg at hp
   rcases List.mem_cons.1 hp with rfl | hp
   ·simp
   ·obtain ⟨h1,h2⟩:=ih _ _ hp
    refine ⟨by omega,?_⟩
    rw [show p.1 - i=(p.1 - (i+1))+1 by omega]
    simpa using h2
 intro p hp
 obtain ⟨_,h⟩:=key args 0 p hp
 simp only [Nat.sub_zero] at h
 simp [List.getD_eq_getElem?_getD,h]
theorem bx {β V:Type} {post:β→V→List aq} (h:∀ y v,qu (post y v)=true):true=true→∀ y v,qu (post y v)=true:=fun _=>h
theorem zR {β V:Type} {post:β→V→List aq}:false=true→∀ y v,qu (post y v)=true:=fun h=>nomatch h
theorem ct {f:FuncId} {fn:Func} {ow:Bool} {c:Code} {args:LV} {Δ:QE} {S V:Type} {m:Option (Out S R)} {ret:R→V→List Value} {post:R→V→List aq} (hw:ow=true→∀ y v,qu (post y v)=true) (hf:P.funcs[f]? = some fn) (hb:fn.body=some c) (hl:Nat.ble args.length fn.ntmps=true)
  (h:D P ⟨fn.ntmps,fn,V,ret,post⟩ (.p (Gg 0 args) Δ [] [] fun fr Γ=>.c ⟨[],.top⟩ c Γ fr m)):Ct P f ow (ao m) args Δ ret post:=by
 rw [p9]
 refine ⟨hw,?_⟩
 intro w Z F hh cp Vt bb y hy
 have hs:=h.sound
 obtain ⟨F',hp,hS⟩:=hh.build (Γ:=[]) (F:=[]) rfl
 rw [List.append_nil] at hp
 have oh:St ⟨w,Z,F⟩ (Δ.reverse++[]) w:=⟨Z,F',hS,Gd.perm ⟨cp,Vt,bb,fun b hb=>.inl hb,fun _ h=>h,fun _ h=>.inl h,ak.refl _ _⟩ hp⟩
 exact (LG (Rr:=fun y e w'=>∃ v:V,e = .returned (l7 (ret y v))∧Ns ⟨w,Z,F⟩ (post y v) w') hf hb rfl (Nat.le_of_ble_eq_true hl) (NQ hy)
  fun o ho=>hs ⟨w,Z,F⟩ o ho _ _ GS oh)
theorem ctv {f:FuncId} {fn:Func} {ow:Bool} {c:Code} {args:LV} {Δ:QE} {V:Type} {m:Option (Out R R)} {ret:R→V→List Value} {post:R→V→List aq} (hw:ow=true→∀ y v,qu (post y v)=true) (hf:P.funcs[f]? = some fn) (hb:fn.body=some c) (hl:Nat.ble args.length fn.ntmps=true)
  (h:D P ⟨fn.ntmps,fn,V,ret,post⟩ (.p (Gg 0 args) Δ [] [] fun fr Γ=>.c ⟨[],.PZ⟩ c Γ fr m)):Ct P f ow (Gh m) args Δ ret post:=by
 rw [p9]
 refine ⟨hw,?_⟩
 intro w Z F hh cp Vt bb y hy
 have hs:=h.sound
 obtain ⟨F',hp,hS⟩:=hh.build (Γ:=[]) (F:=[]) rfl
 rw [List.append_nil] at hp
 have oh:St ⟨w,Z,F⟩ (Δ.reverse++[]) w:=⟨Z,F',hS,Gd.perm ⟨cp,Vt,bb,fun b hb=>.inl hb,fun _ h=>h,fun _ h=>.inl h,ak.refl _ _⟩ hp⟩
 exact (J4 (Rr:=fun y e w'=>∃ v:V,e = .returned (l7 (ret y v))∧Ns ⟨w,Z,F⟩ (post y v) w') hf hb rfl (Nat.le_of_ble_eq_true hl) hy
  fun o ho=>hs ⟨w,Z,F⟩ o ho _ _ GS oh)
end
end Go.Dk
