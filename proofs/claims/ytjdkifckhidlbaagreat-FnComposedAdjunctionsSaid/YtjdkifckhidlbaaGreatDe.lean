/- A calculus of walks: that its rules hold. No condition. -/
import Derived.Test.YtjdkifckhidlbaaGreatDa
import Derived.Test.YtjdkifckhidlbaaGreatLn
namespace Go.Dk
open Go Go.Li
section
variable {Z Z':Nat→Prop} {w w':World} {cur F f:LN} {Γ Γ' Γ1 Δ:QE} {e:aX} {B:Bs} {P:Program}
theorem Gd.left {F':LN} (h:Gd B Z (F++F') w):Gd B Z F w:=
 ⟨(List.nodup_append.1 h.nd).1,fun b hb=>h.apart b (List.mem_append_left _ hb),h.py,fun b hb=>h.low b (List.mem_append_left _ hb),h.xP,h.xc,h.lp⟩
theorem HO.hl (h:OW Γ Δ):∀ {cur F F':LN},SA Z w Γ cur F'→HO Z w Δ F→HL Z w Δ F:=by
 induction h with
 | nil=>intro _ F _ _ h; cases h; exact .nil
 | own _ ih=>intro _ F _ hs h; cases h with | own h k=>exact .own h (ih hs k)
 | om _ ih=>intro _ F _ hs h; cases h with | own h k=>exact .own h (ih hs k)
 | row _ ih=>intro _ F _ hs h; cases h with | own h k=>exact .own h (ih hs k)
 | rd h _ ih=>intro _ F _ hs hh; cases hh with
  | own h k=>exact h.elim
  | rd k=>exact .fact (h.rd hs _) (ih hs k)
theorem FO.ho (h:FO Δ):HO Z w Δ []:=by
 induction h with
 | nil=>exact .nil
 | rd _ ih=>exact .rd ih
 | bb _ ih=>exact .bb ih
theorem tK.all {fr g:Fr} {r:NV} (h:tK fr g) (ha:c9 r fr):∀ p∈g,r p.1=p.2:=by
 induction h with
 | nil=>intro p hp; cases hp
 | cons h _ ih=>intro p hp; rcases List.mem_cons.1 hp with rfl | hp; exact ha _ _ h; exact ih p hp
theorem ny {r:NV} {f:Fr}:∀ {g:Fr},(∀ p∈g,r p.1=p.2)→c9 r f→c9 r (g++f):=by
 intro g
 induction g with
 | nil=>intro _ h; exact h
 | cons a g ih=>
  intro hg h t v hl
  obtain ⟨s,u⟩:=a
  rw [List.cons_append] at hl
  unfold look at hl
  cases hb:Nat.beq t s with
  | true=>rw [hb] at hl; cases hl; rw [Nat.eq_of_beq_eq_true hb]; exact hg (s,v) (by simp)
  | false=>rw [hb] at hl; exact ih (fun p hp=>hg p (by simp [hp])) h t v hl
theorem wh {r:NV} {f g:Fr} (hg:∀ p∈g,r p.1=p.2) (h:c9 r f):c9 r (g.reverse++f):=ny (fun p hp=>hg p (List.mem_reverse.1 hp)) h
theorem l5.sound (h:l5 Γ Γ'):∀ {cur F:LN},SA Z w Γ cur F→SA Z w Γ' cur F:=by
 induction h with
 | nil=>intro _ _ h; exact h
 | own _ ih=>rintro _ _ ⟨f,F',h1,h2,h3⟩; exact ⟨f,F',h1,h2,ih h3⟩
 | om _ ih=>rintro _ _ ⟨f,F',h1,h2,h3⟩; exact ⟨f,F',h1,h2,ih h3⟩
 | row _ ih=>rintro _ _ ⟨f,F',h1,h2,h3⟩; exact ⟨f,F',h1,h2,ih h3⟩
 | MR _ ih=>intro _ _ h; exact ⟨h.1,ih h.2⟩
 | Hf _ ih=>intro _ _ h; exact ⟨h.1,ih h.2⟩
 | ad _ ih=>intro _ _ h; exact ih h.2
 | bb _ ih=>intro _ _ h; exact ⟨h.1,ih h.2⟩
 | hd _ ih=>intro _ _ h; exact ih h.2
 | gp _ ih=>rintro _ _ ⟨f,F',h1,h2,h3⟩; exact ⟨f,F',h1,h2,ih h3⟩
theorem Tv {α:Type} {E:ah α} (hE:∀ {h:Array Obj} {cs:LV} {x y:α} {f g:LN},E.rep h cs x f→E.rep h cs y g→f=g) {h:Array Obj}:∀ {xs ys:List α} {cs:LV} {f g:LN},xs.length=ys.length→dy E h cs xs f→dy E h cs ys g→f=g:=by
 intro xs
 induction xs with
 | nil=>
  intro ys cs f g hl h1 h2
  cases ys with
  | nil=>obtain ⟨_,rfl⟩:=h1; obtain ⟨_,rfl⟩:=h2; rfl
  | cons y ys=>cases hl
 | cons x xs ih=>
  intro ys cs f g hl h1 h2
  cases ys with
  | nil=>cases hl
  | cons y ys=>
   obtain ⟨c,l4,f1,f2,rfl,rfl,a1,a2⟩:=h1
   obtain ⟨d,ds',g1,g2,e1,rfl,b1,b2⟩:=h2
   obtain ⟨rfl,rfl⟩:=List.append_inj e1 ((E.len a1).trans (E.len b1).symm)
   rw [hE a1 b1,ih (by simpa using hl) a2 b2]
theorem DT.fp {α:Type} {T:ah α} (h:DT T):∀ {h:Array Obj} {cs:LV} {x y:α} {f g:LN},T.rep h cs x f→T.rep h cs y g→f=g:=by
 induction h with
 | i=>rintro h cs x y f g ⟨_,rfl⟩ ⟨_,rfl⟩; rfl
 | b=>rintro h cs x y f g ⟨_,rfl⟩ ⟨_,rfl⟩; rfl
 | @own α e E _ ih=>
  rintro h cs x y f g ⟨base,cap,rfl,a⟩ ⟨K8,Pk,e1,b⟩
  simp only [List.cons.injEq,Value.slice.injEq,and_true] at e1
  obtain ⟨rfl,hl,rfl⟩:=e1
  rcases a with ⟨rfl,_,_,rfl⟩ | ⟨b1,cr,f',rfl,a2,rfl,_,_,_,a3⟩
  ·rcases b with ⟨_,_,_,rfl⟩ | ⟨J5,cr',g',e1,_⟩
   ·rfl
   ·cases e1
  ·rcases b with ⟨e1,_⟩ | ⟨J5,cr',g',e1,c2,rfl,_,_,_,c3⟩
   ·cases e1
   ·cases e1
    rw [a2] at c2
    cases c2
    rw [hl] at a3
    rw [Tv ih hl a3 c3]
theorem In.bb {p:Addr} {cs:LV} (h:In (.bb p cs) Γ):∀ {cur F:LN},SA Z w Γ cur F→∀ dn,fact Z w dn (.bb p cs):=by
 induction h with
 | here=>intro cur F h dn; exact h.1
 | @there a Γ _ ih=>
  intro cur F hS
  cases a with
  | own T v x=>obtain ⟨f,F',h1,h2,h3⟩:=hS; exact ih h3
  | om e E v xs=>obtain ⟨f,F',h1,h2,h3⟩:=hS; exact ih h3
  | row b cs e=>obtain ⟨f,F',h1,h2,h3⟩:=hS; exact ih h3
  | gp e E v xs j u=>obtain ⟨f,F',h1,h2,h3⟩:=hS; exact ih h3
  | _=>exact ih hS.2
theorem yQ.get {α:Type} {T:ah α} {v:Value} {x:α} (h:yQ (.rd true T v x) Γ):∀ {cur F:LN},SA Z w Γ cur F→fact Z w cur (.rd true T v x):=by
 induction h with
 | here=>intro cur F h; exact h.1
 | row _ ih=>rintro cur F ⟨f,F',h1,h2,h3⟩; exact ih h3
 | rd _ ih=>intro cur F h; exact ih h.2
 | ad _ ih=>intro cur F h; exact ih h.2
 | hd _ ih=>intro cur F h; exact ih h.2
 | bb _ ih=>intro cur F h; exact ih h.2
theorem Kh.sound {α β:Type} {T:ah α} {v u:Value} {x:α} {T':ah β} {z:β} (h:Kh T v x (.rd true T' u z) Γ):∀ {cur F:LN},SA Z w Γ cur F→∃ f,T.rep w.heap [v] x f∧fact Z w f (.rd true T' u z):=by
 induction h with
 | here h=>rintro cur F ⟨f,F',h1,h2,h3⟩; exact ⟨f,h2,h.get h3⟩
 | @there a Γ _ ih=>
  intro cur F hS
  cases a with
  | own T v x=>obtain ⟨f,F',h1,h2,h3⟩:=hS; exact ih h3
  | om e E v xs=>obtain ⟨f,F',h1,h2,h3⟩:=hS; exact ih h3
  | row b cs e=>obtain ⟨f,F',h1,h2,h3⟩:=hS; exact ih h3
  | gp e E v xs j u=>obtain ⟨f,F',h1,h2,h3⟩:=hS; exact ih h3
  | _=>exact ih hS.2
theorem MF.sound {o:Option aX} (h:MF Γ o Δ) {cur F:LN} (hs:SA Z w Γ cur F):∀ {dn Fd:LN},(∀ e,o=some e→rj Z w dn e)→HO Z w Δ Fd→SA Z w Δ dn Fd:=by
 induction h with
 | nil=>intro _ _ _ h; cases h; rfl
 | own _ ih=>intro _ _ _ h; cases h with | own h k=>exact ⟨_,_,rfl,h,ih (by rintro e he; cases he; exact h) k⟩
 | om _ ih=>intro _ _ _ h; cases h with | own h k=>exact ⟨_,_,rfl,h,ih (by rintro e he; cases he) k⟩
 | row _ ih=>intro _ _ ho h; cases h with | own h k=>exact ⟨_,_,rfl,h,ih ho k⟩
 | gp _ ih=>intro _ _ _ h; cases h with | own h k=>exact ⟨_,_,rfl,h,ih (by rintro e he; cases he) k⟩
 | rd h _ ih=>
  intro _ _ ho hh
  cases hh with
  | own h k=>exact h.elim
  | rd k=>exact ⟨h.rd hs _,ih ho k⟩
 | @Hf α β T v u x T' z Δ hd h _ ih=>
  intro dn _ ho hh
  cases hh with
  | own h k=>exact h.elim
  | rd k=>
   obtain ⟨f,h1,h2⟩:=h.sound hs
   have h3:T.rep w.heap [v] x dn:=ho _ rfl
   rw [hd.fp h1 h3] at h2
   exact ⟨h2,ih ho k⟩
 | bb h _ ih=>
  intro _ _ ho hh
  cases hh with
  | own h k=>exact h.elim
  | bb k=>exact ⟨h.bb hs _,ih ho k⟩
theorem St.of {F':LN} (hs:SA Z w Γ [] F) (hg:Gd B Z F' w) (hp:F.Perm F'):St B Γ w:=⟨Z,F,hs,hg.perm hp⟩
theorem St.enter (h:St B Γ w) {Γ1 Γ2:QE} (h0:EO Γ Δ Γ1) (hw:OW Γ Δ) (h1:l5 Γ1 Γ2):St B (Δ.reverse++Γ2) w:=by
 obtain ⟨Z,F,hs,hg⟩:=h
 obtain ⟨Fd,F1,a1,a2,a3⟩:=h0.sound hs
 obtain ⟨F2,b1,b2⟩:=HL.build (HO.hl hw hs a1) (h1.sound a2)
 exact St.of b2 hg (b1.trans a3)
theorem St.again (h:St B Γ w) {Γ1 Γ2 Γ3:QE} (h0:EO Γ Δ Γ1) (hw:OW Γ Δ) (h1:EO Γ1 Γ2 Γ3) (h2:MF Γ none Γ2):St B (Δ.reverse++Γ2) w:=by
 obtain ⟨Z,F,hs,hg⟩:=h
 obtain ⟨Fd,F1,a1,a2,a3⟩:=h0.sound hs
 obtain ⟨U5,F3,c1,c2,c3⟩:=h1.sound a2
 obtain ⟨F2,b1,b2⟩:=HL.build (HO.hl hw hs a1) (h2.sound hs (dn:=[]) (by rintro e he; cases he) c1)
 refine St.of (F':=Fd++U5) b2 (Gd.left (F':=F3) (hg.perm ?_)) b1
 rw [List.append_assoc]
 exact (c3.append_left Fd).trans a3
theorem St.leave (h:St B Γ w) (h0:EF Γ Δ Γ1):RW B Δ w:=by
 obtain ⟨Z,F,hs,hg⟩:=h
 obtain ⟨Fd,F',Zn,a1,a2,a3⟩:=h0.sound hs
 refine ⟨_,Fd,a1,Gd.left (F':=F') (Gd.freeze (hg.perm a3) fun b hb=>hs.lt b (a3.mem_iff.1 (List.mem_append_right _ hb)))⟩
theorem St.back {β:Type} {e:TI} {E:ah β} {v u:Value} {xs:List β} {j:Int} {z:β} {Γ0:QE} (h:St B (.own E u z :: .gp e E v xs j u :: Γ0) w):St B (.own (aK e E) v (xs.set j.toNat z) :: Γ0) w:=by
 obtain ⟨Z,F,⟨k,F1,rfl,hk,f,F2,rfl,hf,hs⟩,hg⟩:=h
 obtain ⟨f',hp,hr⟩:=hf.2 w.heap (fun _ _=>rfl) z k hk
 have qt:(f'++F2).Perm (k++(f++F2)):=by
  rw [← List.append_assoc]
  exact (hp.trans List.perm_append_comm).append_right F2
 refine ⟨Z,f'++F2,⟨f',F2,rfl,hr,?_⟩,hg.perm qt⟩
 refine SA.mono (fun _ h=>h) (fun b hb=>hp.mem_iff.2 (List.mem_append_left _ hb)) hs
theorem St.R6 {α β:Type} {T:ah α} {v':Value} {x':α} {e:TI} {E:ah β} {v u:Value} {xs:List β} {j:Int} {z:β} {Γ0:QE} (h:St B (.own T v' x' :: .own E u z :: .gp e E v xs j u :: Γ0) w):St B (.own T v' x' :: .own (aK e E) v (xs.set j.toNat z) :: Γ0) w:=by
 obtain ⟨Z,F,⟨n,F0,rfl,hn,k,F1,rfl,hk,f,F2,rfl,hf,hs⟩,hg⟩:=h
 obtain ⟨f',hp,hr⟩:=hf.2 w.heap (fun _ _=>rfl) z k hk
 have qt:(n++(f'++F2)).Perm (n++(k++(f++F2))):=by
  rw [← List.append_assoc k f F2]
  exact ((hp.trans List.perm_append_comm).append_right F2).append_left n
 refine ⟨Z,n++(f'++F2),⟨n,_,rfl,hn,f',F2,rfl,hr,?_⟩,hg.perm qt⟩
 refine SA.mono (fun _ h=>h) (fun b hb=>hp.mem_iff.2 (List.mem_append_left _ hb)) hs
theorem dx {R M:Type} {cx:Cx R} {all l:LO} {rk:RK R M} {o:M} {r:NV} {d:Option Nat} {op:Op} {ty:TI} {pos:String} {ag:Array Edge} {g:Option (Nat×Bool)}
  (h:WL P all (⟨d,op,ty,pos,ag,none⟩ :: l) r w (CD P cx B rk o)):tQ P cx B false ⟨d,op,ty,pos,ag,g⟩ all l rk o r w:=by
 rcases h with ⟨_,h⟩ | ⟨hw,_⟩
 ·exact h
 ·cases hw
theorem St.put {F1 f':LN} (hS:SA Z w Γ' [] F1) (hg:Gd B Z (f++F1) w) (hC:aw f w w') (ho:rj Z w' f' e) (hn:f'.Nodup) (hs:∀ b∈f',b∈f∨w.heap.size≤b):St B (e :: Γ') w':=by
 have db:=List.nodup_append.1 hg.nd
 have hk:SA Z w' Γ' [] F1:=hS.fg hC (fun b hb=>hg.apart b (List.mem_append_left _ hb)) (fun b _=>List.not_mem_nil) (fun b hb hm=>db.2.2 b hb b hm rfl)
 refine ⟨Z,f'++F1,hk.cons ho,List.nodup_append.2 ⟨hn,db.2.1,?_⟩,?_,fun b hb=>Nat.lt_of_lt_of_le (hg.py b hb) hC.size,?_,hg.xP,hg.xc,hg.lp.then hC fun i hi=>hg.low i (List.mem_append_left _ hi)⟩
 ·rintro b hb c hc rfl
  rcases hs b hb with h | h
  ·exact db.2.2 b h b hc rfl
  ·exact absurd (hS.lt b hc) (Nat.not_lt.2 h)
 ·intro b hb hz
  rcases List.mem_append.1 hb with hb | hb
  ·rcases hs b hb with h | h
   ·exact hg.apart b (List.mem_append_left _ h) hz
   ·exact absurd (hg.py b hz) (Nat.not_lt.2 h)
  ·exact hg.apart b (List.mem_append_right _ hb) hz
 ·intro b hb
  rcases List.mem_append.1 hb with hb | hb
  ·rcases hs b hb with h | h
   ·exact hg.low b (List.mem_append_left _ h)
   ·exact .inr (Nat.le_trans hg.lp.size h)
  ·exact hg.low b (List.mem_append_right _ hb)
theorem St.new (h:St B Γ w) {f':LN} (hC:aw [] w w') (ho:∀ Z,rj Z w' f' e) (hn:f'.Nodup) (hs:∀ b∈f',w.heap.size≤b):St B (e :: Γ) w':=by
 obtain ⟨Z,F,hS,hg⟩:=h
 exact St.put (f:=[]) hS hg hC (ho Z) hn fun b hb=>.inr (hs b hb)
theorem Has.one {v:Value} (h:Has v Γ):∀ {cur F:LN},SA Z w Γ cur F→v.oneCell'=true:=by
 induction h with
 | @own α T x Γ=>rintro cur F ⟨f,F',_,h,_⟩; exact T.one h v (by simp)
 | @om α t E xs Γ=>rintro cur F ⟨f,F',_,⟨us,g,h,_⟩,_⟩; exact ah.one _ h v (by simp)
 | @rd o α T x Γ=>rintro cur F ⟨⟨g,h,_⟩,_⟩; exact T.one h v (by simp)
 | @there e Γ _ ih=>
  intro cur F hS
  cases e with
  | own T v x=>obtain ⟨f,F',h1,h2,h3⟩:=hS; exact ih h3
  | om e E v xs=>obtain ⟨f,F',h1,h2,h3⟩:=hS; exact ih h3
  | row b cs e=>obtain ⟨f,F',h1,h2,h3⟩:=hS; exact ih h3
  | gp e E v xs j u=>obtain ⟨f,F',h1,h2,h3⟩:=hS; exact ih h3
  | _=>exact ih hS.2
theorem One.one {v:Value} (h:One Γ v) (hS:SA Z w Γ cur F):v.oneCell'=true:=by
 cases h with
 | int=>rfl
 | bool=>rfl
 | ptr=>rfl
 | sl=>rfl
 | fn=>rfl
 | nf=>rfl
 | var h=>exact h.one hS
theorem wc.one {vs:LV} (h:wc Γ vs) (hS:SA Z w Γ cur F):∀ u∈vs,u.oneCell'=true:=by
 induction h with
 | nil=>intro u hu; cases hu
 | cons h _ ih=>intro u hu; rcases List.mem_cons.1 hu with rfl | hu; exact h.one hS; exact ih u hu
theorem tR.eq {v:Value} {cs:LV} (h:tR Γ v cs) (hS:SA Z w Γ cur F):v.cells.toList=cs:=by
 cases h with
 | agg=>rfl
 | one h=>rw [cells_one (h.one hS)]
theorem uA.eq {us cs ds:LV} {j:Nat} (h:uA us j cs ds):j+us.length≤cs.length∧ds=cs.take j++us++cs.drop (j+us.length):=by
 induction h with
 | nil=>simp
 | put _ ih=>obtain ⟨h1,h2⟩:=ih; refine ⟨by simp at h1 ⊢; omega,?_⟩; rw [h2]; simp
 | s _ ih=>
  obtain ⟨h1,h2⟩:=ih
  refine ⟨by simp; omega,?_⟩
  rw [h2]
  rename_i us cs ds j _
  rw [show j+1+us.length=(j+us.length)+1 by omega]
  simp
theorem vv.eq {j n:Nat} {cs ds:LV} (h:vv j n cs ds):ds.length=n∧(cs.drop j).take n=ds:=by
 induction h with
 | z=>simp
 | c _ ih=>obtain ⟨h1,h2⟩:=ih; simp at h2; simp [h1,h2]
 | s _ ih=>simpa using ih
theorem we.sound {a:Addr} {n:Nat} {ds:LV} (h:we Γ a n ds):∀ {cur F:LN},SA Z w Γ cur F→At w a ds∧ds.length=n:=by
 induction h with
 | row h=>
  rintro cur F ⟨f,F',h1,⟨_,h2⟩,_⟩
  obtain ⟨e1,e2⟩:=h.eq
  have:=At.sub h2.at (by rw [e1]; exact e2)
  rw [js,Nat.zero_add] at this
  exact ⟨this,e1⟩
 | «at» h=>rintro cur F ⟨⟨h1,_⟩,_⟩; obtain ⟨e1,e2⟩:=h.eq; exact ⟨At.sub h1 (by rw [e1]; exact e2),e1⟩
 | MQ h=>rintro cur F ⟨⟨h1,_⟩,_⟩; obtain ⟨e1,e2⟩:=h.eq; exact ⟨At.sub (j:=0) h1 (by rw [e1]; exact e2),e1⟩
 | @there a n ds e Γ _ ih=>
  intro cur F hS
  cases e with
  | own T v x=>obtain ⟨f,F',h1,h2,h3⟩:=hS; exact ih h3
  | om e E v xs=>obtain ⟨f,F',h1,h2,h3⟩:=hS; exact ih h3
  | row b cs e=>obtain ⟨f,F',h1,h2,h3⟩:=hS; exact ih h3
  | gp e E v xs j u=>obtain ⟨f,F',h1,h2,h3⟩:=hS; exact ih h3
  | _=>exact ih hS.2
theorem vw.sound {v:Value} {n:Nat} (h:vw Γ v n):∀ {cur F:LN},SA Z w Γ cur F→∃ b c,v = .slice b n c:=by
 induction h with
 | lit=>intro _ _ _; exact ⟨_,_,rfl⟩
 | ln=>rintro cur F ⟨⟨g,⟨⟨a,c,hv⟩,_⟩,_⟩,_⟩; exact ⟨a,c,by simpa using hv⟩
 | rd h=>rintro cur F ⟨⟨g,h1,_⟩,_⟩; exact ug (h.le.le h1)
 | own h=>rintro cur F ⟨f,F',_,h1,_⟩; exact ug (h.le.le h1)
 | om=>rintro cur F ⟨f,F',_,h1,_⟩; obtain ⟨⟨g,h2,_⟩,_⟩:=K9 h1; exact ug h2
 | @there v n e Γ _ ih=>
  intro cur F hS
  cases e with
  | own T v x=>obtain ⟨f,F',h1,h2,h3⟩:=hS; exact ih h3
  | om e E v xs=>obtain ⟨f,F',h1,h2,h3⟩:=hS; exact ih h3
  | row b cs e=>obtain ⟨f,F',h1,h2,h3⟩:=hS; exact ih h3
  | gp e E v xs j u=>obtain ⟨f,F',h1,h2,h3⟩:=hS; exact ih h3
  | _=>exact ih hS.2
theorem zN.sound {k:IntKind} {us:LV} {xs:List Int} (h:zN k us xs):∀ (hp:Array Obj),us.length=xs.length∧dy (aM k) hp us xs []:=by
 induction h with
 | nil=>intro h; exact ⟨rfl,rfl,rfl⟩
 | cons _ ih=>intro h; obtain ⟨e1,e2⟩:=ih h; exact ⟨by simp [e1],[_],_,[],[],rfl,rfl,⟨rfl,rfl⟩,e2⟩
theorem C8.sound {α:Type} {E:ah α} {v:Value} {x:α} (h:C8 Γ E v x Γ') {F:LN} (hS:SA Z w Γ [] F):∃ f F',(f++F').Perm F∧E.rep w.heap [v] x f∧SA Z w Γ' [] F':=by
 cases h with
 | int=>exact ⟨[],F,.refl _,⟨rfl,rfl⟩,hS⟩
 | bool=>exact ⟨[],F,.refl _,⟨rfl,rfl⟩,hS⟩
 | own h=>obtain ⟨f,F1,hp,ho,fy⟩:=h.sound hS; exact ⟨f,F1,hp,ho,fy⟩
 | @lit b n us k xs e Γ1 _ h0 h1 hn hb=>
  obtain ⟨f0,F1,hp,⟨rfl,bg⟩,fy⟩:=h0.sound hS
  obtain ⟨e1,e2⟩:=zN.sound h1 w.heap
  have Ax:=Nat.le_of_ble_eq_true hb
  refine ⟨[b],F1,hp,⟨some ⟨b,0,none⟩,n,by rw [← hn,e1],.inr ⟨b,us.toArray,[],rfl,bg,rfl,by rw [← hn,e1]; exact Nat.le_refl _,Nat.le_trans Ax (by decide),by rw [show (aM k).size=1 from rfl,Nat.mul_one]; simp [hn],?_⟩⟩,fy⟩
  rw [show (aM k).size=1 from rfl,Nat.mul_one,List.toList_toArray,← e1,List.take_length]
  exact e2
theorem Hn.sound {α:Type} {E:ah α} {us:LV} {xs:List α} (h:Hn Γ E us xs Γ'):∀ {F:LN},SA Z w Γ [] F→us.length=xs.length∧∃ f F',(f++F').Perm F∧dy E w.heap us xs f∧SA Z w Γ' [] F':=by
 induction h with
 | nil=>intro F hS; exact ⟨rfl,[],F,.refl _,⟨rfl,rfl⟩,hS⟩
 | cons h _ ih=>
  intro F hS
  obtain ⟨f1,F1,p1,r1,S1⟩:=h.sound hS
  obtain ⟨e,f2,F2,p2,r2,S2⟩:=ih S1
  exact ⟨by simp [e],f1++f2,F2,(by rw [List.append_assoc]; exact (p2.append_left f1).trans p1),⟨[_],_,f1,f2,rfl,rfl,r1,r2⟩,S2⟩
theorem Ho.sound {κ υ:Type} {ek:κ→Value} {eu:υ→Value} {v:Value} {x:List (κ×υ)} (h:Ho ek eu Γ v x):∀ {cur F:LN},SA Z w Γ cur F→∃ f,(D4 ek eu).rep w.heap [v] x f:=by
 induction h with
 | own=>rintro cur F ⟨f,F',_,h2,_⟩; exact ⟨f,h2⟩
 | @there v x e Γ h ih=>
  intro cur F hS
  cases e with
  | own T v x=>obtain ⟨f,F',h1,h2,h3⟩:=hS; exact ih h3
  | om e E v xs=>obtain ⟨f,F',h1,h2,h3⟩:=hS; exact ih h3
  | row b cs e=>obtain ⟨f,F',h1,h2,h3⟩:=hS; exact ih h3
  | gp e E v xs j u=>obtain ⟨f,F',h1,h2,h3⟩:=hS; exact ih h3
  | _=>exact ih hS.2
theorem Rg.sound {v:Value} {j:Int} (h:Rg v j Γ):∀ {cur F:LN},SA Z w Γ cur F→0≤j∧j.toNat < v8 v:=by
 induction h with
 | ad=>rintro cur F ⟨⟨h1,h2,_⟩,_⟩; exact ⟨h1,h2⟩
 | @there e Γ _ ih=>
  intro cur F hS
  cases e with
  | own T v x=>obtain ⟨f,F',h1,h2,h3⟩:=hS; exact ih h3
  | om e E v xs=>obtain ⟨f,F',h1,h2,h3⟩:=hS; exact ih h3
  | row b cs e=>obtain ⟨f,F',h1,h2,h3⟩:=hS; exact ih h3
  | gp e E v xs j u=>obtain ⟨f,F',h1,h2,h3⟩:=hS; exact ih h3
  | _=>exact ih hS.2
theorem Tw {pl:List (Nat×Nat)} {i:Nat} {p:Nat×Nat} (h:Hl pl i=some p):pl[i]? = some p:=by
 induction pl generalizing i with
 | nil=>cases h
 | cons a l ih=>cases i with
  | zero=>simpa [Hl] using h
  | succ n=>simpa using ih h
theorem Hr:∀ (us:LV) (off k:Nat) (cs:Array Value),off+k+us.length≤cs.size→
  ((us.zipIdx k).foldl (fun (cs:Array Value) (p:Value×Nat)=>cs.setIfInBounds (off+p.2) p.1) cs).toList=cs.toList.take (off+k)++us++cs.toList.drop (off+k+us.length):=by
 intro us
 induction us with
 | nil=>intro off k cs h; simp
 | cons u us ih=>
  intro off k cs h
  simp only [List.zipIdx_cons,List.foldl_cons]
  simp only [List.length_cons] at h
  rw [ih off (k+1) _ (by simp; omega)]
  rw [Array.toList_setIfInBounds,show off+(k+1)=(off+k)+1 by omega]
  have hs:cs.toList.length=cs.size:=Array.length_toList
  generalize hl:cs.toList=l at *
  generalize off+k=o at *
  obtain ⟨a,x,b,rfl,rfl⟩ : ∃ a x b,l=a++x :: b∧a.length=o:=⟨l.take o,l[o]'(by omega),l.drop (o+1),by rw [List.getElem_cons_drop,List.take_append_drop],by rw [List.length_take]; omega⟩
  have e1:(a++x :: b).set a.length u=a++u :: b:=by simp
  rw [e1,List.length_cons]
  have e2:(a++u :: b).take (a.length+1)=a++[u]:=by rw [List.take_append,List.take_of_length_le (by omega)]; simp
  have e3:(a++u :: b).drop (a.length+1+us.length)=b.drop us.length:=by rw [show a.length+1+us.length=a.length+(us.length+1) by omega,List.drop_append,List.drop_eq_nil_of_le (by omega)]; simp
  have e4:(a++x :: b).drop (a.length+(us.length+1))=b.drop us.length:=by rw [List.drop_append,List.drop_eq_nil_of_le (by omega)]; simp
  have e5:(a++x :: b).take a.length=a:=by simp
  rw [e2,e3,e4,e5]
  simp
theorem wg.fill {fr:Fr} {r:NV} (ha:c9 r fr) (hS:SA Z w Γ cur F) {k:Nat} {ps:List (Nat×Operand)} {us:LV} (h:wg Γ fr k ps us) :
  ∀ pre uX:List Value,pre.length=k→uX.length=us.length→Instr.fill (fun i=>some (i * 1,1)) (pre++uX).toArray (ps.map fun x=>(x.1,ev r x.2))=some (pre++us).toArray:=by
 induction h with
 | nil=>
  intro pre uX _ h2
  obtain rfl:uX=[]:=List.eq_nil_of_length_eq_zero h2
  rfl
 | @cons k x u ps us hx ho _ ih=>
  intro pre uX h1 h2
  cases uX with
  | nil=>cases h2
  | cons y uX=>
   have hc:=cells_one (ho.one hS)
   rw [List.map_cons,aV ha hx]
   unfold Instr.fill
   simp only [hc]
   rw [if_neg (by simp; omega)]
   have:=ih (pre++[u]) uX (by simp [h1]) (by simpa using h2)
   have e:(Array.foldl (fun cs (x:Value×Nat)=>cs.setIfInBounds (k * 1+x.2) x.1) (pre++y :: uX).toArray (#[u].zipIdx))=((pre++[u])++uX).toArray:=by
    subst h1
    simp
   first
    | (rw [e,this]; simp)
    | (simp only [e] at *; simp [this])
theorem wg.op {P:Program} {fr:Fr} {r:NV} {w':World} {t e n:Nat} {ps:List (Nat×Operand)} {us:LV} {d:Option Nat} {ty:TI} {pos:String} {ag:Array Edge} {g:Option (Nat×Bool)} (hl:wg Γ fr 0 ps us) (ha:c9 r fr) (hS:SA Z w Γ cur F) (hz:Hm P t e) (hn:us.length=n) (hb:(Nat.ble 1 n && Nat.ble n 16777216)=true) :
  (execOp (ev r) ⟨d,.buildSlice t n ps.toArray,ty,pos,ag,g⟩).run P w' = .ok (.value (.slice (some ⟨w'.heap.size,0,none⟩) n n)) (w'.alloc (.cells us.toArray e)):=by
 obtain ⟨h1,i,z,h2,h3,h4⟩:=hz.h
 rw [Bool.and_eq_true] at hb
 have b1:=Nat.le_of_ble_eq_true hb.1
 have b2:=Nat.le_of_ble_eq_true hb.2
 refine M1 h1 h2 h3 h4 b1 b2 ?_
 have:=hl.fill ha hS [] ((Array.range (n * 1)).map (z.cells[· % z.cells.size]!)).toList rfl (by simp [hn])
 rw [List.nil_append,List.nil_append,Array.toArray_toList] at this
 rw [show (ps.toArray.map fun (x:Nat×Operand)=>(x.1,ev r x.2)).toList=ps.map fun x=>(x.1,ev r x.2) by simp]
 exact this
theorem xw.fill {n:Nat} {fr:Fr} {r:NV} (ha:c9 r fr) (hS:SA Z w Γ cur F) {k:Nat} {ps:List (Nat×Operand)} {us:LV} (h:xw Γ fr n k ps us) :
  us.length=ps.length * n∧∀ pre uX:List Value,pre.length=k * n→uX.length=us.length→Instr.fill (fun i=>some (i * n,n)) (pre++uX).toArray (ps.map fun x=>(x.1,ev r x.2))=some (pre++us).toArray:=by
 induction h with
 | nil=>
  refine ⟨by simp,fun pre uX _ h2=>?_⟩
  obtain rfl:uX=[]:=List.eq_nil_of_length_eq_zero h2
  rfl
 | @cons k x v cs us ws ps hx hc hl _ Pt ih=>
  obtain ⟨e0,ih⟩:=ih
  have Pt:=Pt.eq
  subst Pt
  refine ⟨by rw [List.length_append,hl,e0,List.length_cons,Nat.succ_mul,Nat.add_comm],fun pre uX h1 h2=>?_⟩
  rw [List.length_append] at h2
  have hv:=hc.eq hS
  have tw:v.cells=cs.toArray:=by rw [← hv]
  rw [List.map_cons,aV ha hx]
  unfold Instr.fill
  simp only [tw]
  rw [if_neg (by simp; omega)]
  have hsf:=Hr cs (k * n) 0 (pre++uX).toArray (by simp; omega)
  have:=ih (pre++cs) (uX.drop n) (by rw [List.length_append,h1,hl,Nat.succ_mul]) (by rw [List.length_drop]; omega)
  have e:(cs.toArray.zipIdx.foldl (fun (cs:Array Value) (x:Value×Nat)=>cs.setIfInBounds (k * n+x.2) x.1) (pre++uX).toArray)=((pre++cs)++uX.drop n).toArray:=by
   apply Array.toList_inj.1
   rw [← Array.foldl_toList]
   simp only [Array.toList_zipIdx]
   rw [hsf,← h1]
   simp only [Nat.add_zero,List.take_left',List.drop_append,List.append_assoc]
   rw [List.drop_eq_nil_of_le (by omega),show pre.length+cs.length - pre.length=n by omega]
   simp
  refine Eq.trans ?_ (this.trans (by simp))
  congr 1
theorem xw.op {P:Program} {fr:Fr} {r:NV} {w':World} {t e n k:Nat} {ps:List (Nat×Operand)} {us:LV} {d:Option Nat} {ty:TI} {pos:String} {ag:Array Edge} {g:Option (Nat×Bool)} (hl:xw Γ fr k 0 ps us) (ha:c9 r fr) (hS:SA Z w Γ cur F) (hz:Kf P t e k) (hn:ps.length=n) (hb:(Nat.ble 1 n && Nat.ble (n * k) 16777216)=true) :
  (execOp (ev r) ⟨d,.buildSlice t n ps.toArray,ty,pos,ag,g⟩).run P w' = .ok (.value (.slice (some ⟨w'.heap.size,0,none⟩) n n)) (w'.alloc (.cells us.toArray e)):=by
 obtain ⟨h1,i,z,h2,h3,h4,h5⟩:=hz.h
 rw [Bool.and_eq_true] at hb
 have b1:=Nat.le_of_ble_eq_true hb.1
 have b2:=Nat.le_of_ble_eq_true hb.2
 obtain ⟨e1,hf⟩:=hl.fill ha hS
 have:=hf [] ((Array.range (n * k)).map (z.cells[· % z.cells.size]!)).toList (by simp) (by simp [e1,hn])
 rw [List.nil_append,List.nil_append,Array.toArray_toList] at this
 have aob:0 < n * k:=Nat.mul_pos b1 h5
 have h:=run_buildSlice (P:=P) w' t e n (ps.toArray.map fun (x:Nat×Operand)=>(x.1,ev r x.2)) us.toArray i z h1 h2 h3 (by rw [h4]; omega) (by rw [h4]; omega) (by rw [h4]; simpa using this)
 simp only [execOp]
 simp at h
 simp [h]
theorem xu.fill {fr:Fr} {r:NV} {pl:List (Nat×Nat)} {ps:List (Nat×Operand)} {cs es:LV} (h:xu Γ fr pl ps cs es) (ha:c9 r fr) (hS:SA Z w Γ cur F) :
  Instr.fill (fun i=>pl.toArray[i]?) cs.toArray (ps.map fun x=>(x.1,ev r x.2))=some es.toArray:=by
 induction h with
 | nil=>rfl
 | @cons i off k x v us cs ds es ps hp hx hc hl hs _ ih=>
  rw [List.map_cons,aV ha hx]
  have hv:=hc.eq hS
  have xl:pl.toArray[i]? = some (off,k):=by rw [List.getElem?_toArray]; exact Tw hp
  obtain ⟨e1,e2⟩:=hs.eq
  have sS:v.cells.size=us.length:=by rw [← hv]; simp
  unfold Instr.fill
  simp only [xl]
  rw [if_neg (by simp [sS,hl]; omega)]
  have tw:v.cells=us.toArray:=by rw [← hv]
  have:=Hr us off 0 cs.toArray (by simpa using e1)
  rw [tw]
  have h2:(us.toArray.zipIdx.foldl (fun (cs:Array Value) (x:Value×Nat)=>cs.setIfInBounds (off+x.2) x.1) cs.toArray)=ds.toArray:=by
   apply Array.toList_inj.1
   rw [← Array.foldl_toList]
   simp only [Array.toList_zipIdx] 
   rw [this,e2]; simp
  refine Eq.trans ?_ ih
  congr 1
theorem sc {α:Type} {E:ah α} {t:TI} {v:Value} {xs:List α} {f:LN} (h:(aK t E).rep w.heap [v] xs f):v8 v=xs.length:=by
 obtain ⟨base,cap,hv,_⟩:=h
 obtain rfl:v = .slice base xs.length cap:=by simpa using hv
 rfl
theorem zv.sound {fr:Fr} {r:NV} (ha:c9 r fr) {fn:Func} {rs:List ResultVar} {vs:LV} (hr:fn.results=rs.toArray) (h:zv P fr Γ rs vs) {n:Nat} (hs:SA Z w Γ [] F) :
  ∀ a:Act,a.tmps.size=n→cu a=r→(results fn a.tmps).run P w = .ok (pj vs) w:=by
 rintro a - rfl
 have key:∀ {rs:List ResultVar} {vs:LV},zv P fr Γ rs vs→Sem.run P (rs.mapM fun | .tmp t=>pure (a.tmps.getD t undef) | .cell b t=>do loadVar t (← asAddr (a.tmps.getD b undef))) w = .ok vs w:=by
  intro rs vs h
  induction h with
  | nil=>rfl
  | @tmp t v l vs h _ ih=>
   rw [List.mapM_cons]
   have:=ha _ _ h
   simp only [cu] at this
   simp only [Sem.run_bind,this,ih,Sem.run_pure,Result.andThen_ok]
  | @cell t n ty p ds vs l hk h hw _ ih=>
   rw [List.mapM_cons]
   have:=ha _ _ h
   simp only [cu] at this
   obtain ⟨dd,i,k1,k2,k3,k4⟩:=hk.h
   obtain ⟨hc,hl⟩:=hw.sound hs
   have h3:=run_loadCells_list (P:=P) (w:=w) p ds hc
   rw [hl,← k4] at h3
   have h4:Sem.run P (do loadVar ty (← asAddr (a.tmps.getD t undef))) w = .ok (.agg ds.toArray) w:=by
    rw [this]
    simp [asAddr,loadVar,wi k1,k2,sizeOf,typeInfo,k3,h3]
   simp only [Sem.run_bind] at h4 ih ⊢
   rw [h4]
   simp only [ih,Sem.run_pure,Result.andThen_ok]
 have h2:=key h
 unfold results
 rw [hr,Sem.run_bind,List.mapM_toArray,← bind_pure_comp,Sem.run_bind]
 generalize hm:Sem.run P (List.mapM _ rs) w=z
 obtain rfl:z = .ok vs w:=hm.symm.trans h2
 simp only [Result.andThen_ok,Sem.run_pure]
 have e:∀ vs:List Value,(if h:vs.toArray.size=1 then vs.toArray[0] else Value.tuple vs.toArray)=pj vs:=by
  intro vs
  match vs with
  | []=>rfl
  | [v]=>rfl
  | a :: b :: l=>rw [dif_neg (by simp)]; rfl
 rw [e]
end
end Go.Dk
namespace Go.Dk
open Go Go.Li
section
variable {B:Bs} {P:Program} {R:Type} {cx:Cx R}
theorem YM {C:World→Prop} {ops:LO} {K:(Nat→Value)→World→Prop}:∀ (l':LO) (r:NV) (w:World),C w→QL P C ops l' r (fun r'=>∀ w',C w'→K r' w')→WL P ops l' r w K:=by
 intro l'
 induction l' with
 | nil=>intro r w hw hh; exact hh w hw
 | cons o l' ih=>
  intro r w hw hh
  rcases hh with ⟨Hs,v,hv,hh⟩ | ⟨Hs,hh⟩
  ·refine .inl ⟨Hs,?_⟩
   have h3:=hv w hw
   unfold fv
   generalize (execOp (ev r) o).run P w=x at h3
   cases x with
   | halt y w'=>exact h3.elim
   | ok y w'=>
    cases y <;> simp only [Oper.quietUpon] at h3
    case value u=>obtain ⟨rfl,rfl⟩:=h3; exact ih _ _ hw hh
    case skip=>obtain ⟨rfl,rfl⟩:=h3; exact ih _ _ hw hh
    case enter f args=>
     obtain ⟨rfl,h3⟩:=h3
     exact h3.mono fun e Gh ⟨he,Pu⟩=>⟨v,he,ih _ _ Pu hh⟩
  ·exact .inr ⟨Hs,ih _ _ hw hh⟩
theorem Pv {n id:Nat} {draw:Bool} {ops:LO} {Q:Exit→(Nat→Value)→World→Prop} {r:NV} {w:World} (hd:dk n ops=true) (hm:draw=true→P.follows .mixedOrders=true∧Region.lexB .any ops.toArray=true)
  (h:QL P (aw [] w) ops ops r fun r'=>∀ w',aw [] w w'→Q .normal r' w'):W P n (.region id ops.toArray draw) Q r w:=by
 cases draw with
 | true=>exact Tx (hm rfl).1 hd (fun _=>(hm rfl).2) (aw.refl _ _) (aw.drew _ _) h
 | false=>exact xR hd (YM _ _ _ (aw.refl _ _) h)
theorem Calls.CE {f:FuncId} {fn:Func} {c:Code} {xs:List Operand} {bb:Array TypeId} {r:NV} {w:World} {d:Option Nat} {ty:TI} {pos:String} {ag:Array Edge} {g:Option (Nat×Bool)} {K:Value→World→Prop}
  (hf : P.funcs[f]? = some fn) (hb : fn.body = some c) (hn : (fn.name == "runtime.NumGoroutine") = false)
  (h:Calls P f (xs.map (ev r)).toArray w fun e w'=>∃ v,e = .returned v∧K v w'):fv P ⟨d,.call ⟨.value (.func f),xs.toArray,bb⟩,ty,pos,ag,g⟩ r w K:=by
 unfold fv
 rw [Ht hf hb hn]
 exact h
theorem wj {Z:Nat→Prop} {w:World}:∀ {Δ:QE},(∀ e∈Δ,fact Z w [] e)→HL Z w Δ []:=by
 intro Δ
 induction Δ with
 | nil=>intro _; exact .nil
 | cons e Δ ih=>intro h; exact .fact (h e (by simp)) (ih fun e he=>h e (by simp [he]))
theorem xS {Z Z2:Nat→Prop} {w:World}:∀ {Δ:QE} {F:LN},tu Δ=true→HL Z2 w Δ F→HL Z w Δ F:=by
 intro Δ
 induction Δ with
 | nil=>intro F _ h; cases h; exact .nil
 | cons e Δ ih=>
  intro F ho h
  cases e with
  | own T v x=>cases h with
   | own h k=>exact .own h (ih ho k)
   | fact h k=>exact h.elim
  | row b cs e=>cases h with
   | own h k=>exact .own h (ih ho k)
   | fact h k=>exact h.elim
  | _=>cases ho
theorem Gi {f:FuncId} {ow:Bool} {vs:LV} {Δ Γ1:QE} {β V:Type} {mo:Option β} {rt:β→V→List Value} {ps:β→V→List aX} {w:World} {Z Z':Nat→Prop} {Fd F1:LN} {y:β} (hc:UL P f ow vs Δ β V mo rt ps) (hl:HL Z' w Δ Fd) (a2:SA Z w Γ1 [] F1) (tx:Gd B Z (Fd++F1) w)
  (hz:∀ b,Z b→Z' b) (R7:∀ b,Z' b→Z b∨b∈F1) (hm:(∀ v,tu (ps y v)=true)∨∀ b,Z' b→Z b) (hy:mo=some y) :
  Calls P f vs.toArray w fun e w'=>∃ v,e = .returned (pj (rt y v))∧St B ((ps y v).reverse++Γ1) w':=by
 have db:=List.nodup_append.1 tx.nd
 refine (hc.2 w Z' Fd hl db.1 (fun b hb hzb=>(R7 b hzb).elim (tx.apart b (List.mem_append_left _ hb)) (fun h=>db.2.2 b hb b h rfl)) (fun b hb=>(R7 b hb).elim (tx.py b) (a2.lt b)) y hy).mono ?_
 rintro e w' ⟨v,he,Z2,F2,sT,jj⟩
 refine ⟨v,he,?_⟩
 have hC:aw Fd w w':=jj.lp
 have hF1:SA Z w' Γ1 [] F1:=a2.fg hC (fun b hb=>tx.apart b (List.mem_append_left _ hb)) (fun b _=>List.not_mem_nil) (fun b hb hm=>db.2.2 b hb b hm rfl)
 have fin:∀ Z3:Nat→Prop,HL Z3 w' (ps y v) F2→(∀ b,Z b→Z3 b)→(∀ b,Z3 b→Z b∨b∈Fd∨w.heap.size≤b)→(∀ b∈F2,¬ Z3 b)→(∀ b,Z3 b→b < w'.heap.size)→St B ((ps y v).reverse++Γ1) w':=by
  intro Z3 zO h31 h32 h33 h34
  obtain ⟨F3,b1,b2⟩:=zO.build (hF1.mono h31 fun _ h=>h)
  refine St.of b2 (F':=F2++F1) ?_ b1
  refine ⟨List.nodup_append.2 ⟨jj.nd,db.2.1,?_⟩,?_,h34,?_,fun b hb=>h31 b (tx.xP b hb),?_,?_⟩
  ·rintro b hb c Gb rfl
   rcases jj.low b hb with h | h
   ·exact db.2.2 b h b Gb rfl
   ·exact absurd (a2.lt b Gb) (Nat.not_lt.2 h)
  ·intro b hb hz
   rcases List.mem_append.1 hb with hb | hb
   ·exact h33 b hb hz
   ·rcases h32 b hz with h | h | h
    ·exact tx.apart b (List.mem_append_right _ hb) h
    ·exact db.2.2 b h b hb rfl
    ·exact absurd (a2.lt b hb) (Nat.not_lt.2 h)
  ·intro b hb
   rcases List.mem_append.1 hb with hb | hb
   ·rcases jj.low b hb with h | h
    ·exact tx.low b (List.mem_append_left _ h)
    ·exact .inr (Nat.le_trans tx.lp.size h)
   ·exact tx.low b (List.mem_append_right _ hb)
  ·intro b hb
   rcases h32 b hb with h | h | h
   ·exact tx.xc b h
   ·exact .inr (tx.low b (List.mem_append_left _ h))
   ·exact .inr (.inr (Nat.le_trans tx.lp.size h))
  ·exact tx.lp.then hC fun i hi=>tx.low i (List.mem_append_left _ hi)
 rcases hm with hm | hm
 ·exact fin Z (xS (hm v) sT) (fun _ h=>h) (fun _ h=>.inl h) (fun b hb h=>jj.apart b hb (jj.xP b (hz b h))) (fun b hb=>Nat.lt_of_lt_of_le (tx.py b hb) hC.size)
 ·exact fin Z2 sT (fun b h=>jj.xP b (hz b h)) (fun b h=>(jj.xc b h).imp (hm b) id) jj.apart jj.py
theorem Gj {M α:Type} {rk:RK R M} {oo:M} {E E':ah α} {t:TI} {x y:OO} {i:TypeInfo} {Γ Γ1 Γx:QE} {w:World} {r:NV} {v v' u:Value} {j j':Int} {e e':TI} {zs:List α} {xs:List (List α)} {z:α} {o1 o2:Bool} {all l:LO} {ty:TI} {pos:String} {ag:Array Edge} {g:Option (Nat×Bool)}
  (hE:∀ {h cs x f},E.rep h cs x f→f=[]) (h1:E.size=1) (hi:P.info? t=some i) (hs:i.size=1) (hS:St B Γ w) (hl:Loc Γ v (.row v' j')) (h0:Rg v j Γ) (hf:na Γ v o1 o2 E' zs qp Γx) (hr:RT E E') (h2:dt Γ (.own (aK e (aK e' E)) v' xs) Γ1)
  (hx:ev r x = .pointer (some (cw v 1 j))) (hy:ev r y=u) (hu:E.rep w.heap [u] z [])
  (k:∀ w',St B (.own (aK e (aK e' E)) v' (xs.set j'.toNat (zs.set j.toNat z)) :: Γ1) w'→WL P all l (ik r none undef) w' (CD P cx B rk oo)):tQ P cx B false ⟨none,.store t x y,ty,pos,ag,g⟩ all l rk oo r w:=by
 obtain ⟨Z,F,hS,hg⟩:=hS
 obtain ⟨j0,j1,hc⟩:=Loc.row hl rfl hS
 obtain ⟨r0,r1⟩:=h0.sound hS
 obtain ⟨dn,_,⟨⟨gg,hgg,_⟩,_⟩,_⟩:=hf.sound hS
 obtain ⟨f,F1,hp,hO,fy⟩:=h2.sound hS
 have gh:=hg.perm hp
 have db:=List.nodup_append.1 gh.nd
 have hlen:v8 v'=xs.length:=sc hO
 rw [hlen] at j1
 obtain ⟨k0,g0,a1,a2,a3⟩:=J3 rfl hO (List.getElem?_eq_getElem j1) hc
 have U6:RT (aK e' E) (bY E'):=.own hr
 have hz:xs[j'.toNat]=zs:=U6.vT (U6.le.le a1) hgg
 rw [hz] at a1
 have sT:v8 v=zs.length:=sc a1
 rw [sT] at r1
 have Bz:=List.nodup_append.1 (a2.nodup_iff.2 db.1)
 refine dx (WL.CF (E:=E) k0 w.heap.size hE h1 hi hs ⟨a1,Bz.1,fun b hb=>.inl hb⟩ (List.getElem?_eq_getElem r1) hx hy hu fun w' hC mi=>k w' ?_)
 have hkf:∀ b∈k0,b∈f:=fun b hb=>a2.mem_iff.1 (List.mem_append_left _ hb)
 obtain ⟨f',b1,b2⟩:=a3.2 w'.heap (fun b hb=>hC.block b (a3.1 b hb) fun hm=>Bz.2.2 b hm b hb rfl) _ k0 mi.1
 have hpf:f'.Perm f:=b1.trans (List.perm_append_comm.trans a2)
 exact St.put fy gh (hC.mono hkf) b2 (hpf.nodup_iff.2 db.1) fun b hb=>.inl (hpf.mem_iff.1 hb)
theorem D.sound {J:Jd R} (h:D P cx J):ru P cx J:=by
 induction h with
 | pf _ ih=>simpa [ru] using ih
 | pe _ ih=>simpa [ru] using ih
 | pz _ ih=>simpa [ru] using ih
 | @csp A B' y k _ _ U7 D6=>
  obtain ⟨a,z⟩:=y
  cases a with
  | none=>exact U7 z
  | some a=>exact D6 a z
 | @cso A y k _ _ U7 D6=>
  cases y with
  | none=>exact U7
  | some a=>exact D6 a
 | csd _ ih=>exact ih
 | tp1 _ ih=>exact ih
 | tp0 _ ih=>exact ih
 | tp2 _ ih=>exact ih
 | YJ=>exact fun B o ho=>nomatch ho
 | seq _ ih=>exact fun B o ho r w ha hs=>YN (ih B o ho r w ha hs)
 | skip _ ih=>exact fun B o ho r w ha hs=>U8 (ih B o ho r w ha hs)
 | exit _ ih=>exact fun B o ho r w ha hs=>U9 (ih B o ho r w ha hs)
 | cond hb _ ih=>exact fun B o ho r w ha hs=>M3 (ha _ _ hb) (ih B o ho r w ha hs).1 (ih B o ho r w ha hs).2
 | cdt _ ih=>exact fun B o ho r w ha hs=>⟨fun _=>ih B o ho r w ha hs,fun h=>nomatch h⟩
 | cdf _ ih=>exact fun B o ho r w ha hs=>⟨(fun h=>nomatch h),fun _=>ih B o ho r w ha hs⟩
 | cds _ _ D6 M4=>exact fun B o ho r w ha hs=>⟨fun h=>D6 B o (by rw [h] at ho; exact ho) r w ha hs,fun h=>M4 B o (by rw [h] at ho; exact ho) r w ha hs⟩
 | ret hr _ h h1=>
  intro B o ho r w ha hs
  cases ho
  refine YO (yN ?_)
  obtain ⟨Z,F,hS,hg⟩:=hs
  refine ⟨_,h.sound ha hr hS,?_⟩
  exact ⟨_,rfl,St.leave ⟨Z,F,hS,hg⟩ h1⟩
 | block _ ih=>exact fun B o ho r w ha hs=>ih B o ho r w ha hs
 | bkf _ ih=>exact fun B o ho r w ha hs=>Kj (ih B o ho r w ha hs)
 | bks h=>rw [qz] at h; exact h
 | draw _ ih=>exact fun B o ho r w ha hs=>ih B o ho r w ha hs
 | drs h=>rw [qz] at h; exact h
 | inj h=>rw [qz] at h; exact h
 | region hd _ ih=>exact fun B o ho r w ha hs=>ih hd (fun h=>nomatch h) B o ho r w ha hs _
 | rgf _ ih=>exact fun hd _ B o ho r w ha hs id=>xR hd (ih B o ho r w ha hs)
 | rgq _ ih=>exact fun hd hm B o ho r w ha hs id=>Pv hd hm (ih B o ho r w ha hs)
 | rgt _ ih=>exact fun hd _=>ih hd
 | rwu _ ih=>exact fun hd B o ho r w ha hs id=>xR hd (ih B o ho r w ha hs)
 | rwt _ ih=>exact fun hd B o ho r w ha hs id=>xR hd (ih B o ho r w ha hs)
 | rwf ht _ _ _ ih D8=>
  intro hd B o ho r w ha hs id
  obtain ⟨g,hg,ho⟩:=bind_some ho
  refine Pv hd (fun h=>nomatch h) (QL.meet _ (ih B g hg r w ha hs) ?_)
  intro r' fi w' hC
  obtain ⟨h1,h2⟩:=fi w' hC
  refine D8 g B o ho r' w' ?_ (hs.km hC)
  intro s u hl
  unfold look at hl
  cases hb:Nat.beq s _ with
  | true=>rw [hb] at hl; cases hl; rw [Nat.eq_of_beq_eq_true hb]; exact h1
  | false=>rw [hb] at hl; exact h2 s u hl
 | @osl S q _ K Γ fr m _ ih=>
  intro B o ho r w ha hs
  cases q with
  | false=>exact ih B o ho r w ha hs
  | true=>exact fun w' hC=>ih B o ho r w' ha (hs.km hC)
 | @ohl S q all tail K Γ fr m _ ih=>
  intro B o ho r w ha hs
  cases q with
  | false=>exact ih B o ho r w ha hs
  | true=>exact fun w' hC=>ih B o ho r w' ha (hs.km hC)
 | @as1 S α β q d op ty all l K Γ fr m f g _ ih=>
  intro B o ho
  refine ih B o ?_
  rw [← ho]
  cases m <;> rfl
 | @as2 S α β q d op ty al all tail l K Γ fr m f g _ ih=>
  intro B o ho
  refine ih B o ?_
  rw [← ho]
  cases m <;> rfl
 | tgn _ ih=>exact ih
 | tgg ht _ _ _ ih D8=>
  intro B o ho r w ha hs
  obtain ⟨g,hg,ho⟩:=bind_some ho
  refine QL.meet _ (ih B g hg r w ha hs) ?_
  intro r' fi w' hC
  obtain ⟨h1,h2⟩:=fi w' hC
  refine D8 g B o ho r' w' ?_ (hs.km hC)
  intro s u hl
  unfold look at hl
  cases hb:Nat.beq s _ with
  | true=>rw [hb] at hl; cases hl; rw [Nat.eq_of_beq_eq_true hb]; exact h1
  | false=>rw [hb] at hl; exact h2 s u hl
 | rgg ht _ _ _ ih D8=>
  intro hd hm B o ho r w ha hs id
  obtain ⟨g,hg,ho⟩:=bind_some ho
  refine Pv hd hm (QL.meet _ (ih B g hg r w ha hs) ?_)
  intro r' fi w' hC
  obtain ⟨h1,h2⟩:=fi w' hC
  refine D8 g B o ho r' w' ?_ (hs.km hC)
  intro s u hl
  unfold look at hl
  cases hb:Nat.beq s _ with
  | true=>rw [hb] at hl; cases hl; rw [Nat.eq_of_beq_eq_true hb]; exact h1
  | false=>rw [hb] at hl; exact h2 s u hl
 | abE hr _ h h1=>
  intro B o ho r w ha hs
  cases ho
  obtain ⟨Z,F,hS,hg⟩:=hs
  exact ⟨_,h.sound ha hr hS,⟨_,rfl,St.leave ⟨Z,F,hS,hg⟩ h1⟩⟩
 | abA _ ih=>exact fun B o ho r w ha hs=>ih B o ho r w ha hs
 | abB _ ih=>exact fun B o ho r w ha hs=>ih B o ho r w ha hs
 | @YL S V k Δ φ Γ2 Γ Γ1 Γ3 f2 fr s v _ ha hf h0 hw h1 h2=>
  intro B o ho r w vx hs
  cases ho
  exact ⟨v,wh (ha.all vx) (hf.sound vx),hs.again h0 hw h1 h2⟩
 | @YK S V k Δ φ Γ2 Γ Γ1 Γ3 f2 fr s v _ ha hf h0 hw h1 h2=>
  intro B o ho r w vx hs
  cases ho
  refine ⟨rfl,?_⟩
  show (bif Nat.beq k k then _ else False)
  rw [show Nat.beq k k=true from Nat.beq_refl k]
  exact ⟨v,wh (ha.all vx) (hf.sound vx),hs.again h0 hw h1 h2⟩
 | abC _ ih=>exact fun B o ho r w ha hs=>ih B o ho r w ha hs
 | @abD S ju kb k j Γ fr m _ ih=>
  intro B o ho r w ha hs
  have:=ih B o ho r w ha hs
  show (bif Nat.beq k j then _ else _)
  cases hb:Nat.beq k j with
  | true=>rw [hb] at this; exact this
  | false=>rw [hb] at this; exact this
 | xbt _ ih=>exact fun B o ho r w ha hs=>ih B o ho r w ha hs
 | xbf _ ih=>exact fun B o ho r w ha hs=>ih B o ho r w ha hs
 | @abz S q _ K Γ fr m _ ih=>
  intro B o ho r w ha hs
  cases q with
  | false=>exact ih B o ho r w ha hs
  | true=>exact fun w' hC=>ih B o ho r w' ha (hs.km hC)
 | @ogd q _ t f0 fr Γ b h k=>
  intro B o ho r w ha hs
  cases ho
  cases q with
  | false=>exact ⟨ha _ _ h,k.sound ha⟩
  | true=>exact fun w' hC=>⟨ha _ _ h,k.sound ha⟩
 | plain _ ih=>exact fun B o ho r w ha hs=>Dw (uE rfl) (ih B o ho r w ha hs _ _ _)
 | grd hj hv _ ih=>exact fun B o ho r w ha hs=>ih hj hv B o ho r w ha hs _ _
 | gtt _ ih=>exact fun hj hv B o ho r w ha hs pos ag=>Dw ((yO rfl hj (ha _ _ hv)).trans rfl) (ih B o ho r w ha hs _ _ _)
 | gff _ ih=>exact fun hj hv B o ho r w ha hs pos ag=>Dw ((yO rfl hj (ha _ _ hv)).trans rfl) (ih B o ho r w ha hs _ _ _)
 | gtf _ ih=>exact fun hj hv B o ho r w ha hs pos ag=>Dx ((yO rfl hj (ha _ _ hv)).trans rfl) (ih B o ho _ w (ay ha) hs)
 | gft _ ih=>exact fun hj hv B o ho r w ha hs pos ag=>Dx ((yO rfl hj (ha _ _ hv)).trans rfl) (ih B o ho _ w (ay ha) hs)
 | gun _ ih=>exact fun hj hv B o ho r w ha hs pos ag=>Dx (Hk rfl hj (ha _ _ hv)) (ih B o ho _ w (ay ha) hs)
 | @gsb M α q b tt d op ty j t all l rk Γ fr m1 m2 f _ _ D6 M4=>
  intro hj hv B o ho r w ha hs pos ag
  have key:∀ c:Bool,b=c→c9 r ((t,.bool c) :: fr)∧look ((t,Value.bool c) :: fr) t=some (.bool c):=by
   intro c hc
   refine ⟨?_,by unfold look; rw [show Nat.beq t t=true from Nat.beq_refl t]; rfl⟩
   intro s u hl
   unfold look at hl
   cases hb:Nat.beq s t with
   | true=>rw [hb] at hl; cases hl; rw [Nat.eq_of_beq_eq_true hb,← hc]; exact ha _ _ hv
   | false=>rw [hb] at hl; exact ha s u hl
  cases b with
  | true=>exact D6 hj (key true rfl).2 B o ho r w (key true rfl).1 hs pos ag
  | false=>exact M4 hj (key false rfl).2 B o ho r w (key false rfl).1 hs pos ag
 | @gsp M q b tt d op ty j t all l rk Γ fr m1 m2 _ _ D6 M4=>
  intro hj hv B o ho r w ha hs pos ag
  have key:∀ c:Bool,b=c→c9 r ((t,.bool c) :: fr)∧look ((t,Value.bool c) :: fr) t=some (.bool c):=by
   intro c hc
   refine ⟨?_,by unfold look; rw [show Nat.beq t t=true from Nat.beq_refl t]; rfl⟩
   intro s u hl
   unfold look at hl
   cases hb:Nat.beq s t with
   | true=>rw [hb] at hl; cases hl; rw [Nat.eq_of_beq_eq_true hb,← hc]; exact ha _ _ hv
   | false=>rw [hb] at hl; exact ha s u hl
  cases b with
  | true=>exact D6 hj (key true rfl).2 B o ho r w (key true rfl).1 hs pos ag
  | false=>exact M4 hj (key false rfl).2 B o ho r w (key false rfl).1 hs pos ag
 | @assoc α β q d op ty all l gt g0 Γ fr m f g _ ih=>
  intro B o ho
  refine ih B o ?_
  rw [← ho]
  cases m <;> rfl
 | mv hx _ ih=>exact fun B o ho r w ha hs pos ag g=>b9 (Mv _ (aV ha hx)) (ih B o ho _ w (ay ha) hs)
 | as hx _ ih=>exact fun B o ho r w ha hs pos ag g=>b9 (Av _ (aV ha hx)) (ih B o ho _ w (ay ha) hs)
 | add hx hy _ ih=>exact fun B o ho r w ha hs pos ag g=>b9 (Ba (aV ha hx) (aV ha hy)) (ih B o ho _ w (ay ha) hs)
 | sub hx hy _ ih=>exact fun B o ho r w ha hs pos ag g=>b9 (Go.Li.Bs (aV ha hx) (aV ha hy)) (ih B o ho _ w (ay ha) hs)
 | mul hx hy _ ih=>exact fun B o ho r w ha hs pos ag g=>b9 (Bm (aV ha hx) (aV ha hy)) (ih B o ho _ w (ay ha) hs)
 | lss hx hy _ ih=>exact fun B o ho r w ha hs pos ag g=>b9 (Bl (aV ha hx) (aV ha hy)) (ih B o ho _ w (ay ha) hs)
 | leq hx hy _ ih=>exact fun B o ho r w ha hs pos ag g=>b9 (Bk (aV ha hx) (aV ha hy)) (ih B o ho _ w (ay ha) hs)
 | gtr hx hy _ ih=>exact fun B o ho r w ha hs pos ag g=>b9 (Bg (aV ha hx) (aV ha hy)) (ih B o ho _ w (ay ha) hs)
 | geq hx hy _ ih=>exact fun B o ho r w ha hs pos ag g=>b9 (Bh (aV ha hx) (aV ha hy)) (ih B o ho _ w (ay ha) hs)
 | eql hx hy hb _ ih=>
  intro B o ho r w ha hs pos ag g
  refine b9 ?_ (ih B o ho _ w (ay ha) hs)
  cases hb with
  | int=>exact Be (aV ha hx) (aV ha hy)
  | @bool a b h=>exact fun _ _=>Tz (aV ha hx) (aV ha hy) h.h
  | @Pn a h=>exact abH h.h (aV ha hx) (aV ha hy)
  | @Po h=>exact abI h.h (aV ha hx) (aV ha hy)
  | @s2 k0 k1 a b c e h=>
   obtain ⟨f0,f1,h1,h2,h3,h4,h5,h6,h7,h8,h9⟩:=h.h
   exact fun _ _=>Pw h1 h2 h3 h4 h5 h6 h7 h8 h9 (aV ha hx) (aV ha hy)
 | neq hx hy hb _ ih=>
  intro B o ho r w ha hs pos ag g
  refine b9 ?_ (ih B o ho _ w (ay ha) hs)
  cases hb with
  | int=>exact Bn (aV ha hx) (aV ha hy)
  | @bool a b h=>exact fun _ _=>Px (aV ha hx) (aV ha hy) h.h
  | @Pn a h=>exact abJ h.h (aV ha hx) (aV ha hy)
  | @Po h=>exact abK h.h (aV ha hx) (aV ha hy)
  | @s2 k0 k1 a b c e h=>
   obtain ⟨f0,f1,h1,h2,h3,h4,h5,h6,h7,h8,h9⟩:=h.h
   exact fun _ _=>Py h1 h2 h3 h4 h5 h6 h7 h8 h9 (aV ha hx) (aV ha hy)
 | not hx _ ih=>exact fun B o ho r w ha hs pos ag g=>b9 (Nt (aV ha hx)) (ih B o ho _ w (ay ha) hs)
 | neg hx _ ih=>exact fun B o ho r w ha hs pos ag g=>b9 (Ng (aV ha hx)) (ih B o ho _ w (ay ha) hs)
 | Pp hx _ ih=>exact fun B o ho r w ha hs pos ag g=>b9 (Nk (aV ha hx)) (ih B o ho _ w (ay ha) hs)
 | @pick M q d c x y ty b v all l rk Γ fr m hc hx _ ih=>
  intro B o ho r w ha hs pos ag g
  refine b9 ?_ (ih B o ho _ w (ay ha) hs)
  intro w' _
  rw [Kk (aV ha hc)]
  cases b
  ·rw [← aV ha hx]; rfl
  ·rw [← aV ha hx]; rfl
 | @U1 M q d s k off x cs v ty all l rk Γ fr m hf hx hc _ ih=>
  intro B o ho r w ha hs pos ag g
  obtain ⟨fs,f,ds,h1,h2,h3,h4,h5⟩:=hf.h
  exact b9 (fun _ _=>Dz h1 h2 h3 h4 h5 (aV ha hx) (by simpa using hc)) (ih B o ho _ w (ay ha) hs)
 | ext hx hv _ ih=>exact fun B o ho r w ha hs pos ag g=>b9 (Ex _ (aV ha hx) (by simpa using hv)) (ih B o ho _ w (ay ha) hs)
 | @UU M q d s k off x ty a a' all l rk Γ fr m hf hx hq _ ih=>
  intro B o ho r w ha hs pos ag g
  refine b9 ?_ (ih B o ho _ w (ay ha) hs)
  rw [hq.eq]
  exact Fp hf.h (aV ha hx)
 | @len M q d n x v t ty all l rk Γ fr m ht hx hr _ ih=>
  intro B o ho r w ha hs pos ag g
  obtain ⟨Z,F,hS,_⟩:=id hs
  obtain ⟨b,c,rfl⟩:=hr.sound hS
  obtain ⟨e,i,h1,_,_⟩:=ht.h
  exact b9 (fun _ _=>vy h1 (aV ha hx)) (ih B o ho _ w (ay ha) hs)
 | @idx M α q d x y v k j t ty o1 o2 E xs Γ' all l rk Γ fr f ht hx hy hr hE _ ih=>
  intro B o ho r w ha hs pos ag g
  obtain ⟨z,hz,ho⟩:=bind_some ho
  replace hz:=sd hz
  obtain ⟨Z,F,hS,hG⟩:=hs
  obtain ⟨dn,_,⟨⟨n,hn,_⟩,Hu⟩,uM⟩:=(hr z).sound hS
  exact b9 (Ix ht.h hn hz (aV ha hx) (aV ha hy) hE) (ih z B o ho _ w (ay ha) ⟨Z,F,uM (Hu hE j z hz.1 hz.2),hG⟩)
 | Pr hx hy _ ih=>exact fun B o ho r w ha hs pos ag g=>b9 (fun _ _=>M5 (aV ha hx) (aV ha hy)) (ih B o ho _ w (ay ha) hs)
 | Ps hx hy _ ih=>exact fun B o ho r w ha hs pos ag g=>b9 (fun _ _=>M6 (aV ha hx) (aV ha hy)) (ih B o ho _ w (ay ha) hs)
 | @lkp M κ υ q d x y v t ty bq ek eu xs a z0 all l rk Γ fr m ht hz hx hy hr _ ih=>
  intro B o ho r w ha hs pos ag g
  obtain ⟨Z,F,hS,_⟩:=id hs
  obtain ⟨f,hm⟩:=hr.sound hS
  obtain ⟨kt,vt,kd,h1,h2,h3⟩:=ht.h
  obtain ⟨kt',vt',i,g1,g2,g3⟩:=hz.h
  rw [h1] at g1
  cases g1
  exact b9 (fun w' hC=>M7 (ek:=ek) (vz:=eu) h3 h1 h2 g2 g3 (by rw [aV ha hx]; exact ah.fg _ hm hC fun _ _=>List.not_mem_nil) (aV ha hy)) (ih B o ho _ w (ay ha) hs)
 | @D5 M α q d b n x us E xs e ty all l rk Γ Γ1 Γ2 fr m hx h0 h1 hE hn hb _ ih=>
  intro B o ho r w ha hs pos ag g
  have he:=aV ha hx
  refine b9 (v:=.slice (some ⟨b,0,none⟩) n n) (fun _ _=>by rw [← he]; rfl) (ih B o ho _ w (ay ha) ?_)
  obtain ⟨Z,F,hS,hg⟩:=hs
  obtain ⟨f0,F1,hp,⟨rfl,bg⟩,fy⟩:=h0.sound hS
  obtain ⟨e1,f,F2,qt,hr,ji⟩:=h1.sound fy
  have Ax:=Nat.le_of_ble_eq_true hb
  refine ⟨Z,([b]++f)++F2,⟨[b]++f,F2,rfl,⟨some ⟨b,0,none⟩,n,by rw [← hn,e1],.inr ⟨b,us.toArray,f,rfl,bg,rfl,by rw [← hn,e1]; exact Nat.le_refl _,Nat.le_trans Ax (by decide),by rw [hE,Nat.mul_one]; simp [hn],?_⟩⟩,ji.any⟩,hg.perm (by rw [List.append_assoc]; exact (qt.append_left [b]).trans hp)⟩
  rw [hE,Nat.mul_one,List.toList_toArray,← e1,List.take_length]
  exact hr
 | @lnm M κ υ q d x v t ty bq ek eu xs all l rk Γ fr m ht hx hr _ ih=>
  intro B o ho r w ha hs pos ag g
  obtain ⟨Z,F,hS,_⟩:=id hs
  obtain ⟨f,hm⟩:=hr.sound hS
  obtain ⟨kt,vt,kd,h1,_,_⟩:=ht.h
  exact b9 (fun w' hC=>TA (ek:=ek) (vz:=eu) h1 (by rw [aV ha hx]; exact ah.fg _ hm hC fun _ _=>List.not_mem_nil)) (ih B o ho _ w (ay ha) hs)
 | @U4 M q d x k k2 n s t ty all l rk Γ fr m ht hx _ ih=>
  intro B o ho r w ha hs pos ag g
  exact b9 (fun _ _=>Kl ht.h.1 ht.h.2 (aV ha hx)) (ih B o ho _ w (ay ha) hs)
 | @mh M q d op x y k k' a b t t' ty all l rk Γ fr f hx hy hk _ ih=>
  intro B o ho r w ha hs pos ag g
  obtain ⟨z,hz,ho⟩:=bind_some ho
  have BM:MY op=true∨k=k':=by
   cases hk with
   | same=>exact .inr rfl
   | sh h=>exact .inl h
  exact b9 (fun _ _=>M8 (aV ha hx) (aV ha hy) BM hz) (ih z B o ho _ w (ay ha) hs)
 | @cvs M q o1 o2 d x v xs s t ty all l rk Γ Γx fr m ht hx hr _ ih=>
  intro B o ho r w ha hs pos ag g
  obtain ⟨e,h1,h2,h3⟩:=ht.h
  obtain ⟨Z,F,hS,_⟩:=id hs
  obtain ⟨dn,_,⟨⟨f0,C9,_⟩,_⟩,_⟩:=hr.sound hS
  exact b9 (fun w' hC=>Pz h1 h2 h3 (by rw [aV ha hx]; exact ah.fg _ C9 hC fun _ _=>List.not_mem_nil)) (ih B o ho _ w (ay ha) hs)
 | @mkm M κ υ d t ty bq ek eu all l rk Γ fr m ht _ ih=>
  intro B o ho r w ha hs pos ag g
  exact dx (WL.val rfl Lh (ih _ B o ho _ _ (ay ha) (hs.new (f':=[w.heap.size]) (aw.alloc _ _ _) (fun _=>⟨w.heap.size,#[],0,rfl,rfl,(MapKept.heap_alloc w _).1,rfl⟩) (by simp) (wk (Nat.le_refl _)))))
 | @mpu M κ υ x y z v t ty bq ek eu xs a b all l rk Γ Γ1 fr m ht hx hy hz h1 _ ih=>
  intro B o ho r w ha hs pos ag g
  obtain ⟨kt,vt,kd,q1,q2,q3⟩:=ht.h
  obtain ⟨Z,F,hS,hg⟩:=hs
  obtain ⟨n,F1,hp,hO,fy⟩:=h1.sound hS
  obtain ⟨i,es,ck,rfl,e1,e2⟩:=M9 (P:=P) (d:=none) (ty:=ty) (pos:=pos) (ag:=ag) (g:=none) (ek:=ek) (vz:=eu) (a:=a) (b:=b) (x:=x) (k:=y) (v:=z) (r:=r) q3 q1 q2 (by rw [aV ha hx]; exact hO) (aV ha hy) (aV ha hz)
  rw [aV ha hx] at e2
  exact dx (WL.skip rfl e1 (ih B o ho _ _ ha (St.put (f:=[i]) (f':=[i]) fy (hg.perm hp) (aw.setObj _ _ _) e2 (by simp) fun b hb=>.inl hb)))
 | @Pq M q d n k x v t ty all l rk Γ fr m ht hx hr _ ih=>
  intro B o ho r w ha hs pos ag g
  obtain ⟨Z,F,hS,_⟩:=id hs
  obtain ⟨e,i,h1,_,_⟩:=ht.h
  obtain ⟨b,c,hv⟩:=hr.sound hS
  exact b9 (v:=.int .i64 (n:Int)) (fun _ _=>vy h1 ((aV ha hx).trans hv)) (ih B o ho _ w (ay ha) hs)
 | @Hp M α V q d n x y v k j t ty S cl en xs all l rk Γ Γx fr f ht hx hy hr sy hn _ ih=>
  intro B o ho r w ha hs pos ag g
  replace sy:SO S V cl en:=by cases sy; assumption
  obtain ⟨z,hz,ho⟩:=bind_some ho
  replace hz:=sd hz
  obtain ⟨e,i,h1,h2,h3⟩:=ht.h
  obtain ⟨Z,F,hS,hG⟩:=hs
  obtain ⟨dn,_,⟨⟨f0,C9,uY⟩,_⟩,_⟩:=hr.sound hS
  have hZ:∀ b∈f0,Z b:=fun b hb=>(uY b hb).elim id id
  obtain ⟨⟨a,c,hv⟩,bj,cs,f1,dq,Na,j4⟩:=uh C9 j hz.1 hz.2
  have p5:(tI S).size=n:=hn
  rw [p5] at j4
  obtain ⟨u,rfl,rh⟩:=sy.op dq.2
  have hblk:Z (cw v n j).block:=by
   obtain ⟨base,cap,n7,fi⟩:=C9
   rcases fi with ⟨rfl,_⟩ | ⟨b,off,cr,e',fz,f',rfl,_,rfl,_⟩
   ·simp at bj; omega
   ·obtain rfl:v = .slice (some ⟨b,off,none⟩) xs.length cap:=by simpa using n7
    have:(cw (.slice (some ⟨b,off,none⟩) xs.length cap) n j).block=b:=by unfold cw; rw [wQ]
    rw [this]; exact hZ b (by simp)
  have Hv:fact Z w [] (.bb (cw v n j) (cl z u)):=⟨fun i u' hi=>j4 i u' hi,fun _=>hblk⟩
  have fq:HL Z w (.bb (cw v n j) (cl z u) :: en z u) []:=.fact Hv (wj (rh Z fun b hb=>hZ b (Na b hb)))
  obtain ⟨F',hp,ji⟩:=fq.build hS
  refine b9 (v:=.pointer (some (cw v n j))) (fun w' hC=>?_) (ih z u B o ho _ w (ay ha) ⟨Z,F',ji,hG.perm (by simpa using hp)⟩)
  rw [nb h1 h2 ((aV ha hx).trans hv) (aV ha hy) hz.1 (by omega),h3,hv]
  rfl
 | @load M q d x a t ty lk all l rk Γ fr m ht hx _ ih=>exact fun B o ho r w ha hs pos ag g=>ih ht.h hx B o ho r w ha hs _ _ _ _
 | @UW M α q d x v j ty o E z Γx all l rk Γ fr m h _ ih=>
  intro ht hx B o ho r w ha hs t pos ag g
  obtain ⟨Z,F,hS,_⟩:=id hs
  obtain ⟨_,⟨u,k,h1,h2,_⟩,_⟩:=h.sound hS
  exact ih ht hx B o ho r w ha hs ⟨u,k,h1,h2⟩ _ _ _ _
 | UX h _ ih=>
  intro ht hx B o ho r w ha hs t pos ag g
  obtain ⟨Z,F,hS,_⟩:=id hs
  exact b9 (Ld ht (h.sound hS) (aV ha hx)) (ih B o ho _ w (ay ha) hs)
 | UY _ ih=>
  intro ht hx B o ho r w ha hs hu t pos ag g
  obtain ⟨u,k,h1,h2,_⟩:=hu
  obtain rfl:u=_:=by simpa using h2
  exact b9 (Ld ht h1 (aV ha hx)) (ih B o ho _ w (ay ha) hs)
 | UZ _ ih=>
  intro ht hx B o ho r w ha hs hu t pos ag g
  obtain ⟨u,k,h1,h2,_⟩:=hu
  obtain rfl:u=_:=by simpa using h2
  exact b9 (Ld ht h1 (aV ha hx)) (ih B o ho _ w (ay ha) hs)
 | @U0 M α q o' d x v j E z ty all l rk Γ Γ1 Γ' fr m h h2 _ ih=>
  intro ht hx B o ho r w ha hs hu t pos ag g
  obtain ⟨u,k,h1,BN⟩:=hu
  obtain ⟨Z,F,hS,hG⟩:=hs
  obtain ⟨dn,⟨u',k',h3,h4,h5⟩,uM⟩:=(h u).sound hS
  rw [h1] at h3
  cases h3
  exact b9 (Ld ht h1 (aV ha hx)) (ih u B o ho _ w (ay ha) ⟨Z,F,(h2 u).sound h1 (uM ⟨k',h4,h5⟩),hG⟩)
 | @ldp M α V q d x a S cl en z ty all l rk Γ Γx fr m sy h _ ih=>
  intro ht hx B o ho r w ha hs hu t pos ag g
  obtain ⟨u,k,h1,_⟩:=hu
  obtain ⟨Z,F,hS,hG⟩:=hs
  obtain ⟨dn,⟨u',k',h3,⟨p,l4,g',e1,bj,xT,dq,rfl⟩,h5⟩,_⟩:=h.sound hS
  rw [h1] at h3
  cases h3
  obtain rfl:u = .pointer (some p):=by simpa using e1
  obtain ⟨v,rfl,hf⟩:=sy.op dq
  have hz:∀ b∈p.block :: g',Z b:=fun b hb=>h5 b hb
  have Hv:fact Z w [] (.bb p (cl z v)):=⟨fun j u hj=>xT j u hj,fun _=>hz _ (by simp)⟩
  have fq:HL Z w (.bb p (cl z v) :: en z v) []:=.fact Hv (wj (hf Z fun b hb=>hz b (by simp [hb])))
  obtain ⟨F',hp,ji⟩:=fq.build hS
  exact b9 (Ld ht h1 (aV ha hx)) (ih p v B o ho _ w (ay ha) ⟨Z,F',ji,hG.perm (by simpa using hp)⟩)
 | M0 h _ ih=>
  intro ht hx B o ho r w ha hs t pos ag g
  obtain ⟨Z,F,hS,_⟩:=id hs
  obtain ⟨h1,h2⟩:=h.sound hS
  exact b9 (Lg ht h1 (aV ha hx) h2) (ih B o ho _ w (ay ha) hs)
 | @R5 M q d t ty ps zc cs pl all l rk Γ fr m hb hf _ ih=>
  intro B o ho r w ha hs pos ag g
  obtain ⟨Z,F,hS,_⟩:=id hs
  obtain ⟨fs,i,z,h1,h2,h3,h4,h5⟩:=hb.h
  refine b9 (Bu ?_) (ih B o ho _ w (ay ha) hs)
  have:=hf.fill ha hS
  unfold Program.built
  rw [h3,h1]
  simp only [h4,h2]
  rw [show z.cells=zc.toArray by rw [← h5]]
  exact this
 | @box M d x t ty v cs all l rk Γ fr m hx hc _ ih=>
  intro B o ho r w ha hs pos ag g
  obtain ⟨Z,F,hS,_⟩:=id hs
  refine dx (WL.box fun b w' hC bg hb=>ih b B o ho _ w' (ay ha) (hs.new (f':=[b]) hC (fun _=>⟨rfl,?_⟩) (by simp) (wk hb)))
  rw [aV ha hx,hc.eq hS] at bg
  exact bg
 | @alloc M d t ty cs all l rk Γ fr m hz _ ih=>
  intro B o ho r w ha hs pos ag g
  obtain ⟨i,z,h1,h2,h3⟩:=hz.h
  refine dx (WL.alloc h1 h2 fun b w' hC bg hb=>ih b B o ho _ w' (ay ha) (hs.new (f':=[b]) hC (fun _=>⟨rfl,?_⟩) (by simp) (wk hb)))
  rw [h3] at bg
  exact bg
 | @Hq M α d t e ty E z0 bt all l rk Γ fr m hz _ ih=>
  intro B o ho r w ha hs pos ag g
  obtain ⟨h1,_,i,z,h2,_⟩:=hz.h
  exact dx (WL.Hq E h1 h2 fun v w' f hC hO=>ih v B o ho _ w' (ay ha) (hs.new hC (fun _=>hO.1) hO.2.1 hO.fresh))
 | @abF M d n ps us t e ty all l rk Γ fr m hz hl hn hb _ ih=>
  intro B o ho r w ha hs pos ag g
  obtain ⟨Z,F,hS,_⟩:=id hs
  exact dx (WL.val rfl (hl.op ha hS hz hn hb) (ih w.heap.size B o ho _ _ (ay ha) (hs.new (f':=[w.heap.size]) (aw.alloc _ _ _) (fun _=>⟨rfl,heap_alloc_new w _⟩) (by simp) (wk (Nat.le_refl _)))))
 | @abG M d n ps us t e ty all l rk Γ fr m hz hl hn hb _ ih=>
  intro B o ho r w ha hs pos ag g
  obtain ⟨Z,F,hS,_⟩:=id hs
  exact dx (WL.val rfl (hl.op ha hS ⟨hz.h⟩ hn hb) (ih w.heap.size B o ho _ _ (ay ha) (hs.new (f':=[w.heap.size]) (aw.alloc _ _ _) (fun _=>⟨rfl,heap_alloc_new w _⟩) (by simp) (wk (Nat.le_refl _)))))
 | @lits M d n k ps us t e ty all l rk Γ fr m hz hl hn hb _ ih=>
  intro B o ho r w ha hs pos ag g
  obtain ⟨Z,F,hS,_⟩:=id hs
  exact dx (WL.val rfl (hl.op ha hS hz hn hb) (ih w.heap.size B o ho _ _ (ay ha) (hs.new (f':=[w.heap.size]) (aw.alloc _ _ _) (fun _=>⟨rfl,heap_alloc_new w _⟩) (by simp) (wk (Nat.le_refl _)))))
 | @Fk M α d x u t e ty E z0 bt all l rk Γ fr m hz hx hu _ ih=>
  intro B o ho r w ha hs pos ag g
  obtain ⟨h1,_,i,z,h2,h3,h4,_⟩:=hz.h
  obtain ⟨Z,F,hS,_⟩:=id hs
  have he:=aV ha hx
  refine dx (WL.Fk h1 h2 h3 h4 (by rw [he]; exact hu.one hS) fun b w' hC bg hb=>ih b B o ho _ w' (ay ha) (hs.new (f':=[b]) hC (fun _=>⟨rfl,?_⟩) (by simp) (wk hb)))
  rw [he] at bg
  exact bg
 | @Lf M α d y a t e ty E z0 bt all l rk Γ fr f hz hy _ ih=>
  intro B o ho r w ha hs pos ag g
  obtain ⟨n,hn,Va⟩:=bind_some ho
  obtain ⟨e1,e2,e3⟩:=Fm hn
  obtain ⟨h1,hE,i,z,h2,h3,h4,h5,h6,h7⟩:=hz.h
  subst e1
  exact dx (WL.Lf E h1 h2 h3 (by rw [h4,hE]) rfl (aV ha hy) (by rw [h6]; exact e2) e3 fun v w' f hC hO=>ih n v B o Va _ w' (ay ha) (hs.new hC (fun _=>hO.1) hO.2.1 hO.fresh))
 | @make M α d x a t e ty E z0 bt all l rk Γ fr f hz hx _ ih=>
  intro B o ho r w ha hs pos ag g
  obtain ⟨n,hn,Va⟩:=bind_some ho
  obtain ⟨e1,e2,e3⟩:=Fm hn
  obtain ⟨h1,hE,i,z,h2,h3,h4,h5,h6,h7⟩:=hz.h
  subst e1
  exact dx (WL.make E h1 h2 h3 h4 hE h5 h7 (aV ha hx) (aV ha hx) (by rw [h6]; exact e2) e3 fun v w' f hC hO=>ih n v B o Va _ w' (ay ha) (hs.new hC (fun _=>hO.1) hO.2.1 hO.fresh))
 | @app M α d s x sv xv t e ty E z0 bt all l rk Γ fr m hz cq hx _ ih=>
  obtain ⟨h1,hE,i,z,h2,h3,h4,h5,h6,h7⟩:=hz.h
  exact ih ⟨h1,hE,i,z,h2,h3,h4,h5,h6⟩ cq hx
 | ax1 hc _ ih=>exact fun h1 hs hx=>ih h1 hs hx
 | @axi M d k s x sv yv o1 o2 t e ty xs ys bt all l rk Γ Γ1 Γx fr f h1 h2 _ ih=>
  intro hT cq hx B o ho r w ha hs pos ag g
  obtain ⟨u,hu,ho⟩:=bind_some ho
  obtain ⟨b1,b2⟩:=jm hu
  obtain ⟨q1,q2,i,z,q3,q4,q5,q6,q7⟩:=hT
  obtain ⟨Z,F,hS,hg⟩:=hs
  obtain ⟨n,F1,hp,hO,fy⟩:=h1.sound hS
  have gh:=hg.perm hp
  have db:=List.nodup_append.1 gh.nd
  obtain ⟨dn,PB,⟨⟨kk,hk,BA⟩,_⟩,_⟩:=h2.sound fy
  have hd:tz kk n:=fun b hb hm=>(BA b hb).elim (fun h=>by
   cases o1
   ·exact gh.apart b (List.mem_append_left _ hm) h
   ·exact db.2.2 b hm b ((PB b h).resolve_left (by simp)) rfl) (fun h=>by
   cases o2
   ·exact gh.apart b (List.mem_append_left _ hm) h
   ·exact db.2.2 b hm b ((PB b h).resolve_left (by simp)) rfl)
  refine dx (WL.uZ (E:=aM k) n w.heap.size u2 q1 q3 q4 q5 rfl q6 (aV ha cq) ⟨hO,db.1,fun b hb=>.inl hb⟩ (aV ha hx) hk (by rw [q7]; exact b1) b2 (Nat.le_refl _) fun v w' f' hC mi cb=>ih v B o ho _ w' (ay ha) (St.put fy gh hC mi.1 mi.2.1 fun b hb=>(cb b hb).elim .inl fun h=>h.elim (fun h=>absurd h List.not_mem_nil) .inr))
 | @axb M d s x sv yv o1 o2 t e ty xs ys bt all l rk Γ Γ1 Γx fr f h1 h2 _ ih=>
  intro hT cq hx B o ho r w ha hs pos ag g
  obtain ⟨u,hu,ho⟩:=bind_some ho
  obtain ⟨b1,b2⟩:=jm hu
  obtain ⟨q1,q2,i,z,q3,q4,q5,q6,q7⟩:=hT
  obtain ⟨Z,F,hS,hg⟩:=hs
  obtain ⟨n,F1,hp,hO,fy⟩:=h1.sound hS
  have gh:=hg.perm hp
  have db:=List.nodup_append.1 gh.nd
  obtain ⟨dn,PB,⟨⟨kk,hk,BA⟩,_⟩,_⟩:=h2.sound fy
  refine dx (WL.uZ (E:=lr) n w.heap.size Ay q1 q3 q4 q5 rfl q6 (aV ha cq) ⟨hO,db.1,fun b hb=>.inl hb⟩ (aV ha hx) hk (by rw [q7]; exact b1) b2 (Nat.le_refl _) fun v w' f' hC mi cb=>ih v B o ho _ w' (ay ha) (St.put fy gh hC mi.1 mi.2.1 fun b hb=>(cb b hb).elim .inl fun h=>h.elim (fun h=>absurd h List.not_mem_nil) .inr))
 | @api M d b k y s x sv t e et ty xs bt all l rk Γ Γ1 Γ2 fr f h0 h1 _ ih=>
  intro hT cq hx B o ho r w ha hs pos ag g
  obtain ⟨u,hu,ho⟩:=bind_some ho
  obtain ⟨b1,b2⟩:=jm hu
  obtain ⟨q1,q2,i,z,q3,q4,q5,q6,q7⟩:=hT
  obtain ⟨Z,F,hS,hg⟩:=hs
  obtain ⟨n0,F0,tA,⟨rfl,bg⟩,tS⟩:=h0.sound hS
  obtain ⟨n,F1,hp,hO,fy⟩:=h1.sound tS
  have gh:Gd B Z (n++F1) w:=Gd.left (F':=[b]) (hg.perm ((List.perm_append_comm.trans (hp.append_left [b])).trans tA))
  have db:=List.nodup_append.1 gh.nd
  refine dx (WL.ui (E:=aM k) (k:=[]) n w.heap.size q1 q3 q4 q5 rfl q6 (aV ha cq) ⟨hO,db.1,fun b hb=>.inl hb⟩ (aV ha hx) bg ⟨rfl,rfl⟩ List.nodup_nil (fun _ h=>absurd h List.not_mem_nil) (fun _ h=>absurd h List.not_mem_nil) (by rw [q7]; exact b1) b2 (Nat.le_refl _) fun v w' f' hC mi cb=>ih v B o ho _ w' (ay ha) (St.put fy gh hC mi.1 mi.2.1 fun b hb=>(cb b hb).elim .inl fun h=>h.elim (fun h=>absurd h List.not_mem_nil) .inr))
 | @apb M d b y s x sv t e et ty xs bt all l rk Γ Γ1 Γ2 fr f h0 h1 _ ih=>
  intro hT cq hx B o ho r w ha hs pos ag g
  obtain ⟨u,hu,ho⟩:=bind_some ho
  obtain ⟨b1,b2⟩:=jm hu
  obtain ⟨q1,q2,i,z,q3,q4,q5,q6,q7⟩:=hT
  obtain ⟨Z,F,hS,hg⟩:=hs
  obtain ⟨n0,F0,tA,⟨rfl,bg⟩,tS⟩:=h0.sound hS
  obtain ⟨n,F1,hp,hO,fy⟩:=h1.sound tS
  have gh:Gd B Z (n++F1) w:=Gd.left (F':=[b]) (hg.perm ((List.perm_append_comm.trans (hp.append_left [b])).trans tA))
  have db:=List.nodup_append.1 gh.nd
  refine dx (WL.ui (E:=lr) (k:=[]) n w.heap.size q1 q3 q4 q5 rfl q6 (aV ha cq) ⟨hO,db.1,fun b hb=>.inl hb⟩ (aV ha hx) bg ⟨rfl,rfl⟩ List.nodup_nil (fun _ h=>absurd h List.not_mem_nil) (fun _ h=>absurd h List.not_mem_nil) (by rw [q7]; exact b1) b2 (Nat.le_refl _) fun v w' f' hC mi cb=>ih v B o ho _ w' (ay ha) (St.put fy gh hC mi.1 mi.2.1 fun b hb=>(cb b hb).elim .inl fun h=>h.elim (fun h=>absurd h List.not_mem_nil) .inr))
 | U2 hk _ ih=>exact ih
 | @apo M α d b s x sv u y xs t e e' et ty E bt all l rk Γ Γ1 Γ2 Γ3 fr f h0 h1 h2 _ ih=>
  intro hT cq hx B o ho r w ha hs pos ag g
  obtain ⟨_,hu,ho⟩:=bind_some ho
  obtain ⟨b1,b2⟩:=jm hu
  obtain ⟨q1,q2,i,z,q3,q4,q5,q6,q7⟩:=hT
  obtain ⟨Z,F,hS,hg⟩:=hs
  obtain ⟨n0,F0,tA,⟨rfl,bg⟩,tS⟩:=h0.sound hS
  obtain ⟨k,F1,tB,hK,fy⟩:=h1.sound tS
  obtain ⟨n,F2,qt,hO,ji⟩:=h2.sound fy
  have yR:((n++k)++F2++[b]).Perm F:=by
   refine List.perm_append_comm.trans (.trans (List.Perm.append_left [b] ?_) tA)
   refine .trans ?_ tB
   refine .trans ?_ (qt.append_left k)
   rw [← List.append_assoc k n F2]
   exact List.perm_append_comm.append_right F2
  have gh:Gd B Z ((n++k)++F2) w:=Gd.left (hg.perm yR)
  have db:=List.nodup_append.1 gh.nd
  have xU:=List.nodup_append.1 db.1
  have Vb:fact Z w [] (.rd false R0 u y.length):=by
   obtain ⟨base,cap,hv,_⟩:=hK
   obtain rfl:u = .slice base y.length cap:=by simpa using hv
   exact ⟨[],⟨⟨_,_,rfl⟩,rfl⟩,fun b hb=>absurd hb List.not_mem_nil⟩
  refine dx (WL.ui (E:=aK e' E) (k:=k) (n++k) w.heap.size q1 q3 q4 q5 q2 q6 (aV ha cq) ⟨hO,xU.1,fun b hb=>.inl (List.mem_append_left _ hb)⟩ (aV ha hx) bg hK xU.2.1 (fun _ h=>.inl (List.mem_append_right _ h)) (fun b hb hm=>xU.2.2 b hm b hb rfl) (by rw [q7]; exact b1) b2 (Nat.le_refl _) fun v w' f' hC mi cb=>ih v B o ho _ w' (ay ha) (St.put (ji.fact (e:=.rd false R0 u y.length) Vb) gh (hC.mono fun b hb=>List.mem_append_left _ hb) mi.1 mi.2.1 fun b hb=>(cb b hb).elim (fun h=>.inl (List.mem_append_left _ h)) fun h=>h.elim (fun h=>.inl (List.mem_append_right _ h)) .inr))
 | @ldn M α q o' d x v j Q T z ty all l rk Γ Γ1 Γ' fr m h h2 _ ih=>
  intro ht hx B o ho r w ha hs hu t pos ag g
  obtain ⟨u,k,h1,BN⟩:=hu
  obtain ⟨Z,F,hS,hG⟩:=hs
  obtain ⟨dn,⟨u',k',h3,h4,h5⟩,uM⟩:=(h u).sound hS
  rw [h1] at h3
  cases h3
  exact b9 (Ld ht h1 (aV ha hx)) (ih u B o ho _ w (ay ha) ⟨Z,F,(h2 u).sound h1 (uM ⟨k',h4,h5⟩),hG⟩)
 | @apn M α d b s x sv u y xs t e e' et ty E Q T bt all l rk Γ Γ1 Γ2 fr f h0 h1 h2 _ ih=>
  intro hT cq hx B o ho r w ha hs pos ag g
  obtain ⟨_,hu,ho⟩:=bind_some ho
  obtain ⟨b1,b2⟩:=jm hu
  obtain ⟨q1,q2,i,z,q3,q4,q5,q6,q7⟩:=hT
  obtain ⟨Z,F,hS,hg⟩:=hs
  obtain ⟨n0,F0,tA,⟨rfl,bg⟩,tS⟩:=h0.sound hS
  obtain ⟨k,hk,D9⟩:=h1.rd tS []
  obtain ⟨n,F1,hp,⟨us,gg,hO,hr,p6,BB⟩,fy⟩:=h2.sound tS
  have gh:Gd B Z (n++F1) w:=Gd.left (F':=[b]) (hg.perm ((List.perm_append_comm.trans (hp.append_left [b])).trans tA))
  have db:=List.nodup_append.1 gh.nd
  have vA:∀ b∈k,Z b:=fun b hb=>D9 b hb
  have yS:∀ b∈n,¬ Z b:=fun b hb=>gh.apart b (List.mem_append_left _ hb)
  refine dx (Hx.ui (E:=tL Q T) (G:=n) (B:=w.heap.size) (g:=gg) (k:=k) q1 q3 q4 q5 q6 (aV ha cq) ⟨us,⟨hO,db.1,fun b hb=>.inl hb⟩,hr,BB⟩ (aV ha hx) bg hk (fun b hb hm=>yS b hm (vA b hb)) (fun b hb hm=>yS b hm (p6 b hb)) (by rw [q7]; exact b1) b2 (Nat.le_refl _) fun v w' f' hC mi cb=>?_)
  obtain ⟨Ea,bw,fi,Az⟩:=mi
  exact ih v B o ho _ w' (ay ha) (St.put fy gh hC ⟨Ea,_,bw.1,fi,(fun b hb=>(List.mem_append.1 hb).elim (p6 b) (vA b)),Az⟩ bw.2.1 fun b hb=>(cb b hb).elim .inl fun h=>h.elim (fun h=>absurd h List.not_mem_nil) .inr)
 | @apm M α d b s x sv u y xs t e e' et ty E E1 bt all l rk Γ Γ1 Γ2 Γx fr f h0 h1 h2 _ ih=>
  intro hT cq hx B o ho r w ha hs pos ag g
  obtain ⟨_,hu,ho⟩:=bind_some ho
  obtain ⟨b1,b2⟩:=jm hu
  obtain ⟨q1,q2,i,z,q3,q4,q5,q6,q7⟩:=hT
  obtain ⟨Z,F,hS,hg⟩:=hs
  obtain ⟨n0,F0,tA,⟨rfl,bg⟩,tS⟩:=h0.sound hS
  obtain ⟨dn,_,⟨⟨k,hk,D9⟩,_⟩,_⟩:=h1.sound tS
  obtain ⟨n,F1,hp,⟨us,gg,hO,hr,p6,BB⟩,fy⟩:=h2.sound tS
  have gh:Gd B Z (n++F1) w:=Gd.left (F':=[b]) (hg.perm ((List.perm_append_comm.trans (hp.append_left [b])).trans tA))
  have db:=List.nodup_append.1 gh.nd
  have vA:∀ b∈k,Z b:=fun b hb=>(D9 b hb).elim id id
  have yS:∀ b∈n,¬ Z b:=fun b hb=>gh.apart b (List.mem_append_left _ hb)
  refine dx (Hx.ui (E:=bY E1) (G:=n) (B:=w.heap.size) (g:=gg) (k:=k) q1 q3 q4 q5 q6 (aV ha cq) ⟨us,⟨hO,db.1,fun b hb=>.inl hb⟩,hr,BB⟩ (aV ha hx) bg hk (fun b hb hm=>yS b hm (vA b hb)) (fun b hb hm=>yS b hm (p6 b hb)) (by rw [q7]; exact b1) b2 (Nat.le_refl _) fun v w' f' hC mi cb=>?_)
  obtain ⟨Ea,bw,fi,Az⟩:=mi
  exact ih v B o ho _ w' (ay ha) (St.put fy gh hC ⟨Ea,_,bw.1,fi,(fun b hb=>(List.mem_append.1 hb).elim (p6 b) (vA b)),Az⟩ bw.2.1 fun b hb=>(cb b hb).elim .inl fun h=>h.elim (fun h=>absurd h List.not_mem_nil) .inr)
 | @axm M α d s x sv yv xs ys t e e' ty E E1 bt all l rk Γ Γ1 Γx fr f h2 h1 _ ih=>
  intro hT cq hx B o ho r w ha hs pos ag g
  obtain ⟨_,hu,ho⟩:=bind_some ho
  obtain ⟨b1,b2⟩:=jm hu
  obtain ⟨q1,q2,i,z,q3,q4,q5,q6,q7⟩:=hT
  obtain ⟨Z,F,hS,hg⟩:=hs
  obtain ⟨dn,_,⟨⟨k,hk,D9⟩,_⟩,_⟩:=h2.sound hS
  obtain ⟨n,F1,hp,⟨us,gg,hO,hr,p6,BB⟩,fy⟩:=h1.sound hS
  have gh:=hg.perm hp
  have db:=List.nodup_append.1 gh.nd
  have vA:∀ b∈k,Z b:=fun b hb=>(D9 b hb).elim id id
  have yS:∀ b∈n,¬ Z b:=fun b hb=>gh.apart b (List.mem_append_left _ hb)
  refine dx (Hx.uZ (E:=bY E1) (G:=n) (B:=w.heap.size) (g:=gg) (k:=k) q1 q3 q4 q5 q6 (aV ha cq) ⟨us,⟨hO,db.1,fun b hb=>.inl hb⟩,hr,BB⟩ (aV ha hx) hk (fun b hb hm=>yS b hm (vA b hb)) (fun b hb hm=>yS b hm (p6 b hb)) (by rw [q7]; exact b1) b2 (Nat.le_refl _) fun v w' f' g' hC mi cb jj=>?_)
  obtain ⟨Ea,bw,fi,Az⟩:=mi
  exact ih v B o ho _ w' (ay ha) (St.put fy gh hC ⟨Ea,_,bw.1,fi,(fun b hb=>(jj b hb).elim (p6 b) (vA b)),Az⟩ bw.2.1 fun b hb=>(cb b hb).elim .inl fun h=>h.elim (fun h=>absurd h List.not_mem_nil) .inr)
 | @U3 M x y a u t ty n all l rk Γ fr m ht hx hy _ ih=>exact ih ht.h hx hy
 | @stn M x y b j n us cs ds t e ty all l rk Γ Γ1 fr m h0 h1 h2 h3 _ ih=>
  intro hT hx hy B o ho r w ha hs pos ag g
  obtain ⟨i,hi,sS⟩:=hT
  obtain ⟨Z,F,hS,hg⟩:=hs
  obtain ⟨n0,F0,tA,⟨rfl,bg⟩,tS⟩:=h0.sound hS
  obtain ⟨e1,e2⟩:=h1.eq
  refine dx (WL.PC hi (by rw [h3,sS]) bg e1 (aV ha hx) (aV ha hy) (h2.one hS) fun w' hC s9=>ih B o ho _ w' ha (St.put (f:=[b]) (f':=[b]) tS (hg.perm tA) hC ⟨rfl,by rw [e2]; exact s9⟩ (by simp) fun b hb=>.inl hb))
 | @st1 M x y b j u cs ds t e ty all l rk Γ Γ1 fr m h0 h1 h2 _ ih=>
  intro hT hx hy B o ho r w ha hs pos ag g
  obtain ⟨i,hi,sS⟩:=hT
  obtain ⟨Z,F,hS,hg⟩:=hs
  obtain ⟨n0,F0,tA,⟨rfl,bg⟩,tS⟩:=h0.sound hS
  obtain ⟨e1,e2⟩:=h1.eq
  have e3:cs.set j u=ds:=by rw [e2,List.set_eq_take_append_cons_drop,if_pos (by simp at e1; omega)]; simp
  refine dx (WL.Hy hi sS bg (by simp at e1; omega) (aV ha hx) (aV ha hy) (h2.one hS) fun w' hC s9=>ih B o ho _ w' ha (St.put (f:=[b]) (f':=[b]) tS (hg.perm tA) hC ⟨rfl,by rw [← e3]; exact s9⟩ (by simp) fun b hb=>.inl hb))
 | stl hl _ ih=>exact fun hT hx hy=>ih hT hx hy hl
 | @sti M x y v j z k xs t e ty all l rk Γ Γ1 fr m h0 h1 _ ih=>
  intro hT hx hy _ B o ho r w ha hs pos ag g
  obtain ⟨i,hi,sS⟩:=hT
  obtain ⟨Z,F,hS,hg⟩:=hs
  obtain ⟨j0,j1⟩:=h0.sound hS
  obtain ⟨n,F1,hp,hO,fy⟩:=h1.sound hS
  have gh:=hg.perm hp
  have db:=List.nodup_append.1 gh.nd
  rw [sc hO] at j1
  exact dx (WL.CF (E:=aM k) n w.heap.size u2 rfl hi sS ⟨hO,db.1,fun b hb=>.inl hb⟩ (List.getElem?_eq_getElem j1) (aV ha hx) (aV ha hy) ⟨rfl,rfl⟩ fun w' hC mi=>ih B o ho _ w' ha (St.put fy gh hC mi.1 mi.2.1 fun b hb=>.inl hb))
 | @stb M x y v j z xs t e ty all l rk Γ Γ1 fr m h0 h1 _ ih=>
  intro hT hx hy _ B o ho r w ha hs pos ag g
  obtain ⟨i,hi,sS⟩:=hT
  obtain ⟨Z,F,hS,hg⟩:=hs
  obtain ⟨j0,j1⟩:=h0.sound hS
  obtain ⟨n,F1,hp,hO,fy⟩:=h1.sound hS
  have gh:=hg.perm hp
  have db:=List.nodup_append.1 gh.nd
  rw [sc hO] at j1
  exact dx (WL.CF (E:=lr) n w.heap.size Ay rfl hi sS ⟨hO,db.1,fun b hb=>.inl hb⟩ (List.getElem?_eq_getElem j1) (aV ha hx) (aV ha hy) ⟨rfl,rfl⟩ fun w' hC mi=>ih B o ho _ w' ha (St.put fy gh hC mi.1 mi.2.1 fun b hb=>.inl hb))
 | @sri M x y v v' j j' z k zs xs t e e' ty o1 o2 all l rk Γ Γ1 Γx fr m h0 h1 h2 _ ih=>
  intro hT hx hy hl B o ho r w ha hs pos ag g
  obtain ⟨i,hi,sS⟩:=hT
  exact Gj (E:=aM k) u2 rfl hi sS hs hl h0 h1 .i h2 (aV ha hx) (aV ha hy) ⟨rfl,rfl⟩ fun w' h=>ih B o ho _ w' ha h
 | @srb M x y v v' j j' z zs xs t e e' ty o1 o2 all l rk Γ Γ1 Γx fr m h0 h1 h2 _ ih=>
  intro hT hx hy hl B o ho r w ha hs pos ag g
  obtain ⟨i,hi,sS⟩:=hT
  exact Gj (E:=lr) Ay rfl hi sS hs hl h0 h1 .b h2 (aV ha hx) (aV ha hy) ⟨rfl,rfl⟩ fun w' h=>ih B o ho _ w' ha h
 | @stm M α x y v u j z xs E t e ty all l rk Γ Γ1 Γx fr m h0 h1 h2 _ ih=>
  intro hT hx hy _ B o ho r w ha hs pos ag g
  obtain ⟨i,hi,sS⟩:=hT
  obtain ⟨Z,F,hS,hg⟩:=hs
  obtain ⟨j0,j1⟩:=h0.sound hS
  obtain ⟨dn,_,⟨⟨k,hk,D9⟩,_⟩,_⟩:=h1.sound hS
  obtain ⟨n,F1,hp,⟨us,gg,hO,hr,p6,BB⟩,fy⟩:=h2.sound hS
  have gh:=hg.perm hp
  have db:=List.nodup_append.1 gh.nd
  have vA:∀ b∈k,Z b:=fun b hb=>(D9 b hb).elim id id
  have yS:∀ b∈n,¬ Z b:=fun b hb=>gh.apart b (List.mem_append_left _ hb)
  have hl:us.length=xs.length:=by have:=kn hr; rw [BB,Nat.mul_one] at this; exact this
  have Hh:v8 v=us.length:=sc hO
  rw [Hh,hl] at j1
  refine dx (Hx.store (E:=bY E) (G:=n) (B:=w.heap.size) (g:=gg) (k:=k) hi sS ⟨us,⟨hO,db.1,fun b hb=>.inl hb⟩,hr,BB⟩ (List.getElem?_eq_getElem j1) (aV ha hx) (aV ha hy) hk (fun b hb hm=>yS b hm (vA b hb)) (fun b hb hm=>yS b hm (p6 b hb)) fun w' g' hC mi jj=>?_)
  obtain ⟨Ea,bw,fi,Az⟩:=mi
  exact ih B o ho _ w' ha (St.put fy gh hC ⟨Ea,_,bw.1,fi,(fun b hb=>(jj b hb).elim (p6 b) (vA b)),Az⟩ bw.2.1 fun b hb=>.inl hb)
 | @stw M α x y v u j z xs E t e e' ty all l rk Γ Γ1 Γ2 fr m h0 h1 h2 _ ih=>
  intro hT hx hy _ B o ho r w ha hs pos ag g
  obtain ⟨i,hi,sS⟩:=hT
  obtain ⟨Z,F,hS,hg⟩:=hs
  obtain ⟨j0,j1⟩:=h0.sound hS
  obtain ⟨k,F1,tB,hK,fy⟩:=h1.sound hS
  obtain ⟨n,F2,qt,hO,ji⟩:=h2.sound fy
  have yR:((n++k)++F2).Perm F:=by
   refine .trans ?_ tB
   refine .trans ?_ (qt.append_left k)
   rw [← List.append_assoc k n F2]
   exact List.perm_append_comm.append_right F2
  have gh:Gd B Z ((n++k)++F2) w:=hg.perm yR
  have db:=List.nodup_append.1 gh.nd
  have xU:=List.nodup_append.1 db.1
  rw [sc hO] at j1
  exact dx (WL.PD (E:=aK e' E) (k:=k) (n++k) w.heap.size rfl hi sS ⟨hO,xU.1,fun b hb=>.inl (List.mem_append_left _ hb)⟩ (List.getElem?_eq_getElem j1) (aV ha hx) (aV ha hy) hK xU.2.1 (fun _ h=>.inl (List.mem_append_right _ h)) (fun b hb hm=>xU.2.2 b hm b hb rfl) fun w' f' hC mi cb=>ih B o ho _ w' ha (St.put ji gh (hC.mono fun b hb=>List.mem_append_left _ hb) mi.1 mi.2.1 fun b hb=>(cb b hb).elim (fun h=>.inl (List.mem_append_left _ h)) fun h=>h.elim (fun h=>.inl (List.mem_append_right _ h)) .inr))
 | @MZ M q d f xs vs bb ty all l rk Γ fr m hf hx _ ih=>
  intro B o ho r w ha hs pos ag g
  obtain ⟨fn,c,f1,f2,f3⟩:=hf.h
  refine ih B o ho r w ha hs pos ag g fun w'=>?_
  rw [Ht f1 f2 f3,ql ha hx]
 | @cav M q d f x xs vs us ws as bs bb ty all l rk Γ fr m hv hx h1 h2 _ ih=>
  intro B o ho r w ha hs pos ag g
  refine ih.2 B o ho r w ha hs pos ag g fun w'=>?_
  obtain ⟨fn,c,f1,f2,f3⟩:=ih.1
  rw [Hz (aV ha hv) f1 f2 f3,ql ha hx,List.append_assoc,h1.eq,h2.eq]
 | @fa f j hf _ ih=>exact ⟨hf.h,ih⟩
 | @ia t a j hf _ ih=>exact ⟨hf.h,ih⟩
 | @im t name nm f j hf hn _ ih=>
  rw [qz] at hn
  subst hn
  exact ⟨f,hf.h,ih⟩
 | @cin M q d name t x u xs vs bb ty all l rk Γ fr m hv hx _ ih=>
  intro B o ho r w ha hs pos ag g
  obtain ⟨f,h1,h2⟩:=ih
  refine h2 B o ho r w ha hs pos ag g fun w'=>?_
  rw [Gk h1 (aV ha hv),ql ha hx]
 | @mkf M q d f xs ys as bs ty all l rk Γ fr m hx hy _ ih=>
  intro B o ho r w ha hs pos ag g
  refine b9 ?_ (ih B o ho _ w (ay ha) hs)
  intro w' _
  rw [JI,ql ha hx,ql ha hy]
 | @mki M q d x v t ty all l rk Γ fr m hf hx _ ih=>
  intro B o ho r w ha hs pos ag g
  obtain ⟨ds,h1,h2⟩:=hf.h
  exact b9 (If h1 h2 _ (aV ha hx)) (ih B o ho _ w (ay ha) hs)
 | @tas M q d x u t a xt ty all l rk Γ fr m hx _ ih=>exact fun B o ho r w ha hs pos ag g=>b9 (Ta ih.1 (aV ha hx)) (ih.2 B o ho _ w (ay ha) hs)
 | @atl M q d f x a n bb ty all l rk Γ fr m hf hx hc _ ih=>
  intro B o ho r w ha hs pos ag g
  obtain ⟨fn,h1,h2,h3,h4,h5⟩:=hf.h
  obtain ⟨Z,F,hS,hG⟩:=id hs
  exact b9 (fun w' hC=>Nb h1 h2 h3 h4 h5 (aV ha hx) (hc.sound (hS.km hC))) (ih B o ho _ w (ay ha) hs)
 | @ata M d f x y b j n z cs ds bb ty e all l rk Γ Γ1 fr m hf hx hy h0 h1 h2 _ ih=>
  intro B o ho r w ha hs pos ag g
  obtain ⟨fn,q1,q2,q3,q4,q5⟩:=hf.h
  obtain ⟨Z,F,hS,hg⟩:=hs
  obtain ⟨n0,F0,tA,⟨rfl,bg⟩,tS⟩:=h0.sound hS
  obtain ⟨e1,e2⟩:=h2.eq
  have e3:cs.set j (.int .i64 (ao (n+z)))=ds:=by rw [e2,List.set_eq_take_append_cons_drop,if_pos (by simp at e1; omega)]; simp
  refine dx (WL.YP q1 q2 q3 q4 q5 bg h1 (aV ha hx) (aV ha hy) fun w' hC s9=>ih B o ho _ w' (ay ha) (St.put (f:=[b]) (f':=[b]) tS (hg.perm tA) hC ⟨rfl,by rw [← e3]; exact s9⟩ (by simp) fun b hb=>.inl hb))
 | cvn=>exact fun B o ho=>nomatch ho
 | @cvq M β ow d f vs op ty Δ mo rt all l rk Γ fr g hc h0 h1 _ ih=>
  intro B o ho r w ha hs pos ag gg rh
  obtain ⟨y,hy,ho⟩:=bind_some ho
  refine ⟨pj (rt y ()),?_,ih y B o ho _ w (ay ha) hs⟩
  intro w' hC
  unfold Oper.quietUpon
  rw [rh w']
  refine ⟨rfl,?_⟩
  obtain ⟨Z,F,hS,hG⟩:=hs
  have HA:=hS.km hC
  have kh:=hG.km hC
  rw [s7] at hc
  refine (hc.2 w' (fun b=>Z b∨b∈F) [] (h1.sound (fun _ h=>.inl h) (fun _ _ h=>.inr h) HA h0.ho) List.nodup_nil (fun b hb=>absurd hb List.not_mem_nil)
   (fun b hb=>hb.elim (kh.py b) (HA.lt b)) y hy).mono ?_
  rintro e Gh ⟨v,he,Z2,F2,_,jj⟩
  exact ⟨he,hC.trans jj.lp⟩
 | @cvw M β V ow d f vs op ty Δ mo rt ps all l rk Γ fr g hc _ _ ih=>exact ih hc
 | @czt M β V d f vs op ty Δ mo rt ps all l rk Γ Γ1 fr g h0 h1 _ ih=>
  intro hc B o ho r w ha hs pos ag gg rh
  obtain ⟨y,hy,ho⟩:=bind_some ho
  unfold tQ fv
  rw [rh w]
  obtain ⟨Z,F,hS,hG⟩:=hs
  obtain ⟨Fd,F1,a1,a2,a3⟩:=h0.sound hS
  have tx:=hG.perm a3
  rw [s7] at hc
  exact (Gi hc (Z':=fun b=>Z b∨b∈F1) (h1.sound (fun _ h=>.inl h) (fun _ _ h=>.inr h) a2 a1) a2 tx (fun _ h=>.inl h) (fun _ h=>h) (.inl (hc.1 rfl y)) hy).mono fun e w' ⟨v,h2,h3⟩=>⟨_,h2,ih y v B o ho _ w' (ay ha) h3⟩
 | @czf M β V d f vs op ty Δ mo rt ps all l rk Γ Γ1 fr g h0 _ ih=>
  intro hc B o ho r w ha hs pos ag gg rh
  obtain ⟨y,hy,ho⟩:=bind_some ho
  unfold tQ fv
  rw [rh w]
  obtain ⟨Z,F,hS,hG⟩:=hs
  obtain ⟨Fd,F1,Zn,a1,a2,a3⟩:=h0.sound hS
  have tx:=Gd.freeze (hG.perm a3) fun b hb=>hS.lt b (a3.mem_iff.1 (List.mem_append_right _ hb))
  rw [s7] at hc
  exact (Gi hc a1 a2 tx (fun _ h=>h) (fun _ h=>.inl h) (.inr fun _ h=>h) hy).mono fun e w' ⟨v,h2,h3⟩=>⟨_,h2,ih y v B o ho _ w' (ay ha) h3⟩
 | mo1 _ ih=>exact fun B o ho r w ha hs=>ih B o ho r w ha hs.back
 | mo2 _ ih=>exact fun B o ho r w ha hs=>ih B o ho r w ha hs.R6
 | mo0 _ ih=>exact fun B o ho r w ha hs=>ih B o ho r w ha hs
 | mn1 _ ih=>exact fun B o ho r w ha hs=>ih B o ho r w ha hs.back
 | mn2 _ ih=>exact fun B o ho r w ha hs=>ih B o ho r w ha hs.R6
 | mn0 _ ih=>exact fun B o ho r w ha hs=>ih B o ho r w ha hs
theorem loop {S S1 V:Type} (k:Nat) (Δ:S1→V→List aX) (φ:S1→V→Fr) (v0:V) (f2:Fr) {ju:List KI} {kb:Kb R S} {c:Code} {s0:S1} {body:S1→Option (Out S1 R)} {f:S1→Option (Out S R)} {Γ Γ1 Γ2:QE} {fr:Fr}
   (ha:tK fr (φ s0 v0)) (hf:tK fr f2) (h0:EO Γ (Δ s0 v0) Γ1) (hn:OW Γ (Δ s0 v0)) (hs:l5 Γ1 Γ2)
   (hb:∀ s v,D P cx (.p (φ s v) (Δ s v) f2 Γ2 fun fr Γ=>.c ⟨[],.loop V k Δ φ Γ2 f2⟩ c Γ fr (body s)))
   (hk:∀ s v,D P cx (.p (φ s v) (Δ s v) f2 Γ2 fun fr Γ=>.mn ⟨ju,kb⟩ Γ fr (f s))):Bx (ru P cx (.bk true k ⟨ju,kb⟩ (.loop c) Γ fr (ai (af k (aj body s0)) f))):=by
 rw [qz]
 intro B o ho r w vx sU
 refine Lj (T:=TT P cx B) (LI B Δ φ _ f2) ho ⟨v0,wh (ha.all vx) (hf.sound vx),sU.enter h0 hn hs⟩ ?_ ?_ ?_
 ·intro x r w he hx
  subst he
  exact yN hx
 ·rintro s r w ⟨v,h1,h2⟩ o ho
  exact (hb s v).sound B o ho r w h1 h2
 ·rintro s r w ⟨v,h1,h2⟩ ho
  exact (hk s v).sound B o ho r w h1 h2
noncomputable def pc.{u,v,w} {A:Type u} {B:Type v} {C:Sort w} (f:A→B→C) (p:A×B):C:=Prod.rec (motive:=fun _=>C) f p
theorem j5 {S S1 V A:Type} (k:Nat) (a0:A) (Δ:A→S1→V→List aX) (φ:A→S1→V→Fr) (v0:V) (f2:Fr) {ju:List KI} {kb:Kb R S} {c:Code} {s0:S1} {body:S1→Option (Out S1 R)} {f:S1→Option (Out S R)} {Γ Γ1 Γ2:QE} {fr:Fr}
   (ha:tK fr (φ a0 s0 v0)) (hf:tK fr f2) (h0:EO Γ (Δ a0 s0 v0) Γ1) (hn:OW Γ (Δ a0 s0 v0)) (hs:l5 Γ1 Γ2)
   (hb:∀ s v,D P cx (.p (φ a0 s v) (Δ a0 s v) f2 Γ2 fun fr Γ=>.c ⟨[],.loop V k (Δ a0) (φ a0) Γ2 f2⟩ c Γ fr (body s)))
   (hk:∀ s v,D P cx (.p (φ a0 s v) (Δ a0 s v) f2 Γ2 fun fr Γ=>.mn ⟨ju,kb⟩ Γ fr (f s))):Bx (ru P cx (.bk true k ⟨ju,kb⟩ (.loop c) Γ fr (ai (af k (aj body s0)) f))):=
 loop k (Δ a0) (φ a0) v0 f2 ha hf h0 hn hs hb hk
theorem quiet {S:Type} {id:Nat} {K:dg R S} {ops:LO} {Γ:QE} {fr:Fr} {m:Option (Out S R)} (hB:(P.follows .mixedOrders && dk cx.n ops && Region.lexB .any ops.toArray)=true) (h:D P cx (.rg (Aw ops) true ops K Γ fr m)):Bx (ru P cx (.dr id ops K Γ fr m)):=by
 simp only [Bool.and_eq_true] at hB
 rw [qz]
 exact fun B o ho r w ha hs=>h.sound hB.1.2 (fun _=>⟨hB.1.1,hB.2⟩) B o ho r w ha hs _
theorem tail {S:Type} {id:Nat} (k:Nat) {K:dg R S} {l ops tl:LO} {Γ:QE} {fr:Fr} {m:Option (Out S R)} (hB:(P.follows .mixedOrders && dk cx.n l && ((l.take k).all fun o=>xV o.op) && Region.lexTailB .any l.toArray k)=true) (ho:ops=l.take k) (ht:tl=l.drop k)
  (h:D P cx (.o true l ops (.h l tl K) Γ fr m)):Bx (ru P cx (.dr id l K Γ fr m)):=by
 simp only [Bool.and_eq_true] at hB
 obtain ⟨⟨⟨h1,h2⟩,h3⟩,h4⟩:=hB
 subst ho ht
 rw [qz]
 intro B o ho r w ha hs
 exact Vc k h1 h2 h3 h4 (aw.refl _ _) (h.sound B o ho r w ha hs)
def HB:Nat→List Value→Fr
 | _,[]=>[]
 | i,v :: l=>(i,v) :: HB (i+1) l
theorem Nc {args:LV}:c9 (fun t=>args.getD t undef) ((HB 0 args).reverse++[]):=by
 refine wh ?_ v7
 have key:∀ (l:LV) (i:Nat) (p:Nat×Value),p∈HB i l→i≤p.1∧l[p.1 - i]? = some p.2:=by
  intro l
  induction l with
  | nil=>intro i p hp; cases hp
  | cons a l ih=>
   intro i p hp
   unfold HB at hp
   rcases List.mem_cons.1 hp with rfl | hp
   ·simp
   ·obtain ⟨h1,h2⟩:=ih _ _ hp
    refine ⟨by omega,?_⟩
    rw [show p.1 - i=(p.1 - (i+1))+1 by omega]
    simpa using h2
 intro p hp
 obtain ⟨_,h⟩:=key args 0 p hp
 simp only [Nat.sub_zero] at h
 simp [List.getD_eq_getElem?_getD,h]
theorem cf {β V:Type} {post:β→V→List aX} (h:∀ y v,tu (post y v)=true):true=true→∀ y v,tu (post y v)=true:=fun _=>h
theorem HC {β V:Type} {post:β→V→List aX}:false=true→∀ y v,tu (post y v)=true:=fun h=>nomatch h
theorem ct {f:FuncId} {fn:Func} {ow:Bool} {c:Code} {args:LV} {Δ:QE} {S V:Type} {m:Option (Out S R)} {ret:R→V→List Value} {post:R→V→List aX} (hw:ow=true→∀ y v,tu (post y v)=true) (hf:P.funcs[f]? = some fn) (hb:fn.body=some c) (hl:Nat.ble args.length fn.ntmps=true)
  (h:D P ⟨fn.ntmps,fn,V,ret,post⟩ (.p (HB 0 args) Δ [] [] fun fr Γ=>.c ⟨[],.top⟩ c Γ fr m)):Ct P f ow (aq m) args Δ ret post:=by
 rw [s7]
 refine ⟨hw,?_⟩
 intro w Z F hh db hap bj y hy
 have hs:=h.sound
 obtain ⟨F',hp,hS⟩:=hh.build (Γ:=[]) (F:=[]) rfl
 rw [List.append_nil] at hp
 have sU:St ⟨w,Z,F⟩ (Δ.reverse++[]) w:=⟨Z,F',hS,Gd.perm ⟨db,hap,bj,fun b hb=>.inl hb,fun _ h=>h,fun _ h=>.inl h,aw.refl _ _⟩ hp⟩
 exact (Lk (Rr:=fun y e w'=>∃ v:V,e = .returned (pj (ret y v))∧RW ⟨w,Z,F⟩ (post y v) w') hf hb rfl (Nat.le_of_ble_eq_true hl) (Gl hy)
  fun o ho=>hs ⟨w,Z,F⟩ o ho _ _ Nc sU)
end
end Go.Dk
