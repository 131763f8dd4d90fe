/- A calculus of walks: that its rules hold. No condition. -/
import Derived.Test.YtbmchcnkbonmkaaGreatDa
import Derived.Test.YtbmchcnkbonmkaaGreatLn
namespace Go.Dk
open Go Go.Li
section
variable {Z Z':Nat→Prop} {w w':World} {cur F f:LN} {Γ Γ' Γ1 Δ:QE} {e:av} {B:Bs} {P:Program}
theorem Gd.left {F':LN} (h:Gd B Z (F++F') w):Gd B Z F w:=
 ⟨(List.nodup_append.1 h.nd).1,fun b hb=>h.apart b (List.mem_append_left _ hb),h.tv,fun b hb=>h.low b (List.mem_append_left _ hb),h.x9,h.yc,h.lq⟩
theorem HO.hl (h:OW Γ Δ):∀ {cur F F':LN},SA Z w Γ cur F'→HO Z w Δ F→HL Z w Δ F:=by
 induction h with
 | nil=>intro _ F _ _ h; cases h; exact .nil
 | own _ ih=>intro _ F _ hs h; cases h with | own h k=>exact .own h (ih hs k)
 | om _ ih=>intro _ F _ hs h; cases h with | own h k=>exact .own h (ih hs k)
 | row _ ih=>intro _ F _ hs h; cases h with | own h k=>exact .own h (ih hs k)
 | rd h _ ih=>intro _ F _ hs hh; cases hh with
  | own h k=>exact h.elim
  | rd k=>exact .fact (h.rd hs _) (ih hs k)
theorem FO.ho (h:FO Δ):HO Z w Δ []:=by
 induction h with
 | nil=>exact .nil
 | rd _ ih=>exact .rd ih
 | aw _ ih=>exact .aw ih
theorem sg.all {fr g:Fr} {r:NV} (h:sg fr g) (ha:cu r fr):∀ p∈g,r p.1=p.2:=by
 induction h with
 | nil=>intro p hp; cases hp
 | cons h _ ih=>intro p hp; rcases List.mem_cons.1 hp with rfl | hp; exact ha _ _ h; exact ih p hp
theorem uc {r:NV} {f:Fr}:∀ {g:Fr},(∀ p∈g,r p.1=p.2)→cu r f→cu r (g++f):=by
 intro g
 induction g with
 | nil=>intro _ h; exact h
 | cons a g ih=>
  intro hg h t v hl
  obtain ⟨s,u⟩:=a
  rw [List.cons_append] at hl
  unfold look at hl
  cases hb:Nat.beq t s with
  | true=>rw [hb] at hl; cases hl; rw [Nat.eq_of_beq_eq_true hb]; exact hg (s,v) (by simp)
  | false=>rw [hb] at hl; exact ih (fun p hp=>hg p (by simp [hp])) h t v hl
theorem rm {r:NV} {f g:Fr} (hg:∀ p∈g,r p.1=p.2) (h:cu r f):cu r (g.reverse++f):=uc (fun p hp=>hg p (List.mem_reverse.1 hp)) h
theorem jz.sound (h:jz Γ Γ'):∀ {cur F:LN},SA Z w Γ cur F→SA Z w Γ' cur F:=by
 induction h with
 | nil=>intro _ _ h; exact h
 | own _ ih=>rintro _ _ ⟨f,F',h1,h2,h3⟩; exact ⟨f,F',h1,h2,ih h3⟩
 | om _ ih=>rintro _ _ ⟨f,F',h1,h2,h3⟩; exact ⟨f,F',h1,h2,ih h3⟩
 | row _ ih=>rintro _ _ ⟨f,F',h1,h2,h3⟩; exact ⟨f,F',h1,h2,ih h3⟩
 | Nc _ ih=>intro _ _ h; exact ⟨h.1,ih h.2⟩
 | Hv _ ih=>intro _ _ h; exact ⟨h.1,ih h.2⟩
 | ad _ ih=>intro _ _ h; exact ih h.2
 | aw _ ih=>intro _ _ h; exact ⟨h.1,ih h.2⟩
 | hd _ ih=>intro _ _ h; exact ih h.2
 | gp _ ih=>rintro _ _ ⟨f,F',h1,h2,h3⟩; exact ⟨f,F',h1,h2,ih h3⟩
theorem TU {α:Type} {E:ai α} (hE:∀ {h:Array Obj} {cs:LV} {x y:α} {f g:LN},E.rep h cs x f→E.rep h cs y g→f=g) {h:Array Obj}:∀ {xs ys:List α} {cs:LV} {f g:LN},xs.length=ys.length→dv E h cs xs f→dv E h cs ys g→f=g:=by
 intro xs
 induction xs with
 | nil=>
  intro ys cs f g hl h1 h2
  cases ys with
  | nil=>obtain ⟨_,rfl⟩:=h1; obtain ⟨_,rfl⟩:=h2; rfl
  | cons y ys=>cases hl
 | cons x xs ih=>
  intro ys cs f g hl h1 h2
  cases ys with
  | nil=>cases hl
  | cons y ys=>
   obtain ⟨c,iz,f1,f2,rfl,rfl,a1,a2⟩:=h1
   obtain ⟨d,ds',g1,g2,e1,rfl,b1,b2⟩:=h2
   obtain ⟨rfl,rfl⟩:=List.append_inj e1 ((E.len a1).trans (E.len b1).symm)
   rw [hE a1 b1,ih (by simpa using hl) a2 b2]
theorem DT.fp {α:Type} {T:ai α} (h:DT T):∀ {h:Array Obj} {cs:LV} {x y:α} {f g:LN},T.rep h cs x f→T.rep h cs y g→f=g:=by
 induction h with
 | i=>rintro h cs x y f g ⟨_,rfl⟩ ⟨_,rfl⟩; rfl
 | b=>rintro h cs x y f g ⟨_,rfl⟩ ⟨_,rfl⟩; rfl
 | @own α e E _ ih=>
  rintro h cs x y f g ⟨base,cap,rfl,a⟩ ⟨Ze,abU,e1,b⟩
  simp only [List.cons.injEq,Value.slice.injEq,and_true] at e1
  obtain ⟨rfl,hl,rfl⟩:=e1
  rcases a with ⟨rfl,_,_,rfl⟩ | ⟨b1,cr,f',rfl,a2,rfl,_,_,_,a3⟩
  ·rcases b with ⟨_,_,_,rfl⟩ | ⟨Km,Z7,g',e1,_⟩
   ·rfl
   ·cases e1
  ·rcases b with ⟨e1,_⟩ | ⟨Km,Z7,g',e1,c2,rfl,_,_,_,c3⟩
   ·cases e1
   ·cases e1
    rw [a2] at c2
    cases c2
    rw [hl] at a3
    rw [TU ih hl a3 c3]
theorem In.aw {p:Addr} {cs:LV} (h:In (.aw p cs) Γ):∀ {cur F:LN},SA Z w Γ cur F→∀ dx,fact Z w dx (.aw p cs):=by
 induction h with
 | here=>intro cur F h dx; exact h.1
 | @there a Γ _ ih=>
  intro cur F hS
  cases a with
  | own T v x=>obtain ⟨f,F',h1,h2,h3⟩:=hS; exact ih h3
  | om e E v xs=>obtain ⟨f,F',h1,h2,h3⟩:=hS; exact ih h3
  | row b cs e=>obtain ⟨f,F',h1,h2,h3⟩:=hS; exact ih h3
  | gp e E v xs j u=>obtain ⟨f,F',h1,h2,h3⟩:=hS; exact ih h3
  | _=>exact ih hS.2
theorem zk.get {α:Type} {T:ai α} {v:Value} {x:α} (h:zk (.rd true T v x) Γ):∀ {cur F:LN},SA Z w Γ cur F→fact Z w cur (.rd true T v x):=by
 induction h with
 | here=>intro cur F h; exact h.1
 | row _ ih=>rintro cur F ⟨f,F',h1,h2,h3⟩; exact ih h3
 | rd _ ih=>intro cur F h; exact ih h.2
 | ad _ ih=>intro cur F h; exact ih h.2
 | hd _ ih=>intro cur F h; exact ih h.2
 | aw _ ih=>intro cur F h; exact ih h.2
theorem KA.sound {α β:Type} {T:ai α} {v u:Value} {x:α} {T':ai β} {z:β} (h:KA T v x (.rd true T' u z) Γ):∀ {cur F:LN},SA Z w Γ cur F→∃ f,T.rep w.heap [v] x f∧fact Z w f (.rd true T' u z):=by
 induction h with
 | here h=>rintro cur F ⟨f,F',h1,h2,h3⟩; exact ⟨f,h2,h.get h3⟩
 | @there a Γ _ ih=>
  intro cur F hS
  cases a with
  | own T v x=>obtain ⟨f,F',h1,h2,h3⟩:=hS; exact ih h3
  | om e E v xs=>obtain ⟨f,F',h1,h2,h3⟩:=hS; exact ih h3
  | row b cs e=>obtain ⟨f,F',h1,h2,h3⟩:=hS; exact ih h3
  | gp e E v xs j u=>obtain ⟨f,F',h1,h2,h3⟩:=hS; exact ih h3
  | _=>exact ih hS.2
theorem MF.sound {o:Option av} (h:MF Γ o Δ) {cur F:LN} (hs:SA Z w Γ cur F):∀ {dx Fd:LN},(∀ e,o=some e→rf Z w dx e)→HO Z w Δ Fd→SA Z w Δ dx Fd:=by
 induction h with
 | nil=>intro _ _ _ h; cases h; rfl
 | own _ ih=>intro _ _ _ h; cases h with | own h k=>exact ⟨_,_,rfl,h,ih (by rintro e he; cases he; exact h) k⟩
 | om _ ih=>intro _ _ _ h; cases h with | own h k=>exact ⟨_,_,rfl,h,ih (by rintro e he; cases he) k⟩
 | row _ ih=>intro _ _ ho h; cases h with | own h k=>exact ⟨_,_,rfl,h,ih ho k⟩
 | gp _ ih=>intro _ _ _ h; cases h with | own h k=>exact ⟨_,_,rfl,h,ih (by rintro e he; cases he) k⟩
 | rd h _ ih=>
  intro _ _ ho hh
  cases hh with
  | own h k=>exact h.elim
  | rd k=>exact ⟨h.rd hs _,ih ho k⟩
 | @Hv α β T v u x T' z Δ hd h _ ih=>
  intro dx _ ho hh
  cases hh with
  | own h k=>exact h.elim
  | rd k=>
   obtain ⟨f,h1,h2⟩:=h.sound hs
   have h3:T.rep w.heap [v] x dx:=ho _ rfl
   rw [hd.fp h1 h3] at h2
   exact ⟨h2,ih ho k⟩
 | aw h _ ih=>
  intro _ _ ho hh
  cases hh with
  | own h k=>exact h.elim
  | aw k=>exact ⟨h.aw hs _,ih ho k⟩
theorem St.of {F':LN} (hs:SA Z w Γ [] F) (hg:Gd B Z F' w) (hp:F.Perm F'):St B Γ w:=⟨Z,F,hs,hg.perm hp⟩
theorem St.enter (h:St B Γ w) {Γ1 Γ2:QE} (h0:EO Γ Δ Γ1) (hw:OW Γ Δ) (h1:jz Γ1 Γ2):St B (Δ.reverse++Γ2) w:=by
 obtain ⟨Z,F,hs,hg⟩:=h
 obtain ⟨Fd,F1,a1,a2,a3⟩:=h0.sound hs
 obtain ⟨F2,b1,b2⟩:=HL.build (HO.hl hw hs a1) (h1.sound a2)
 exact St.of b2 hg (b1.trans a3)
theorem St.again (h:St B Γ w) {Γ1 Γ2 Γ3:QE} (h0:EO Γ Δ Γ1) (hw:OW Γ Δ) (h1:EO Γ1 Γ2 Γ3) (h2:MF Γ none Γ2):St B (Δ.reverse++Γ2) w:=by
 obtain ⟨Z,F,hs,hg⟩:=h
 obtain ⟨Fd,F1,a1,a2,a3⟩:=h0.sound hs
 obtain ⟨VD,F3,c1,c2,c3⟩:=h1.sound a2
 obtain ⟨F2,b1,b2⟩:=HL.build (HO.hl hw hs a1) (h2.sound hs (dx:=[]) (by rintro e he; cases he) c1)
 refine St.of (F':=Fd++VD) b2 (Gd.left (F':=F3) (hg.perm ?_)) b1
 rw [List.append_assoc]
 exact (c3.append_left Fd).trans a3
theorem St.leave (h:St B Γ w) (h0:EF Γ Δ Γ1):Nd B Δ w:=by
 obtain ⟨Z,F,hs,hg⟩:=h
 obtain ⟨Fd,F',Zn,a1,a2,a3⟩:=h0.sound hs
 refine ⟨_,Fd,a1,Gd.left (F':=F') (Gd.freeze (hg.perm a3) fun b hb=>hs.lt b (a3.mem_iff.1 (List.mem_append_right _ hb)))⟩
theorem St.back {β:Type} {e:TI} {E:ai β} {v u:Value} {xs:List β} {j:Int} {z:β} {Γ0:QE} (h:St B (.own E u z :: .gp e E v xs j u :: Γ0) w):St B (.own (aI e E) v (xs.set j.toNat z) :: Γ0) w:=by
 obtain ⟨Z,F,⟨k,F1,rfl,hk,f,F2,rfl,hf,hs⟩,hg⟩:=h
 obtain ⟨f',hp,hr⟩:=hf.2 w.heap (fun _ _=>rfl) z k hk
 have o9:(f'++F2).Perm (k++(f++F2)):=by
  rw [← List.append_assoc]
  exact (hp.trans List.perm_append_comm).append_right F2
 refine ⟨Z,f'++F2,⟨f',F2,rfl,hr,?_⟩,hg.perm o9⟩
 refine SA.mono (fun _ h=>h) (fun b hb=>hp.mem_iff.2 (List.mem_append_left _ hb)) hs
theorem fx {R M:Type} {cx:Cx R} {all l:LO} {rk:RK R M} {o:M} {r:NV} {d:Option Nat} {op:Op} {ty:TI} {pos:String} {ag:Array Edge} {g:Option (Nat×Bool)}
  (h:WL P all (⟨d,op,ty,pos,ag,none⟩ :: l) r w (CO P cx B rk o)):tQ P cx B false ⟨d,op,ty,pos,ag,g⟩ all l rk o r w:=by
 rcases h with ⟨_,h⟩ | ⟨hw,_⟩
 ·exact h
 ·cases hw
theorem St.put {F1 f':LN} (hS:SA Z w Γ' [] F1) (hg:Gd B Z (f++F1) w) (hC:an f w w') (ho:rf Z w' f' e) (hn:f'.Nodup) (hs:∀ b∈f',b∈f∨w.heap.size≤b):St B (e :: Γ') w':=by
 have du:=List.nodup_append.1 hg.nd
 have hk:SA Z w' Γ' [] F1:=hS.e7 hC (fun b hb=>hg.apart b (List.mem_append_left _ hb)) (fun b _=>List.not_mem_nil) (fun b hb hm=>du.2.2 b hb b hm rfl)
 refine ⟨Z,f'++F1,hk.cons ho,List.nodup_append.2 ⟨hn,du.2.1,?_⟩,?_,fun b hb=>Nat.lt_of_lt_of_le (hg.tv b hb) hC.size,?_,hg.x9,hg.yc,hg.lq.then hC fun i hi=>hg.low i (List.mem_append_left _ hi)⟩
 ·rintro b hb c hc rfl
  rcases hs b hb with h | h
  ·exact du.2.2 b h b hc rfl
  ·exact absurd (hS.lt b hc) (Nat.not_lt.2 h)
 ·intro b hb hz
  rcases List.mem_append.1 hb with hb | hb
  ·rcases hs b hb with h | h
   ·exact hg.apart b (List.mem_append_left _ h) hz
   ·exact absurd (hg.tv b hz) (Nat.not_lt.2 h)
  ·exact hg.apart b (List.mem_append_right _ hb) hz
 ·intro b hb
  rcases List.mem_append.1 hb with hb | hb
  ·rcases hs b hb with h | h
   ·exact hg.low b (List.mem_append_left _ h)
   ·exact .inr (Nat.le_trans hg.lq.size h)
  ·exact hg.low b (List.mem_append_right _ hb)
theorem St.new (h:St B Γ w) {f':LN} (hC:an [] w w') (ho:∀ Z,rf Z w' f' e) (hn:f'.Nodup) (hs:∀ b∈f',w.heap.size≤b):St B (e :: Γ) w':=by
 obtain ⟨Z,F,hS,hg⟩:=h
 exact St.put (f:=[]) hS hg hC (ho Z) hn fun b hb=>.inr (hs b hb)
theorem Has.one {v:Value} (h:Has v Γ):∀ {cur F:LN},SA Z w Γ cur F→v.oneCell'=true:=by
 induction h with
 | @own α T x Γ=>rintro cur F ⟨f,F',_,h,_⟩; exact T.one h v (by simp)
 | @om α t E xs Γ=>rintro cur F ⟨f,F',_,⟨us,g,h,_⟩,_⟩; exact ai.one _ h v (by simp)
 | @rd o α T x Γ=>rintro cur F ⟨⟨g,h,_⟩,_⟩; exact T.one h v (by simp)
 | @there e Γ _ ih=>
  intro cur F hS
  cases e with
  | own T v x=>obtain ⟨f,F',h1,h2,h3⟩:=hS; exact ih h3
  | om e E v xs=>obtain ⟨f,F',h1,h2,h3⟩:=hS; exact ih h3
  | row b cs e=>obtain ⟨f,F',h1,h2,h3⟩:=hS; exact ih h3
  | gp e E v xs j u=>obtain ⟨f,F',h1,h2,h3⟩:=hS; exact ih h3
  | _=>exact ih hS.2
theorem One.one {v:Value} (h:One Γ v) (hS:SA Z w Γ cur F):v.oneCell'=true:=by
 cases h with
 | int=>rfl
 | bool=>rfl
 | ptr=>rfl
 | sl=>rfl
 | fn=>rfl
 | nf=>rfl
 | var h=>exact h.one hS
theorem we.one {vs:LV} (h:we Γ vs) (hS:SA Z w Γ cur F):∀ u∈vs,u.oneCell'=true:=by
 induction h with
 | nil=>intro u hu; cases hu
 | cons h _ ih=>intro u hu; rcases List.mem_cons.1 hu with rfl | hu; exact h.one hS; exact ih u hu
theorem tR.eq {v:Value} {cs:LV} (h:tR Γ v cs) (hS:SA Z w Γ cur F):v.cells.toList=cs:=by
 cases h with
 | agg=>rfl
 | one h=>rw [cells_one (h.one hS)]
theorem uM.eq {us cs ds:LV} {j:Nat} (h:uM us j cs ds):j+us.length≤cs.length∧ds=cs.take j++us++cs.drop (j+us.length):=by
 induction h with
 | nil=>simp
 | put _ ih=>obtain ⟨h1,h2⟩:=ih; refine ⟨by simp at h1 ⊢; omega,?_⟩; rw [h2]; simp
 | s _ ih=>
  obtain ⟨h1,h2⟩:=ih
  refine ⟨by simp; omega,?_⟩
  rw [h2]
  rename_i us cs ds j _
  rw [show j+1+us.length=(j+us.length)+1 by omega]
  simp
theorem vj.eq {j n:Nat} {cs ds:LV} (h:vj j n cs ds):ds.length=n∧(cs.drop j).take n=ds:=by
 induction h with
 | z=>simp
 | c _ ih=>obtain ⟨h1,h2⟩:=ih; simp at h2; simp [h1,h2]
 | s _ ih=>simpa using ih
theorem wg.sound {a:Addr} {n:Nat} {ds:LV} (h:wg Γ a n ds):∀ {cur F:LN},SA Z w Γ cur F→At w a ds∧ds.length=n:=by
 induction h with
 | row h=>
  rintro cur F ⟨f,F',h1,⟨_,h2⟩,_⟩
  obtain ⟨e1,e2⟩:=h.eq
  have:=At.sub h2.at (by rw [e1]; exact e2)
  rw [jr,Nat.zero_add] at this
  exact ⟨this,e1⟩
 | «at» h=>rintro cur F ⟨⟨h1,_⟩,_⟩; obtain ⟨e1,e2⟩:=h.eq; exact ⟨At.sub h1 (by rw [e1]; exact e2),e1⟩
 | Nb h=>rintro cur F ⟨⟨h1,_⟩,_⟩; obtain ⟨e1,e2⟩:=h.eq; exact ⟨At.sub (j:=0) h1 (by rw [e1]; exact e2),e1⟩
 | @there a n ds e Γ _ ih=>
  intro cur F hS
  cases e with
  | own T v x=>obtain ⟨f,F',h1,h2,h3⟩:=hS; exact ih h3
  | om e E v xs=>obtain ⟨f,F',h1,h2,h3⟩:=hS; exact ih h3
  | row b cs e=>obtain ⟨f,F',h1,h2,h3⟩:=hS; exact ih h3
  | gp e E v xs j u=>obtain ⟨f,F',h1,h2,h3⟩:=hS; exact ih h3
  | _=>exact ih hS.2
theorem wh.sound {v:Value} {n:Nat} (h:wh Γ v n):∀ {cur F:LN},SA Z w Γ cur F→∃ b c,v = .slice b n c:=by
 induction h with
 | lit=>intro _ _ _; exact ⟨_,_,rfl⟩
 | ln=>rintro cur F ⟨⟨g,⟨⟨a,c,hv⟩,_⟩,_⟩,_⟩; exact ⟨a,c,by simpa using hv⟩
 | rd h=>rintro cur F ⟨⟨g,h1,_⟩,_⟩; exact xT (h.le.le h1)
 | own h=>rintro cur F ⟨f,F',_,h1,_⟩; exact xT (h.le.le h1)
 | om=>rintro cur F ⟨f,F',_,h1,_⟩; obtain ⟨⟨g,h2,_⟩,_⟩:=LG h1; exact xT h2
 | @there v n e Γ _ ih=>
  intro cur F hS
  cases e with
  | own T v x=>obtain ⟨f,F',h1,h2,h3⟩:=hS; exact ih h3
  | om e E v xs=>obtain ⟨f,F',h1,h2,h3⟩:=hS; exact ih h3
  | row b cs e=>obtain ⟨f,F',h1,h2,h3⟩:=hS; exact ih h3
  | gp e E v xs j u=>obtain ⟨f,F',h1,h2,h3⟩:=hS; exact ih h3
  | _=>exact ih hS.2
theorem HE.sound {k:IntKind} {us:LV} {xs:List Int} (h:HE k us xs):∀ (hp:Array Obj),us.length=xs.length∧dv (aL k) hp us xs []:=by
 induction h with
 | nil=>intro h; exact ⟨rfl,rfl,rfl⟩
 | cons _ ih=>intro h; obtain ⟨e1,e2⟩:=ih h; exact ⟨by simp [e1],[_],_,[],[],rfl,rfl,⟨rfl,rfl⟩,e2⟩
theorem Db.sound {α:Type} {E:ai α} {v:Value} {x:α} (h:Db Γ E v x Γ') {F:LN} (hS:SA Z w Γ [] F):∃ f F',(f++F').Perm F∧E.rep w.heap [v] x f∧SA Z w Γ' [] F':=by
 cases h with
 | int=>exact ⟨[],F,.refl _,⟨rfl,rfl⟩,hS⟩
 | bool=>exact ⟨[],F,.refl _,⟨rfl,rfl⟩,hS⟩
 | own h=>obtain ⟨f,F1,hp,ho,fl⟩:=h.sound hS; exact ⟨f,F1,hp,ho,fl⟩
 | @lit b n us k xs e Γ1 _ h0 h1 hn hb=>
  obtain ⟨f0,F1,hp,⟨rfl,bg⟩,fl⟩:=h0.sound hS
  obtain ⟨e1,e2⟩:=HE.sound h1 w.heap
  have HJ:=Nat.le_of_ble_eq_true hb
  refine ⟨[b],F1,hp,⟨some ⟨b,0,none⟩,n,by rw [← hn,e1],.inr ⟨b,us.toArray,[],rfl,bg,rfl,by rw [← hn,e1]; exact Nat.le_refl _,Nat.le_trans HJ (by decide),by rw [show (aL k).size=1 from rfl,Nat.mul_one]; simp [hn],?_⟩⟩,fl⟩
  rw [show (aL k).size=1 from rfl,Nat.mul_one,List.toList_toArray,← e1,List.take_length]
  exact e2
theorem HF.sound {α:Type} {E:ai α} {us:LV} {xs:List α} (h:HF Γ E us xs Γ'):∀ {F:LN},SA Z w Γ [] F→us.length=xs.length∧∃ f F',(f++F').Perm F∧dv E w.heap us xs f∧SA Z w Γ' [] F':=by
 induction h with
 | nil=>intro F hS; exact ⟨rfl,[],F,.refl _,⟨rfl,rfl⟩,hS⟩
 | cons h _ ih=>
  intro F hS
  obtain ⟨f1,F1,p1,r1,S1⟩:=h.sound hS
  obtain ⟨e,f2,F2,p2,r2,S2⟩:=ih S1
  exact ⟨by simp [e],f1++f2,F2,(by rw [List.append_assoc]; exact (p2.append_left f1).trans p1),⟨[_],_,f1,f2,rfl,rfl,r1,r2⟩,S2⟩
theorem HG.sound {κ υ:Type} {ek:κ→Value} {eu:υ→Value} {v:Value} {x:List (κ×υ)} (h:HG ek eu Γ v x):∀ {cur F:LN},SA Z w Γ cur F→∃ f,(Dc ek eu).rep w.heap [v] x f:=by
 induction h with
 | own=>rintro cur F ⟨f,F',_,h2,_⟩; exact ⟨f,h2⟩
 | @there v x e Γ h ih=>
  intro cur F hS
  cases e with
  | own T v x=>obtain ⟨f,F',h1,h2,h3⟩:=hS; exact ih h3
  | om e E v xs=>obtain ⟨f,F',h1,h2,h3⟩:=hS; exact ih h3
  | row b cs e=>obtain ⟨f,F',h1,h2,h3⟩:=hS; exact ih h3
  | gp e E v xs j u=>obtain ⟨f,F',h1,h2,h3⟩:=hS; exact ih h3
  | _=>exact ih hS.2
theorem Rg.sound {v:Value} {j:Int} (h:Rg v j Γ):∀ {cur F:LN},SA Z w Γ cur F→0≤j∧j.toNat < xi v:=by
 induction h with
 | ad=>rintro cur F ⟨⟨h1,h2,_⟩,_⟩; exact ⟨h1,h2⟩
 | @there e Γ _ ih=>
  intro cur F hS
  cases e with
  | own T v x=>obtain ⟨f,F',h1,h2,h3⟩:=hS; exact ih h3
  | om e E v xs=>obtain ⟨f,F',h1,h2,h3⟩:=hS; exact ih h3
  | row b cs e=>obtain ⟨f,F',h1,h2,h3⟩:=hS; exact ih h3
  | gp e E v xs j u=>obtain ⟨f,F',h1,h2,h3⟩:=hS; exact ih h3
  | _=>exact ih hS.2
theorem TV {pl:List (Nat×Nat)} {i:Nat} {p:Nat×Nat} (h:HD pl i=some p):pl[i]? = some p:=by
 induction pl generalizing i with
 | nil=>cases h
 | cons a l ih=>cases i with
  | zero=>simpa [HD] using h
  | succ n=>simpa using ih h
theorem HK:∀ (us:LV) (off k:Nat) (cs:Array Value),off+k+us.length≤cs.size→
  ((us.zipIdx k).foldl (fun (cs:Array Value) (p:Value×Nat)=>cs.setIfInBounds (off+p.2) p.1) cs).toList=cs.toList.take (off+k)++us++cs.toList.drop (off+k+us.length):=by
 intro us
 induction us with
 | nil=>intro off k cs h; simp
 | cons u us ih=>
  intro off k cs h
  simp only [List.zipIdx_cons,List.foldl_cons]
  simp only [List.length_cons] at h
  rw [ih off (k+1) _ (by simp; omega)]
  rw [Array.toList_setIfInBounds,show off+(k+1)=(off+k)+1 by omega]
  have hs:cs.toList.length=cs.size:=Array.length_toList
  generalize hl:cs.toList=l at *
  generalize off+k=o at *
  obtain ⟨a,x,b,rfl,rfl⟩ : ∃ a x b,l=a++x :: b∧a.length=o:=⟨l.take o,l[o]'(by omega),l.drop (o+1),by rw [List.getElem_cons_drop,List.take_append_drop],by rw [List.length_take]; omega⟩
  have e1:(a++x :: b).set a.length u=a++u :: b:=by simp
  rw [e1,List.length_cons]
  have e2:(a++u :: b).take (a.length+1)=a++[u]:=by rw [List.take_append,List.take_of_length_le (by omega)]; simp
  have e3:(a++u :: b).drop (a.length+1+us.length)=b.drop us.length:=by rw [show a.length+1+us.length=a.length+(us.length+1) by omega,List.drop_append,List.drop_eq_nil_of_le (by omega)]; simp
  have e4:(a++x :: b).drop (a.length+(us.length+1))=b.drop us.length:=by rw [List.drop_append,List.drop_eq_nil_of_le (by omega)]; simp
  have e5:(a++x :: b).take a.length=a:=by simp
  rw [e2,e3,e4,e5]
  simp
theorem xj.fill {fr:Fr} {r:NV} (ha:cu r fr) (hS:SA Z w Γ cur F) {k:Nat} {ps:List (Nat×Operand)} {us:LV} (h:xj Γ fr k ps us) :
  ∀ pre uZ:List Value,pre.length=k→uZ.length=us.length→Instr.fill (fun i=>some (i * 1,1)) (pre++uZ).toArray (ps.map fun x=>(x.1,ev r x.2))=some (pre++us).toArray:=by
 induction h with
 | nil=>
  intro pre uZ _ h2
  obtain rfl:uZ=[]:=List.eq_nil_of_length_eq_zero h2
  rfl
 | @cons k x u ps us hx ho _ ih=>
  intro pre uZ h1 h2
  cases uZ with
  | nil=>cases h2
  | cons y uZ=>
   have hc:=cells_one (ho.one hS)
   rw [List.map_cons,aY ha hx]
   unfold Instr.fill
   simp only [hc]
   rw [if_neg (by simp; omega)]
   have:=ih (pre++[u]) uZ (by simp [h1]) (by simpa using h2)
   have e:(Array.foldl (fun cs (x:Value×Nat)=>cs.setIfInBounds (k * 1+x.2) x.1) (pre++y :: uZ).toArray (#[u].zipIdx))=((pre++[u])++uZ).toArray:=by
    subst h1
    simp
   first
    | (rw [e,this]; simp)
    | (simp only [e] at *; simp [this])
theorem xj.op {P:Program} {fr:Fr} {r:NV} {w':World} {t e n:Nat} {ps:List (Nat×Operand)} {us:LV} {d:Option Nat} {ty:TI} {pos:String} {ag:Array Edge} {g:Option (Nat×Bool)} (hl:xj Γ fr 0 ps us) (ha:cu r fr) (hS:SA Z w Γ cur F) (hz:SE P t e) (hn:us.length=n) (hb:(Nat.ble 1 n && Nat.ble n 16777216)=true) :
  (execOp (ev r) ⟨d,.buildSlice t n ps.toArray,ty,pos,ag,g⟩).run P w' = .ok (.value (.slice (some ⟨w'.heap.size,0,none⟩) n n)) (w'.alloc (.cells us.toArray e)):=by
 obtain ⟨h1,i,z,h2,h3,h4⟩:=hz.h
 rw [Bool.and_eq_true] at hb
 have b1:=Nat.le_of_ble_eq_true hb.1
 have b2:=Nat.le_of_ble_eq_true hb.2
 refine Nq h1 h2 h3 h4 b1 b2 ?_
 have:=hl.fill ha hS [] ((Array.range (n * 1)).map (z.cells[· % z.cells.size]!)).toList rfl (by simp [hn])
 rw [List.nil_append,List.nil_append,Array.toArray_toList] at this
 rw [show (ps.toArray.map fun (x:Nat×Operand)=>(x.1,ev r x.2)).toList=ps.map fun x=>(x.1,ev r x.2) by simp]
 exact this
theorem xH.fill {n:Nat} {fr:Fr} {r:NV} (ha:cu r fr) (hS:SA Z w Γ cur F) {k:Nat} {ps:List (Nat×Operand)} {us:LV} (h:xH Γ fr n k ps us) :
  us.length=ps.length * n∧∀ pre uZ:List Value,pre.length=k * n→uZ.length=us.length→Instr.fill (fun i=>some (i * n,n)) (pre++uZ).toArray (ps.map fun x=>(x.1,ev r x.2))=some (pre++us).toArray:=by
 induction h with
 | nil=>
  refine ⟨by simp,fun pre uZ _ h2=>?_⟩
  obtain rfl:uZ=[]:=List.eq_nil_of_length_eq_zero h2
  rfl
 | @cons k x v cs us ws ps hx hc hl _ PT ih=>
  obtain ⟨e0,ih⟩:=ih
  have PT:=PT.eq
  subst PT
  refine ⟨by rw [List.length_append,hl,e0,List.length_cons,Nat.succ_mul,Nat.add_comm],fun pre uZ h1 h2=>?_⟩
  rw [List.length_append] at h2
  have hv:=hc.eq hS
  have tw:v.cells=cs.toArray:=by rw [← hv]
  rw [List.map_cons,aY ha hx]
  unfold Instr.fill
  simp only [tw]
  rw [if_neg (by simp; omega)]
  have hsf:=HK cs (k * n) 0 (pre++uZ).toArray (by simp; omega)
  have:=ih (pre++cs) (uZ.drop n) (by rw [List.length_append,h1,hl,Nat.succ_mul]) (by rw [List.length_drop]; omega)
  have e:(cs.toArray.zipIdx.foldl (fun (cs:Array Value) (x:Value×Nat)=>cs.setIfInBounds (k * n+x.2) x.1) (pre++uZ).toArray)=((pre++cs)++uZ.drop n).toArray:=by
   apply Array.toList_inj.1
   rw [← Array.foldl_toList]
   simp only [Array.toList_zipIdx]
   rw [hsf,← h1]
   simp only [Nat.add_zero,List.take_left',List.drop_append,List.append_assoc]
   rw [List.drop_eq_nil_of_le (by omega),show pre.length+cs.length - pre.length=n by omega]
   simp
  refine Eq.trans ?_ (this.trans (by simp))
  congr 1
theorem xH.op {P:Program} {fr:Fr} {r:NV} {w':World} {t e n k:Nat} {ps:List (Nat×Operand)} {us:LV} {d:Option Nat} {ty:TI} {pos:String} {ag:Array Edge} {g:Option (Nat×Bool)} (hl:xH Γ fr k 0 ps us) (ha:cu r fr) (hS:SA Z w Γ cur F) (hz:Gp P t e k) (hn:ps.length=n) (hb:(Nat.ble 1 n && Nat.ble (n * k) 16777216)=true) :
  (execOp (ev r) ⟨d,.buildSlice t n ps.toArray,ty,pos,ag,g⟩).run P w' = .ok (.value (.slice (some ⟨w'.heap.size,0,none⟩) n n)) (w'.alloc (.cells us.toArray e)):=by
 obtain ⟨h1,i,z,h2,h3,h4,h5⟩:=hz.h
 rw [Bool.and_eq_true] at hb
 have b1:=Nat.le_of_ble_eq_true hb.1
 have b2:=Nat.le_of_ble_eq_true hb.2
 obtain ⟨e1,hf⟩:=hl.fill ha hS
 have:=hf [] ((Array.range (n * k)).map (z.cells[· % z.cells.size]!)).toList (by simp) (by simp [e1,hn])
 rw [List.nil_append,List.nil_append,Array.toArray_toList] at this
 have VE:0 < n * k:=Nat.mul_pos b1 h5
 have h:=run_buildSlice (P:=P) w' t e n (ps.toArray.map fun (x:Nat×Operand)=>(x.1,ev r x.2)) us.toArray i z h1 h2 h3 (by rw [h4]; omega) (by rw [h4]; omega) (by rw [h4]; simpa using this)
 simp only [execOp]
 simp at h
 simp [h]
theorem xG.fill {fr:Fr} {r:NV} {pl:List (Nat×Nat)} {ps:List (Nat×Operand)} {cs es:LV} (h:xG Γ fr pl ps cs es) (ha:cu r fr) (hS:SA Z w Γ cur F) :
  Instr.fill (fun i=>pl.toArray[i]?) cs.toArray (ps.map fun x=>(x.1,ev r x.2))=some es.toArray:=by
 induction h with
 | nil=>rfl
 | @cons i off k x v us cs ds es ps hp hx hc hl hs _ ih=>
  rw [List.map_cons,aY ha hx]
  have hv:=hc.eq hS
  have xy:pl.toArray[i]? = some (off,k):=by rw [List.getElem?_toArray]; exact TV hp
  obtain ⟨e1,e2⟩:=hs.eq
  have vm:v.cells.size=us.length:=by rw [← hv]; simp
  unfold Instr.fill
  simp only [xy]
  rw [if_neg (by simp [vm,hl]; omega)]
  have tw:v.cells=us.toArray:=by rw [← hv]
  have:=HK us off 0 cs.toArray (by simpa using e1)
  rw [tw]
  have h2:(us.toArray.zipIdx.foldl (fun (cs:Array Value) (x:Value×Nat)=>cs.setIfInBounds (off+x.2) x.1) cs.toArray)=ds.toArray:=by
   apply Array.toList_inj.1
   rw [← Array.foldl_toList]
   simp only [Array.toList_zipIdx] 
   rw [this,e2]; simp
  refine Eq.trans ?_ ih
  congr 1
theorem uN {α:Type} {E:ai α} {t:TI} {v:Value} {xs:List α} {f:LN} (h:(aI t E).rep w.heap [v] xs f):xi v=xs.length:=by
 obtain ⟨base,cap,hv,_⟩:=h
 obtain rfl:v = .slice base xs.length cap:=by simpa using hv
 rfl
theorem zS.sound {fr:Fr} {r:NV} (ha:cu r fr) {fn:Func} {rs:List ResultVar} {vs:LV} (hr:fn.results=rs.toArray) (h:zS P fr Γ rs vs) {n:Nat} (hs:SA Z w Γ [] F) :
  ∀ a:Act,a.tmps.size=n→cn a=r→(results fn a.tmps).run P w = .ok (tH vs) w:=by
 rintro a - rfl
 have key:∀ {rs:List ResultVar} {vs:LV},zS P fr Γ rs vs→Sem.run P (rs.mapM fun | .tmp t=>pure (a.tmps.getD t undef) | .cell b t=>do loadVar t (← asAddr (a.tmps.getD b undef))) w = .ok vs w:=by
  intro rs vs h
  induction h with
  | nil=>rfl
  | @tmp t v l vs h _ ih=>
   rw [List.mapM_cons]
   have:=ha _ _ h
   simp only [cn] at this
   simp only [Sem.run_bind,this,ih,Sem.run_pure,Result.andThen_ok]
  | @cell t n ty p ds vs l hk h hw _ ih=>
   rw [List.mapM_cons]
   have:=ha _ _ h
   simp only [cn] at this
   obtain ⟨dd,i,k1,k2,k3,k4⟩:=hk.h
   obtain ⟨hc,hl⟩:=hw.sound hs
   have h3:=run_loadCells_list (P:=P) (w:=w) p ds hc
   rw [hl,← k4] at h3
   have h4:Sem.run P (do loadVar ty (← asAddr (a.tmps.getD t undef))) w = .ok (.agg ds.toArray) w:=by
    rw [this]
    simp [asAddr,loadVar,yf k1,k2,sizeOf,typeInfo,k3,h3]
   simp only [Sem.run_bind] at h4 ih ⊢
   rw [h4]
   simp only [ih,Sem.run_pure,Result.andThen_ok]
 have h2:=key h
 unfold results
 rw [hr,Sem.run_bind,List.mapM_toArray,← bind_pure_comp,Sem.run_bind]
 generalize hm:Sem.run P (List.mapM _ rs) w=z
 obtain rfl:z = .ok vs w:=hm.symm.trans h2
 simp only [Result.andThen_ok,Sem.run_pure]
 have e:∀ vs:List Value,(if h:vs.toArray.size=1 then vs.toArray[0] else Value.tuple vs.toArray)=tH vs:=by
  intro vs
  match vs with
  | []=>rfl
  | [v]=>rfl
  | a :: b :: l=>rw [dif_neg (by simp)]; rfl
 rw [e]
end
end Go.Dk
namespace Go.Dk
open Go Go.Li
section
variable {B:Bs} {P:Program} {R:Type} {cx:Cx R}
theorem Zh {C:World→Prop} {ops:LO} {K:(Nat→Value)→World→Prop}:∀ (l':LO) (r:NV) (w:World),C w→QL P C ops l' r (fun r'=>∀ w',C w'→K r' w')→WL P ops l' r w K:=by
 intro l'
 induction l' with
 | nil=>intro r w hw hh; exact hh w hw
 | cons o l' ih=>
  intro r w hw hh
  rcases hh with ⟨HM,v,hv,hh⟩ | ⟨HM,hh⟩
  ·refine .inl ⟨HM,?_⟩
   have h3:=hv w hw
   unfold gy
   generalize (execOp (ev r) o).run P w=x at h3
   cases x with
   | halt y w'=>exact h3.elim
   | ok y w'=>
    cases y <;> simp only [Oper.quietUpon] at h3
    case value u=>obtain ⟨rfl,rfl⟩:=h3; exact ih _ _ hw hh
    case skip=>obtain ⟨rfl,rfl⟩:=h3; exact ih _ _ hw hh
    case enter f args=>
     obtain ⟨rfl,h3⟩:=h3
     exact h3.mono fun e Gr ⟨he,PU⟩=>⟨v,he,ih _ _ PU hh⟩
  ·exact .inr ⟨HM,ih _ _ hw hh⟩
theorem PV {n id:Nat} {draw:Bool} {ops:LO} {Q:Exit→(Nat→Value)→World→Prop} {r:NV} {w:World} (hd:df n ops=true) (hm:draw=true→P.follows .mixedOrders=true∧Region.lexB .any ops.toArray=true)
  (h:QL P (an [] w) ops ops r fun r'=>∀ w',an [] w w'→Q .normal r' w'):W P n (.region id ops.toArray draw) Q r w:=by
 cases draw with
 | true=>exact TW (hm rfl).1 hd (fun _=>(hm rfl).2) (an.refl _ _) (an.drew _ _) h
 | false=>exact DK hd (Zh _ _ _ (an.refl _ _) h)
theorem Calls.LM {f:FuncId} {fn:Func} {c:Code} {xs:List Operand} {aw:Array TypeId} {r:NV} {w:World} {d:Option Nat} {ty:TI} {pos:String} {ag:Array Edge} {g:Option (Nat×Bool)} {K:Value→World→Prop}
  (hf : P.funcs[f]? = some fn) (hb : fn.body = some c) (hn : (fn.name == "runtime.NumGoroutine") = false)
  (h:Calls P f (xs.map (ev r)).toArray w fun e w'=>∃ v,e = .returned v∧K v w'):gy P ⟨d,.call ⟨.value (.func f),xs.toArray,aw⟩,ty,pos,ag,g⟩ r w K:=by
 unfold gy
 rw [HP hf hb hn]
 exact h
theorem wi {Z:Nat→Prop} {w:World}:∀ {Δ:QE},(∀ e∈Δ,fact Z w [] e)→HL Z w Δ []:=by
 intro Δ
 induction Δ with
 | nil=>intro _; exact .nil
 | cons e Δ ih=>intro h; exact .fact (h e (by simp)) (ih fun e he=>h e (by simp [he]))
theorem B3 {Z Z2:Nat→Prop} {w:World}:∀ {Δ:QE} {F:LN},tO Δ=true→HL Z2 w Δ F→HL Z w Δ F:=by
 intro Δ
 induction Δ with
 | nil=>intro F _ h; cases h; exact .nil
 | cons e Δ ih=>
  intro F ho h
  cases e with
  | own T v x=>cases h with
   | own h k=>exact .own h (ih ho k)
   | fact h k=>exact h.elim
  | row b cs e=>cases h with
   | own h k=>exact .own h (ih ho k)
   | fact h k=>exact h.elim
  | _=>cases ho
theorem Gs {f:FuncId} {ow:Bool} {vs:LV} {Δ Γ1:QE} {β V:Type} {mo:Option β} {rt:β→V→List Value} {ps:β→V→List av} {w:World} {Z Z':Nat→Prop} {Fd F1:LN} {y:β} (hc:Vp P f ow vs Δ β V mo rt ps) (hl:HL Z' w Δ Fd) (a2:SA Z w Γ1 [] F1) (qi:Gd B Z (Fd++F1) w)
  (hz:∀ b,Z b→Z' b) (SI:∀ b,Z' b→Z b∨b∈F1) (hm:(∀ v,tO (ps y v)=true)∨∀ b,Z' b→Z b) (hy:mo=some y) :
  Calls P f vs.toArray w fun e w'=>∃ v,e = .returned (tH (rt y v))∧St B ((ps y v).reverse++Γ1) w':=by
 have du:=List.nodup_append.1 qi.nd
 refine (hc.2 w Z' Fd hl du.1 (fun b hb hzb=>(SI b hzb).elim (qi.apart b (List.mem_append_left _ hb)) (fun h=>du.2.2 b hb b h rfl)) (fun b hb=>(SI b hb).elim (qi.tv b) (a2.lt b)) y hy).mono ?_
 rintro e w' ⟨v,he,Z2,F2,sX,np⟩
 refine ⟨v,he,?_⟩
 have hC:an Fd w w':=np.lq
 have hF1:SA Z w' Γ1 [] F1:=a2.e7 hC (fun b hb=>qi.apart b (List.mem_append_left _ hb)) (fun b _=>List.not_mem_nil) (fun b hb hm=>du.2.2 b hb b hm rfl)
 have fin:∀ Z3:Nat→Prop,HL Z3 w' (ps y v) F2→(∀ b,Z b→Z3 b)→(∀ b,Z3 b→Z b∨b∈Fd∨w.heap.size≤b)→(∀ b∈F2,¬ Z3 b)→(∀ b,Z3 b→b < w'.heap.size)→St B ((ps y v).reverse++Γ1) w':=by
  intro Z3 B4 h31 h32 h33 h34
  obtain ⟨F3,b1,b2⟩:=B4.build (hF1.mono h31 fun _ h=>h)
  refine St.of b2 (F':=F2++F1) ?_ b1
  refine ⟨List.nodup_append.2 ⟨np.nd,du.2.1,?_⟩,?_,h34,?_,fun b hb=>h31 b (qi.x9 b hb),?_,?_⟩
  ·rintro b hb c Gk rfl
   rcases np.low b hb with h | h
   ·exact du.2.2 b h b Gk rfl
   ·exact absurd (a2.lt b Gk) (Nat.not_lt.2 h)
  ·intro b hb hz
   rcases List.mem_append.1 hb with hb | hb
   ·exact h33 b hb hz
   ·rcases h32 b hz with h | h | h
    ·exact qi.apart b (List.mem_append_right _ hb) h
    ·exact du.2.2 b h b hb rfl
    ·exact absurd (a2.lt b hb) (Nat.not_lt.2 h)
  ·intro b hb
   rcases List.mem_append.1 hb with hb | hb
   ·rcases np.low b hb with h | h
    ·exact qi.low b (List.mem_append_left _ h)
    ·exact .inr (Nat.le_trans qi.lq.size h)
   ·exact qi.low b (List.mem_append_right _ hb)
  ·intro b hb
   rcases h32 b hb with h | h | h
   ·exact qi.yc b h
   ·exact .inr (qi.low b (List.mem_append_left _ h))
   ·exact .inr (.inr (Nat.le_trans qi.lq.size h))
  ·exact qi.lq.then hC fun i hi=>qi.low i (List.mem_append_left _ hi)
 rcases hm with hm | hm
 ·exact fin Z (B3 (hm v) sX) (fun _ h=>h) (fun _ h=>.inl h) (fun b hb h=>np.apart b hb (np.x9 b (hz b h))) (fun b hb=>Nat.lt_of_lt_of_le (qi.tv b hb) hC.size)
 ·exact fin Z2 sX (fun b h=>np.x9 b (hz b h)) (fun b h=>(np.yc b h).imp (hm b) id) np.apart np.tv
theorem Nr {M α:Type} {rk:RK R M} {oo:M} {E E':ai α} {t:TI} {x y:OO} {i:TypeInfo} {Γ Γ1 Γx:QE} {w:World} {r:NV} {v v' u:Value} {j j':Int} {e e':TI} {zs:List α} {xs:List (List α)} {z:α} {o1 o2:Bool} {all l:LO} {ty:TI} {pos:String} {ag:Array Edge} {g:Option (Nat×Bool)}
  (hE:∀ {h cs x f},E.rep h cs x f→f=[]) (h1:E.size=1) (hi:P.info? t=some i) (hs:i.size=1) (hS:St B Γ w) (hl:Loc Γ v (.row v' j')) (h0:Rg v j Γ) (hf:si Γ v o1 o2 E' zs uX Γx) (hr:RT E E') (h2:dh Γ (.own (aI e (aI e' E)) v' xs) Γ1)
  (hx:ev r x = .pointer (some (cw v 1 j))) (hy:ev r y=u) (hu:E.rep w.heap [u] z [])
  (k:∀ w',St B (.own (aI e (aI e' E)) v' (xs.set j'.toNat (zs.set j.toNat z)) :: Γ1) w'→WL P all l (gf r none undef) w' (CO P cx B rk oo)):tQ P cx B false ⟨none,.store t x y,ty,pos,ag,g⟩ all l rk oo r w:=by
 obtain ⟨Z,F,hS,hg⟩:=hS
 obtain ⟨j0,j1,hc⟩:=Loc.row hl rfl hS
 obtain ⟨r0,r1⟩:=h0.sound hS
 obtain ⟨dx,_,⟨⟨gg,hgg,_⟩,_⟩,_⟩:=hf.sound hS
 obtain ⟨f,F1,hp,hO,fl⟩:=h2.sound hS
 have kp:=hg.perm hp
 have du:=List.nodup_append.1 kp.nd
 have hlen:xi v'=xs.length:=uN hO
 rw [hlen] at j1
 obtain ⟨k0,g0,a1,a2,a3⟩:=Kj rfl hO (List.getElem?_eq_getElem j1) hc
 have hro:RT (aI e' E) (bG E'):=.own hr
 have hz:xs[j'.toNat]=zs:=hro.vX (hro.le.le a1) hgg
 rw [hz] at a1
 have sX:xi v=zs.length:=uN a1
 rw [sX] at r1
 have HQ:=List.nodup_append.1 (a2.nodup_iff.2 du.1)
 refine fx (WL.Fm (E:=E) k0 w.heap.size hE h1 hi hs ⟨a1,HQ.1,fun b hb=>.inl hb⟩ (List.getElem?_eq_getElem r1) hx hy hu fun w' hC sY=>k w' ?_)
 have hkf:∀ b∈k0,b∈f:=fun b hb=>a2.mem_iff.1 (List.mem_append_left _ hb)
 obtain ⟨f',b1,b2⟩:=a3.2 w'.heap (fun b hb=>hC.block b (a3.1 b hb) fun hm=>HQ.2.2 b hm b hb rfl) _ k0 sY.1
 have hpf:f'.Perm f:=b1.trans (List.perm_append_comm.trans a2)
 exact St.put fl kp (hC.mono hkf) b2 (hpf.nodup_iff.2 du.1) fun b hb=>.inl (hpf.mem_iff.1 hb)
theorem D.sound {J:Jd R} (h:D P cx J):nq P cx J:=by
 induction h with
 | pf _ ih=>simpa [nq] using ih
 | pe _ ih=>simpa [nq] using ih
 | pz _ ih=>simpa [nq] using ih
 | @cso A y k _ _ ih0 HR=>
  cases y with
  | none=>exact ih0
  | some a=>exact HR a
 | csd _ ih=>exact ih
 | tp1 _ ih=>exact ih
 | tp0 _ ih=>exact ih
 | tp2 _ ih=>exact ih
 | seq _ ih=>exact fun B o ho r w ha hs=>Zi (ih B o ho r w ha hs)
 | skip _ ih=>exact fun B o ho r w ha hs=>VF (ih B o ho r w ha hs)
 | exit _ ih=>exact fun B o ho r w ha hs=>VG (ih B o ho r w ha hs)
 | cond hb _ ih=>exact fun B o ho r w ha hs=>Ns (ha _ _ hb) (ih B o ho r w ha hs).1 (ih B o ho r w ha hs).2
 | cdt _ ih=>exact fun B o ho r w ha hs=>⟨fun _=>ih B o ho r w ha hs,fun h=>nomatch h⟩
 | cdf _ ih=>exact fun B o ho r w ha hs=>⟨(fun h=>nomatch h),fun _=>ih B o ho r w ha hs⟩
 | cds _ _ HR Nu=>exact fun B o ho r w ha hs=>⟨fun h=>HR B o (by rw [h] at ho; exact ho) r w ha hs,fun h=>Nu B o (by rw [h] at ho; exact ho) r w ha hs⟩
 | ret hr _ h h1=>
  intro B o ho r w ha hs
  cases ho
  refine Zj (wM ?_)
  obtain ⟨Z,F,hS,hg⟩:=hs
  refine ⟨_,h.sound ha hr hS,?_⟩
  exact ⟨_,rfl,St.leave ⟨Z,F,hS,hg⟩ h1⟩
 | block _ ih=>exact fun B o ho r w ha hs=>ih B o ho r w ha hs
 | bkf _ ih=>exact fun B o ho r w ha hs=>KC (ih B o ho r w ha hs)
 | bks h=>rw [na] at h; exact h
 | draw _ ih=>exact fun B o ho r w ha hs=>ih B o ho r w ha hs
 | drs h=>rw [na] at h; exact h
 | inj h=>rw [na] at h; exact h
 | region hd _ ih=>exact fun B o ho r w ha hs=>ih hd (fun h=>nomatch h) B o ho r w ha hs _
 | rwu _ ih=>exact fun hd B o ho r w ha hs id=>DK hd (ih B o ho r w ha hs)
 | rgf _ ih=>exact fun hd _ B o ho r w ha hs id=>DK hd (ih B o ho r w ha hs)
 | rgq _ ih=>exact fun hd hm B o ho r w ha hs id=>PV hd hm (ih B o ho r w ha hs)
 | rgt _ ih=>exact fun hd _=>ih hd
 | rwf ht _ _ _ ih Eg=>
  intro hd B o ho r w ha hs id
  obtain ⟨g,hg,ho⟩:=bind_some ho
  refine PV hd (fun h=>nomatch h) (QL.meet _ (ih B g hg r w ha hs) ?_)
  intro r' gx w' hC
  obtain ⟨h1,h2⟩:=gx w' hC
  refine Eg g B o ho r' w' ?_ (hs.jy hC)
  intro s u hl
  unfold look at hl
  cases hb:Nat.beq s _ with
  | true=>rw [hb] at hl; cases hl; rw [Nat.eq_of_beq_eq_true hb]; exact h1
  | false=>rw [hb] at hl; exact h2 s u hl
 | @osl S q _ K Γ fr m _ ih=>
  intro B o ho r w ha hs
  cases q with
  | false=>exact ih B o ho r w ha hs
  | true=>exact fun w' hC=>ih B o ho r w' ha (hs.jy hC)
 | @ohl S q all tail K Γ fr m _ ih=>
  intro B o ho r w ha hs
  cases q with
  | false=>exact ih B o ho r w ha hs
  | true=>exact fun w' hC=>ih B o ho r w' ha (hs.jy hC)
 | tgn _ ih=>exact ih
 | tgg ht _ _ _ ih Eg=>
  intro B o ho r w ha hs
  obtain ⟨g,hg,ho⟩:=bind_some ho
  refine QL.meet _ (ih B g hg r w ha hs) ?_
  intro r' gx w' hC
  obtain ⟨h1,h2⟩:=gx w' hC
  refine Eg g B o ho r' w' ?_ (hs.jy hC)
  intro s u hl
  unfold look at hl
  cases hb:Nat.beq s _ with
  | true=>rw [hb] at hl; cases hl; rw [Nat.eq_of_beq_eq_true hb]; exact h1
  | false=>rw [hb] at hl; exact h2 s u hl
 | rgg ht _ _ _ ih Eg=>
  intro hd hm B o ho r w ha hs id
  obtain ⟨g,hg,ho⟩:=bind_some ho
  refine PV hd hm (QL.meet _ (ih B g hg r w ha hs) ?_)
  intro r' gx w' hC
  obtain ⟨h1,h2⟩:=gx w' hC
  refine Eg g B o ho r' w' ?_ (hs.jy hC)
  intro s u hl
  unfold look at hl
  cases hb:Nat.beq s _ with
  | true=>rw [hb] at hl; cases hl; rw [Nat.eq_of_beq_eq_true hb]; exact h1
  | false=>rw [hb] at hl; exact h2 s u hl
 | ab4 hr _ h h1=>
  intro B o ho r w ha hs
  cases ho
  obtain ⟨Z,F,hS,hg⟩:=hs
  exact ⟨_,h.sound ha hr hS,⟨_,rfl,St.leave ⟨Z,F,hS,hg⟩ h1⟩⟩
 | ab0 _ ih=>exact fun B o ho r w ha hs=>ih B o ho r w ha hs
 | ab1 _ ih=>exact fun B o ho r w ha hs=>ih B o ho r w ha hs
 | @Zg S V k Δ φ Γ2 Γ Γ1 Γ3 f2 fr s v _ ha hf h0 hw h1 h2=>
  intro B o ho r w qj hs
  cases ho
  exact ⟨v,rm (ha.all qj) (hf.sound qj),hs.again h0 hw h1 h2⟩
 | @Zf S V k Δ φ Γ2 Γ Γ1 Γ3 f2 fr s v _ ha hf h0 hw h1 h2=>
  intro B o ho r w qj hs
  cases ho
  refine ⟨rfl,?_⟩
  show (bif Nat.beq k k then _ else False)
  rw [show Nat.beq k k=true from Nat.beq_refl k]
  exact ⟨v,rm (ha.all qj) (hf.sound qj),hs.again h0 hw h1 h2⟩
 | ab2 _ ih=>exact fun B o ho r w ha hs=>ih B o ho r w ha hs
 | @ab3 S gq kb k j Γ fr m _ ih=>
  intro B o ho r w ha hs
  have:=ih B o ho r w ha hs
  show (bif Nat.beq k j then _ else _)
  cases hb:Nat.beq k j with
  | true=>rw [hb] at this; exact this
  | false=>rw [hb] at this; exact this
 | xbt _ ih=>exact fun B o ho r w ha hs=>ih B o ho r w ha hs
 | xbf _ ih=>exact fun B o ho r w ha hs=>ih B o ho r w ha hs
 | @abZ S q _ K Γ fr m _ ih=>
  intro B o ho r w ha hs
  cases q with
  | false=>exact ih B o ho r w ha hs
  | true=>exact fun w' hC=>ih B o ho r w' ha (hs.jy hC)
 | @ogd q _ t f0 fr Γ b h k=>
  intro B o ho r w ha hs
  cases ho
  cases q with
  | false=>exact ⟨ha _ _ h,k.sound ha⟩
  | true=>exact fun w' hC=>⟨ha _ _ h,k.sound ha⟩
 | plain _ ih=>exact fun B o ho r w ha hs=>DG (uD rfl) (ih B o ho r w ha hs _ _ _)
 | grd hj hv _ ih=>exact fun B o ho r w ha hs=>ih hj hv B o ho r w ha hs _ _
 | gtt _ ih=>exact fun hj hv B o ho r w ha hs pos ag=>DG ((zh rfl hj (ha _ _ hv)).trans rfl) (ih B o ho r w ha hs _ _ _)
 | gff _ ih=>exact fun hj hv B o ho r w ha hs pos ag=>DG ((zh rfl hj (ha _ _ hv)).trans rfl) (ih B o ho r w ha hs _ _ _)
 | gtf _ ih=>exact fun hj hv B o ho r w ha hs pos ag=>DH ((zh rfl hj (ha _ _ hv)).trans rfl) (ih B o ho _ w (au ha) hs)
 | gft _ ih=>exact fun hj hv B o ho r w ha hs pos ag=>DH ((zh rfl hj (ha _ _ hv)).trans rfl) (ih B o ho _ w (au ha) hs)
 | gun _ ih=>exact fun hj hv B o ho r w ha hs pos ag=>DH (HC rfl hj (ha _ _ hv)) (ih B o ho _ w (au ha) hs)
 | @gsp M q b tt d op ty j t all l rk Γ fr m1 m2 _ _ HR Nu=>
  intro hj hv B o ho r w ha hs pos ag
  have key:∀ c:Bool,b=c→cu r ((t,.bool c) :: fr)∧look ((t,Value.bool c) :: fr) t=some (.bool c):=by
   intro c hc
   refine ⟨?_,by unfold look; rw [show Nat.beq t t=true from Nat.beq_refl t]; rfl⟩
   intro s u hl
   unfold look at hl
   cases hb:Nat.beq s t with
   | true=>rw [hb] at hl; cases hl; rw [Nat.eq_of_beq_eq_true hb,← hc]; exact ha _ _ hv
   | false=>rw [hb] at hl; exact ha s u hl
  cases b with
  | true=>exact HR hj (key true rfl).2 B o ho r w (key true rfl).1 hs pos ag
  | false=>exact Nu hj (key false rfl).2 B o ho r w (key false rfl).1 hs pos ag
 | mv hx _ ih=>exact fun B o ho r w ha hs pos ag g=>ca (Mv _ (aY ha hx)) (ih B o ho _ w (au ha) hs)
 | as hx _ ih=>exact fun B o ho r w ha hs pos ag g=>ca (Av _ (aY ha hx)) (ih B o ho _ w (au ha) hs)
 | add hx hy _ ih=>exact fun B o ho r w ha hs pos ag g=>ca (Ba (aY ha hx) (aY ha hy)) (ih B o ho _ w (au ha) hs)
 | sub hx hy _ ih=>exact fun B o ho r w ha hs pos ag g=>ca (Go.Li.Bs (aY ha hx) (aY ha hy)) (ih B o ho _ w (au ha) hs)
 | mul hx hy _ ih=>exact fun B o ho r w ha hs pos ag g=>ca (Bm (aY ha hx) (aY ha hy)) (ih B o ho _ w (au ha) hs)
 | lss hx hy _ ih=>exact fun B o ho r w ha hs pos ag g=>ca (Bl (aY ha hx) (aY ha hy)) (ih B o ho _ w (au ha) hs)
 | leq hx hy _ ih=>exact fun B o ho r w ha hs pos ag g=>ca (Bk (aY ha hx) (aY ha hy)) (ih B o ho _ w (au ha) hs)
 | gtr hx hy _ ih=>exact fun B o ho r w ha hs pos ag g=>ca (Bg (aY ha hx) (aY ha hy)) (ih B o ho _ w (au ha) hs)
 | geq hx hy _ ih=>exact fun B o ho r w ha hs pos ag g=>ca (Bh (aY ha hx) (aY ha hy)) (ih B o ho _ w (au ha) hs)
 | eql hx hy hb _ ih=>
  intro B o ho r w ha hs pos ag g
  refine ca ?_ (ih B o ho _ w (au ha) hs)
  cases hb with
  | int=>exact Be (aY ha hx) (aY ha hy)
  | @bool a b h=>exact fun _ _=>TX (aY ha hx) (aY ha hy) h.h
  | @PQ a h=>exact ab8 h.h (aY ha hx) (aY ha hy)
  | @PR h=>exact ab9 h.h (aY ha hx) (aY ha hy)
  | @s2 k0 k1 a b c e h=>
   obtain ⟨f0,f1,h1,h2,h3,h4,h5,h6,h7,h8,h9⟩:=h.h
   exact fun _ _=>PW h1 h2 h3 h4 h5 h6 h7 h8 h9 (aY ha hx) (aY ha hy)
 | neq hx hy hb _ ih=>
  intro B o ho r w ha hs pos ag g
  refine ca ?_ (ih B o ho _ w (au ha) hs)
  cases hb with
  | int=>exact Bn (aY ha hx) (aY ha hy)
  | @bool a b h=>exact fun _ _=>PX (aY ha hx) (aY ha hy) h.h
  | @PQ a h=>exact aca h.h (aY ha hx) (aY ha hy)
  | @PR h=>exact acb h.h (aY ha hx) (aY ha hy)
  | @s2 k0 k1 a b c e h=>
   obtain ⟨f0,f1,h1,h2,h3,h4,h5,h6,h7,h8,h9⟩:=h.h
   exact fun _ _=>PY h1 h2 h3 h4 h5 h6 h7 h8 h9 (aY ha hx) (aY ha hy)
 | not hx _ ih=>exact fun B o ho r w ha hs pos ag g=>ca (Nt (aY ha hx)) (ih B o ho _ w (au ha) hs)
 | PS hx _ ih=>exact fun B o ho r w ha hs pos ag g=>ca (Nk (aY ha hx)) (ih B o ho _ w (au ha) hs)
 | @pick M q d c x y ty b v all l rk Γ fr m hc hx _ ih=>
  intro B o ho r w ha hs pos ag g
  refine ca ?_ (ih B o ho _ w (au ha) hs)
  intro w' _
  rw [TY (aY ha hc)]
  cases b
  ·rw [← aY ha hx]; rfl
  ·rw [← aY ha hx]; rfl
 | ext hx hv _ ih=>exact fun B o ho r w ha hs pos ag g=>ca (Ex _ (aY ha hx) (by simpa using hv)) (ih B o ho _ w (au ha) hs)
 | @Vv M q d s k off x ty a a' all l rk Γ fr m hf hx hq _ ih=>
  intro B o ho r w ha hs pos ag g
  refine ca ?_ (ih B o ho _ w (au ha) hs)
  rw [hq.eq]
  exact Fp hf.h (aY ha hx)
 | @len M q d n x v t ty all l rk Γ fr m ht hx hr _ ih=>
  intro B o ho r w ha hs pos ag g
  obtain ⟨Z,F,hS,_⟩:=id hs
  obtain ⟨b,c,rfl⟩:=hr.sound hS
  obtain ⟨e,i,h1,_,_⟩:=ht.h
  exact ca (fun _ _=>wN h1 (aY ha hx)) (ih B o ho _ w (au ha) hs)
 | @idx M α q d x y v k j t ty o1 o2 E xs Γ' all l rk Γ fr f ht hx hy hr hE _ ih=>
  intro B o ho r w ha hs pos ag g
  obtain ⟨z,hz,ho⟩:=bind_some ho
  replace hz:=r7 hz
  obtain ⟨Z,F,hS,hG⟩:=hs
  obtain ⟨dx,_,⟨⟨n,hn,_⟩,Nv⟩,wj⟩:=(hr z).sound hS
  exact ca (Ix ht.h hn hz (aY ha hx) (aY ha hy) hE) (ih z B o ho _ w (au ha) ⟨Z,F,wj (Nv hE j z hz.1 hz.2),hG⟩)
 | ab5 hx hy _ ih=>exact fun B o ho r w ha hs pos ag g=>ca (fun _ _=>VH (aY ha hx) (aY ha hy)) (ih B o ho _ w (au ha) hs)
 | ab6 hx hy _ ih=>exact fun B o ho r w ha hs pos ag g=>ca (fun _ _=>VI (aY ha hx) (aY ha hy)) (ih B o ho _ w (au ha) hs)
 | @lkp M κ υ q d x y v t ty bq ek eu xs a z0 all l rk Γ fr m ht hz hx hy hr _ ih=>
  intro B o ho r w ha hs pos ag g
  obtain ⟨Z,F,hS,_⟩:=id hs
  obtain ⟨f,hm⟩:=hr.sound hS
  obtain ⟨kt,vt,kd,h1,h2,h3⟩:=ht.h
  obtain ⟨kt',vt',i,g1,g2,g3⟩:=hz.h
  rw [h1] at g1
  cases g1
  exact ca (fun w' hC=>Nw (ek:=ek) (vn:=eu) h3 h1 h2 g2 g3 (by rw [aY ha hx]; exact ai.e7 _ hm hC fun _ _=>List.not_mem_nil) (aY ha hy)) (ih B o ho _ w (au ha) hs)
 | @Ef M α q d b n x us E xs e ty all l rk Γ Γ1 Γ2 fr m hx h0 h1 hE hn hb _ ih=>
  intro B o ho r w ha hs pos ag g
  have he:=aY ha hx
  refine ca (v:=.slice (some ⟨b,0,none⟩) n n) (fun _ _=>by rw [← he]; rfl) (ih B o ho _ w (au ha) ?_)
  obtain ⟨Z,F,hS,hg⟩:=hs
  obtain ⟨f0,F1,hp,⟨rfl,bg⟩,fl⟩:=h0.sound hS
  obtain ⟨e1,f,F2,o9,hr,gv⟩:=h1.sound fl
  have HJ:=Nat.le_of_ble_eq_true hb
  refine ⟨Z,([b]++f)++F2,⟨[b]++f,F2,rfl,⟨some ⟨b,0,none⟩,n,by rw [← hn,e1],.inr ⟨b,us.toArray,f,rfl,bg,rfl,by rw [← hn,e1]; exact Nat.le_refl _,Nat.le_trans HJ (by decide),by rw [hE,Nat.mul_one]; simp [hn],?_⟩⟩,gv.any⟩,hg.perm (by rw [List.append_assoc]; exact (o9.append_left [b]).trans hp)⟩
  rw [hE,Nat.mul_one,List.toList_toArray,← e1,List.take_length]
  exact hr
 | @lnm M κ υ q d x v t ty bq ek eu xs all l rk Γ fr m ht hx hr _ ih=>
  intro B o ho r w ha hs pos ag g
  obtain ⟨Z,F,hS,_⟩:=id hs
  obtain ⟨f,hm⟩:=hr.sound hS
  obtain ⟨kt,vt,kd,h1,_,_⟩:=ht.h
  exact ca (fun w' hC=>TZ (ek:=ek) (vn:=eu) h1 (by rw [aY ha hx]; exact ai.e7 _ hm hC fun _ _=>List.not_mem_nil)) (ih B o ho _ w (au ha) hs)
 | @VC M q d x k k2 n s t ty all l rk Γ fr m ht hx _ ih=>
  intro B o ho r w ha hs pos ag g
  exact ca (fun _ _=>KD ht.h.1 ht.h.2 (aY ha hx)) (ih B o ho _ w (au ha) hs)
 | @uE M q d op x y k k' a b t t' ty all l rk Γ fr f hx hy hk _ ih=>
  intro B o ho r w ha hs pos ag g
  obtain ⟨z,hz,ho⟩:=bind_some ho
  have sZ:Nn op=true∨k=k':=by
   cases hk with
   | same=>exact .inr rfl
   | sh h=>exact .inl h
  exact ca (fun _ _=>Nx (aY ha hx) (aY ha hy) sZ hz) (ih z B o ho _ w (au ha) hs)
 | @mkm M κ υ d t ty bq ek eu all l rk Γ fr m ht _ ih=>
  intro B o ho r w ha hs pos ag g
  exact fx (WL.val rfl LP (ih _ B o ho _ _ (au ha) (hs.new (f':=[w.heap.size]) (an.alloc _ _ _) (fun _=>⟨w.heap.size,#[],0,rfl,rfl,(MapKept.heap_alloc w _).1,rfl⟩) (by simp) (xU (Nat.le_refl _)))))
 | @mpu M κ υ x y z v t ty bq ek eu xs a b all l rk Γ Γ1 fr m ht hx hy hz h1 _ ih=>
  intro B o ho r w ha hs pos ag g
  obtain ⟨kt,vt,kd,q1,q2,q3⟩:=ht.h
  obtain ⟨Z,F,hS,hg⟩:=hs
  obtain ⟨n,F1,hp,hO,fl⟩:=h1.sound hS
  obtain ⟨i,es,ck,rfl,e1,e2⟩:=Ny (P:=P) (d:=none) (ty:=ty) (pos:=pos) (ag:=ag) (g:=none) (ek:=ek) (vn:=eu) (a:=a) (b:=b) (x:=x) (k:=y) (v:=z) (r:=r) q3 q1 q2 (by rw [aY ha hx]; exact hO) (aY ha hy) (aY ha hz)
  rw [aY ha hx] at e2
  exact fx (WL.skip rfl e1 (ih B o ho _ _ ha (St.put (f:=[i]) (f':=[i]) fl (hg.perm hp) (an.setObj _ _ _) e2 (by simp) fun b hb=>.inl hb)))
 | @abY M q d n k x v t ty all l rk Γ fr m ht hx hr _ ih=>
  intro B o ho r w ha hs pos ag g
  obtain ⟨Z,F,hS,_⟩:=id hs
  obtain ⟨e,i,h1,_,_⟩:=ht.h
  obtain ⟨b,c,hv⟩:=hr.sound hS
  exact ca (v:=.int .i64 (n:Int)) (fun _ _=>wN h1 ((aY ha hx).trans hv)) (ih B o ho _ w (au ha) hs)
 | @HH M α V q d n x y v k j t ty S cl en xs all l rk Γ Γx fr f ht hx hy hr pg hn _ ih=>
  intro B o ho r w ha hs pos ag g
  replace pg:SO S V cl en:=by cases pg; assumption
  obtain ⟨z,hz,ho⟩:=bind_some ho
  replace hz:=r7 hz
  obtain ⟨e,i,h1,h2,h3⟩:=ht.h
  obtain ⟨Z,F,hS,hG⟩:=hs
  obtain ⟨dx,_,⟨⟨f0,Gt,vZ⟩,_⟩,_⟩:=hr.sound hS
  have hZ:∀ b∈f0,Z b:=fun b hb=>(vZ b hb).elim id id
  obtain ⟨⟨a,c,hv⟩,bc,cs,f1,ed,Nz,ke⟩:=wk Gt j hz.1 hz.2
  have tP:(my S).size=n:=hn
  rw [tP] at ke
  obtain ⟨u,rfl,tS⟩:=pg.op ed.2
  have hblk:Z (cw v n j).block:=by
   obtain ⟨base,cap,ma,gx⟩:=Gt
   rcases gx with ⟨rfl,_⟩ | ⟨b,off,cr,e',fz,f',rfl,_,rfl,_⟩
   ·simp at bc; omega
   ·obtain rfl:v = .slice (some ⟨b,off,none⟩) xs.length cap:=by simpa using ma
    have:(cw (.slice (some ⟨b,off,none⟩) xs.length cap) n j).block=b:=by unfold cw; rw [wL]
    rw [this]; exact hZ b (by simp)
  have HS:fact Z w [] (.aw (cw v n j) (cl z u)):=⟨fun i u' hi=>ke i u' hi,fun _=>hblk⟩
  have de:HL Z w (.aw (cw v n j) (cl z u) :: en z u) []:=.fact HS (wi (tS Z fun b hb=>hZ b (Nz b hb)))
  obtain ⟨F',hp,gv⟩:=de.build hS
  refine ca (v:=.pointer (some (cw v n j))) (fun w' hC=>?_) (ih z u B o ho _ w (au ha) ⟨Z,F',gv,hG.perm (by simpa using hp)⟩)
  rw [me h1 h2 ((aY ha hx).trans hv) (aY ha hy) hz.1 (by omega),h3,hv]
  rfl
 | @load M q d x a t ty lk all l rk Γ fr m ht hx _ ih=>exact fun B o ho r w ha hs pos ag g=>ih ht.h hx B o ho r w ha hs _ _ _ _
 | @Vw M α q d x v j ty o E z Γx all l rk Γ fr m h _ ih=>
  intro ht hx B o ho r w ha hs t pos ag g
  obtain ⟨Z,F,hS,_⟩:=id hs
  obtain ⟨_,⟨u,k,h1,h2,_⟩,_⟩:=h.sound hS
  exact ih ht hx B o ho r w ha hs ⟨u,k,h1,h2⟩ _ _ _ _
 | Vx h _ ih=>
  intro ht hx B o ho r w ha hs t pos ag g
  obtain ⟨Z,F,hS,_⟩:=id hs
  exact ca (Ld ht (h.sound hS) (aY ha hx)) (ih B o ho _ w (au ha) hs)
 | Vy _ ih=>
  intro ht hx B o ho r w ha hs hu t pos ag g
  obtain ⟨u,k,h1,h2,_⟩:=hu
  obtain rfl:u=_:=by simpa using h2
  exact ca (Ld ht h1 (aY ha hx)) (ih B o ho _ w (au ha) hs)
 | @Vz M α q o' d x v j E z ty all l rk Γ Γ1 Γ' fr m h h2 _ ih=>
  intro ht hx B o ho r w ha hs hu t pos ag g
  obtain ⟨u,k,h1,Eh⟩:=hu
  obtain ⟨Z,F,hS,hG⟩:=hs
  obtain ⟨dx,⟨u',k',h3,h4,h5⟩,wj⟩:=(h u).sound hS
  rw [h1] at h3
  cases h3
  exact ca (Ld ht h1 (aY ha hx)) (ih u B o ho _ w (au ha) ⟨Z,F,(h2 u).sound h1 (wj ⟨k',h4,h5⟩),hG⟩)
 | @ldp M α V q d x a S cl en z ty all l rk Γ Γx fr m pg h _ ih=>
  intro ht hx B o ho r w ha hs hu t pos ag g
  obtain ⟨u,k,h1,_⟩:=hu
  obtain ⟨Z,F,hS,hG⟩:=hs
  obtain ⟨dx,⟨u',k',h3,⟨p,iz,g',e1,bc,Dd,ed,rfl⟩,h5⟩,_⟩:=h.sound hS
  rw [h1] at h3
  cases h3
  obtain rfl:u = .pointer (some p):=by simpa using e1
  obtain ⟨v,rfl,hf⟩:=pg.op ed
  have hz:∀ b∈p.block :: g',Z b:=fun b hb=>h5 b hb
  have HS:fact Z w [] (.aw p (cl z v)):=⟨fun j u hj=>Dd j u hj,fun _=>hz _ (by simp)⟩
  have de:HL Z w (.aw p (cl z v) :: en z v) []:=.fact HS (wi (hf Z fun b hb=>hz b (by simp [hb])))
  obtain ⟨F',hp,gv⟩:=de.build hS
  exact ca (Ld ht h1 (aY ha hx)) (ih p v B o ho _ w (au ha) ⟨Z,F',gv,hG.perm (by simpa using hp)⟩)
 | Np h _ ih=>
  intro ht hx B o ho r w ha hs t pos ag g
  obtain ⟨Z,F,hS,_⟩:=id hs
  obtain ⟨h1,h2⟩:=h.sound hS
  exact ca (Lg ht h1 (aY ha hx) h2) (ih B o ho _ w (au ha) hs)
 | @SH M q d t ty ps zc cs pl all l rk Γ fr m hb hf _ ih=>
  intro B o ho r w ha hs pos ag g
  obtain ⟨Z,F,hS,_⟩:=id hs
  obtain ⟨fs,i,z,h1,h2,h3,h4,h5⟩:=hb.h
  refine ca (Bu ?_) (ih B o ho _ w (au ha) hs)
  have:=hf.fill ha hS
  unfold Program.built
  rw [h3,h1]
  simp only [h4,h2]
  rw [show z.cells=zc.toArray by rw [← h5]]
  exact this
 | @box M d x t ty v cs all l rk Γ fr m hx hc _ ih=>
  intro B o ho r w ha hs pos ag g
  obtain ⟨Z,F,hS,_⟩:=id hs
  refine fx (WL.box fun b w' hC bg hb=>ih b B o ho _ w' (au ha) (hs.new (f':=[b]) hC (fun _=>⟨rfl,?_⟩) (by simp) (xU hb)))
  rw [aY ha hx,hc.eq hS] at bg
  exact bg
 | @alloc M d t ty cs all l rk Γ fr m hz _ ih=>
  intro B o ho r w ha hs pos ag g
  obtain ⟨i,z,h1,h2,h3⟩:=hz.h
  refine fx (WL.alloc h1 h2 fun b w' hC bg hb=>ih b B o ho _ w' (au ha) (hs.new (f':=[b]) hC (fun _=>⟨rfl,?_⟩) (by simp) (xU hb)))
  rw [h3] at bg
  exact bg
 | @HI M α d t e ty E z0 bt all l rk Γ fr m hz _ ih=>
  intro B o ho r w ha hs pos ag g
  obtain ⟨h1,_,i,z,h2,_⟩:=hz.h
  exact fx (WL.HI E h1 h2 fun v w' f hC hO=>ih v B o ho _ w' (au ha) (hs.new hC (fun _=>hO.1) hO.2.1 hO.fresh))
 | @ab7 M d n ps us t e ty all l rk Γ fr m hz hl hn hb _ ih=>
  intro B o ho r w ha hs pos ag g
  obtain ⟨Z,F,hS,_⟩:=id hs
  exact fx (WL.val rfl (hl.op ha hS ⟨hz.h⟩ hn hb) (ih w.heap.size B o ho _ _ (au ha) (hs.new (f':=[w.heap.size]) (an.alloc _ _ _) (fun _=>⟨rfl,heap_alloc_new w _⟩) (by simp) (xU (Nat.le_refl _)))))
 | @lits M d n k ps us t e ty all l rk Γ fr m hz hl hn hb _ ih=>
  intro B o ho r w ha hs pos ag g
  obtain ⟨Z,F,hS,_⟩:=id hs
  exact fx (WL.val rfl (hl.op ha hS hz hn hb) (ih w.heap.size B o ho _ _ (au ha) (hs.new (f':=[w.heap.size]) (an.alloc _ _ _) (fun _=>⟨rfl,heap_alloc_new w _⟩) (by simp) (xU (Nat.le_refl _)))))
 | @Fk M α d x u t e ty E z0 bt all l rk Γ fr m hz hx hu _ ih=>
  intro B o ho r w ha hs pos ag g
  obtain ⟨h1,_,i,z,h2,h3,h4,_⟩:=hz.h
  obtain ⟨Z,F,hS,_⟩:=id hs
  have he:=aY ha hx
  refine fx (WL.Fk h1 h2 h3 h4 (by rw [he]; exact hu.one hS) fun b w' hC bg hb=>ih b B o ho _ w' (au ha) (hs.new (f':=[b]) hC (fun _=>⟨rfl,?_⟩) (by simp) (xU hb)))
  rw [he] at bg
  exact bg
 | @LJ M α d y a t e ty E z0 bt all l rk Γ fr f hz hy _ ih=>
  intro B o ho r w ha hs pos ag g
  obtain ⟨n,hn,VJ⟩:=bind_some ho
  obtain ⟨e1,e2,e3⟩:=Fq hn
  obtain ⟨h1,hE,i,z,h2,h3,h4,h5,h6,h7⟩:=hz.h
  subst e1
  exact fx (WL.LJ E h1 h2 h3 (by rw [h4,hE]) rfl (aY ha hy) (by rw [h6]; exact e2) e3 fun v w' f hC hO=>ih n v B o VJ _ w' (au ha) (hs.new hC (fun _=>hO.1) hO.2.1 hO.fresh))
 | @make M α d x a t e ty E z0 bt all l rk Γ fr f hz hx _ ih=>
  intro B o ho r w ha hs pos ag g
  obtain ⟨n,hn,VJ⟩:=bind_some ho
  obtain ⟨e1,e2,e3⟩:=Fq hn
  obtain ⟨h1,hE,i,z,h2,h3,h4,h5,h6,h7⟩:=hz.h
  subst e1
  exact fx (WL.make E h1 h2 h3 h4 hE h5 h7 (aY ha hx) (aY ha hx) (by rw [h6]; exact e2) e3 fun v w' f hC hO=>ih n v B o VJ _ w' (au ha) (hs.new hC (fun _=>hO.1) hO.2.1 hO.fresh))
 | @app M α d s x sv xv t e ty E z0 bt all l rk Γ fr m hz fh hx _ ih=>
  obtain ⟨h1,hE,i,z,h2,h3,h4,h5,h6,h7⟩:=hz.h
  exact ih ⟨h1,hE,i,z,h2,h3,h4,h5,h6⟩ fh hx
 | ax1 hc _ ih=>exact fun h1 hs hx=>ih h1 hs hx
 | @axi M d k s x sv yv o1 o2 t e ty xs ys bt all l rk Γ Γ1 Γx fr f h1 h2 _ ih=>
  intro hT fh hx B o ho r w ha hs pos ag g
  obtain ⟨u,hu,ho⟩:=bind_some ho
  obtain ⟨b1,b2⟩:=rq hu
  obtain ⟨q1,q2,i,z,q3,q4,q5,q6,q7⟩:=hT
  obtain ⟨Z,F,hS,hg⟩:=hs
  obtain ⟨n,F1,hp,hO,fl⟩:=h1.sound hS
  have kp:=hg.perm hp
  have du:=List.nodup_append.1 kp.nd
  obtain ⟨dx,VK,⟨⟨kk,hk,De⟩,_⟩,_⟩:=h2.sound fl
  have hd:tx kk n:=fun b hb hm=>(De b hb).elim (fun h=>by
   cases o1
   ·exact kp.apart b (List.mem_append_left _ hm) h
   ·exact du.2.2 b hm b ((VK b h).resolve_left (by simp)) rfl) (fun h=>by
   cases o2
   ·exact kp.apart b (List.mem_append_left _ hm) h
   ·exact du.2.2 b hm b ((VK b h).resolve_left (by simp)) rfl)
  refine fx (WL.CP (E:=aL k) n w.heap.size zm q1 q3 q4 q5 rfl q6 (aY ha fh) ⟨hO,du.1,fun b hb=>.inl hb⟩ (aY ha hx) hk (by rw [q7]; exact b1) b2 (Nat.le_refl _) fun v w' f' hC sY dk=>ih v B o ho _ w' (au ha) (St.put fl kp hC sY.1 sY.2.1 fun b hb=>(dk b hb).elim .inl fun h=>h.elim (fun h=>absurd h List.not_mem_nil) .inr))
 | @api M d b k y s x sv t e et ty xs bt all l rk Γ Γ1 Γ2 fr f h0 h1 _ ih=>
  intro hT fh hx B o ho r w ha hs pos ag g
  obtain ⟨u,hu,ho⟩:=bind_some ho
  obtain ⟨b1,b2⟩:=rq hu
  obtain ⟨q1,q2,i,z,q3,q4,q5,q6,q7⟩:=hT
  obtain ⟨Z,F,hS,hg⟩:=hs
  obtain ⟨n0,F0,vp,⟨rfl,bg⟩,xz⟩:=h0.sound hS
  obtain ⟨n,F1,hp,hO,fl⟩:=h1.sound xz
  have kp:Gd B Z (n++F1) w:=Gd.left (F':=[b]) (hg.perm ((List.perm_append_comm.trans (hp.append_left [b])).trans vp))
  have du:=List.nodup_append.1 kp.nd
  refine fx (WL.wm (E:=aL k) (k:=[]) n w.heap.size q1 q3 q4 q5 rfl q6 (aY ha fh) ⟨hO,du.1,fun b hb=>.inl hb⟩ (aY ha hx) bg ⟨rfl,rfl⟩ List.nodup_nil (fun _ h=>absurd h List.not_mem_nil) (fun _ h=>absurd h List.not_mem_nil) (by rw [q7]; exact b1) b2 (Nat.le_refl _) fun v w' f' hC sY dk=>ih v B o ho _ w' (au ha) (St.put fl kp hC sY.1 sY.2.1 fun b hb=>(dk b hb).elim .inl fun h=>h.elim (fun h=>absurd h List.not_mem_nil) .inr))
 | VA hk _ ih=>exact ih
 | @apo M α d b s x sv u y xs t e e' et ty E bt all l rk Γ Γ1 Γ2 Γ3 fr f h0 h1 h2 _ ih=>
  intro hT fh hx B o ho r w ha hs pos ag g
  obtain ⟨_,hu,ho⟩:=bind_some ho
  obtain ⟨b1,b2⟩:=rq hu
  obtain ⟨q1,q2,i,z,q3,q4,q5,q6,q7⟩:=hT
  obtain ⟨Z,F,hS,hg⟩:=hs
  obtain ⟨n0,F0,vp,⟨rfl,bg⟩,xz⟩:=h0.sound hS
  obtain ⟨k,F1,tJ,hK,fl⟩:=h1.sound xz
  obtain ⟨n,F2,o9,hO,gv⟩:=h2.sound fl
  have u2:((n++k)++F2++[b]).Perm F:=by
   refine List.perm_append_comm.trans (.trans (List.Perm.append_left [b] ?_) vp)
   refine .trans ?_ tJ
   refine .trans ?_ (o9.append_left k)
   rw [← List.append_assoc k n F2]
   exact List.perm_append_comm.append_right F2
  have kp:Gd B Z ((n++k)++F2) w:=Gd.left (hg.perm u2)
  have du:=List.nodup_append.1 kp.nd
  have yg:=List.nodup_append.1 du.1
  have VL:fact Z w [] (.rd false SF u y.length):=by
   obtain ⟨base,cap,hv,_⟩:=hK
   obtain rfl:u = .slice base y.length cap:=by simpa using hv
   exact ⟨[],⟨⟨_,_,rfl⟩,rfl⟩,fun b hb=>absurd hb List.not_mem_nil⟩
  refine fx (WL.wm (E:=aI e' E) (k:=k) (n++k) w.heap.size q1 q3 q4 q5 q2 q6 (aY ha fh) ⟨hO,yg.1,fun b hb=>.inl (List.mem_append_left _ hb)⟩ (aY ha hx) bg hK yg.2.1 (fun _ h=>.inl (List.mem_append_right _ h)) (fun b hb hm=>yg.2.2 b hm b hb rfl) (by rw [q7]; exact b1) b2 (Nat.le_refl _) fun v w' f' hC sY dk=>ih v B o ho _ w' (au ha) (St.put (gv.fact (e:=.rd false SF u y.length) VL) kp (hC.mono fun b hb=>List.mem_append_left _ hb) sY.1 sY.2.1 fun b hb=>(dk b hb).elim (fun h=>.inl (List.mem_append_left _ h)) fun h=>h.elim (fun h=>.inl (List.mem_append_right _ h)) .inr))
 | @ldn M α q o' d x v j Q T z ty all l rk Γ Γ1 Γ' fr m h h2 _ ih=>
  intro ht hx B o ho r w ha hs hu t pos ag g
  obtain ⟨u,k,h1,Eh⟩:=hu
  obtain ⟨Z,F,hS,hG⟩:=hs
  obtain ⟨dx,⟨u',k',h3,h4,h5⟩,wj⟩:=(h u).sound hS
  rw [h1] at h3
  cases h3
  exact ca (Ld ht h1 (aY ha hx)) (ih u B o ho _ w (au ha) ⟨Z,F,(h2 u).sound h1 (wj ⟨k',h4,h5⟩),hG⟩)
 | @apm M α d b s x sv u y xs t e e' et ty E E1 bt all l rk Γ Γ1 Γ2 Γx fr f h0 h1 h2 _ ih=>
  intro hT fh hx B o ho r w ha hs pos ag g
  obtain ⟨_,hu,ho⟩:=bind_some ho
  obtain ⟨b1,b2⟩:=rq hu
  obtain ⟨q1,q2,i,z,q3,q4,q5,q6,q7⟩:=hT
  obtain ⟨Z,F,hS,hg⟩:=hs
  obtain ⟨n0,F0,vp,⟨rfl,bg⟩,xz⟩:=h0.sound hS
  obtain ⟨dx,_,⟨⟨k,hk,HT⟩,_⟩,_⟩:=h1.sound xz
  obtain ⟨n,F1,hp,⟨us,gg,hO,hr,um,NB⟩,fl⟩:=h2.sound xz
  have kp:Gd B Z (n++F1) w:=Gd.left (F':=[b]) (hg.perm ((List.perm_append_comm.trans (hp.append_left [b])).trans vp))
  have du:=List.nodup_append.1 kp.nd
  have HU:∀ b∈k,Z b:=fun b hb=>(HT b hb).elim id id
  have NC:∀ b∈n,¬ Z b:=fun b hb=>kp.apart b (List.mem_append_left _ hb)
  refine fx (SJ.wm (E:=bG E1) (G:=n) (B:=w.heap.size) (g:=gg) (k:=k) q1 q3 q4 q5 q6 (aY ha fh) ⟨us,⟨hO,du.1,fun b hb=>.inl hb⟩,hr,NB⟩ (aY ha hx) bg hk (fun b hb hm=>NC b hm (HU b hb)) (fun b hb hm=>NC b hm (um b hb)) (by rw [q7]; exact b1) b2 (Nat.le_refl _) fun v w' f' hC sY dk=>?_)
  obtain ⟨VM,cb,gx,PZ⟩:=sY
  exact ih v B o ho _ w' (au ha) (St.put fl kp hC ⟨VM,_,cb.1,gx,(fun b hb=>(List.mem_append.1 hb).elim (um b) (HU b)),PZ⟩ cb.2.1 fun b hb=>(dk b hb).elim .inl fun h=>h.elim (fun h=>absurd h List.not_mem_nil) .inr)
 | @VB M x y a u t ty n all l rk Γ fr m ht hx hy _ ih=>exact ih ht.h hx hy
 | @stn M x y b j n us cs ds t e ty all l rk Γ Γ1 fr m h0 h1 h2 h3 _ ih=>
  intro hT hx hy B o ho r w ha hs pos ag g
  obtain ⟨i,hi,vm⟩:=hT
  obtain ⟨Z,F,hS,hg⟩:=hs
  obtain ⟨n0,F0,vp,⟨rfl,bg⟩,xz⟩:=h0.sound hS
  obtain ⟨e1,e2⟩:=h1.eq
  refine fx (WL.P1 hi (by rw [h3,vm]) bg e1 (aY ha hx) (aY ha hy) (h2.one hS) fun w' hC vq=>ih B o ho _ w' ha (St.put (f:=[b]) (f':=[b]) xz (hg.perm vp) hC ⟨rfl,by rw [e2]; exact vq⟩ (by simp) fun b hb=>.inl hb))
 | @Gq M x y b j u cs ds t e ty all l rk Γ Γ1 fr m h0 h1 h2 _ ih=>
  intro hT hx hy B o ho r w ha hs pos ag g
  obtain ⟨i,hi,vm⟩:=hT
  obtain ⟨Z,F,hS,hg⟩:=hs
  obtain ⟨n0,F0,vp,⟨rfl,bg⟩,xz⟩:=h0.sound hS
  obtain ⟨e1,e2⟩:=h1.eq
  have e3:cs.set j u=ds:=by rw [e2,List.set_eq_take_append_cons_drop,if_pos (by simp at e1; omega)]; simp
  refine fx (WL.HW hi vm bg (by simp at e1; omega) (aY ha hx) (aY ha hy) (h2.one hS) fun w' hC vq=>ih B o ho _ w' ha (St.put (f:=[b]) (f':=[b]) xz (hg.perm vp) hC ⟨rfl,by rw [← e3]; exact vq⟩ (by simp) fun b hb=>.inl hb))
 | stl hl _ ih=>exact fun hT hx hy=>ih hT hx hy hl
 | @sti M x y v j z k xs t e ty all l rk Γ Γ1 fr m h0 h1 _ ih=>
  intro hT hx hy _ B o ho r w ha hs pos ag g
  obtain ⟨i,hi,vm⟩:=hT
  obtain ⟨Z,F,hS,hg⟩:=hs
  obtain ⟨j0,j1⟩:=h0.sound hS
  obtain ⟨n,F1,hp,hO,fl⟩:=h1.sound hS
  have kp:=hg.perm hp
  have du:=List.nodup_append.1 kp.nd
  rw [uN hO] at j1
  exact fx (WL.Fm (E:=aL k) n w.heap.size zm rfl hi vm ⟨hO,du.1,fun b hb=>.inl hb⟩ (List.getElem?_eq_getElem j1) (aY ha hx) (aY ha hy) ⟨rfl,rfl⟩ fun w' hC sY=>ih B o ho _ w' ha (St.put fl kp hC sY.1 sY.2.1 fun b hb=>.inl hb))
 | @sri M x y v v' j j' z k zs xs t e e' ty o1 o2 all l rk Γ Γ1 Γx fr m h0 h1 h2 _ ih=>
  intro hT hx hy hl B o ho r w ha hs pos ag g
  obtain ⟨i,hi,vm⟩:=hT
  exact Nr (E:=aL k) zm rfl hi vm hs hl h0 h1 .i h2 (aY ha hx) (aY ha hy) ⟨rfl,rfl⟩ fun w' h=>ih B o ho _ w' ha h
 | @stw M α x y v u j z xs E t e e' ty all l rk Γ Γ1 Γ2 fr m h0 h1 h2 _ ih=>
  intro hT hx hy _ B o ho r w ha hs pos ag g
  obtain ⟨i,hi,vm⟩:=hT
  obtain ⟨Z,F,hS,hg⟩:=hs
  obtain ⟨j0,j1⟩:=h0.sound hS
  obtain ⟨k,F1,tJ,hK,fl⟩:=h1.sound hS
  obtain ⟨n,F2,o9,hO,gv⟩:=h2.sound fl
  have u2:((n++k)++F2).Perm F:=by
   refine .trans ?_ tJ
   refine .trans ?_ (o9.append_left k)
   rw [← List.append_assoc k n F2]
   exact List.perm_append_comm.append_right F2
  have kp:Gd B Z ((n++k)++F2) w:=hg.perm u2
  have du:=List.nodup_append.1 kp.nd
  have yg:=List.nodup_append.1 du.1
  rw [uN hO] at j1
  exact fx (WL.P3 (E:=aI e' E) (k:=k) (n++k) w.heap.size rfl hi vm ⟨hO,yg.1,fun b hb=>.inl (List.mem_append_left _ hb)⟩ (List.getElem?_eq_getElem j1) (aY ha hx) (aY ha hy) hK yg.2.1 (fun _ h=>.inl (List.mem_append_right _ h)) (fun b hb hm=>yg.2.2 b hm b hb rfl) fun w' f' hC sY dk=>ih B o ho _ w' ha (St.put gv kp (hC.mono fun b hb=>List.mem_append_left _ hb) sY.1 sY.2.1 fun b hb=>(dk b hb).elim (fun h=>.inl (List.mem_append_left _ h)) fun h=>h.elim (fun h=>.inl (List.mem_append_right _ h)) .inr))
 | @No M q d f xs vs aw ty all l rk Γ fr m hf hx _ ih=>
  intro B o ho r w ha hs pos ag g
  obtain ⟨fn,c,f1,f2,f3⟩:=hf.h
  refine ih B o ho r w ha hs pos ag g fun w'=>?_
  rw [HP f1 f2 f3,ub ha hx]
 | @cav M q d f x xs vs us ws as bs aw ty all l rk Γ fr m hv hx h1 h2 _ ih=>
  intro B o ho r w ha hs pos ag g
  refine ih.2 B o ho r w ha hs pos ag g fun w'=>?_
  obtain ⟨fn,c,f1,f2,f3⟩:=ih.1
  rw [HX (aY ha hv) f1 f2 f3,ub ha hx,List.append_assoc,h1.eq,h2.eq]
 | @fa f j hf _ ih=>exact ⟨hf.h,ih⟩
 | @im t name nm f j hf hn _ ih=>
  rw [na] at hn
  subst hn
  exact ⟨f,hf.h,ih⟩
 | @cin M q d name t x u xs vs aw ty all l rk Γ fr m hv hx _ ih=>
  intro B o ho r w ha hs pos ag g
  obtain ⟨f,h1,h2⟩:=ih
  refine h2 B o ho r w ha hs pos ag g fun w'=>?_
  rw [ND h1 (aY ha hv),ub ha hx]
 | @mkf M q d f xs ys as bs ty all l rk Γ fr m hx hy _ ih=>
  intro B o ho r w ha hs pos ag g
  refine ca ?_ (ih B o ho _ w (au ha) hs)
  intro w' _
  rw [JX,ub ha hx,ub ha hy]
 | @mki M q d x v t ty all l rk Γ fr m hf hx _ ih=>
  intro B o ho r w ha hs pos ag g
  obtain ⟨ds,h1,h2⟩:=hf.h
  exact ca (If h1 h2 _ (aY ha hx)) (ih B o ho _ w (au ha) hs)
 | cvn=>exact fun B o ho=>nomatch ho
 | @cvq M β ow d f vs op ty Δ mo rt all l rk Γ fr g hc h0 h1 _ ih=>
  intro B o ho r w ha hs pos ag gg tS
  obtain ⟨y,hy,ho⟩:=bind_some ho
  refine ⟨tH (rt y ()),?_,ih y B o ho _ w (au ha) hs⟩
  intro w' hC
  unfold Oper.quietUpon
  rw [tS w']
  refine ⟨rfl,?_⟩
  obtain ⟨Z,F,hS,hG⟩:=hs
  have HY:=hS.jy hC
  have nt:=hG.jy hC
  rw [tI] at hc
  refine (hc.2 w' (fun b=>Z b∨b∈F) [] (h1.sound (fun _ h=>.inl h) (fun _ _ h=>.inr h) HY h0.ho) List.nodup_nil (fun b hb=>absurd hb List.not_mem_nil)
   (fun b hb=>hb.elim (nt.tv b) (HY.lt b)) y hy).mono ?_
  rintro e Gr ⟨v,he,Z2,F2,_,np⟩
  exact ⟨he,hC.trans np.lq⟩
 | @cvw M β V ow d f vs op ty Δ mo rt ps all l rk Γ fr g hc _ _ ih=>exact ih hc
 | @czt M β V d f vs op ty Δ mo rt ps all l rk Γ Γ1 fr g h0 h1 _ ih=>
  intro hc B o ho r w ha hs pos ag gg tS
  obtain ⟨y,hy,ho⟩:=bind_some ho
  unfold tQ gy
  rw [tS w]
  obtain ⟨Z,F,hS,hG⟩:=hs
  obtain ⟨Fd,F1,a1,a2,a3⟩:=h0.sound hS
  have qi:=hG.perm a3
  rw [tI] at hc
  exact (Gs hc (Z':=fun b=>Z b∨b∈F1) (h1.sound (fun _ h=>.inl h) (fun _ _ h=>.inr h) a2 a1) a2 qi (fun _ h=>.inl h) (fun _ h=>h) (.inl (hc.1 rfl y)) hy).mono fun e w' ⟨v,h2,h3⟩=>⟨_,h2,ih y v B o ho _ w' (au ha) h3⟩
 | @czf M β V d f vs op ty Δ mo rt ps all l rk Γ Γ1 fr g h0 _ ih=>
  intro hc B o ho r w ha hs pos ag gg tS
  obtain ⟨y,hy,ho⟩:=bind_some ho
  unfold tQ gy
  rw [tS w]
  obtain ⟨Z,F,hS,hG⟩:=hs
  obtain ⟨Fd,F1,Zn,a1,a2,a3⟩:=h0.sound hS
  have qi:=Gd.freeze (hG.perm a3) fun b hb=>hS.lt b (a3.mem_iff.1 (List.mem_append_right _ hb))
  rw [tI] at hc
  exact (Gs hc a1 a2 qi (fun _ h=>h) (fun _ h=>.inl h) (.inr fun _ h=>h) hy).mono fun e w' ⟨v,h2,h3⟩=>⟨_,h2,ih y v B o ho _ w' (au ha) h3⟩
 | mo0 _ ih=>exact fun B o ho r w ha hs=>ih B o ho r w ha hs
 | mn0 _ ih=>exact fun B o ho r w ha hs=>ih B o ho r w ha hs
theorem loop {S S1 V:Type} (k:Nat) (Δ:S1→V→List av) (φ:S1→V→Fr) (v0:V) (f2:Fr) {gq:List KI} {kb:Kb R S} {c:Code} {s0:S1} {body:S1→Option (Out S1 R)} {f:S1→Option (Out S R)} {Γ Γ1 Γ2:QE} {fr:Fr}
   (ha:sg fr (φ s0 v0)) (hf:sg fr f2) (h0:EO Γ (Δ s0 v0) Γ1) (hn:OW Γ (Δ s0 v0)) (hs:jz Γ1 Γ2)
   (hb:∀ s v,D P cx (.p (φ s v) (Δ s v) f2 Γ2 fun fr Γ=>.c ⟨[],.loop V k Δ φ Γ2 f2⟩ c Γ fr (body s)))
   (hk:∀ s v,D P cx (.p (φ s v) (Δ s v) f2 Γ2 fun fr Γ=>.mn ⟨gq,kb⟩ Γ fr (f s))):Bx (nq P cx (.bk true k ⟨gq,kb⟩ (.loop c) Γ fr (ae (ab k (af body s0)) f))):=by
 rw [na]
 intro B o ho r w qj ry
 refine LR (T:=TT P cx B) (LI B Δ φ _ f2) ho ⟨v0,rm (ha.all qj) (hf.sound qj),ry.enter h0 hn hs⟩ ?_ ?_ ?_
 ·intro x r w he hx
  subst he
  exact wM hx
 ·rintro s r w ⟨v,h1,h2⟩ o ho
  exact (hb s v).sound B o ho r w h1 h2
 ·rintro s r w ⟨v,h1,h2⟩ ho
  exact (hk s v).sound B o ho r w h1 h2
noncomputable def pc.{u,v,w} {A:Type u} {B:Type v} {C:Sort w} (f:A→B→C) (p:A×B):C:=Prod.rec (motive:=fun _=>C) f p
theorem je {S S1 V A:Type} (k:Nat) (a0:A) (Δ:A→S1→V→List av) (φ:A→S1→V→Fr) (v0:V) (f2:Fr) {gq:List KI} {kb:Kb R S} {c:Code} {s0:S1} {body:S1→Option (Out S1 R)} {f:S1→Option (Out S R)} {Γ Γ1 Γ2:QE} {fr:Fr}
   (ha:sg fr (φ a0 s0 v0)) (hf:sg fr f2) (h0:EO Γ (Δ a0 s0 v0) Γ1) (hn:OW Γ (Δ a0 s0 v0)) (hs:jz Γ1 Γ2)
   (hb:∀ s v,D P cx (.p (φ a0 s v) (Δ a0 s v) f2 Γ2 fun fr Γ=>.c ⟨[],.loop V k (Δ a0) (φ a0) Γ2 f2⟩ c Γ fr (body s)))
   (hk:∀ s v,D P cx (.p (φ a0 s v) (Δ a0 s v) f2 Γ2 fun fr Γ=>.mn ⟨gq,kb⟩ Γ fr (f s))):Bx (nq P cx (.bk true k ⟨gq,kb⟩ (.loop c) Γ fr (ae (ab k (af body s0)) f))):=
 loop k (Δ a0) (φ a0) v0 f2 ha hf h0 hn hs hb hk
theorem quiet {S:Type} {id:Nat} {K:dj R S} {ops:LO} {Γ:QE} {fr:Fr} {m:Option (Out S R)} (hB:(P.follows .mixedOrders && df cx.n ops && Region.lexB .any ops.toArray)=true) (h:D P cx (.rg (DJ ops) true ops K Γ fr m)):Bx (nq P cx (.dr id ops K Γ fr m)):=by
 simp only [Bool.and_eq_true] at hB
 rw [na]
 exact fun B o ho r w ha hs=>h.sound hB.1.2 (fun _=>⟨hB.1.1,hB.2⟩) B o ho r w ha hs _
theorem tail {S:Type} {id:Nat} (k:Nat) {K:dj R S} {l ops tl:LO} {Γ:QE} {fr:Fr} {m:Option (Out S R)} (hB:(P.follows .mixedOrders && df cx.n l && ((l.take k).all fun o=>yh o.op) && Region.lexTailB .any l.toArray k)=true) (ho:ops=l.take k) (ht:tl=l.drop k)
  (h:D P cx (.o true l ops (.h l tl K) Γ fr m)):Bx (nq P cx (.dr id l K Γ fr m)):=by
 simp only [Bool.and_eq_true] at hB
 obtain ⟨⟨⟨h1,h2⟩,h3⟩,h4⟩:=hB
 subst ho ht
 rw [na]
 intro B o ho r w ha hs
 exact VN k h1 h2 h3 h4 (an.refl _ _) (h.sound B o ho r w ha hs)
def Ft:Nat→List Value→Fr
 | _,[]=>[]
 | i,v :: l=>(i,v) :: Ft (i+1) l
theorem Gu {args:LV}:cu (fun t=>args.getD t undef) ((Ft 0 args).reverse++[]):=by
 refine rm ?_ Ab
 have key:∀ (l:LV) (i:Nat) (p:Nat×Value),p∈Ft i l→i≤p.1∧l[p.1 - i]? = some p.2:=by
  intro l
  induction l with
  | nil=>intro i p hp; cases hp
  | cons a l ih=>
   intro i p hp
   unfold Ft at hp
   rcases List.mem_cons.1 hp with rfl | hp
   ·simp
   ·obtain ⟨h1,h2⟩:=ih _ _ hp
    refine ⟨by omega,?_⟩
    rw [show p.1 - i=(p.1 - (i+1))+1 by omega]
    simpa using h2
 intro p hp
 obtain ⟨_,h⟩:=key args 0 p hp
 simp only [Nat.sub_zero] at h
 simp [List.getD_eq_getElem?_getD,h]
theorem bw {β V:Type} {post:β→V→List av} (h:∀ y v,tO (post y v)=true):true=true→∀ y v,tO (post y v)=true:=fun _=>h
theorem yi {β V:Type} {post:β→V→List av}:false=true→∀ y v,tO (post y v)=true:=fun h=>nomatch h
theorem ct {f:FuncId} {fn:Func} {ow:Bool} {c:Code} {args:LV} {Δ:QE} {S V:Type} {m:Option (Out S R)} {ret:R→V→List Value} {post:R→V→List av} (hw:ow=true→∀ y v,tO (post y v)=true) (hf:P.funcs[f]? = some fn) (hb:fn.body=some c) (hl:Nat.ble args.length fn.ntmps=true)
  (h:D P ⟨fn.ntmps,fn,V,ret,post⟩ (.p (Ft 0 args) Δ [] [] fun fr Γ=>.c ⟨[],.top⟩ c Γ fr m)):Ct P f ow (ak m) args Δ ret post:=by
 rw [tI]
 refine ⟨hw,?_⟩
 intro w Z F hh du VO bc y hy
 have hs:=h.sound
 obtain ⟨F',hp,hS⟩:=hh.build (Γ:=[]) (F:=[]) rfl
 rw [List.append_nil] at hp
 have ry:St ⟨w,Z,F⟩ (Δ.reverse++[]) w:=⟨Z,F',hS,Gd.perm ⟨du,VO,bc,fun b hb=>.inl hb,fun _ h=>h,fun _ h=>.inl h,an.refl _ _⟩ hp⟩
 exact (LS (Rr:=fun y e w'=>∃ v:V,e = .returned (tH (ret y v))∧Nd ⟨w,Z,F⟩ (post y v) w') hf hb rfl (Nat.le_of_ble_eq_true hl) (Gv hy)
  fun o ho=>hs ⟨w,Z,F⟩ o ho _ _ Gu ry)
theorem ctv {f:FuncId} {fn:Func} {ow:Bool} {c:Code} {args:LV} {Δ:QE} {V:Type} {m:Option (Out R R)} {ret:R→V→List Value} {post:R→V→List av} (hw:ow=true→∀ y v,tO (post y v)=true) (hf:P.funcs[f]? = some fn) (hb:fn.body=some c) (hl:Nat.ble args.length fn.ntmps=true)
  (h:D P ⟨fn.ntmps,fn,V,ret,post⟩ (.p (Ft 0 args) Δ [] [] fun fr Γ=>.c ⟨[],.PN⟩ c Γ fr m)):Ct P f ow (Fu m) args Δ ret post:=by
 rw [tI]
 refine ⟨hw,?_⟩
 intro w Z F hh du VO bc y hy
 have hs:=h.sound
 obtain ⟨F',hp,hS⟩:=hh.build (Γ:=[]) (F:=[]) rfl
 rw [List.append_nil] at hp
 have ry:St ⟨w,Z,F⟩ (Δ.reverse++[]) w:=⟨Z,F',hS,Gd.perm ⟨du,VO,bc,fun b hb=>.inl hb,fun _ h=>h,fun _ h=>.inl h,an.refl _ _⟩ hp⟩
 exact (JY (Rr:=fun y e w'=>∃ v:V,e = .returned (tH (ret y v))∧Nd ⟨w,Z,F⟩ (post y v) w') hf hb rfl (Nat.le_of_ble_eq_true hl) hy
  fun o ho=>hs ⟨w,Z,F⟩ o ho _ _ Gu ry)
end
end Go.Dk
