/- A calculus of walks: that its rules hold. No condition. -/
import Derived.Test.YtkcpiblgpnjanaaGreatDa
import Derived.Test.YtkcpiblgpnjanaaGreatLn
namespace Go.Dk
open Go Go.Li
section
variable {Z Z':Nat→Prop} {w w':World} {cur F f:LN} {Γ Γ' Γ1 Δ:QE} {e:aw} {B:Bs} {P:Program}
theorem Gd.left {F':LN} (h:Gd B Z (F++F') w):Gd B Z F w:=
 ⟨(List.nodup_append.1 h.nd).1,fun b hb=>h.apart b (List.mem_append_left _ hb),h.ml,fun b hb=>h.low b (List.mem_append_left _ hb),h.tQ,h.tj,h.iH⟩
theorem HO.hl (h:OW Γ Δ):∀ {cur F F':LN},SA Z w Γ cur F'→HO Z w Δ F→HL Z w Δ F:=by
 induction h with
 | nil=>intro _ F _ _ h; cases h; exact .nil
 | own _ ih=>intro _ F _ hs h; cases h with | own h k=>exact .own h (ih hs k)
 | om _ ih=>intro _ F _ hs h; cases h with | own h k=>exact .own h (ih hs k)
 | row _ ih=>intro _ F _ hs h; cases h with | own h k=>exact .own h (ih hs k)
 | rd h _ ih=>intro _ F _ hs hh; cases hh with
  | own h k=>exact h.elim
  | rd k=>exact .fact (h.rd hs _) (ih hs k)
theorem FO.ho (h:FO Δ):HO Z w Δ []:=by
 induction h with
 | nil=>exact .nil
 | rd _ ih=>exact .rd ih
 | ak _ ih=>exact .ak ih
theorem rV.all {fr g:Fr} {r:NV} (h:rV fr g) (ha:cu r fr):∀ p∈g,r p.1=p.2:=by
 induction h with
 | nil=>intro p hp; cases hp
 | cons h _ ih=>intro p hp; rcases List.mem_cons.1 hp with rfl | hp; exact ha _ _ h; exact ih p hp
theorem qm {r:NV} {f:Fr}:∀ {g:Fr},(∀ p∈g,r p.1=p.2)→cu r f→cu r (g++f):=by
 intro g
 induction g with
 | nil=>intro _ h; exact h
 | cons a g ih=>
  intro hg h t v hl
  obtain ⟨s,u⟩:=a
  rw [List.cons_append] at hl
  unfold look at hl
  cases hb:Nat.beq t s with
  | true=>rw [hb] at hl; cases hl; rw [Nat.eq_of_beq_eq_true hb]; exact hg (s,v) (by simp)
  | false=>rw [hb] at hl; exact ih (fun p hp=>hg p (by simp [hp])) h t v hl
theorem qn {r:NV} {f g:Fr} (hg:∀ p∈g,r p.1=p.2) (h:cu r f):cu r (g.reverse++f):=qm (fun p hp=>hg p (List.mem_reverse.1 hp)) h
theorem j6.sound (h:j6 Γ Γ'):∀ {cur F:LN},SA Z w Γ cur F→SA Z w Γ' cur F:=by
 induction h with
 | nil=>intro _ _ h; exact h
 | own _ ih=>rintro _ _ ⟨f,F',h1,h2,h3⟩; exact ⟨f,F',h1,h2,ih h3⟩
 | om _ ih=>rintro _ _ ⟨f,F',h1,h2,h3⟩; exact ⟨f,F',h1,h2,ih h3⟩
 | row _ ih=>rintro _ _ ⟨f,F',h1,h2,h3⟩; exact ⟨f,F',h1,h2,ih h3⟩
 | Lx _ ih=>intro _ _ h; exact ⟨h.1,ih h.2⟩
 | Ga _ ih=>intro _ _ h; exact ⟨h.1,ih h.2⟩
 | ad _ ih=>intro _ _ h; exact ih h.2
 | ak _ ih=>intro _ _ h; exact ⟨h.1,ih h.2⟩
 | hd _ ih=>intro _ _ h; exact ih h.2
 | fl _ ih=>rintro _ _ ⟨f,F',h1,h2,h3⟩; exact ⟨f,F',h1,h2,ih h3⟩
theorem RU {α:Type} {E:ag α} (hE:∀ {h:Array Obj} {cs:LV} {x y:α} {f g:LN},E.rep h cs x f→E.rep h cs y g→f=g) {h:Array Obj}:∀ {xs ys:List α} {cs:LV} {f g:LN},xs.length=ys.length→dw E h cs xs f→dw E h cs ys g→f=g:=by
 intro xs
 induction xs with
 | nil=>
  intro ys cs f g hl h1 h2
  cases ys with
  | nil=>obtain ⟨_,rfl⟩:=h1; obtain ⟨_,rfl⟩:=h2; rfl
  | cons y ys=>cases hl
 | cons x xs ih=>
  intro ys cs f g hl h1 h2
  cases ys with
  | nil=>cases hl
  | cons y ys=>
   obtain ⟨c,gw,f1,f2,rfl,rfl,a1,a2⟩:=h1
   obtain ⟨d,ds',g1,g2,e1,rfl,b1,b2⟩:=h2
   obtain ⟨rfl,rfl⟩:=List.append_inj e1 ((E.len a1).trans (E.len b1).symm)
   rw [hE a1 b1,ih (by simpa using hl) a2 b2]
theorem DT.fp {α:Type} {T:ag α} (h:DT T):∀ {h:Array Obj} {cs:LV} {x y:α} {f g:LN},T.rep h cs x f→T.rep h cs y g→f=g:=by
 induction h with
 | i=>rintro h cs x y f g ⟨_,rfl⟩ ⟨_,rfl⟩; rfl
 | b=>rintro h cs x y f g ⟨_,rfl⟩ ⟨_,rfl⟩; rfl
 | @own α e E _ ih=>
  rintro h cs x y f g ⟨base,cap,rfl,a⟩ ⟨JY,N5,e1,b⟩
  simp only [List.cons.injEq,Value.slice.injEq,and_true] at e1
  obtain ⟨rfl,hl,rfl⟩:=e1
  rcases a with ⟨rfl,_,_,rfl⟩ | ⟨b1,cr,f',rfl,a2,rfl,_,_,_,a3⟩
  ·rcases b with ⟨_,_,_,rfl⟩ | ⟨IT,Ya,g',e1,_⟩
   ·rfl
   ·cases e1
  ·rcases b with ⟨e1,_⟩ | ⟨IT,Ya,g',e1,c2,rfl,_,_,_,c3⟩
   ·cases e1
   ·cases e1
    rw [a2] at c2
    cases c2
    rw [hl] at a3
    rw [RU ih hl a3 c3]
theorem In.ak {p:Addr} {cs:LV} (h:In (.ak p cs) Γ):∀ {cur F:LN},SA Z w Γ cur F→∀ dk,fact Z w dk (.ak p cs):=by
 induction h with
 | here=>intro cur F h dk; exact h.1
 | @there a Γ _ ih=>
  intro cur F hS
  cases a with
  | own T v x=>obtain ⟨f,F',h1,h2,h3⟩:=hS; exact ih h3
  | om e E v xs=>obtain ⟨f,F',h1,h2,h3⟩:=hS; exact ih h3
  | row b cs e=>obtain ⟨f,F',h1,h2,h3⟩:=hS; exact ih h3
  | fl e E v xs j u=>obtain ⟨f,F',h1,h2,h3⟩:=hS; exact ih h3
  | _=>exact ih hS.2
theorem xP.get {α:Type} {T:ag α} {v:Value} {x:α} (h:xP (.rd true T v x) Γ):∀ {cur F:LN},SA Z w Γ cur F→fact Z w cur (.rd true T v x):=by
 induction h with
 | here=>intro cur F h; exact h.1
 | row _ ih=>rintro cur F ⟨f,F',h1,h2,h3⟩; exact ih h3
 | rd _ ih=>intro cur F h; exact ih h.2
 | ad _ ih=>intro cur F h; exact ih h.2
 | hd _ ih=>intro cur F h; exact ih h.2
 | ak _ ih=>intro cur F h; exact ih h.2
theorem I4.sound {α β:Type} {T:ag α} {v u:Value} {x:α} {T':ag β} {z:β} (h:I4 T v x (.rd true T' u z) Γ):∀ {cur F:LN},SA Z w Γ cur F→∃ f,T.rep w.heap [v] x f∧fact Z w f (.rd true T' u z):=by
 induction h with
 | here h=>rintro cur F ⟨f,F',h1,h2,h3⟩; exact ⟨f,h2,h.get h3⟩
 | @there a Γ _ ih=>
  intro cur F hS
  cases a with
  | own T v x=>obtain ⟨f,F',h1,h2,h3⟩:=hS; exact ih h3
  | om e E v xs=>obtain ⟨f,F',h1,h2,h3⟩:=hS; exact ih h3
  | row b cs e=>obtain ⟨f,F',h1,h2,h3⟩:=hS; exact ih h3
  | fl e E v xs j u=>obtain ⟨f,F',h1,h2,h3⟩:=hS; exact ih h3
  | _=>exact ih hS.2
theorem MF.sound {o:Option aw} (h:MF Γ o Δ) {cur F:LN} (hs:SA Z w Γ cur F):∀ {dk Fd:LN},(∀ e,o=some e→qh Z w dk e)→HO Z w Δ Fd→SA Z w Δ dk Fd:=by
 induction h with
 | nil=>intro _ _ _ h; cases h; rfl
 | own _ ih=>intro _ _ _ h; cases h with | own h k=>exact ⟨_,_,rfl,h,ih (by rintro e he; cases he; exact h) k⟩
 | om _ ih=>intro _ _ _ h; cases h with | own h k=>exact ⟨_,_,rfl,h,ih (by rintro e he; cases he) k⟩
 | row _ ih=>intro _ _ ho h; cases h with | own h k=>exact ⟨_,_,rfl,h,ih ho k⟩
 | fl _ ih=>intro _ _ _ h; cases h with | own h k=>exact ⟨_,_,rfl,h,ih (by rintro e he; cases he) k⟩
 | rd h _ ih=>
  intro _ _ ho hh
  cases hh with
  | own h k=>exact h.elim
  | rd k=>exact ⟨h.rd hs _,ih ho k⟩
 | @Ga α β T v u x T' z Δ hd h _ ih=>
  intro dk _ ho hh
  cases hh with
  | own h k=>exact h.elim
  | rd k=>
   obtain ⟨f,h1,h2⟩:=h.sound hs
   have h3:T.rep w.heap [v] x dk:=ho _ rfl
   rw [hd.fp h1 h3] at h2
   exact ⟨h2,ih ho k⟩
 | ak h _ ih=>
  intro _ _ ho hh
  cases hh with
  | own h k=>exact h.elim
  | ak k=>exact ⟨h.ak hs _,ih ho k⟩
theorem St.of {F':LN} (hs:SA Z w Γ [] F) (hg:Gd B Z F' w) (hp:F.Perm F'):St B Γ w:=⟨Z,F,hs,hg.perm hp⟩
theorem St.enter (h:St B Γ w) {Γ1 Γ2:QE} (h0:EO Γ Δ Γ1) (hw:OW Γ Δ) (h1:j6 Γ1 Γ2):St B (Δ.reverse++Γ2) w:=by
 obtain ⟨Z,F,hs,hg⟩:=h
 obtain ⟨Fd,F1,a1,a2,a3⟩:=h0.sound hs
 obtain ⟨F2,b1,b2⟩:=HL.build (HO.hl hw hs a1) (h1.sound a2)
 exact St.of b2 hg (b1.trans a3)
theorem St.again (h:St B Γ w) {Γ1 Γ2 Γ3:QE} (h0:EO Γ Δ Γ1) (hw:OW Γ Δ) (h1:EO Γ1 Γ2 Γ3) (h2:MF Γ none Γ2):St B (Δ.reverse++Γ2) w:=by
 obtain ⟨Z,F,hs,hg⟩:=h
 obtain ⟨Fd,F1,a1,a2,a3⟩:=h0.sound hs
 obtain ⟨TA,F3,c1,c2,c3⟩:=h1.sound a2
 obtain ⟨F2,b1,b2⟩:=HL.build (HO.hl hw hs a1) (h2.sound hs (dk:=[]) (by rintro e he; cases he) c1)
 refine St.of (F':=Fd++TA) b2 (Gd.left (F':=F3) (hg.perm ?_)) b1
 rw [List.append_assoc]
 exact (c3.append_left Fd).trans a3
theorem St.leave (h:St B Γ w) (h0:EF Γ Δ Γ1):Ly B Δ w:=by
 obtain ⟨Z,F,hs,hg⟩:=h
 obtain ⟨Fd,F',Zn,a1,a2,a3⟩:=h0.sound hs
 refine ⟨_,Fd,a1,Gd.left (F':=F') (Gd.freeze (hg.perm a3) fun b hb=>hs.lt b (a3.mem_iff.1 (List.mem_append_right _ hb)))⟩
theorem St.back {β:Type} {e:TI} {E:ag β} {v u:Value} {xs:List β} {j:Int} {z:β} {Γ0:QE} (h:St B (.own E u z :: .fl e E v xs j u :: Γ0) w):St B (.own (aK e E) v (xs.set j.toNat z) :: Γ0) w:=by
 obtain ⟨Z,F,⟨k,F1,rfl,hk,f,F2,rfl,hf,hs⟩,hg⟩:=h
 obtain ⟨f',hp,hr⟩:=hf.2 w.heap (fun _ _=>rfl) z k hk
 have mx:(f'++F2).Perm (k++(f++F2)):=by
  rw [← List.append_assoc]
  exact (hp.trans List.perm_append_comm).append_right F2
 refine ⟨Z,f'++F2,⟨f',F2,rfl,hr,?_⟩,hg.perm mx⟩
 refine SA.mono (fun _ h=>h) (fun b hb=>hp.mem_iff.2 (List.mem_append_left _ hb)) hs
theorem St.QU {α β:Type} {T:ag α} {v':Value} {x':α} {e:TI} {E:ag β} {v u:Value} {xs:List β} {j:Int} {z:β} {Γ0:QE} (h:St B (.own T v' x' :: .own E u z :: .fl e E v xs j u :: Γ0) w):St B (.own T v' x' :: .own (aK e E) v (xs.set j.toNat z) :: Γ0) w:=by
 obtain ⟨Z,F,⟨n,F0,rfl,hn,k,F1,rfl,hk,f,F2,rfl,hf,hs⟩,hg⟩:=h
 obtain ⟨f',hp,hr⟩:=hf.2 w.heap (fun _ _=>rfl) z k hk
 have mx:(n++(f'++F2)).Perm (n++(k++(f++F2))):=by
  rw [← List.append_assoc k f F2]
  exact ((hp.trans List.perm_append_comm).append_right F2).append_left n
 refine ⟨Z,n++(f'++F2),⟨n,_,rfl,hn,f',F2,rfl,hr,?_⟩,hg.perm mx⟩
 refine SA.mono (fun _ h=>h) (fun b hb=>hp.mem_iff.2 (List.mem_append_left _ hb)) hs
theorem du {R M:Type} {cx:Cx R} {all l:LO} {rk:RK R M} {o:M} {r:NV} {d:Option Nat} {op:Op} {ty:TI} {pos:String} {ab:Array Edge} {g:Option (Nat×Bool)}
  (h:WL P all (⟨d,op,ty,pos,ab,none⟩ :: l) r w (BV P cx B rk o)):sH P cx B false ⟨d,op,ty,pos,ab,g⟩ all l rk o r w:=by
 rcases h with ⟨_,h⟩ | ⟨hw,_⟩
 ·exact h
 ·cases hw
theorem St.put {F1 f':LN} (hS:SA Z w Γ' [] F1) (hg:Gd B Z (f++F1) w) (hC:an f w w') (ho:qh Z w' f' e) (hn:f'.Nodup) (hs:∀ b∈f',b∈f∨w.heap.size≤b):St B (e :: Γ') w':=by
 have cn:=List.nodup_append.1 hg.nd
 have hk:SA Z w' Γ' [] F1:=hS.ec hC (fun b hb=>hg.apart b (List.mem_append_left _ hb)) (fun b _=>List.not_mem_nil) (fun b hb hm=>cn.2.2 b hb b hm rfl)
 refine ⟨Z,f'++F1,hk.cons ho,List.nodup_append.2 ⟨hn,cn.2.1,?_⟩,?_,fun b hb=>Nat.lt_of_lt_of_le (hg.ml b hb) hC.size,?_,hg.tQ,hg.tj,hg.iH.then hC fun i hi=>hg.low i (List.mem_append_left _ hi)⟩
 ·rintro b hb c hc rfl
  rcases hs b hb with h | h
  ·exact cn.2.2 b h b hc rfl
  ·exact absurd (hS.lt b hc) (Nat.not_lt.2 h)
 ·intro b hb hz
  rcases List.mem_append.1 hb with hb | hb
  ·rcases hs b hb with h | h
   ·exact hg.apart b (List.mem_append_left _ h) hz
   ·exact absurd (hg.ml b hz) (Nat.not_lt.2 h)
  ·exact hg.apart b (List.mem_append_right _ hb) hz
 ·intro b hb
  rcases List.mem_append.1 hb with hb | hb
  ·rcases hs b hb with h | h
   ·exact hg.low b (List.mem_append_left _ h)
   ·exact .inr (Nat.le_trans hg.iH.size h)
  ·exact hg.low b (List.mem_append_right _ hb)
theorem St.new (h:St B Γ w) {f':LN} (hC:an [] w w') (ho:∀ Z,qh Z w' f' e) (hn:f'.Nodup) (hs:∀ b∈f',w.heap.size≤b):St B (e :: Γ) w':=by
 obtain ⟨Z,F,hS,hg⟩:=h
 exact St.put (f:=[]) hS hg hC (ho Z) hn fun b hb=>.inr (hs b hb)
theorem Has.one {v:Value} (h:Has v Γ):∀ {cur F:LN},SA Z w Γ cur F→v.oneCell'=true:=by
 induction h with
 | @own α T x Γ=>rintro cur F ⟨f,F',_,h,_⟩; exact T.one h v (by simp)
 | @om α t E xs Γ=>rintro cur F ⟨f,F',_,⟨us,g,h,_⟩,_⟩; exact ag.one _ h v (by simp)
 | @rd o α T x Γ=>rintro cur F ⟨⟨g,h,_⟩,_⟩; exact T.one h v (by simp)
 | @there e Γ _ ih=>
  intro cur F hS
  cases e with
  | own T v x=>obtain ⟨f,F',h1,h2,h3⟩:=hS; exact ih h3
  | om e E v xs=>obtain ⟨f,F',h1,h2,h3⟩:=hS; exact ih h3
  | row b cs e=>obtain ⟨f,F',h1,h2,h3⟩:=hS; exact ih h3
  | fl e E v xs j u=>obtain ⟨f,F',h1,h2,h3⟩:=hS; exact ih h3
  | _=>exact ih hS.2
theorem One.one {v:Value} (h:One Γ v) (hS:SA Z w Γ cur F):v.oneCell'=true:=by
 cases h with
 | int=>rfl
 | bool=>rfl
 | ptr=>rfl
 | sl=>rfl
 | fn=>rfl
 | nf=>rfl
 | var h=>exact h.one hS
theorem bd.one {vs:LV} (h:bd Γ vs) (hS:SA Z w Γ cur F):∀ u∈vs,u.oneCell'=true:=by
 induction h with
 | nil=>intro u hu; cases hu
 | cons h _ ih=>intro u hu; rcases List.mem_cons.1 hu with rfl | hu; exact h.one hS; exact ih u hu
theorem sI.eq {v:Value} {cs:LV} (h:sI Γ v cs) (hS:SA Z w Γ cur F):v.cells.toList=cs:=by
 cases h with
 | agg=>rfl
 | one h=>rw [cells_one (h.one hS)]
theorem bb.eq {us cs ds:LV} {j:Nat} (h:bb us j cs ds):j+us.length≤cs.length∧ds=cs.take j++us++cs.drop (j+us.length):=by
 induction h with
 | nil=>simp
 | put _ ih=>obtain ⟨h1,h2⟩:=ih; refine ⟨by simp at h1 ⊢; omega,?_⟩; rw [h2]; simp
 | s _ ih=>
  obtain ⟨h1,h2⟩:=ih
  refine ⟨by simp; omega,?_⟩
  rw [h2]
  rename_i us cs ds j _
  rw [show j+1+us.length=(j+us.length)+1 by omega]
  simp
theorem av.eq {j n:Nat} {cs ds:LV} (h:av j n cs ds):ds.length=n∧(cs.drop j).take n=ds:=by
 induction h with
 | z=>simp
 | c _ ih=>obtain ⟨h1,h2⟩:=ih; simp at h2; simp [h1,h2]
 | s _ ih=>simpa using ih
theorem bg.sound {a:Addr} {n:Nat} {ds:LV} (h:bg Γ a n ds):∀ {cur F:LN},SA Z w Γ cur F→At w a ds∧ds.length=n:=by
 induction h with
 | row h=>
  rintro cur F ⟨f,F',h1,⟨_,h2⟩,_⟩
  obtain ⟨e1,e2⟩:=h.eq
  have:=At.sub h2.at (by rw [e1]; exact e2)
  rw [iu,Nat.zero_add] at this
  exact ⟨this,e1⟩
 | «at» h=>rintro cur F ⟨⟨h1,_⟩,_⟩; obtain ⟨e1,e2⟩:=h.eq; exact ⟨At.sub h1 (by rw [e1]; exact e2),e1⟩
 | Lw h=>rintro cur F ⟨⟨h1,_⟩,_⟩; obtain ⟨e1,e2⟩:=h.eq; exact ⟨At.sub (j:=0) h1 (by rw [e1]; exact e2),e1⟩
 | @there a n ds e Γ _ ih=>
  intro cur F hS
  cases e with
  | own T v x=>obtain ⟨f,F',h1,h2,h3⟩:=hS; exact ih h3
  | om e E v xs=>obtain ⟨f,F',h1,h2,h3⟩:=hS; exact ih h3
  | row b cs e=>obtain ⟨f,F',h1,h2,h3⟩:=hS; exact ih h3
  | fl e E v xs j u=>obtain ⟨f,F',h1,h2,h3⟩:=hS; exact ih h3
  | _=>exact ih hS.2
theorem uz.sound {v:Value} {n:Nat} (h:uz Γ v n):∀ {cur F:LN},SA Z w Γ cur F→∃ b c,v = .slice b n c:=by
 induction h with
 | lit=>intro _ _ _; exact ⟨_,_,rfl⟩
 | ln=>rintro cur F ⟨⟨g,⟨⟨a,c,hv⟩,_⟩,_⟩,_⟩; exact ⟨a,c,by simpa using hv⟩
 | rd h=>rintro cur F ⟨⟨g,h1,_⟩,_⟩; exact s7 (h.le.le h1)
 | own h=>rintro cur F ⟨f,F',_,h1,_⟩; exact s7 (h.le.le h1)
 | om=>rintro cur F ⟨f,F',_,h1,_⟩; obtain ⟨⟨g,h2,_⟩,_⟩:=JZ h1; exact s7 h2
 | @there v n e Γ _ ih=>
  intro cur F hS
  cases e with
  | own T v x=>obtain ⟨f,F',h1,h2,h3⟩:=hS; exact ih h3
  | om e E v xs=>obtain ⟨f,F',h1,h2,h3⟩:=hS; exact ih h3
  | row b cs e=>obtain ⟨f,F',h1,h2,h3⟩:=hS; exact ih h3
  | fl e E v xs j u=>obtain ⟨f,F',h1,h2,h3⟩:=hS; exact ih h3
  | _=>exact ih hS.2
theorem yF.sound {k:IntKind} {us:LV} {xs:List Int} (h:yF k us xs):∀ (hp:Array Obj),us.length=xs.length∧dw (aA k) hp us xs []:=by
 induction h with
 | nil=>intro h; exact ⟨rfl,rfl,rfl⟩
 | cons _ ih=>intro h; obtain ⟨e1,e2⟩:=ih h; exact ⟨by simp [e1],[_],_,[],[],rfl,rfl,⟨rfl,rfl⟩,e2⟩
theorem Cn.sound {α:Type} {E:ag α} {v:Value} {x:α} (h:Cn Γ E v x Γ') {F:LN} (hS:SA Z w Γ [] F):∃ f F',(f++F').Perm F∧E.rep w.heap [v] x f∧SA Z w Γ' [] F':=by
 cases h with
 | int=>exact ⟨[],F,.refl _,⟨rfl,rfl⟩,hS⟩
 | bool=>exact ⟨[],F,.refl _,⟨rfl,rfl⟩,hS⟩
 | own h=>obtain ⟨f,F1,hp,ho,ed⟩:=h.sound hS; exact ⟨f,F1,hp,ho,ed⟩
 | @lit b n us k xs e Γ1 _ h0 h1 hn hb=>
  obtain ⟨f0,F1,hp,⟨rfl,bh⟩,ed⟩:=h0.sound hS
  obtain ⟨e1,e2⟩:=yF.sound h1 w.heap
  have zw:=Nat.le_of_ble_eq_true hb
  refine ⟨[b],F1,hp,⟨some ⟨b,0,none⟩,n,by rw [← hn,e1],.inr ⟨b,us.toArray,[],rfl,bh,rfl,by rw [← hn,e1]; exact Nat.le_refl _,Nat.le_trans zw (by decide),by rw [show (aA k).size=1 from rfl,Nat.mul_one]; simp [hn],?_⟩⟩,ed⟩
  rw [show (aA k).size=1 from rfl,Nat.mul_one,List.toList_toArray,← e1,List.take_length]
  exact e2
theorem Gj.sound {α:Type} {E:ag α} {us:LV} {xs:List α} (h:Gj Γ E us xs Γ'):∀ {F:LN},SA Z w Γ [] F→us.length=xs.length∧∃ f F',(f++F').Perm F∧dw E w.heap us xs f∧SA Z w Γ' [] F':=by
 induction h with
 | nil=>intro F hS; exact ⟨rfl,[],F,.refl _,⟨rfl,rfl⟩,hS⟩
 | cons h _ ih=>
  intro F hS
  obtain ⟨f1,F1,p1,r1,S1⟩:=h.sound hS
  obtain ⟨e,f2,F2,p2,r2,S2⟩:=ih S1
  exact ⟨by simp [e],f1++f2,F2,(by rw [List.append_assoc]; exact (p2.append_left f1).trans p1),⟨[_],_,f1,f2,rfl,rfl,r1,r2⟩,S2⟩
theorem Gk.sound {κ υ:Type} {ek:κ→Value} {eu:υ→Value} {v:Value} {x:List (κ×υ)} (h:Gk ek eu Γ v x):∀ {cur F:LN},SA Z w Γ cur F→∃ f,(Di ek eu).rep w.heap [v] x f:=by
 induction h with
 | own=>rintro cur F ⟨f,F',_,h2,_⟩; exact ⟨f,h2⟩
 | @there v x e Γ h ih=>
  intro cur F hS
  cases e with
  | own T v x=>obtain ⟨f,F',h1,h2,h3⟩:=hS; exact ih h3
  | om e E v xs=>obtain ⟨f,F',h1,h2,h3⟩:=hS; exact ih h3
  | row b cs e=>obtain ⟨f,F',h1,h2,h3⟩:=hS; exact ih h3
  | fl e E v xs j u=>obtain ⟨f,F',h1,h2,h3⟩:=hS; exact ih h3
  | _=>exact ih hS.2
theorem Rg.sound {v:Value} {j:Int} (h:Rg v j Γ):∀ {cur F:LN},SA Z w Γ cur F→0≤j∧j.toNat < u2 v:=by
 induction h with
 | ad=>rintro cur F ⟨⟨h1,h2,_⟩,_⟩; exact ⟨h1,h2⟩
 | @there e Γ _ ih=>
  intro cur F hS
  cases e with
  | own T v x=>obtain ⟨f,F',h1,h2,h3⟩:=hS; exact ih h3
  | om e E v xs=>obtain ⟨f,F',h1,h2,h3⟩:=hS; exact ih h3
  | row b cs e=>obtain ⟨f,F',h1,h2,h3⟩:=hS; exact ih h3
  | fl e E v xs j u=>obtain ⟨f,F',h1,h2,h3⟩:=hS; exact ih h3
  | _=>exact ih hS.2
theorem RV {pl:List (Nat×Nat)} {i:Nat} {p:Nat×Nat} (h:Gg pl i=some p):pl[i]? = some p:=by
 induction pl generalizing i with
 | nil=>cases h
 | cons a l ih=>cases i with
  | zero=>simpa [Gg] using h
  | succ n=>simpa using ih h
theorem Gn:∀ (us:LV) (off k:Nat) (cs:Array Value),off+k+us.length≤cs.size→
  ((us.zipIdx k).foldl (fun (cs:Array Value) (p:Value×Nat)=>cs.setIfInBounds (off+p.2) p.1) cs).toList=cs.toList.take (off+k)++us++cs.toList.drop (off+k+us.length):=by
 intro us
 induction us with
 | nil=>intro off k cs h; simp
 | cons u us ih=>
  intro off k cs h
  simp only [List.zipIdx_cons,List.foldl_cons]
  simp only [List.length_cons] at h
  rw [ih off (k+1) _ (by simp; omega)]
  rw [Array.toList_setIfInBounds,show off+(k+1)=(off+k)+1 by omega]
  have hs:cs.toList.length=cs.size:=Array.length_toList
  generalize hl:cs.toList=l at *
  generalize off+k=o at *
  obtain ⟨a,x,b,rfl,rfl⟩ : ∃ a x b,l=a++x :: b∧a.length=o:=⟨l.take o,l[o]'(by omega),l.drop (o+1),by rw [List.getElem_cons_drop,List.take_append_drop],by rw [List.length_take]; omega⟩
  have e1:(a++x :: b).set a.length u=a++u :: b:=by simp
  rw [e1,List.length_cons]
  have e2:(a++u :: b).take (a.length+1)=a++[u]:=by rw [List.take_append,List.take_of_length_le (by omega)]; simp
  have e3:(a++u :: b).drop (a.length+1+us.length)=b.drop us.length:=by rw [show a.length+1+us.length=a.length+(us.length+1) by omega,List.drop_append,List.drop_eq_nil_of_le (by omega)]; simp
  have e4:(a++x :: b).drop (a.length+(us.length+1))=b.drop us.length:=by rw [List.drop_append,List.drop_eq_nil_of_le (by omega)]; simp
  have e5:(a++x :: b).take a.length=a:=by simp
  rw [e2,e3,e4,e5]
  simp
theorem u5.fill {fr:Fr} {r:NV} (ha:cu r fr) (hS:SA Z w Γ cur F) {k:Nat} {ps:List (Nat×Operand)} {us:LV} (h:u5 Γ fr k ps us) :
  ∀ pre tS:List Value,pre.length=k→tS.length=us.length→Instr.fill (fun i=>some (i * 1,1)) (pre++tS).toArray (ps.map fun x=>(x.1,ev r x.2))=some (pre++us).toArray:=by
 induction h with
 | nil=>
  intro pre tS _ h2
  obtain rfl:tS=[]:=List.eq_nil_of_length_eq_zero h2
  rfl
 | @cons k x u ps us hx ho _ ih=>
  intro pre tS h1 h2
  cases tS with
  | nil=>cases h2
  | cons y tS=>
   have hc:=cells_one (ho.one hS)
   rw [List.map_cons,aR ha hx]
   unfold Instr.fill
   simp only [hc]
   rw [if_neg (by simp; omega)]
   have:=ih (pre++[u]) tS (by simp [h1]) (by simpa using h2)
   have e:(Array.foldl (fun cs (x:Value×Nat)=>cs.setIfInBounds (k * 1+x.2) x.1) (pre++y :: tS).toArray (#[u].zipIdx))=((pre++[u])++tS).toArray:=by
    subst h1
    simp
   first
    | (rw [e,this]; simp)
    | (simp only [e] at *; simp [this])
theorem u5.op {P:Program} {fr:Fr} {r:NV} {w':World} {t e n:Nat} {ps:List (Nat×Operand)} {us:LV} {d:Option Nat} {ty:TI} {pos:String} {ab:Array Edge} {g:Option (Nat×Bool)} (hl:u5 Γ fr 0 ps us) (ha:cu r fr) (hS:SA Z w Γ cur F) (hz:Gh P t e) (hn:us.length=n) (hb:(Nat.ble 1 n && Nat.ble n 16777216)=true) :
  (execOp (ev r) ⟨d,.buildSlice t n ps.toArray,ty,pos,ab,g⟩).run P w' = .ok (.value (.slice (some ⟨w'.heap.size,0,none⟩) n n)) (w'.alloc (.cells us.toArray e)):=by
 obtain ⟨h1,i,z,h2,h3,h4⟩:=hz.h
 rw [Bool.and_eq_true] at hb
 have b1:=Nat.le_of_ble_eq_true hb.1
 have b2:=Nat.le_of_ble_eq_true hb.2
 refine LH h1 h2 h3 h4 b1 b2 ?_
 have:=hl.fill ha hS [] ((Array.range (n * 1)).map (z.cells[· % z.cells.size]!)).toList rfl (by simp [hn])
 rw [List.nil_append,List.nil_append,Array.toArray_toList] at this
 rw [show (ps.toArray.map fun (x:Nat×Operand)=>(x.1,ev r x.2)).toList=ps.map fun x=>(x.1,ev r x.2) by simp]
 exact this
theorem xO.fill {n:Nat} {fr:Fr} {r:NV} (ha:cu r fr) (hS:SA Z w Γ cur F) {k:Nat} {ps:List (Nat×Operand)} {us:LV} (h:xO Γ fr n k ps us) :
  us.length=ps.length * n∧∀ pre tS:List Value,pre.length=k * n→tS.length=us.length→Instr.fill (fun i=>some (i * n,n)) (pre++tS).toArray (ps.map fun x=>(x.1,ev r x.2))=some (pre++us).toArray:=by
 induction h with
 | nil=>
  refine ⟨by simp,fun pre tS _ h2=>?_⟩
  obtain rfl:tS=[]:=List.eq_nil_of_length_eq_zero h2
  rfl
 | @cons k x v cs us ws ps hx hc hl _ Og ih=>
  obtain ⟨e0,ih⟩:=ih
  have Og:=Og.eq
  subst Og
  refine ⟨by rw [List.length_append,hl,e0,List.length_cons,Nat.succ_mul,Nat.add_comm],fun pre tS h1 h2=>?_⟩
  rw [List.length_append] at h2
  have hv:=hc.eq hS
  have sa:v.cells=cs.toArray:=by rw [← hv]
  rw [List.map_cons,aR ha hx]
  unfold Instr.fill
  simp only [sa]
  rw [if_neg (by simp; omega)]
  have hsf:=Gn cs (k * n) 0 (pre++tS).toArray (by simp; omega)
  have:=ih (pre++cs) (tS.drop n) (by rw [List.length_append,h1,hl,Nat.succ_mul]) (by rw [List.length_drop]; omega)
  have e:(cs.toArray.zipIdx.foldl (fun (cs:Array Value) (x:Value×Nat)=>cs.setIfInBounds (k * n+x.2) x.1) (pre++tS).toArray)=((pre++cs)++tS.drop n).toArray:=by
   apply Array.toList_inj.1
   rw [← Array.foldl_toList]
   simp only [Array.toList_zipIdx]
   rw [hsf,← h1]
   simp only [Nat.add_zero,List.take_left',List.drop_append,List.append_assoc]
   rw [List.drop_eq_nil_of_le (by omega),show pre.length+cs.length - pre.length=n by omega]
   simp
  refine Eq.trans ?_ (this.trans (by simp))
  congr 1
theorem xO.op {P:Program} {fr:Fr} {r:NV} {w':World} {t e n k:Nat} {ps:List (Nat×Operand)} {us:LV} {d:Option Nat} {ty:TI} {pos:String} {ab:Array Edge} {g:Option (Nat×Bool)} (hl:xO Γ fr k 0 ps us) (ha:cu r fr) (hS:SA Z w Γ cur F) (hz:QP P t e k) (hn:ps.length=n) (hb:(Nat.ble 1 n && Nat.ble (n * k) 16777216)=true) :
  (execOp (ev r) ⟨d,.buildSlice t n ps.toArray,ty,pos,ab,g⟩).run P w' = .ok (.value (.slice (some ⟨w'.heap.size,0,none⟩) n n)) (w'.alloc (.cells us.toArray e)):=by
 obtain ⟨h1,i,z,h2,h3,h4,h5⟩:=hz.h
 rw [Bool.and_eq_true] at hb
 have b1:=Nat.le_of_ble_eq_true hb.1
 have b2:=Nat.le_of_ble_eq_true hb.2
 obtain ⟨e1,hf⟩:=hl.fill ha hS
 have:=hf [] ((Array.range (n * k)).map (z.cells[· % z.cells.size]!)).toList (by simp) (by simp [e1,hn])
 rw [List.nil_append,List.nil_append,Array.toArray_toList] at this
 have ZO:0 < n * k:=Nat.mul_pos b1 h5
 have h:=run_buildSlice (P:=P) w' t e n (ps.toArray.map fun (x:Nat×Operand)=>(x.1,ev r x.2)) us.toArray i z h1 h2 h3 (by rw [h4]; omega) (by rw [h4]; omega) (by rw [h4]; simpa using this)
 simp only [execOp]
 simp at h
 simp [h]
theorem wC.fill {fr:Fr} {r:NV} {pl:List (Nat×Nat)} {ps:List (Nat×Operand)} {cs es:LV} (h:wC Γ fr pl ps cs es) (ha:cu r fr) (hS:SA Z w Γ cur F) :
  Instr.fill (fun i=>pl.toArray[i]?) cs.toArray (ps.map fun x=>(x.1,ev r x.2))=some es.toArray:=by
 induction h with
 | nil=>rfl
 | @cons i off k x v us cs ds es ps hp hx hc hl hs _ ih=>
  rw [List.map_cons,aR ha hx]
  have hv:=hc.eq hS
  have uY:pl.toArray[i]? = some (off,k):=by rw [List.getElem?_toArray]; exact RV hp
  obtain ⟨e1,e2⟩:=hs.eq
  have rP:v.cells.size=us.length:=by rw [← hv]; simp
  unfold Instr.fill
  simp only [uY]
  rw [if_neg (by simp [rP,hl]; omega)]
  have sa:v.cells=us.toArray:=by rw [← hv]
  have:=Gn us off 0 cs.toArray (by simpa using e1)
  rw [sa]
  have h2:(us.toArray.zipIdx.foldl (fun (cs:Array Value) (x:Value×Nat)=>cs.setIfInBounds (off+x.2) x.1) cs.toArray)=ds.toArray:=by
   apply Array.toList_inj.1
   rw [← Array.foldl_toList]
   simp only [Array.toList_zipIdx] 
   rw [this,e2]; simp
  refine Eq.trans ?_ ih
  congr 1
theorem rm {α:Type} {E:ag α} {t:TI} {v:Value} {xs:List α} {f:LN} (h:(aK t E).rep w.heap [v] xs f):u2 v=xs.length:=by
 obtain ⟨base,cap,hv,_⟩:=h
 obtain rfl:v = .slice base xs.length cap:=by simpa using hv
 rfl
theorem yo.sound {fr:Fr} {r:NV} (ha:cu r fr) {fn:Func} {rs:List ResultVar} {vs:LV} (hr:fn.results=rs.toArray) (h:yo P fr Γ rs vs) {n:Nat} (hs:SA Z w Γ [] F) :
  ∀ a:Act,a.tmps.size=n→cw a=r→(results fn a.tmps).run P w = .ok (nq vs) w:=by
 rintro a - rfl
 have key:∀ {rs:List ResultVar} {vs:LV},yo P fr Γ rs vs→Sem.run P (rs.mapM fun | .tmp t=>pure (a.tmps.getD t undef) | .cell b t=>do loadVar t (← asAddr (a.tmps.getD b undef))) w = .ok vs w:=by
  intro rs vs h
  induction h with
  | nil=>rfl
  | @tmp t v l vs h _ ih=>
   rw [List.mapM_cons]
   have:=ha _ _ h
   simp only [cw] at this
   simp only [Sem.run_bind,this,ih,Sem.run_pure,Result.andThen_ok]
  | @cell t n ty p ds vs l hk h hw _ ih=>
   rw [List.mapM_cons]
   have:=ha _ _ h
   simp only [cw] at this
   obtain ⟨dd,i,k1,k2,k3,k4⟩:=hk.h
   obtain ⟨hc,hl⟩:=hw.sound hs
   have h3:=run_loadCells_list (P:=P) (w:=w) p ds hc
   rw [hl,← k4] at h3
   have h4:Sem.run P (do loadVar ty (← asAddr (a.tmps.getD t undef))) w = .ok (.agg ds.toArray) w:=by
    rw [this]
    simp [asAddr,loadVar,u6 k1,k2,sizeOf,typeInfo,k3,h3]
   simp only [Sem.run_bind] at h4 ih ⊢
   rw [h4]
   simp only [ih,Sem.run_pure,Result.andThen_ok]
 have h2:=key h
 unfold results
 rw [hr,Sem.run_bind,List.mapM_toArray,← bind_pure_comp,Sem.run_bind]
 generalize hm:Sem.run P (List.mapM _ rs) w=z
 obtain rfl:z = .ok vs w:=hm.symm.trans h2
 simp only [Result.andThen_ok,Sem.run_pure]
 have e:∀ vs:List Value,(if h:vs.toArray.size=1 then vs.toArray[0] else Value.tuple vs.toArray)=nq vs:=by
  intro vs
  match vs with
  | []=>rfl
  | [v]=>rfl
  | a :: b :: l=>rw [dif_neg (by simp)]; rfl
 rw [e]
end
end Go.Dk
namespace Go.Dk
open Go Go.Li
section
variable {B:Bs} {P:Program} {R:Type} {cx:Cx R}
theorem Xn {C:World→Prop} {ops:LO} {K:(Nat→Value)→World→Prop}:∀ (l':LO) (r:NV) (w:World),C w→QL P C ops l' r (fun r'=>∀ w',C w'→K r' w')→WL P ops l' r w K:=by
 intro l'
 induction l' with
 | nil=>intro r w hw hh; exact hh w hw
 | cons o l' ih=>
  intro r w hw hh
  rcases hh with ⟨Gp,v,hv,hh⟩ | ⟨Gp,hh⟩
  ·refine .inl ⟨Gp,?_⟩
   have h3:=hv w hw
   unfold fc
   generalize (execOp (ev r) o).run P w=x at h3
   cases x with
   | halt y w'=>exact h3.elim
   | ok y w'=>
    cases y <;> simp only [Oper.quietUpon] at h3
    case value u=>obtain ⟨rfl,rfl⟩:=h3; exact ih _ _ hw hh
    case skip=>obtain ⟨rfl,rfl⟩:=h3; exact ih _ _ hw hh
    case enter f args=>
     obtain ⟨rfl,h3⟩:=h3
     exact h3.mono fun e EW ⟨he,Oh⟩=>⟨v,he,ih _ _ Oh hh⟩
  ·exact .inr ⟨Gp,ih _ _ hw hh⟩
theorem Oi {n id:Nat} {draw:Bool} {ops:LO} {Q:Exit→(Nat→Value)→World→Prop} {r:NV} {w:World} (hd:df n ops=true) (hm:draw=true→P.follows .mixedOrders=true∧Region.lexB .any ops.toArray=true)
  (h:QL P (an [] w) ops ops r fun r'=>∀ w',an [] w w'→Q .normal r' w'):W P n (.region id ops.toArray draw) Q r w:=by
 cases draw with
 | true=>exact RW (hm rfl).1 hd (fun _=>(hm rfl).2) (an.refl _ _) (an.drew _ _) h
 | false=>exact wW hd (Xn _ _ _ (an.refl _ _) h)
theorem Calls.BW {f:FuncId} {fn:Func} {c:Code} {xs:List Operand} {ak:Array TypeId} {r:NV} {w:World} {d:Option Nat} {ty:TI} {pos:String} {ab:Array Edge} {g:Option (Nat×Bool)} {K:Value→World→Prop}
  (hf : P.funcs[f]? = some fn) (hb : fn.body = some c) (hn : (fn.name == "runtime.NumGoroutine") = false)
  (h:Calls P f (xs.map (ev r)).toArray w fun e w'=>∃ v,e = .returned v∧K v w'):fc P ⟨d,.call ⟨.value (.func f),xs.toArray,ak⟩,ty,pos,ab,g⟩ r w K:=by
 unfold fc
 rw [CG hf hb hn]
 exact h
theorem u7 {Z:Nat→Prop} {w:World}:∀ {Δ:QE},(∀ e∈Δ,fact Z w [] e)→HL Z w Δ []:=by
 intro Δ
 induction Δ with
 | nil=>intro _; exact .nil
 | cons e Δ ih=>intro h; exact .fact (h e (by simp)) (ih fun e he=>h e (by simp [he]))
theorem yG {Z Z2:Nat→Prop} {w:World}:∀ {Δ:QE} {F:LN},sG Δ=true→HL Z2 w Δ F→HL Z w Δ F:=by
 intro Δ
 induction Δ with
 | nil=>intro F _ h; cases h; exact .nil
 | cons e Δ ih=>
  intro F ho h
  cases e with
  | own T v x=>cases h with
   | own h k=>exact .own h (ih ho k)
   | fact h k=>exact h.elim
  | row b cs e=>cases h with
   | own h k=>exact .own h (ih ho k)
   | fact h k=>exact h.elim
  | _=>cases ho
theorem EX {f:FuncId} {ow:Bool} {vs:LV} {Δ Γ1:QE} {β V:Type} {mo:Option β} {rt:β→V→List Value} {ps:β→V→List aw} {w:World} {Z Z':Nat→Prop} {Fd F1:LN} {y:β} (hc:QH P f ow vs Δ β V mo rt ps) (hl:HL Z' w Δ Fd) (a2:SA Z w Γ1 [] F1) (lp:Gd B Z (Fd++F1) w)
  (hz:∀ b,Z b→Z' b) (Gq:∀ b,Z' b→Z b∨b∈F1) (hm:(∀ v,sG (ps y v)=true)∨∀ b,Z' b→Z b) (hy:mo=some y) :
  Calls P f vs.toArray w fun e w'=>∃ v,e = .returned (nq (rt y v))∧St B ((ps y v).reverse++Γ1) w':=by
 have cn:=List.nodup_append.1 lp.nd
 refine (hc.2 w Z' Fd hl cn.1 (fun b hb TB=>(Gq b TB).elim (lp.apart b (List.mem_append_left _ hb)) (fun h=>cn.2.2 b hb b h rfl)) (fun b hb=>(Gq b hb).elim (lp.ml b) (a2.lt b)) y hy).mono ?_
 rintro e w' ⟨v,he,Z2,F2,py,gx⟩
 refine ⟨v,he,?_⟩
 have hC:an Fd w w':=gx.iH
 have hF1:SA Z w' Γ1 [] F1:=a2.ec hC (fun b hb=>lp.apart b (List.mem_append_left _ hb)) (fun b _=>List.not_mem_nil) (fun b hb hm=>cn.2.2 b hb b hm rfl)
 have fin:∀ Z3:Nat→Prop,HL Z3 w' (ps y v) F2→(∀ b,Z b→Z3 b)→(∀ b,Z3 b→Z b∨b∈Fd∨w.heap.size≤b)→(∀ b∈F2,¬ Z3 b)→(∀ b,Z3 b→b < w'.heap.size)→St B ((ps y v).reverse++Γ1) w':=by
  intro Z3 yH Yg Yh h33 h34
  obtain ⟨F3,b1,b2⟩:=yH.build (hF1.mono Yg fun _ h=>h)
  refine St.of b2 (F':=F2++F1) ?_ b1
  refine ⟨List.nodup_append.2 ⟨gx.nd,cn.2.1,?_⟩,?_,h34,?_,fun b hb=>Yg b (lp.tQ b hb),?_,?_⟩
  ·rintro b hb c uy rfl
   rcases gx.low b hb with h | h
   ·exact cn.2.2 b h b uy rfl
   ·exact absurd (a2.lt b uy) (Nat.not_lt.2 h)
  ·intro b hb hz
   rcases List.mem_append.1 hb with hb | hb
   ·exact h33 b hb hz
   ·rcases Yh b hz with h | h | h
    ·exact lp.apart b (List.mem_append_right _ hb) h
    ·exact cn.2.2 b h b hb rfl
    ·exact absurd (a2.lt b hb) (Nat.not_lt.2 h)
  ·intro b hb
   rcases List.mem_append.1 hb with hb | hb
   ·rcases gx.low b hb with h | h
    ·exact lp.low b (List.mem_append_left _ h)
    ·exact .inr (Nat.le_trans lp.iH.size h)
   ·exact lp.low b (List.mem_append_right _ hb)
  ·intro b hb
   rcases Yh b hb with h | h | h
   ·exact lp.tj b h
   ·exact .inr (lp.low b (List.mem_append_left _ h))
   ·exact .inr (.inr (Nat.le_trans lp.iH.size h))
  ·exact lp.iH.then hC fun i hi=>lp.low i (List.mem_append_left _ hi)
 rcases hm with hm | hm
 ·exact fin Z (yG (hm v) py) (fun _ h=>h) (fun _ h=>.inl h) (fun b hb h=>gx.apart b hb (gx.tQ b (hz b h))) (fun b hb=>Nat.lt_of_lt_of_le (lp.ml b hb) hC.size)
 ·exact fin Z2 py (fun b h=>gx.tQ b (hz b h)) (fun b h=>(gx.tj b h).imp (hm b) id) gx.apart gx.ml
theorem EY {M α:Type} {rk:RK R M} {oo:M} {E E':ag α} {t:TI} {x y:OO} {i:TypeInfo} {Γ Γ1 Γx:QE} {w:World} {r:NV} {v v' u:Value} {j j':Int} {e e':TI} {zs:List α} {xs:List (List α)} {z:α} {o1 o2:Bool} {all l:LO} {ty:TI} {pos:String} {ab:Array Edge} {g:Option (Nat×Bool)}
  (hE:∀ {h cs x f},E.rep h cs x f→f=[]) (h1:E.size=1) (hi:P.info? t=some i) (hs:i.size=1) (hS:St B Γ w) (hl:Loc Γ v (.row v' j')) (h0:Rg v j Γ) (hf:ll Γ v o1 o2 E' zs px Γx) (hr:RT E E') (h2:dj Γ (.own (aK e (aK e' E)) v' xs) Γ1)
  (hx:ev r x = .pointer (some (dc v 1 j))) (hy:ev r y=u) (hu:E.rep w.heap [u] z [])
  (k:∀ w',St B (.own (aK e (aK e' E)) v' (xs.set j'.toNat (zs.set j.toNat z)) :: Γ1) w'→WL P all l (ez r none undef) w' (BV P cx B rk oo)):sH P cx B false ⟨none,.store t x y,ty,pos,ab,g⟩ all l rk oo r w:=by
 obtain ⟨Z,F,hS,hg⟩:=hS
 obtain ⟨j0,j1,hc⟩:=Loc.row hl rfl hS
 obtain ⟨r0,r1⟩:=h0.sound hS
 obtain ⟨dk,_,⟨⟨gg,hgg,_⟩,_⟩,_⟩:=hf.sound hS
 obtain ⟨f,F1,hp,hO,ed⟩:=h2.sound hS
 have fe:=hg.perm hp
 have cn:=List.nodup_append.1 fe.nd
 have hlen:u2 v'=xs.length:=rm hO
 rw [hlen] at j1
 obtain ⟨k0,g0,a1,a2,a3⟩:=IQ rfl hO (List.getElem?_eq_getElem j1) hc
 have Yi:RT (aK e' E) (aD E'):=.own hr
 have hz:xs[j'.toNat]=zs:=Yi.uq (Yi.le.le a1) hgg
 rw [hz] at a1
 have py:u2 v=zs.length:=rm a1
 rw [py] at r1
 have Au:=List.nodup_append.1 (a2.nodup_iff.2 cn.1)
 refine du (WL.BX (E:=E) k0 w.heap.size hE h1 hi hs ⟨a1,Au.1,fun b hb=>.inl hb⟩ (List.getElem?_eq_getElem r1) hx hy hu fun w' hC kv=>k w' ?_)
 have hkf:∀ b∈k0,b∈f:=fun b hb=>a2.mem_iff.1 (List.mem_append_left _ hb)
 obtain ⟨f',b1,b2⟩:=a3.2 w'.heap (fun b hb=>hC.block b (a3.1 b hb) fun hm=>Au.2.2 b hm b hb rfl) _ k0 kv.1
 have Yj:f'.Perm f:=b1.trans (List.perm_append_comm.trans a2)
 exact St.put ed fe (hC.mono hkf) b2 (Yj.nodup_iff.2 cn.1) fun b hb=>.inl (Yj.mem_iff.1 hb)
theorem D.sound {J:Jd R} (h:D P cx J):mb P cx J:=by
 induction h with
 | pf _ ih=>simpa [mb] using ih
 | pe _ ih=>simpa [mb] using ih
 | pz _ ih=>simpa [mb] using ih
 | @csp A B' y k _ _ TC Dl=>
  obtain ⟨a,z⟩:=y
  cases a with
  | none=>exact TC z
  | some a=>exact Dl a z
 | @cso A y k _ _ TC Dl=>
  cases y with
  | none=>exact TC
  | some a=>exact Dl a
 | csd _ ih=>exact ih
 | tp1 _ ih=>exact ih
 | tp0 _ ih=>exact ih
 | tp2 _ ih=>exact ih
 | Xk=>exact fun B o ho=>nomatch ho
 | seq _ ih=>exact fun B o ho r w ha hs=>Xo (ih B o ho r w ha hs)
 | skip _ ih=>exact fun B o ho r w ha hs=>TD (ih B o ho r w ha hs)
 | exit _ ih=>exact fun B o ho r w ha hs=>TE (ih B o ho r w ha hs)
 | cond hb _ ih=>exact fun B o ho r w ha hs=>LJ (ha _ _ hb) (ih B o ho r w ha hs).1 (ih B o ho r w ha hs).2
 | cdt _ ih=>exact fun B o ho r w ha hs=>⟨fun _=>ih B o ho r w ha hs,fun h=>nomatch h⟩
 | cdf _ ih=>exact fun B o ho r w ha hs=>⟨(fun h=>nomatch h),fun _=>ih B o ho r w ha hs⟩
 | cds _ _ Dl LM=>exact fun B o ho r w ha hs=>⟨fun h=>Dl B o (by rw [h] at ho; exact ho) r w ha hs,fun h=>LM B o (by rw [h] at ho; exact ho) r w ha hs⟩
 | ret hr _ h h1=>
  intro B o ho r w ha hs
  cases ho
  refine Xp (vH ?_)
  obtain ⟨Z,F,hS,hg⟩:=hs
  refine ⟨_,h.sound ha hr hS,?_⟩
  exact ⟨_,rfl,St.leave ⟨Z,F,hS,hg⟩ h1⟩
 | block _ ih=>exact fun B o ho r w ha hs=>ih B o ho r w ha hs
 | bkf _ ih=>exact fun B o ho r w ha hs=>I6 (ih B o ho r w ha hs)
 | bks h=>rw [lg] at h; exact h
 | draw _ ih=>exact fun B o ho r w ha hs=>ih B o ho r w ha hs
 | drs h=>rw [lg] at h; exact h
 | inj h=>rw [lg] at h; exact h
 | region hd _ ih=>exact fun B o ho r w ha hs=>ih hd (fun h=>nomatch h) B o ho r w ha hs _
 | rgf _ ih=>exact fun hd _ B o ho r w ha hs id=>wW hd (ih B o ho r w ha hs)
 | rgq _ ih=>exact fun hd hm B o ho r w ha hs id=>Oi hd hm (ih B o ho r w ha hs)
 | rgt _ ih=>exact fun hd _=>ih hd
 | Ye _ ih=>exact fun hd B o ho r w ha hs id=>wW hd (ih B o ho r w ha hs)
 | rwt _ ih=>exact fun hd B o ho r w ha hs id=>wW hd (ih B o ho r w ha hs)
 | rwf ht _ _ _ ih Dm=>
  intro hd B o ho r w ha hs id
  obtain ⟨g,hg,ho⟩:=bind_some ho
  refine Oi hd (fun h=>nomatch h) (QL.meet _ (ih B g hg r w ha hs) ?_)
  intro r' ee w' hC
  obtain ⟨h1,h2⟩:=ee w' hC
  refine Dm g B o ho r' w' ?_ (hs.gf hC)
  intro s u hl
  unfold look at hl
  cases hb:Nat.beq s _ with
  | true=>rw [hb] at hl; cases hl; rw [Nat.eq_of_beq_eq_true hb]; exact h1
  | false=>rw [hb] at hl; exact h2 s u hl
 | @osl S q _ K Γ fr m _ ih=>
  intro B o ho r w ha hs
  cases q with
  | false=>exact ih B o ho r w ha hs
  | true=>exact fun w' hC=>ih B o ho r w' ha (hs.gf hC)
 | @ohl S q all tail K Γ fr m _ ih=>
  intro B o ho r w ha hs
  cases q with
  | false=>exact ih B o ho r w ha hs
  | true=>exact fun w' hC=>ih B o ho r w' ha (hs.gf hC)
 | @as1 S α β q d op ty all l K Γ fr m f g _ ih=>
  intro B o ho
  refine ih B o ?_
  rw [← ho]
  cases m <;> rfl
 | @as2 S α β q d op ty al all tail l K Γ fr m f g _ ih=>
  intro B o ho
  refine ih B o ?_
  rw [← ho]
  cases m <;> rfl
 | tgn _ ih=>exact ih
 | tgg ht _ _ _ ih Dm=>
  intro B o ho r w ha hs
  obtain ⟨g,hg,ho⟩:=bind_some ho
  refine QL.meet _ (ih B g hg r w ha hs) ?_
  intro r' ee w' hC
  obtain ⟨h1,h2⟩:=ee w' hC
  refine Dm g B o ho r' w' ?_ (hs.gf hC)
  intro s u hl
  unfold look at hl
  cases hb:Nat.beq s _ with
  | true=>rw [hb] at hl; cases hl; rw [Nat.eq_of_beq_eq_true hb]; exact h1
  | false=>rw [hb] at hl; exact h2 s u hl
 | rgg ht _ _ _ ih Dm=>
  intro hd hm B o ho r w ha hs id
  obtain ⟨g,hg,ho⟩:=bind_some ho
  refine Oi hd hm (QL.meet _ (ih B g hg r w ha hs) ?_)
  intro r' ee w' hC
  obtain ⟨h1,h2⟩:=ee w' hC
  refine Dm g B o ho r' w' ?_ (hs.gf hC)
  intro s u hl
  unfold look at hl
  cases hb:Nat.beq s _ with
  | true=>rw [hb] at hl; cases hl; rw [Nat.eq_of_beq_eq_true hb]; exact h1
  | false=>rw [hb] at hl; exact h2 s u hl
 | ZL hr _ h h1=>
  intro B o ho r w ha hs
  cases ho
  obtain ⟨Z,F,hS,hg⟩:=hs
  exact ⟨_,h.sound ha hr hS,⟨_,rfl,St.leave ⟨Z,F,hS,hg⟩ h1⟩⟩
 | ZH _ ih=>exact fun B o ho r w ha hs=>ih B o ho r w ha hs
 | ZI _ ih=>exact fun B o ho r w ha hs=>ih B o ho r w ha hs
 | @Xm S V k Δ φ Γ2 Γ Γ1 Γ3 f2 fr s v _ ha hf h0 hw h1 h2=>
  intro B o ho r w qt hs
  cases ho
  exact ⟨v,qn (ha.all qt) (hf.sound qt),hs.again h0 hw h1 h2⟩
 | @Xl S V k Δ φ Γ2 Γ Γ1 Γ3 f2 fr s v _ ha hf h0 hw h1 h2=>
  intro B o ho r w qt hs
  cases ho
  refine ⟨rfl,?_⟩
  show (bif Nat.beq k k then _ else False)
  rw [show Nat.beq k k=true from Nat.beq_refl k]
  exact ⟨v,qn (ha.all qt) (hf.sound qt),hs.again h0 hw h1 h2⟩
 | ZJ _ ih=>exact fun B o ho r w ha hs=>ih B o ho r w ha hs
 | @ZK S gn kb k j Γ fr m _ ih=>
  intro B o ho r w ha hs
  have:=ih B o ho r w ha hs
  show (bif Nat.beq k j then _ else _)
  cases hb:Nat.beq k j with
  | true=>rw [hb] at this; exact this
  | false=>rw [hb] at this; exact this
 | xbt _ ih=>exact fun B o ho r w ha hs=>ih B o ho r w ha hs
 | xbf _ ih=>exact fun B o ho r w ha hs=>ih B o ho r w ha hs
 | @ZG S q _ K Γ fr m _ ih=>
  intro B o ho r w ha hs
  cases q with
  | false=>exact ih B o ho r w ha hs
  | true=>exact fun w' hC=>ih B o ho r w' ha (hs.gf hC)
 | @ogd q _ t f0 fr Γ b h k=>
  intro B o ho r w ha hs
  cases ho
  cases q with
  | false=>exact ⟨ha _ _ h,k.sound ha⟩
  | true=>exact fun w' hC=>⟨ha _ _ h,k.sound ha⟩
 | plain _ ih=>exact fun B o ho r w ha hs=>CC (sg rfl) (ih B o ho r w ha hs _ _ _)
 | grd hj hv _ ih=>exact fun B o ho r w ha hs=>ih hj hv B o ho r w ha hs _ _
 | gtt _ ih=>exact fun hj hv B o ho r w ha hs pos ab=>CC ((xM rfl hj (ha _ _ hv)).trans rfl) (ih B o ho r w ha hs _ _ _)
 | gff _ ih=>exact fun hj hv B o ho r w ha hs pos ab=>CC ((xM rfl hj (ha _ _ hv)).trans rfl) (ih B o ho r w ha hs _ _ _)
 | gtf _ ih=>exact fun hj hv B o ho r w ha hs pos ab=>CD ((xM rfl hj (ha _ _ hv)).trans rfl) (ih B o ho _ w (aq ha) hs)
 | gft _ ih=>exact fun hj hv B o ho r w ha hs pos ab=>CD ((xM rfl hj (ha _ _ hv)).trans rfl) (ih B o ho _ w (aq ha) hs)
 | gun _ ih=>exact fun hj hv B o ho r w ha hs pos ab=>CD (Gf rfl hj (ha _ _ hv)) (ih B o ho _ w (aq ha) hs)
 | @gsb M α q b tt d op ty j t all l rk Γ fr m1 m2 f _ _ Dl LM=>
  intro hj hv B o ho r w ha hs pos ab
  have key:∀ c:Bool,b=c→cu r ((t,.bool c) :: fr)∧look ((t,Value.bool c) :: fr) t=some (.bool c):=by
   intro c hc
   refine ⟨?_,by unfold look; rw [show Nat.beq t t=true from Nat.beq_refl t]; rfl⟩
   intro s u hl
   unfold look at hl
   cases hb:Nat.beq s t with
   | true=>rw [hb] at hl; cases hl; rw [Nat.eq_of_beq_eq_true hb,← hc]; exact ha _ _ hv
   | false=>rw [hb] at hl; exact ha s u hl
  cases b with
  | true=>exact Dl hj (key true rfl).2 B o ho r w (key true rfl).1 hs pos ab
  | false=>exact LM hj (key false rfl).2 B o ho r w (key false rfl).1 hs pos ab
 | @gsp M q b tt d op ty j t all l rk Γ fr m1 m2 _ _ Dl LM=>
  intro hj hv B o ho r w ha hs pos ab
  have key:∀ c:Bool,b=c→cu r ((t,.bool c) :: fr)∧look ((t,Value.bool c) :: fr) t=some (.bool c):=by
   intro c hc
   refine ⟨?_,by unfold look; rw [show Nat.beq t t=true from Nat.beq_refl t]; rfl⟩
   intro s u hl
   unfold look at hl
   cases hb:Nat.beq s t with
   | true=>rw [hb] at hl; cases hl; rw [Nat.eq_of_beq_eq_true hb,← hc]; exact ha _ _ hv
   | false=>rw [hb] at hl; exact ha s u hl
  cases b with
  | true=>exact Dl hj (key true rfl).2 B o ho r w (key true rfl).1 hs pos ab
  | false=>exact LM hj (key false rfl).2 B o ho r w (key false rfl).1 hs pos ab
 | @assoc α β q d op ty all l gt g0 Γ fr m f g _ ih=>
  intro B o ho
  refine ih B o ?_
  rw [← ho]
  cases m <;> rfl
 | mv hx _ ih=>exact fun B o ho r w ha hs pos ab g=>bz (Mv _ (aR ha hx)) (ih B o ho _ w (aq ha) hs)
 | as hx _ ih=>exact fun B o ho r w ha hs pos ab g=>bz (Av _ (aR ha hx)) (ih B o ho _ w (aq ha) hs)
 | add hx hy _ ih=>exact fun B o ho r w ha hs pos ab g=>bz (Ba (aR ha hx) (aR ha hy)) (ih B o ho _ w (aq ha) hs)
 | sub hx hy _ ih=>exact fun B o ho r w ha hs pos ab g=>bz (Go.Li.Bs (aR ha hx) (aR ha hy)) (ih B o ho _ w (aq ha) hs)
 | mul hx hy _ ih=>exact fun B o ho r w ha hs pos ab g=>bz (Bm (aR ha hx) (aR ha hy)) (ih B o ho _ w (aq ha) hs)
 | lss hx hy _ ih=>exact fun B o ho r w ha hs pos ab g=>bz (Bl (aR ha hx) (aR ha hy)) (ih B o ho _ w (aq ha) hs)
 | leq hx hy _ ih=>exact fun B o ho r w ha hs pos ab g=>bz (Bk (aR ha hx) (aR ha hy)) (ih B o ho _ w (aq ha) hs)
 | gtr hx hy _ ih=>exact fun B o ho r w ha hs pos ab g=>bz (Bg (aR ha hx) (aR ha hy)) (ih B o ho _ w (aq ha) hs)
 | geq hx hy _ ih=>exact fun B o ho r w ha hs pos ab g=>bz (Bh (aR ha hx) (aR ha hy)) (ih B o ho _ w (aq ha) hs)
 | eql hx hy hb _ ih=>
  intro B o ho r w ha hs pos ab g
  refine bz ?_ (ih B o ho _ w (aq ha) hs)
  cases hb with
  | int=>exact Be (aR ha hx) (aR ha hy)
  | @bool a b h=>exact fun _ _=>RX (aR ha hx) (aR ha hy) h.h
  | @Oa a h=>exact ZP h.h (aR ha hx) (aR ha hy)
  | @Ob h=>exact ZQ h.h (aR ha hx) (aR ha hy)
  | @s2 k0 k1 a b c e h=>
   obtain ⟨f0,f1,h1,h2,h3,h4,h5,h6,h7,h8,h9⟩:=h.h
   exact fun _ _=>Oj h1 h2 h3 h4 h5 h6 h7 h8 h9 (aR ha hx) (aR ha hy)
 | neq hx hy hb _ ih=>
  intro B o ho r w ha hs pos ab g
  refine bz ?_ (ih B o ho _ w (aq ha) hs)
  cases hb with
  | int=>exact Bn (aR ha hx) (aR ha hy)
  | @bool a b h=>exact fun _ _=>Ol (aR ha hx) (aR ha hy) h.h
  | @Oa a h=>exact ZR h.h (aR ha hx) (aR ha hy)
  | @Ob h=>exact ZS h.h (aR ha hx) (aR ha hy)
  | @s2 k0 k1 a b c e h=>
   obtain ⟨f0,f1,h1,h2,h3,h4,h5,h6,h7,h8,h9⟩:=h.h
   exact fun _ _=>Om h1 h2 h3 h4 h5 h6 h7 h8 h9 (aR ha hx) (aR ha hy)
 | not hx _ ih=>exact fun B o ho r w ha hs pos ab g=>bz (Nt (aR ha hx)) (ih B o ho _ w (aq ha) hs)
 | neg hx _ ih=>exact fun B o ho r w ha hs pos ab g=>bz (Ng (aR ha hx)) (ih B o ho _ w (aq ha) hs)
 | Oc hx _ ih=>exact fun B o ho r w ha hs pos ab g=>bz (Nk (aR ha hx)) (ih B o ho _ w (aq ha) hs)
 | @pick M q d c x y ty b v all l rk Γ fr m hc hx _ ih=>
  intro B o ho r w ha hs pos ab g
  refine bz ?_ (ih B o ho _ w (aq ha) hs)
  intro w' _
  rw [RY (aR ha hc)]
  cases b
  ·rw [← aR ha hx]; rfl
  ·rw [← aR ha hx]; rfl
 | @Tv M q d s k off x cs v ty all l rk Γ fr m hf hx hc _ ih=>
  intro B o ho r w ha hs pos ab g
  obtain ⟨fs,f,ds,h1,h2,h3,h4,h5⟩:=hf.h
  exact bz (fun _ _=>CH h1 h2 h3 h4 h5 (aR ha hx) (by simpa using hc)) (ih B o ho _ w (aq ha) hs)
 | ext hx hv _ ih=>exact fun B o ho r w ha hs pos ab g=>bz (Ex _ (aR ha hx) (by simpa using hv)) (ih B o ho _ w (aq ha) hs)
 | @Tp M q d s k off x ty a a' all l rk Γ fr m hf hx hq _ ih=>
  intro B o ho r w ha hs pos ab g
  refine bz ?_ (ih B o ho _ w (aq ha) hs)
  rw [hq.eq]
  exact Fp hf.h (aR ha hx)
 | @len M q d n x v t ty all l rk Γ fr m ht hx hr _ ih=>
  intro B o ho r w ha hs pos ab g
  obtain ⟨Z,F,hS,_⟩:=id hs
  obtain ⟨b,c,rfl⟩:=hr.sound hS
  obtain ⟨e,i,h1,_,_⟩:=ht.h
  exact bz (fun _ _=>vJ h1 (aR ha hx)) (ih B o ho _ w (aq ha) hs)
 | @idx M α q d x y v k j t ty o1 o2 E xs Γ' all l rk Γ fr f ht hx hy hr hE _ ih=>
  intro B o ho r w ha hs pos ab g
  obtain ⟨z,hz,ho⟩:=bind_some ho
  replace hz:=rn hz
  obtain ⟨Z,F,hS,hG⟩:=hs
  obtain ⟨dk,_,⟨⟨n,hn,_⟩,LP⟩,tG⟩:=(hr z).sound hS
  exact bz (Ix ht.h hn hz (aR ha hx) (aR ha hy) hE) (ih z B o ho _ w (aq ha) ⟨Z,F,tG (LP hE j z hz.1 hz.2),hG⟩)
 | Oe hx hy _ ih=>exact fun B o ho r w ha hs pos ab g=>bz (fun _ _=>LR (aR ha hx) (aR ha hy)) (ih B o ho _ w (aq ha) hs)
 | Of hx hy _ ih=>exact fun B o ho r w ha hs pos ab g=>bz (fun _ _=>LS (aR ha hx) (aR ha hy)) (ih B o ho _ w (aq ha) hs)
 | @lkp M κ υ q d x y v t ty bq ek eu xs a z0 all l rk Γ fr m ht hz hx hy hr _ ih=>
  intro B o ho r w ha hs pos ab g
  obtain ⟨Z,F,hS,_⟩:=id hs
  obtain ⟨f,hm⟩:=hr.sound hS
  obtain ⟨kt,vt,kd,h1,h2,h3⟩:=ht.h
  obtain ⟨kt',vt',i,g1,g2,g3⟩:=hz.h
  rw [h1] at g1
  cases g1
  exact bz (fun w' hC=>LU (ek:=ek) (uA:=eu) h3 h1 h2 g2 g3 (by rw [aR ha hx]; exact ag.ec _ hm hC fun _ _=>List.not_mem_nil) (aR ha hy)) (ih B o ho _ w (aq ha) hs)
 | @Dj M α q d b n x us E xs e ty all l rk Γ Γ1 Γ2 fr m hx h0 h1 hE hn hb _ ih=>
  intro B o ho r w ha hs pos ab g
  have he:=aR ha hx
  refine bz (v:=.slice (some ⟨b,0,none⟩) n n) (fun _ _=>by rw [← he]; rfl) (ih B o ho _ w (aq ha) ?_)
  obtain ⟨Z,F,hS,hg⟩:=hs
  obtain ⟨f0,F1,hp,⟨rfl,bh⟩,ed⟩:=h0.sound hS
  obtain ⟨e1,f,F2,mx,hr,fw⟩:=h1.sound ed
  have zw:=Nat.le_of_ble_eq_true hb
  refine ⟨Z,([b]++f)++F2,⟨[b]++f,F2,rfl,⟨some ⟨b,0,none⟩,n,by rw [← hn,e1],.inr ⟨b,us.toArray,f,rfl,bh,rfl,by rw [← hn,e1]; exact Nat.le_refl _,Nat.le_trans zw (by decide),by rw [hE,Nat.mul_one]; simp [hn],?_⟩⟩,fw.any⟩,hg.perm (by rw [List.append_assoc]; exact (mx.append_left [b]).trans hp)⟩
  rw [hE,Nat.mul_one,List.toList_toArray,← e1,List.take_length]
  exact hr
 | @lnm M κ υ q d x v t ty bq ek eu xs all l rk Γ fr m ht hx hr _ ih=>
  intro B o ho r w ha hs pos ab g
  obtain ⟨Z,F,hS,_⟩:=id hs
  obtain ⟨f,hm⟩:=hr.sound hS
  obtain ⟨kt,vt,kd,h1,_,_⟩:=ht.h
  exact bz (fun w' hC=>RZ (ek:=ek) (uA:=eu) h1 (by rw [aR ha hx]; exact ag.ec _ hm hC fun _ _=>List.not_mem_nil)) (ih B o ho _ w (aq ha) hs)
 | @Tz M q d x k k2 n s t ty all l rk Γ fr m ht hx _ ih=>
  intro B o ho r w ha hs pos ab g
  exact bz (fun _ _=>I7 ht.h.1 ht.h.2 (aR ha hx)) (ih B o ho _ w (aq ha) hs)
 | @tv M q d op x y k k' a b t t' ty all l rk Γ fr f hx hy hk _ ih=>
  intro B o ho r w ha hs pos ab g
  obtain ⟨z,hz,ho⟩:=bind_some ho
  have wX:LD op=true∨k=k':=by
   cases hk with
   | same=>exact .inr rfl
   | sh h=>exact .inl h
  exact bz (fun _ _=>LW (aR ha hx) (aR ha hy) wX hz) (ih z B o ho _ w (aq ha) hs)
 | @cvs M q o1 o2 d x v xs s t ty all l rk Γ Γx fr m ht hx hr _ ih=>
  intro B o ho r w ha hs pos ab g
  obtain ⟨e,h1,h2,h3⟩:=ht.h
  obtain ⟨Z,F,hS,_⟩:=id hs
  obtain ⟨dk,_,⟨⟨f0,Co,_⟩,_⟩,_⟩:=hr.sound hS
  exact bz (fun w' hC=>On h1 h2 h3 (by rw [aR ha hx]; exact ag.ec _ Co hC fun _ _=>List.not_mem_nil)) (ih B o ho _ w (aq ha) hs)
 | @mkm M κ υ d t ty bq ek eu all l rk Γ fr m ht _ ih=>
  intro B o ho r w ha hs pos ab g
  exact du (WL.val rfl J5 (ih _ B o ho _ _ (aq ha) (hs.new (f':=[w.heap.size]) (an.alloc _ _ _) (fun _=>⟨w.heap.size,#[],0,rfl,rfl,(MapKept.heap_alloc w _).1,rfl⟩) (by simp) (u9 (Nat.le_refl _)))))
 | @mpu M κ υ x y z v t ty bq ek eu xs a b all l rk Γ Γ1 fr m ht hx hy hz h1 _ ih=>
  intro B o ho r w ha hs pos ab g
  obtain ⟨kt,vt,kd,q1,q2,q3⟩:=ht.h
  obtain ⟨Z,F,hS,hg⟩:=hs
  obtain ⟨n,F1,hp,hO,ed⟩:=h1.sound hS
  obtain ⟨i,es,ck,rfl,e1,e2⟩:=LX (P:=P) (d:=none) (ty:=ty) (pos:=pos) (ab:=ab) (g:=none) (ek:=ek) (uA:=eu) (a:=a) (b:=b) (x:=x) (k:=y) (v:=z) (r:=r) q3 q1 q2 (by rw [aR ha hx]; exact hO) (aR ha hy) (aR ha hz)
  rw [aR ha hx] at e2
  exact du (WL.skip rfl e1 (ih B o ho _ _ ha (St.put (f:=[i]) (f':=[i]) ed (hg.perm hp) (an.setObj _ _ _) e2 (by simp) fun b hb=>.inl hb)))
 | @Od M q d n k x v t ty all l rk Γ fr m ht hx hr _ ih=>
  intro B o ho r w ha hs pos ab g
  obtain ⟨Z,F,hS,_⟩:=id hs
  obtain ⟨e,i,h1,_,_⟩:=ht.h
  obtain ⟨b,c,hv⟩:=hr.sound hS
  exact bz (v:=.int .i64 (n:Int)) (fun _ _=>vJ h1 ((aR ha hx).trans hv)) (ih B o ho _ w (aq ha) hs)
 | @Gl M α V q d n x y v k j t ty S cl en xs all l rk Γ Γx fr f ht hx hy hr rJ hn _ ih=>
  intro B o ho r w ha hs pos ab g
  replace rJ:SO S V cl en:=by cases rJ; assumption
  obtain ⟨z,hz,ho⟩:=bind_some ho
  replace hz:=rn hz
  obtain ⟨e,i,h1,h2,h3⟩:=ht.h
  obtain ⟨Z,F,hS,hG⟩:=hs
  obtain ⟨dk,_,⟨⟨f0,Co,tT⟩,_⟩,_⟩:=hr.sound hS
  have hZ:∀ b∈f0,Z b:=fun b hb=>(tT b hb).elim id id
  obtain ⟨⟨a,c,hv⟩,bc,cs,f1,dq,Gr,ji⟩:=s8 Co j hz.1 hz.2
  have nz:(r4 S).size=n:=hn
  rw [nz] at ji
  obtain ⟨u,rfl,sJ⟩:=rJ.op dq.2
  have hblk:Z (dc v n j).block:=by
   obtain ⟨base,cap,mm,ee⟩:=Co
   rcases ee with ⟨rfl,_⟩ | ⟨b,off,cr,e',fz,f',rfl,_,rfl,_⟩
   ·simp at bc; omega
   ·obtain rfl:v = .slice (some ⟨b,off,none⟩) xs.length cap:=by simpa using mm
    have:(dc (.slice (some ⟨b,off,none⟩) xs.length cap) n j).block=b:=by unfold dc; rw [vF]
    rw [this]; exact hZ b (by simp)
  have Gs:fact Z w [] (.ak (dc v n j) (cl z u)):=⟨fun i u' hi=>ji i u' hi,fun _=>hblk⟩
  have ei:HL Z w (.ak (dc v n j) (cl z u) :: en z u) []:=.fact Gs (u7 (sJ Z fun b hb=>hZ b (Gr b hb)))
  obtain ⟨F',hp,fw⟩:=ei.build hS
  refine bz (v:=.pointer (some (dc v n j))) (fun w' hC=>?_) (ih z u B o ho _ w (aq ha) ⟨Z,F',fw,hG.perm (by simpa using hp)⟩)
  rw [lv h1 h2 ((aR ha hx).trans hv) (aR ha hy) hz.1 (by omega),h3,hv]
  rfl
 | @load M q d x a t ty lk all l rk Γ fr m ht hx _ ih=>exact fun B o ho r w ha hs pos ab g=>ih ht.h hx B o ho r w ha hs _ _ _ _
 | @Tq M α q d x v j ty o E z Γx all l rk Γ fr m h _ ih=>
  intro ht hx B o ho r w ha hs t pos ab g
  obtain ⟨Z,F,hS,_⟩:=id hs
  obtain ⟨_,⟨u,k,h1,h2,_⟩,_⟩:=h.sound hS
  exact ih ht hx B o ho r w ha hs ⟨u,k,h1,h2⟩ _ _ _ _
 | Tr h _ ih=>
  intro ht hx B o ho r w ha hs t pos ab g
  obtain ⟨Z,F,hS,_⟩:=id hs
  exact bz (Ld ht (h.sound hS) (aR ha hx)) (ih B o ho _ w (aq ha) hs)
 | Ts _ ih=>
  intro ht hx B o ho r w ha hs hu t pos ab g
  obtain ⟨u,k,h1,h2,_⟩:=hu
  obtain rfl:u=_:=by simpa using h2
  exact bz (Ld ht h1 (aR ha hx)) (ih B o ho _ w (aq ha) hs)
 | Tt _ ih=>
  intro ht hx B o ho r w ha hs hu t pos ab g
  obtain ⟨u,k,h1,h2,_⟩:=hu
  obtain rfl:u=_:=by simpa using h2
  exact bz (Ld ht h1 (aR ha hx)) (ih B o ho _ w (aq ha) hs)
 | @Tu M α q o' d x v j E z ty all l rk Γ Γ1 Γ' fr m h h2 _ ih=>
  intro ht hx B o ho r w ha hs hu t pos ab g
  obtain ⟨u,k,h1,Dn⟩:=hu
  obtain ⟨Z,F,hS,hG⟩:=hs
  obtain ⟨dk,⟨u',k',h3,h4,h5⟩,tG⟩:=(h u).sound hS
  rw [h1] at h3
  cases h3
  exact bz (Ld ht h1 (aR ha hx)) (ih u B o ho _ w (aq ha) ⟨Z,F,(h2 u).sound h1 (tG ⟨k',h4,h5⟩),hG⟩)
 | @ldp M α V q d x a S cl en z ty all l rk Γ Γx fr m rJ h _ ih=>
  intro ht hx B o ho r w ha hs hu t pos ab g
  obtain ⟨u,k,h1,_⟩:=hu
  obtain ⟨Z,F,hS,hG⟩:=hs
  obtain ⟨dk,⟨u',k',h3,⟨p,gw,g',e1,bc,wY,dq,rfl⟩,h5⟩,_⟩:=h.sound hS
  rw [h1] at h3
  cases h3
  obtain rfl:u = .pointer (some p):=by simpa using e1
  obtain ⟨v,rfl,hf⟩:=rJ.op dq
  have hz:∀ b∈p.block :: g',Z b:=fun b hb=>h5 b hb
  have Gs:fact Z w [] (.ak p (cl z v)):=⟨fun j u hj=>wY j u hj,fun _=>hz _ (by simp)⟩
  have ei:HL Z w (.ak p (cl z v) :: en z v) []:=.fact Gs (u7 (hf Z fun b hb=>hz b (by simp [hb])))
  obtain ⟨F',hp,fw⟩:=ei.build hS
  exact bz (Ld ht h1 (aR ha hx)) (ih p v B o ho _ w (aq ha) ⟨Z,F',fw,hG.perm (by simpa using hp)⟩)
 | LG h _ ih=>
  intro ht hx B o ho r w ha hs t pos ab g
  obtain ⟨Z,F,hS,_⟩:=id hs
  obtain ⟨h1,h2⟩:=h.sound hS
  exact bz (Lg ht h1 (aR ha hx) h2) (ih B o ho _ w (aq ha) hs)
 | @QT M q d t ty ps zc cs pl all l rk Γ fr m hb hf _ ih=>
  intro B o ho r w ha hs pos ab g
  obtain ⟨Z,F,hS,_⟩:=id hs
  obtain ⟨fs,i,z,h1,h2,h3,h4,h5⟩:=hb.h
  refine bz (Bu ?_) (ih B o ho _ w (aq ha) hs)
  have:=hf.fill ha hS
  unfold Program.built
  rw [h3,h1]
  simp only [h4,h2]
  rw [show z.cells=zc.toArray by rw [← h5]]
  exact this
 | @box M d x t ty v cs all l rk Γ fr m hx hc _ ih=>
  intro B o ho r w ha hs pos ab g
  obtain ⟨Z,F,hS,_⟩:=id hs
  refine du (WL.box fun b w' hC bh hb=>ih b B o ho _ w' (aq ha) (hs.new (f':=[b]) hC (fun _=>⟨rfl,?_⟩) (by simp) (u9 hb)))
  rw [aR ha hx,hc.eq hS] at bh
  exact bh
 | @alloc M d t ty cs all l rk Γ fr m hz _ ih=>
  intro B o ho r w ha hs pos ab g
  obtain ⟨i,z,h1,h2,h3⟩:=hz.h
  refine du (WL.alloc h1 h2 fun b w' hC bh hb=>ih b B o ho _ w' (aq ha) (hs.new (f':=[b]) hC (fun _=>⟨rfl,?_⟩) (by simp) (u9 hb)))
  rw [h3] at bh
  exact bh
 | @Gm M α d t e ty E z0 bt all l rk Γ fr m hz _ ih=>
  intro B o ho r w ha hs pos ab g
  obtain ⟨h1,_,i,z,h2,_⟩:=hz.h
  exact du (WL.Gm E h1 h2 fun v w' f hC hO=>ih v B o ho _ w' (aq ha) (hs.new hC (fun _=>hO.1) hO.2.1 hO.fresh))
 | @ZM M d n ps us t e ty all l rk Γ fr m hz hl hn hb _ ih=>
  intro B o ho r w ha hs pos ab g
  obtain ⟨Z,F,hS,_⟩:=id hs
  exact du (WL.val rfl (hl.op ha hS hz hn hb) (ih w.heap.size B o ho _ _ (aq ha) (hs.new (f':=[w.heap.size]) (an.alloc _ _ _) (fun _=>⟨rfl,heap_alloc_new w _⟩) (by simp) (u9 (Nat.le_refl _)))))
 | @ZN M d n ps us t e ty all l rk Γ fr m hz hl hn hb _ ih=>
  intro B o ho r w ha hs pos ab g
  obtain ⟨Z,F,hS,_⟩:=id hs
  exact du (WL.val rfl (hl.op ha hS ⟨hz.h⟩ hn hb) (ih w.heap.size B o ho _ _ (aq ha) (hs.new (f':=[w.heap.size]) (an.alloc _ _ _) (fun _=>⟨rfl,heap_alloc_new w _⟩) (by simp) (u9 (Nat.le_refl _)))))
 | @lits M d n k ps us t e ty all l rk Γ fr m hz hl hn hb _ ih=>
  intro B o ho r w ha hs pos ab g
  obtain ⟨Z,F,hS,_⟩:=id hs
  exact du (WL.val rfl (hl.op ha hS hz hn hb) (ih w.heap.size B o ho _ _ (aq ha) (hs.new (f':=[w.heap.size]) (an.alloc _ _ _) (fun _=>⟨rfl,heap_alloc_new w _⟩) (by simp) (u9 (Nat.le_refl _)))))
 | @Em M α d x u t e ty E z0 bt all l rk Γ fr m hz hx hu _ ih=>
  intro B o ho r w ha hs pos ab g
  obtain ⟨h1,_,i,z,h2,h3,h4,_⟩:=hz.h
  obtain ⟨Z,F,hS,_⟩:=id hs
  have he:=aR ha hx
  refine du (WL.Em h1 h2 h3 h4 (by rw [he]; exact hu.one hS) fun b w' hC bh hb=>ih b B o ho _ w' (aq ha) (hs.new (f':=[b]) hC (fun _=>⟨rfl,?_⟩) (by simp) (u9 hb)))
  rw [he] at bh
  exact bh
 | @J4 M α d y a t e ty E z0 bt all l rk Γ fr f hz hy _ ih=>
  intro B o ho r w ha hs pos ab g
  obtain ⟨n,hn,TF⟩:=bind_some ho
  obtain ⟨e1,e2,e3⟩:=En hn
  obtain ⟨h1,hE,i,z,h2,h3,h4,h5,h6,h7⟩:=hz.h
  subst e1
  exact du (WL.J4 E h1 h2 h3 (by rw [h4,hE]) rfl (aR ha hy) (by rw [h6]; exact e2) e3 fun v w' f hC hO=>ih n v B o TF _ w' (aq ha) (hs.new hC (fun _=>hO.1) hO.2.1 hO.fresh))
 | @make M α d x a t e ty E z0 bt all l rk Γ fr f hz hx _ ih=>
  intro B o ho r w ha hs pos ab g
  obtain ⟨n,hn,TF⟩:=bind_some ho
  obtain ⟨e1,e2,e3⟩:=En hn
  obtain ⟨h1,hE,i,z,h2,h3,h4,h5,h6,h7⟩:=hz.h
  subst e1
  exact du (WL.make E h1 h2 h3 h4 hE h5 h7 (aR ha hx) (aR ha hx) (by rw [h6]; exact e2) e3 fun v w' f hC hO=>ih n v B o TF _ w' (aq ha) (hs.new hC (fun _=>hO.1) hO.2.1 hO.fresh))
 | @app M α d s x sv xv t e ty E z0 bt all l rk Γ fr m hz db hx _ ih=>
  obtain ⟨h1,hE,i,z,h2,h3,h4,h5,h6,h7⟩:=hz.h
  exact ih ⟨h1,hE,i,z,h2,h3,h4,h5,h6⟩ db hx
 | ax1 hc _ ih=>exact fun h1 hs hx=>ih h1 hs hx
 | @axi M d k s x sv yv o1 o2 t e ty xs ys bt all l rk Γ Γ1 Γx fr f h1 h2 _ ih=>
  intro hT db hx B o ho r w ha hs pos ab g
  obtain ⟨u,hu,ho⟩:=bind_some ho
  obtain ⟨b1,b2⟩:=iq hu
  obtain ⟨q1,q2,i,z,q3,q4,q5,q6,q7⟩:=hT
  obtain ⟨Z,F,hS,hg⟩:=hs
  obtain ⟨n,F1,hp,hO,ed⟩:=h1.sound hS
  have fe:=hg.perm hp
  have cn:=List.nodup_append.1 fe.nd
  obtain ⟨dk,Oo,⟨⟨kk,hk,Cp⟩,_⟩,_⟩:=h2.sound ed
  have hd:sb kk n:=fun b hb hm=>(Cp b hb).elim (fun h=>by
   cases o1
   ·exact fe.apart b (List.mem_append_left _ hm) h
   ·exact cn.2.2 b hm b ((Oo b h).resolve_left (by simp)) rfl) (fun h=>by
   cases o2
   ·exact fe.apart b (List.mem_append_left _ hm) h
   ·exact cn.2.2 b hm b ((Oo b h).resolve_left (by simp)) rfl)
  refine du (WL.tU (E:=aA k) n w.heap.size tV q1 q3 q4 q5 rfl q6 (aR ha db) ⟨hO,cn.1,fun b hb=>.inl hb⟩ (aR ha hx) hk (by rw [q7]; exact b1) b2 (Nat.le_refl _) fun v w' f' hC kv cg=>ih v B o ho _ w' (aq ha) (St.put ed fe hC kv.1 kv.2.1 fun b hb=>(cg b hb).elim .inl fun h=>h.elim (fun h=>absurd h List.not_mem_nil) .inr))
 | @axb M d s x sv yv o1 o2 t e ty xs ys bt all l rk Γ Γ1 Γx fr f h1 h2 _ ih=>
  intro hT db hx B o ho r w ha hs pos ab g
  obtain ⟨u,hu,ho⟩:=bind_some ho
  obtain ⟨b1,b2⟩:=iq hu
  obtain ⟨q1,q2,i,z,q3,q4,q5,q6,q7⟩:=hT
  obtain ⟨Z,F,hS,hg⟩:=hs
  obtain ⟨n,F1,hp,hO,ed⟩:=h1.sound hS
  have fe:=hg.perm hp
  have cn:=List.nodup_append.1 fe.nd
  obtain ⟨dk,Oo,⟨⟨kk,hk,Cp⟩,_⟩,_⟩:=h2.sound ed
  refine du (WL.tU (E:=j5) n w.heap.size zy q1 q3 q4 q5 rfl q6 (aR ha db) ⟨hO,cn.1,fun b hb=>.inl hb⟩ (aR ha hx) hk (by rw [q7]; exact b1) b2 (Nat.le_refl _) fun v w' f' hC kv cg=>ih v B o ho _ w' (aq ha) (St.put ed fe hC kv.1 kv.2.1 fun b hb=>(cg b hb).elim .inl fun h=>h.elim (fun h=>absurd h List.not_mem_nil) .inr))
 | @api M d b k y s x sv t e et ty xs bt all l rk Γ Γ1 Γ2 fr f h0 h1 _ ih=>
  intro hT db hx B o ho r w ha hs pos ab g
  obtain ⟨u,hu,ho⟩:=bind_some ho
  obtain ⟨b1,b2⟩:=iq hu
  obtain ⟨q1,q2,i,z,q3,q4,q5,q6,q7⟩:=hT
  obtain ⟨Z,F,hS,hg⟩:=hs
  obtain ⟨n0,F0,qu,⟨rfl,bh⟩,rW⟩:=h0.sound hS
  obtain ⟨n,F1,hp,hO,ed⟩:=h1.sound rW
  have fe:Gd B Z (n++F1) w:=Gd.left (F':=[b]) (hg.perm ((List.perm_append_comm.trans (hp.append_left [b])).trans qu))
  have cn:=List.nodup_append.1 fe.nd
  refine du (WL.s9 (E:=aA k) (k:=[]) n w.heap.size q1 q3 q4 q5 rfl q6 (aR ha db) ⟨hO,cn.1,fun b hb=>.inl hb⟩ (aR ha hx) bh ⟨rfl,rfl⟩ List.nodup_nil (fun _ h=>absurd h List.not_mem_nil) (fun _ h=>absurd h List.not_mem_nil) (by rw [q7]; exact b1) b2 (Nat.le_refl _) fun v w' f' hC kv cg=>ih v B o ho _ w' (aq ha) (St.put ed fe hC kv.1 kv.2.1 fun b hb=>(cg b hb).elim .inl fun h=>h.elim (fun h=>absurd h List.not_mem_nil) .inr))
 | @apb M d b y s x sv t e et ty xs bt all l rk Γ Γ1 Γ2 fr f h0 h1 _ ih=>
  intro hT db hx B o ho r w ha hs pos ab g
  obtain ⟨u,hu,ho⟩:=bind_some ho
  obtain ⟨b1,b2⟩:=iq hu
  obtain ⟨q1,q2,i,z,q3,q4,q5,q6,q7⟩:=hT
  obtain ⟨Z,F,hS,hg⟩:=hs
  obtain ⟨n0,F0,qu,⟨rfl,bh⟩,rW⟩:=h0.sound hS
  obtain ⟨n,F1,hp,hO,ed⟩:=h1.sound rW
  have fe:Gd B Z (n++F1) w:=Gd.left (F':=[b]) (hg.perm ((List.perm_append_comm.trans (hp.append_left [b])).trans qu))
  have cn:=List.nodup_append.1 fe.nd
  refine du (WL.s9 (E:=j5) (k:=[]) n w.heap.size q1 q3 q4 q5 rfl q6 (aR ha db) ⟨hO,cn.1,fun b hb=>.inl hb⟩ (aR ha hx) bh ⟨rfl,rfl⟩ List.nodup_nil (fun _ h=>absurd h List.not_mem_nil) (fun _ h=>absurd h List.not_mem_nil) (by rw [q7]; exact b1) b2 (Nat.le_refl _) fun v w' f' hC kv cg=>ih v B o ho _ w' (aq ha) (St.put ed fe hC kv.1 kv.2.1 fun b hb=>(cg b hb).elim .inl fun h=>h.elim (fun h=>absurd h List.not_mem_nil) .inr))
 | Tw hk _ ih=>exact ih
 | @apo M α d b s x sv u y xs t e e' et ty E bt all l rk Γ Γ1 Γ2 Γ3 fr f h0 h1 h2 _ ih=>
  intro hT db hx B o ho r w ha hs pos ab g
  obtain ⟨_,hu,ho⟩:=bind_some ho
  obtain ⟨b1,b2⟩:=iq hu
  obtain ⟨q1,q2,i,z,q3,q4,q5,q6,q7⟩:=hT
  obtain ⟨Z,F,hS,hg⟩:=hs
  obtain ⟨n0,F0,qu,⟨rfl,bh⟩,rW⟩:=h0.sound hS
  obtain ⟨k,F1,qv,hK,ed⟩:=h1.sound rW
  obtain ⟨n,F2,mx,hO,fw⟩:=h2.sound ed
  have xQ:((n++k)++F2++[b]).Perm F:=by
   refine List.perm_append_comm.trans (.trans (List.Perm.append_left [b] ?_) qu)
   refine .trans ?_ qv
   refine .trans ?_ (mx.append_left k)
   rw [← List.append_assoc k n F2]
   exact List.perm_append_comm.append_right F2
  have fe:Gd B Z ((n++k)++F2) w:=Gd.left (hg.perm xQ)
  have cn:=List.nodup_append.1 fe.nd
  have wZ:=List.nodup_append.1 cn.1
  have TG:fact Z w [] (.rd false QQ u y.length):=by
   obtain ⟨base,cap,hv,_⟩:=hK
   obtain rfl:u = .slice base y.length cap:=by simpa using hv
   exact ⟨[],⟨⟨_,_,rfl⟩,rfl⟩,fun b hb=>absurd hb List.not_mem_nil⟩
  refine du (WL.s9 (E:=aK e' E) (k:=k) (n++k) w.heap.size q1 q3 q4 q5 q2 q6 (aR ha db) ⟨hO,wZ.1,fun b hb=>.inl (List.mem_append_left _ hb)⟩ (aR ha hx) bh hK wZ.2.1 (fun _ h=>.inl (List.mem_append_right _ h)) (fun b hb hm=>wZ.2.2 b hm b hb rfl) (by rw [q7]; exact b1) b2 (Nat.le_refl _) fun v w' f' hC kv cg=>ih v B o ho _ w' (aq ha) (St.put (fw.fact (e:=.rd false QQ u y.length) TG) fe (hC.mono fun b hb=>List.mem_append_left _ hb) kv.1 kv.2.1 fun b hb=>(cg b hb).elim (fun h=>.inl (List.mem_append_left _ h)) fun h=>h.elim (fun h=>.inl (List.mem_append_right _ h)) .inr))
 | @ldn M α q o' d x v j Q T z ty all l rk Γ Γ1 Γ' fr m h h2 _ ih=>
  intro ht hx B o ho r w ha hs hu t pos ab g
  obtain ⟨u,k,h1,Dn⟩:=hu
  obtain ⟨Z,F,hS,hG⟩:=hs
  obtain ⟨dk,⟨u',k',h3,h4,h5⟩,tG⟩:=(h u).sound hS
  rw [h1] at h3
  cases h3
  exact bz (Ld ht h1 (aR ha hx)) (ih u B o ho _ w (aq ha) ⟨Z,F,(h2 u).sound h1 (tG ⟨k',h4,h5⟩),hG⟩)
 | @apn M α d b s x sv u y xs t e e' et ty E Q T bt all l rk Γ Γ1 Γ2 fr f h0 h1 h2 _ ih=>
  intro hT db hx B o ho r w ha hs pos ab g
  obtain ⟨_,hu,ho⟩:=bind_some ho
  obtain ⟨b1,b2⟩:=iq hu
  obtain ⟨q1,q2,i,z,q3,q4,q5,q6,q7⟩:=hT
  obtain ⟨Z,F,hS,hg⟩:=hs
  obtain ⟨n0,F0,qu,⟨rfl,bh⟩,rW⟩:=h0.sound hS
  obtain ⟨k,hk,yI⟩:=h1.rd rW []
  obtain ⟨n,F1,hp,⟨us,gg,hO,hr,n4,Aw⟩,ed⟩:=h2.sound rW
  have fe:Gd B Z (n++F1) w:=Gd.left (F':=[b]) (hg.perm ((List.perm_append_comm.trans (hp.append_left [b])).trans qu))
  have cn:=List.nodup_append.1 fe.nd
  have uB:∀ b∈k,Z b:=fun b hb=>yI b hb
  have xR:∀ b∈n,¬ Z b:=fun b hb=>fe.apart b (List.mem_append_left _ hb)
  refine du (Gt.s9 (E:=sx Q T) (G:=n) (B:=w.heap.size) (g:=gg) (k:=k) q1 q3 q4 q5 q6 (aR ha db) ⟨us,⟨hO,cn.1,fun b hb=>.inl hb⟩,hr,Aw⟩ (aR ha hx) bh hk (fun b hb hm=>xR b hm (uB b hb)) (fun b hb hm=>xR b hm (n4 b hb)) (by rw [q7]; exact b1) b2 (Nat.le_refl _) fun v w' f' hC kv cg=>?_)
  obtain ⟨Dp,bw,ee,zA⟩:=kv
  exact ih v B o ho _ w' (aq ha) (St.put ed fe hC ⟨Dp,_,bw.1,ee,(fun b hb=>(List.mem_append.1 hb).elim (n4 b) (uB b)),zA⟩ bw.2.1 fun b hb=>(cg b hb).elim .inl fun h=>h.elim (fun h=>absurd h List.not_mem_nil) .inr)
 | @apm M α d b s x sv u y xs t e e' et ty E E1 bt all l rk Γ Γ1 Γ2 Γx fr f h0 h1 h2 _ ih=>
  intro hT db hx B o ho r w ha hs pos ab g
  obtain ⟨_,hu,ho⟩:=bind_some ho
  obtain ⟨b1,b2⟩:=iq hu
  obtain ⟨q1,q2,i,z,q3,q4,q5,q6,q7⟩:=hT
  obtain ⟨Z,F,hS,hg⟩:=hs
  obtain ⟨n0,F0,qu,⟨rfl,bh⟩,rW⟩:=h0.sound hS
  obtain ⟨dk,_,⟨⟨k,hk,yI⟩,_⟩,_⟩:=h1.sound rW
  obtain ⟨n,F1,hp,⟨us,gg,hO,hr,n4,Aw⟩,ed⟩:=h2.sound rW
  have fe:Gd B Z (n++F1) w:=Gd.left (F':=[b]) (hg.perm ((List.perm_append_comm.trans (hp.append_left [b])).trans qu))
  have cn:=List.nodup_append.1 fe.nd
  have uB:∀ b∈k,Z b:=fun b hb=>(yI b hb).elim id id
  have xR:∀ b∈n,¬ Z b:=fun b hb=>fe.apart b (List.mem_append_left _ hb)
  refine du (Gt.s9 (E:=aD E1) (G:=n) (B:=w.heap.size) (g:=gg) (k:=k) q1 q3 q4 q5 q6 (aR ha db) ⟨us,⟨hO,cn.1,fun b hb=>.inl hb⟩,hr,Aw⟩ (aR ha hx) bh hk (fun b hb hm=>xR b hm (uB b hb)) (fun b hb hm=>xR b hm (n4 b hb)) (by rw [q7]; exact b1) b2 (Nat.le_refl _) fun v w' f' hC kv cg=>?_)
  obtain ⟨Dp,bw,ee,zA⟩:=kv
  exact ih v B o ho _ w' (aq ha) (St.put ed fe hC ⟨Dp,_,bw.1,ee,(fun b hb=>(List.mem_append.1 hb).elim (n4 b) (uB b)),zA⟩ bw.2.1 fun b hb=>(cg b hb).elim .inl fun h=>h.elim (fun h=>absurd h List.not_mem_nil) .inr)
 | @axm M α d s x sv yv xs ys t e e' ty E E1 bt all l rk Γ Γ1 Γx fr f h2 h1 _ ih=>
  intro hT db hx B o ho r w ha hs pos ab g
  obtain ⟨_,hu,ho⟩:=bind_some ho
  obtain ⟨b1,b2⟩:=iq hu
  obtain ⟨q1,q2,i,z,q3,q4,q5,q6,q7⟩:=hT
  obtain ⟨Z,F,hS,hg⟩:=hs
  obtain ⟨dk,_,⟨⟨k,hk,yI⟩,_⟩,_⟩:=h2.sound hS
  obtain ⟨n,F1,hp,⟨us,gg,hO,hr,n4,Aw⟩,ed⟩:=h1.sound hS
  have fe:=hg.perm hp
  have cn:=List.nodup_append.1 fe.nd
  have uB:∀ b∈k,Z b:=fun b hb=>(yI b hb).elim id id
  have xR:∀ b∈n,¬ Z b:=fun b hb=>fe.apart b (List.mem_append_left _ hb)
  refine du (Gt.tU (E:=aD E1) (G:=n) (B:=w.heap.size) (g:=gg) (k:=k) q1 q3 q4 q5 q6 (aR ha db) ⟨us,⟨hO,cn.1,fun b hb=>.inl hb⟩,hr,Aw⟩ (aR ha hx) hk (fun b hb hm=>xR b hm (uB b hb)) (fun b hb hm=>xR b hm (n4 b hb)) (by rw [q7]; exact b1) b2 (Nat.le_refl _) fun v w' f' g' hC kv cg gx=>?_)
  obtain ⟨Dp,bw,ee,zA⟩:=kv
  exact ih v B o ho _ w' (aq ha) (St.put ed fe hC ⟨Dp,_,bw.1,ee,(fun b hb=>(gx b hb).elim (n4 b) (uB b)),zA⟩ bw.2.1 fun b hb=>(cg b hb).elim .inl fun h=>h.elim (fun h=>absurd h List.not_mem_nil) .inr)
 | @Tx M x y a u t ty n all l rk Γ fr m ht hx hy _ ih=>exact ih ht.h hx hy
 | @stn M x y b j n us cs ds t e ty all l rk Γ Γ1 fr m h0 h1 h2 h3 _ ih=>
  intro hT hx hy B o ho r w ha hs pos ab g
  obtain ⟨i,hi,rP⟩:=hT
  obtain ⟨Z,F,hS,hg⟩:=hs
  obtain ⟨n0,F0,qu,⟨rfl,bh⟩,rW⟩:=h0.sound hS
  obtain ⟨e1,e2⟩:=h1.eq
  refine du (WL.Oq hi (by rw [h3,rP]) bh e1 (aR ha hx) (aR ha hy) (h2.one hS) fun w' hC qc=>ih B o ho _ w' ha (St.put (f:=[b]) (f':=[b]) rW (hg.perm qu) hC ⟨rfl,by rw [e2]; exact qc⟩ (by simp) fun b hb=>.inl hb))
 | @EV M x y b j u cs ds t e ty all l rk Γ Γ1 fr m h0 h1 h2 _ ih=>
  intro hT hx hy B o ho r w ha hs pos ab g
  obtain ⟨i,hi,rP⟩:=hT
  obtain ⟨Z,F,hS,hg⟩:=hs
  obtain ⟨n0,F0,qu,⟨rfl,bh⟩,rW⟩:=h0.sound hS
  obtain ⟨e1,e2⟩:=h1.eq
  have e3:cs.set j u=ds:=by rw [e2,List.set_eq_take_append_cons_drop,if_pos (by simp at e1; omega)]; simp
  refine du (WL.Gu hi rP bh (by simp at e1; omega) (aR ha hx) (aR ha hy) (h2.one hS) fun w' hC qc=>ih B o ho _ w' ha (St.put (f:=[b]) (f':=[b]) rW (hg.perm qu) hC ⟨rfl,by rw [← e3]; exact qc⟩ (by simp) fun b hb=>.inl hb))
 | Yf hl _ ih=>exact fun hT hx hy=>ih hT hx hy hl
 | @sti M x y v j z k xs t e ty all l rk Γ Γ1 fr m h0 h1 _ ih=>
  intro hT hx hy _ B o ho r w ha hs pos ab g
  obtain ⟨i,hi,rP⟩:=hT
  obtain ⟨Z,F,hS,hg⟩:=hs
  obtain ⟨j0,j1⟩:=h0.sound hS
  obtain ⟨n,F1,hp,hO,ed⟩:=h1.sound hS
  have fe:=hg.perm hp
  have cn:=List.nodup_append.1 fe.nd
  rw [rm hO] at j1
  exact du (WL.BX (E:=aA k) n w.heap.size tV rfl hi rP ⟨hO,cn.1,fun b hb=>.inl hb⟩ (List.getElem?_eq_getElem j1) (aR ha hx) (aR ha hy) ⟨rfl,rfl⟩ fun w' hC kv=>ih B o ho _ w' ha (St.put ed fe hC kv.1 kv.2.1 fun b hb=>.inl hb))
 | @stb M x y v j z xs t e ty all l rk Γ Γ1 fr m h0 h1 _ ih=>
  intro hT hx hy _ B o ho r w ha hs pos ab g
  obtain ⟨i,hi,rP⟩:=hT
  obtain ⟨Z,F,hS,hg⟩:=hs
  obtain ⟨j0,j1⟩:=h0.sound hS
  obtain ⟨n,F1,hp,hO,ed⟩:=h1.sound hS
  have fe:=hg.perm hp
  have cn:=List.nodup_append.1 fe.nd
  rw [rm hO] at j1
  exact du (WL.BX (E:=j5) n w.heap.size zy rfl hi rP ⟨hO,cn.1,fun b hb=>.inl hb⟩ (List.getElem?_eq_getElem j1) (aR ha hx) (aR ha hy) ⟨rfl,rfl⟩ fun w' hC kv=>ih B o ho _ w' ha (St.put ed fe hC kv.1 kv.2.1 fun b hb=>.inl hb))
 | @sri M x y v v' j j' z k zs xs t e e' ty o1 o2 all l rk Γ Γ1 Γx fr m h0 h1 h2 _ ih=>
  intro hT hx hy hl B o ho r w ha hs pos ab g
  obtain ⟨i,hi,rP⟩:=hT
  exact EY (E:=aA k) tV rfl hi rP hs hl h0 h1 .i h2 (aR ha hx) (aR ha hy) ⟨rfl,rfl⟩ fun w' h=>ih B o ho _ w' ha h
 | @srb M x y v v' j j' z zs xs t e e' ty o1 o2 all l rk Γ Γ1 Γx fr m h0 h1 h2 _ ih=>
  intro hT hx hy hl B o ho r w ha hs pos ab g
  obtain ⟨i,hi,rP⟩:=hT
  exact EY (E:=j5) zy rfl hi rP hs hl h0 h1 .b h2 (aR ha hx) (aR ha hy) ⟨rfl,rfl⟩ fun w' h=>ih B o ho _ w' ha h
 | @stm M α x y v u j z xs E t e ty all l rk Γ Γ1 Γx fr m h0 h1 h2 _ ih=>
  intro hT hx hy _ B o ho r w ha hs pos ab g
  obtain ⟨i,hi,rP⟩:=hT
  obtain ⟨Z,F,hS,hg⟩:=hs
  obtain ⟨j0,j1⟩:=h0.sound hS
  obtain ⟨dk,_,⟨⟨k,hk,yI⟩,_⟩,_⟩:=h1.sound hS
  obtain ⟨n,F1,hp,⟨us,gg,hO,hr,n4,Aw⟩,ed⟩:=h2.sound hS
  have fe:=hg.perm hp
  have cn:=List.nodup_append.1 fe.nd
  have uB:∀ b∈k,Z b:=fun b hb=>(yI b hb).elim id id
  have xR:∀ b∈n,¬ Z b:=fun b hb=>fe.apart b (List.mem_append_left _ hb)
  have hl:us.length=xs.length:=by have:=js hr; rw [Aw,Nat.mul_one] at this; exact this
  have ES:u2 v=us.length:=rm hO
  rw [ES,hl] at j1
  refine du (Gt.store (E:=aD E) (G:=n) (B:=w.heap.size) (g:=gg) (k:=k) hi rP ⟨us,⟨hO,cn.1,fun b hb=>.inl hb⟩,hr,Aw⟩ (List.getElem?_eq_getElem j1) (aR ha hx) (aR ha hy) hk (fun b hb hm=>xR b hm (uB b hb)) (fun b hb hm=>xR b hm (n4 b hb)) fun w' g' hC kv gx=>?_)
  obtain ⟨Dp,bw,ee,zA⟩:=kv
  exact ih B o ho _ w' ha (St.put ed fe hC ⟨Dp,_,bw.1,ee,(fun b hb=>(gx b hb).elim (n4 b) (uB b)),zA⟩ bw.2.1 fun b hb=>.inl hb)
 | @stw M α x y v u j z xs E t e e' ty all l rk Γ Γ1 Γ2 fr m h0 h1 h2 _ ih=>
  intro hT hx hy _ B o ho r w ha hs pos ab g
  obtain ⟨i,hi,rP⟩:=hT
  obtain ⟨Z,F,hS,hg⟩:=hs
  obtain ⟨j0,j1⟩:=h0.sound hS
  obtain ⟨k,F1,qv,hK,ed⟩:=h1.sound hS
  obtain ⟨n,F2,mx,hO,fw⟩:=h2.sound ed
  have xQ:((n++k)++F2).Perm F:=by
   refine .trans ?_ qv
   refine .trans ?_ (mx.append_left k)
   rw [← List.append_assoc k n F2]
   exact List.perm_append_comm.append_right F2
  have fe:Gd B Z ((n++k)++F2) w:=hg.perm xQ
  have cn:=List.nodup_append.1 fe.nd
  have wZ:=List.nodup_append.1 cn.1
  rw [rm hO] at j1
  exact du (WL.Ot (E:=aK e' E) (k:=k) (n++k) w.heap.size rfl hi rP ⟨hO,wZ.1,fun b hb=>.inl (List.mem_append_left _ hb)⟩ (List.getElem?_eq_getElem j1) (aR ha hx) (aR ha hy) hK wZ.2.1 (fun _ h=>.inl (List.mem_append_right _ h)) (fun b hb hm=>wZ.2.2 b hm b hb rfl) fun w' f' hC kv cg=>ih B o ho _ w' ha (St.put fw fe (hC.mono fun b hb=>List.mem_append_left _ hb) kv.1 kv.2.1 fun b hb=>(cg b hb).elim (fun h=>.inl (List.mem_append_left _ h)) fun h=>h.elim (fun h=>.inl (List.mem_append_right _ h)) .inr))
 | @LF M q d f xs vs ak ty all l rk Γ fr m hf hx _ ih=>
  intro B o ho r w ha hs pos ab g
  obtain ⟨fn,c,f1,f2,f3⟩:=hf.h
  refine ih B o ho r w ha hs pos ab g fun w'=>?_
  rw [CG f1 f2 f3,qk ha hx]
 | @cav M q d f x xs vs us ws as bs ak ty all l rk Γ fr m hv hx h1 h2 _ ih=>
  intro B o ho r w ha hs pos ab g
  refine ih.2 B o ho r w ha hs pos ab g fun w'=>?_
  obtain ⟨fn,c,f1,f2,f3⟩:=ih.1
  rw [Ou (aR ha hv) f1 f2 f3,qk ha hx,List.append_assoc,h1.eq,h2.eq]
 | @fa f j hf _ ih=>exact ⟨hf.h,ih⟩
 | @ia t a j hf _ ih=>exact ⟨hf.h,ih⟩
 | @im t name nm f j hf hn _ ih=>
  rw [lg] at hn
  subst hn
  exact ⟨f,hf.h,ih⟩
 | @cin M q d name t x u xs vs ak ty all l rk Γ fr m hv hx _ ih=>
  intro B o ho r w ha hs pos ab g
  obtain ⟨f,h1,h2⟩:=ih
  refine h2 B o ho r w ha hs pos ab g fun w'=>?_
  rw [LY h1 (aR ha hv),qk ha hx]
 | @mkf M q d f xs ys as bs ty all l rk Γ fr m hx hy _ ih=>
  intro B o ho r w ha hs pos ab g
  refine bz ?_ (ih B o ho _ w (aq ha) hs)
  intro w' _
  rw [Is,qk ha hx,qk ha hy]
 | @mki M q d x v t ty all l rk Γ fr m hf hx _ ih=>
  intro B o ho r w ha hs pos ab g
  obtain ⟨ds,h1,h2⟩:=hf.h
  exact bz (If h1 h2 _ (aR ha hx)) (ih B o ho _ w (aq ha) hs)
 | @tas M q d x u t a xt ty all l rk Γ fr m hx _ ih=>exact fun B o ho r w ha hs pos ab g=>bz (Ta ih.1 (aR ha hx)) (ih.2 B o ho _ w (aq ha) hs)
 | @atl M q d f x a n ak ty all l rk Γ fr m hf hx hc _ ih=>
  intro B o ho r w ha hs pos ab g
  obtain ⟨fn,h1,h2,h3,h4,h5⟩:=hf.h
  obtain ⟨Z,F,hS,hG⟩:=id hs
  exact bz (fun w' hC=>LZ h1 h2 h3 h4 h5 (aR ha hx) (hc.sound (hS.gf hC))) (ih B o ho _ w (aq ha) hs)
 | @ata M d f x y b j n z cs ds ak ty e all l rk Γ Γ1 fr m hf hx hy h0 h1 h2 _ ih=>
  intro B o ho r w ha hs pos ab g
  obtain ⟨fn,q1,q2,q3,q4,q5⟩:=hf.h
  obtain ⟨Z,F,hS,hg⟩:=hs
  obtain ⟨n0,F0,qu,⟨rfl,bh⟩,rW⟩:=h0.sound hS
  obtain ⟨e1,e2⟩:=h2.eq
  have e3:cs.set j (.int .i64 (aj (n+z)))=ds:=by rw [e2,List.set_eq_take_append_cons_drop,if_pos (by simp at e1; omega)]; simp
  refine du (WL.Xq q1 q2 q3 q4 q5 bh h1 (aR ha hx) (aR ha hy) fun w' hC qc=>ih B o ho _ w' (aq ha) (St.put (f:=[b]) (f':=[b]) rW (hg.perm qu) hC ⟨rfl,by rw [← e3]; exact qc⟩ (by simp) fun b hb=>.inl hb))
 | cvn=>exact fun B o ho=>nomatch ho
 | @cvq M β ow d f vs op ty Δ mo rt all l rk Γ fr g hc h0 h1 _ ih=>
  intro B o ho r w ha hs pos ab gg sJ
  obtain ⟨y,hy,ho⟩:=bind_some ho
  refine ⟨nq (rt y ()),?_,ih y B o ho _ w (aq ha) hs⟩
  intro w' hC
  unfold Oper.quietUpon
  rw [sJ w']
  refine ⟨rfl,?_⟩
  obtain ⟨Z,F,hS,hG⟩:=hs
  have Gv:=hS.gf hC
  have ju:=hG.gf hC
  rw [qb] at hc
  refine (hc.2 w' (fun b=>Z b∨b∈F) [] (h1.sound (fun _ h=>.inl h) (fun _ _ h=>.inr h) Gv h0.ho) List.nodup_nil (fun b hb=>absurd hb List.not_mem_nil)
   (fun b hb=>hb.elim (ju.ml b) (Gv.lt b)) y hy).mono ?_
  rintro e EW ⟨v,he,Z2,F2,_,gx⟩
  exact ⟨he,hC.trans gx.iH⟩
 | @cvw M β V ow d f vs op ty Δ mo rt ps all l rk Γ fr g hc _ _ ih=>exact ih hc
 | @czt M β V d f vs op ty Δ mo rt ps all l rk Γ Γ1 fr g h0 h1 _ ih=>
  intro hc B o ho r w ha hs pos ab gg sJ
  obtain ⟨y,hy,ho⟩:=bind_some ho
  unfold sH fc
  rw [sJ w]
  obtain ⟨Z,F,hS,hG⟩:=hs
  obtain ⟨Fd,F1,a1,a2,a3⟩:=h0.sound hS
  have lp:=hG.perm a3
  rw [qb] at hc
  exact (EX hc (Z':=fun b=>Z b∨b∈F1) (h1.sound (fun _ h=>.inl h) (fun _ _ h=>.inr h) a2 a1) a2 lp (fun _ h=>.inl h) (fun _ h=>h) (.inl (hc.1 rfl y)) hy).mono fun e w' ⟨v,h2,h3⟩=>⟨_,h2,ih y v B o ho _ w' (aq ha) h3⟩
 | @czf M β V d f vs op ty Δ mo rt ps all l rk Γ Γ1 fr g h0 _ ih=>
  intro hc B o ho r w ha hs pos ab gg sJ
  obtain ⟨y,hy,ho⟩:=bind_some ho
  unfold sH fc
  rw [sJ w]
  obtain ⟨Z,F,hS,hG⟩:=hs
  obtain ⟨Fd,F1,Zn,a1,a2,a3⟩:=h0.sound hS
  have lp:=Gd.freeze (hG.perm a3) fun b hb=>hS.lt b (a3.mem_iff.1 (List.mem_append_right _ hb))
  rw [qb] at hc
  exact (EX hc a1 a2 lp (fun _ h=>h) (fun _ h=>.inl h) (.inr fun _ h=>h) hy).mono fun e w' ⟨v,h2,h3⟩=>⟨_,h2,ih y v B o ho _ w' (aq ha) h3⟩
 | mo1 _ ih=>exact fun B o ho r w ha hs=>ih B o ho r w ha hs.back
 | mo2 _ ih=>exact fun B o ho r w ha hs=>ih B o ho r w ha hs.QU
 | mo0 _ ih=>exact fun B o ho r w ha hs=>ih B o ho r w ha hs
 | mn1 _ ih=>exact fun B o ho r w ha hs=>ih B o ho r w ha hs.back
 | mn2 _ ih=>exact fun B o ho r w ha hs=>ih B o ho r w ha hs.QU
 | mn0 _ ih=>exact fun B o ho r w ha hs=>ih B o ho r w ha hs
theorem loop {S S1 V:Type} (k:Nat) (Δ:S1→V→List aw) (φ:S1→V→Fr) (v0:V) (f2:Fr) {gn:List KI} {kb:Kb R S} {c:Code} {s0:S1} {body:S1→Option (Out S1 R)} {f:S1→Option (Out S R)} {Γ Γ1 Γ2:QE} {fr:Fr}
   (ha:rV fr (φ s0 v0)) (hf:rV fr f2) (h0:EO Γ (Δ s0 v0) Γ1) (hn:OW Γ (Δ s0 v0)) (hs:j6 Γ1 Γ2)
   (hb:∀ s v,D P cx (.p (φ s v) (Δ s v) f2 Γ2 fun fr Γ=>.c ⟨[],.loop V k Δ φ Γ2 f2⟩ c Γ fr (body s)))
   (hk:∀ s v,D P cx (.p (φ s v) (Δ s v) f2 Γ2 fun fr Γ=>.mn ⟨gn,kb⟩ Γ fr (f s))):Bx (mb P cx (.bk true k ⟨gn,kb⟩ (.loop c) Γ fr (ah (ae k (ai body s0)) f))):=by
 rw [lg]
 intro B o ho r w qt my
 refine J6 (T:=TT P cx B) (LI B Δ φ _ f2) ho ⟨v0,qn (ha.all qt) (hf.sound qt),my.enter h0 hn hs⟩ ?_ ?_ ?_
 ·intro x r w he hx
  subst he
  exact vH hx
 ·rintro s r w ⟨v,h1,h2⟩ o ho
  exact (hb s v).sound B o ho r w h1 h2
 ·rintro s r w ⟨v,h1,h2⟩ ho
  exact (hk s v).sound B o ho r w h1 h2
noncomputable def pc.{u,v,w} {A:Type u} {B:Type v} {C:Sort w} (f:A→B→C) (p:A×B):C:=Prod.rec (motive:=fun _=>C) f p
theorem jq {S S1 V A:Type} (k:Nat) (a0:A) (Δ:A→S1→V→List aw) (φ:A→S1→V→Fr) (v0:V) (f2:Fr) {gn:List KI} {kb:Kb R S} {c:Code} {s0:S1} {body:S1→Option (Out S1 R)} {f:S1→Option (Out S R)} {Γ Γ1 Γ2:QE} {fr:Fr}
   (ha:rV fr (φ a0 s0 v0)) (hf:rV fr f2) (h0:EO Γ (Δ a0 s0 v0) Γ1) (hn:OW Γ (Δ a0 s0 v0)) (hs:j6 Γ1 Γ2)
   (hb:∀ s v,D P cx (.p (φ a0 s v) (Δ a0 s v) f2 Γ2 fun fr Γ=>.c ⟨[],.loop V k (Δ a0) (φ a0) Γ2 f2⟩ c Γ fr (body s)))
   (hk:∀ s v,D P cx (.p (φ a0 s v) (Δ a0 s v) f2 Γ2 fun fr Γ=>.mn ⟨gn,kb⟩ Γ fr (f s))):Bx (mb P cx (.bk true k ⟨gn,kb⟩ (.loop c) Γ fr (ah (ae k (ai body s0)) f))):=
 loop k (Δ a0) (φ a0) v0 f2 ha hf h0 hn hs hb hk
theorem quiet {S:Type} {id:Nat} {K:dh R S} {ops:LO} {Γ:QE} {fr:Fr} {m:Option (Out S R)} (hB:(P.follows .mixedOrders && df cx.n ops && Region.lexB .any ops.toArray)=true) (h:D P cx (.rg (CF ops) true ops K Γ fr m)):Bx (mb P cx (.dr id ops K Γ fr m)):=by
 simp only [Bool.and_eq_true] at hB
 rw [lg]
 exact fun B o ho r w ha hs=>h.sound hB.1.2 (fun _=>⟨hB.1.1,hB.2⟩) B o ho r w ha hs _
theorem tail {S:Type} {id:Nat} (k:Nat) {K:dh R S} {l ops tl:LO} {Γ:QE} {fr:Fr} {m:Option (Out S R)} (hB:(P.follows .mixedOrders && df cx.n l && ((l.take k).all fun o=>w4 o.op) && Region.lexTailB .any l.toArray k)=true) (ho:ops=l.take k) (ht:tl=l.drop k)
  (h:D P cx (.o true l ops (.h l tl K) Γ fr m)):Bx (mb P cx (.dr id l K Γ fr m)):=by
 simp only [Bool.and_eq_true] at hB
 obtain ⟨⟨⟨h1,h2⟩,h3⟩,h4⟩:=hB
 subst ho ht
 rw [lg]
 intro B o ho r w ha hs
 exact TH k h1 h2 h3 h4 (an.refl _ _) (h.sound B o ho r w ha hs)
def Eo:Nat→List Value→Fr
 | _,[]=>[]
 | i,v :: l=>(i,v) :: Eo (i+1) l
theorem EZ {args:LV}:cu (fun t=>args.getD t undef) ((Eo 0 args).reverse++[]):=by
 refine qn ?_ wQ
 have key:∀ (l:LV) (i:Nat) (p:Nat×Value),p∈Eo i l→i≤p.1∧l[p.1 - i]? = some p.2:=by
  intro l
  induction l with
  | nil=>intro i p hp; cases hp
  | cons a l ih=>
   intro i p hp
   unfold Eo at hp
   rcases List.mem_cons.1 hp with rfl | hp
   ·simp
   ·obtain ⟨h1,h2⟩:=ih _ _ hp
    refine ⟨by omega,?_⟩
    rw [show p.1 - i=(p.1 - (i+1))+1 by omega]
    simpa using h2
 intro p hp
 obtain ⟨_,h⟩:=key args 0 p hp
 simp only [Nat.sub_zero] at h
 simp [List.getD_eq_getElem?_getD,h]
theorem cf {β V:Type} {post:β→V→List aw} (h:∀ y v,sG (post y v)=true):true=true→∀ y v,sG (post y v)=true:=fun _=>h
theorem Dq {β V:Type} {post:β→V→List aw}:false=true→∀ y v,sG (post y v)=true:=fun h=>nomatch h
theorem ct {f:FuncId} {fn:Func} {ow:Bool} {c:Code} {args:LV} {Δ:QE} {S V:Type} {m:Option (Out S R)} {ret:R→V→List Value} {post:R→V→List aw} (hw:ow=true→∀ y v,sG (post y v)=true) (hf:P.funcs[f]? = some fn) (hb:fn.body=some c) (hl:Nat.ble args.length fn.ntmps=true)
  (h:D P ⟨fn.ntmps,fn,V,ret,post⟩ (.p (Eo 0 args) Δ [] [] fun fr Γ=>.c ⟨[],.top⟩ c Γ fr m)):Ct P f ow (ao m) args Δ ret post:=by
 rw [qb]
 refine ⟨hw,?_⟩
 intro w Z F hh cn TJ bc y hy
 have hs:=h.sound
 obtain ⟨F',hp,hS⟩:=hh.build (Γ:=[]) (F:=[]) rfl
 rw [List.append_nil] at hp
 have my:St ⟨w,Z,F⟩ (Δ.reverse++[]) w:=⟨Z,F',hS,Gd.perm ⟨cn,TJ,bc,fun b hb=>.inl hb,fun _ h=>h,fun _ h=>.inl h,an.refl _ _⟩ hp⟩
 exact (J7 (Rr:=fun y e w'=>∃ v:V,e = .returned (nq (ret y v))∧Ly ⟨w,Z,F⟩ (post y v) w') hf hb rfl (Nat.le_of_ble_eq_true hl) (E0 hy)
  fun o ho=>hs ⟨w,Z,F⟩ o ho _ _ EZ my)
theorem ctv {f:FuncId} {fn:Func} {ow:Bool} {c:Code} {args:LV} {Δ:QE} {V:Type} {m:Option (Out R R)} {ret:R→V→List Value} {post:R→V→List aw} (hw:ow=true→∀ y v,sG (post y v)=true) (hf:P.funcs[f]? = some fn) (hb:fn.body=some c) (hl:Nat.ble args.length fn.ntmps=true)
  (h:D P ⟨fn.ntmps,fn,V,ret,post⟩ (.p (Eo 0 args) Δ [] [] fun fr Γ=>.c ⟨[],.N8⟩ c Γ fr m)):Ct P f ow (J8 m) args Δ ret post:=by
 rw [qb]
 refine ⟨hw,?_⟩
 intro w Z F hh cn TJ bc y hy
 have hs:=h.sound
 obtain ⟨F',hp,hS⟩:=hh.build (Γ:=[]) (F:=[]) rfl
 rw [List.append_nil] at hp
 have my:St ⟨w,Z,F⟩ (Δ.reverse++[]) w:=⟨Z,F',hS,Gd.perm ⟨cn,TJ,bc,fun b hb=>.inl hb,fun _ h=>h,fun _ h=>.inl h,an.refl _ _⟩ hp⟩
 exact (It (Rr:=fun y e w'=>∃ v:V,e = .returned (nq (ret y v))∧Ly ⟨w,Z,F⟩ (post y v) w') hf hb rfl (Nat.le_of_ble_eq_true hl) hy
  fun o ho=>hs ⟨w,Z,F⟩ o ho _ _ EZ my)
end
end Go.Dk
