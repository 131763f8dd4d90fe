/- A calculus of walks: that its rules hold. No condition. -/
import Derived.Test.YtkhdhnpokfibjaaGreatDa
import Derived.Test.YtkhdhnpokfibjaaGreatLn
namespace Go.Dk
open Go Go.Li
section
variable {Z Z':Nat→Prop} {w w':World} {cur F f:List Nat} {Γ Γ' Γ1 Δ:List Ent} {e:Ent} {B:Bs} {P:Program}
theorem Gd.left {F':List Nat} (h:Gd B Z (F++F') w):Gd B Z F w:=
 ⟨(List.nodup_append.1 h.nd).1,fun b hb=>h.apart b (List.mem_append_left _ hb),h.zlt,fun b hb=>h.low b (List.mem_append_left _ hb),h.zup,h.zlow,h.chg⟩
theorem HO.hl (h:OW Γ Δ):∀ {cur F F':List Nat},SA Z w Γ cur F'→HO Z w Δ F→HL Z w Δ F:=by
 induction h with
 | nil=>intro _ F _ _ h; cases h; exact .nil
 | own _ ih=>intro _ F _ hs h; cases h with | own h k=>exact .own h (ih hs k)
 | om _ ih=>intro _ F _ hs h; cases h with | own h k=>exact .own h (ih hs k)
 | row _ ih=>intro _ F _ hs h; cases h with | own h k=>exact .own h (ih hs k)
 | rd h _ ih=>intro _ F _ hs hh; cases hh with
  | own h k=>exact h.elim
  | rd k=>exact .fact (h.rd hs _) (ih hs k)
theorem FO.ho (h:FO Δ):HO Z w Δ []:=by
 induction h with
 | nil=>exact .nil
 | rd _ ih=>exact .rd ih
 | ats _ ih=>exact .ats ih
theorem Agr.all {fr g:Fr} {r:Nat→Value} (h:Agr fr g) (ha:agr r fr):∀ p∈g,r p.1=p.2:=by
 induction h with
 | nil=>intro p hp; cases hp
 | cons h _ ih=>intro p hp; rcases List.mem_cons.1 hp with rfl | hp; exact ha _ _ h; exact ih p hp
theorem agr_app {r:Nat→Value} {f:Fr}:∀ {g:Fr},(∀ p∈g,r p.1=p.2)→agr r f→agr r (g++f):=by
 intro g
 induction g with
 | nil=>intro _ h; exact h
 | cons a g ih=>
  intro hg h t v hl
  obtain ⟨s,u⟩:=a
  rw [List.cons_append] at hl
  unfold look at hl
  cases hb:Nat.beq t s with
  | true=>rw [hb] at hl; cases hl; rw [Nat.eq_of_beq_eq_true hb]; exact hg (s,v) (by simp)
  | false=>rw [hb] at hl; exact ih (fun p hp=>hg p (by simp [hp])) h t v hl
theorem agr_rev {r:Nat→Value} {f g:Fr} (hg:∀ p∈g,r p.1=p.2) (h:agr r f):agr r (g.reverse++f):=agr_app (fun p hp=>hg p (List.mem_reverse.1 hp)) h
theorem Strip.sound (h:Strip Γ Γ'):∀ {cur F:List Nat},SA Z w Γ cur F→SA Z w Γ' cur F:=by
 induction h with
 | nil=>intro _ _ h; exact h
 | own _ ih=>rintro _ _ ⟨f,F',h1,h2,h3⟩; exact ⟨f,F',h1,h2,ih h3⟩
 | om _ ih=>rintro _ _ ⟨f,F',h1,h2,h3⟩; exact ⟨f,F',h1,h2,ih h3⟩
 | row _ ih=>rintro _ _ ⟨f,F',h1,h2,h3⟩; exact ⟨f,F',h1,h2,ih h3⟩
 | rdf _ ih=>intro _ _ h; exact ⟨h.1,ih h.2⟩
 | rdt _ ih=>intro _ _ h; exact ⟨h.1,ih h.2⟩
 | ad _ ih=>intro _ _ h; exact ih h.2
 | ats _ ih=>intro _ _ h; exact ⟨h.1,ih h.2⟩
 | hd _ ih=>intro _ _ h; exact ih h.2
 | hol _ ih=>rintro _ _ ⟨f,F',h1,h2,h3⟩; exact ⟨f,F',h1,h2,ih h3⟩
theorem repL_fp {α:Type} {E:STy α} (hE:∀ {h:Array Obj} {cs:List Value} {x y:α} {f g:List Nat},E.rep h cs x f→E.rep h cs y g→f=g) {h:Array Obj}:∀ {xs ys:List α} {cs:List Value} {f g:List Nat},xs.length=ys.length→repL E h cs xs f→repL E h cs ys g→f=g:=by
 intro xs
 induction xs with
 | nil=>
  intro ys cs f g hl h1 h2
  cases ys with
  | nil=>obtain ⟨_,rfl⟩:=h1; obtain ⟨_,rfl⟩:=h2; rfl
  | cons y ys=>cases hl
 | cons x xs ih=>
  intro ys cs f g hl h1 h2
  cases ys with
  | nil=>cases hl
  | cons y ys=>
   obtain ⟨c,cs',f1,f2,rfl,rfl,a1,a2⟩:=h1
   obtain ⟨d,ds',g1,g2,e1,rfl,b1,b2⟩:=h2
   obtain ⟨rfl,rfl⟩:=List.append_inj e1 ((E.len a1).trans (E.len b1).symm)
   rw [hE a1 b1,ih (by simpa using hl) a2 b2]
theorem DT.fp {α:Type} {T:STy α} (h:DT T):∀ {h:Array Obj} {cs:List Value} {x y:α} {f g:List Nat},T.rep h cs x f→T.rep h cs y g→f=g:=by
 induction h with
 | i=>rintro h cs x y f g ⟨_,rfl⟩ ⟨_,rfl⟩; rfl
 | b=>rintro h cs x y f g ⟨_,rfl⟩ ⟨_,rfl⟩; rfl
 | @own α e E _ ih=>
  rintro h cs x y f g ⟨base,cap,rfl,a⟩ ⟨base',cap',e1,b⟩
  simp only [List.cons.injEq,Value.slice.injEq,and_true] at e1
  obtain ⟨rfl,hl,rfl⟩:=e1
  rcases a with ⟨rfl,_,_,rfl⟩ | ⟨b1,cr,f',rfl,a2,rfl,_,_,_,a3⟩
  ·rcases b with ⟨_,_,_,rfl⟩ | ⟨b1',cr',g',e1,_⟩
   ·rfl
   ·cases e1
  ·rcases b with ⟨e1,_⟩ | ⟨b1',cr',g',e1,c2,rfl,_,_,_,c3⟩
   ·cases e1
   ·cases e1
    rw [a2] at c2
    cases c2
    rw [hl] at a3
    rw [repL_fp ih hl a3 c3]
theorem In.ats {p:Addr} {cs:List Value} (h:In (.ats p cs) Γ):∀ {cur F:List Nat},SA Z w Γ cur F→∀ cur',fact Z w cur' (.ats p cs):=by
 induction h with
 | here=>intro cur F h cur'; exact h.1
 | @there a Γ _ ih=>
  intro cur F hS
  cases a with
  | own T v x=>obtain ⟨f,F',h1,h2,h3⟩:=hS; exact ih h3
  | om e E v xs=>obtain ⟨f,F',h1,h2,h3⟩:=hS; exact ih h3
  | row b cs e=>obtain ⟨f,F',h1,h2,h3⟩:=hS; exact ih h3
  | hol e E v xs j u=>obtain ⟨f,F',h1,h2,h3⟩:=hS; exact ih h3
  | _=>exact ih hS.2
theorem InW.get {α:Type} {T:STy α} {v:Value} {x:α} (h:InW (.rd true T v x) Γ):∀ {cur F:List Nat},SA Z w Γ cur F→fact Z w cur (.rd true T v x):=by
 induction h with
 | here=>intro cur F h; exact h.1
 | row _ ih=>rintro cur F ⟨f,F',h1,h2,h3⟩; exact ih h3
 | rd _ ih=>intro cur F h; exact ih h.2
 | ad _ ih=>intro cur F h; exact ih h.2
 | hd _ ih=>intro cur F h; exact ih h.2
 | ats _ ih=>intro cur F h; exact ih h.2
theorem InV.sound {α β:Type} {T:STy α} {v u:Value} {x:α} {T':STy β} {z:β} (h:InV T v x (.rd true T' u z) Γ):∀ {cur F:List Nat},SA Z w Γ cur F→∃ f,T.rep w.heap [v] x f∧fact Z w f (.rd true T' u z):=by
 induction h with
 | here h=>rintro cur F ⟨f,F',h1,h2,h3⟩; exact ⟨f,h2,h.get h3⟩
 | @there a Γ _ ih=>
  intro cur F hS
  cases a with
  | own T v x=>obtain ⟨f,F',h1,h2,h3⟩:=hS; exact ih h3
  | om e E v xs=>obtain ⟨f,F',h1,h2,h3⟩:=hS; exact ih h3
  | row b cs e=>obtain ⟨f,F',h1,h2,h3⟩:=hS; exact ih h3
  | hol e E v xs j u=>obtain ⟨f,F',h1,h2,h3⟩:=hS; exact ih h3
  | _=>exact ih hS.2
theorem MF.sound {o:Option Ent} (h:MF Γ o Δ) {cur F:List Nat} (hs:SA Z w Γ cur F):∀ {cur' Fd:List Nat},(∀ e,o=some e→owns Z w cur' e)→HO Z w Δ Fd→SA Z w Δ cur' Fd:=by
 induction h with
 | nil=>intro _ _ _ h; cases h; rfl
 | own _ ih=>intro _ _ _ h; cases h with | own h k=>exact ⟨_,_,rfl,h,ih (by rintro e he; cases he; exact h) k⟩
 | om _ ih=>intro _ _ _ h; cases h with | own h k=>exact ⟨_,_,rfl,h,ih (by rintro e he; cases he) k⟩
 | row _ ih=>intro _ _ ho h; cases h with | own h k=>exact ⟨_,_,rfl,h,ih ho k⟩
 | hol _ ih=>intro _ _ _ h; cases h with | own h k=>exact ⟨_,_,rfl,h,ih (by rintro e he; cases he) k⟩
 | rd h _ ih=>
  intro _ _ ho hh
  cases hh with
  | own h k=>exact h.elim
  | rd k=>exact ⟨h.rd hs _,ih ho k⟩
 | @rdt α β T v u x T' z Δ hd h _ ih=>
  intro cur' _ ho hh
  cases hh with
  | own h k=>exact h.elim
  | rd k=>
   obtain ⟨f,h1,h2⟩:=h.sound hs
   have h3:T.rep w.heap [v] x cur':=ho _ rfl
   rw [hd.fp h1 h3] at h2
   exact ⟨h2,ih ho k⟩
 | ats h _ ih=>
  intro _ _ ho hh
  cases hh with
  | own h k=>exact h.elim
  | ats k=>exact ⟨h.ats hs _,ih ho k⟩
theorem St.of {F':List Nat} (hs:SA Z w Γ [] F) (hg:Gd B Z F' w) (hp:F.Perm F'):St B Γ w:=⟨Z,F,hs,hg.perm hp⟩
theorem St.enter (h:St B Γ w) {Γ1 Γ2:List Ent} (h0:EO Γ Δ Γ1) (hw:OW Γ Δ) (h1:Strip Γ1 Γ2):St B (Δ.reverse++Γ2) w:=by
 obtain ⟨Z,F,hs,hg⟩:=h
 obtain ⟨Fd,F1,a1,a2,a3⟩:=h0.sound hs
 obtain ⟨F2,b1,b2⟩:=HL.build (HO.hl hw hs a1) (h1.sound a2)
 exact St.of b2 hg (b1.trans a3)
theorem St.again (h:St B Γ w) {Γ1 Γ2 Γ3:List Ent} (h0:EO Γ Δ Γ1) (hw:OW Γ Δ) (h1:EO Γ1 Γ2 Γ3) (h2:MF Γ none Γ2):St B (Δ.reverse++Γ2) w:=by
 obtain ⟨Z,F,hs,hg⟩:=h
 obtain ⟨Fd,F1,a1,a2,a3⟩:=h0.sound hs
 obtain ⟨Fd2,F3,c1,c2,c3⟩:=h1.sound a2
 obtain ⟨F2,b1,b2⟩:=HL.build (HO.hl hw hs a1) (h2.sound hs (cur':=[]) (by rintro e he; cases he) c1)
 refine St.of (F':=Fd++Fd2) b2 (Gd.left (F':=F3) (hg.perm ?_)) b1
 rw [List.append_assoc]
 exact (c3.append_left Fd).trans a3
theorem St.leave (h:St B Γ w) (h0:EF Γ Δ Γ1):StH B Δ w:=by
 obtain ⟨Z,F,hs,hg⟩:=h
 obtain ⟨Fd,F',Zn,a1,a2,a3⟩:=h0.sound hs
 refine ⟨_,Fd,a1,Gd.left (F':=F') (Gd.freeze (hg.perm a3) fun b hb=>hs.lt b (a3.mem_iff.1 (List.mem_append_right _ hb)))⟩
theorem St.back {β:Type} {e:TypeId} {E:STy β} {v u:Value} {xs:List β} {j:Int} {z:β} {Γ0:List Ent} (h:St B (.own E u z :: .hol e E v xs j u :: Γ0) w):St B (.own (aK e E) v (xs.set j.toNat z) :: Γ0) w:=by
 obtain ⟨Z,F,⟨k,F1,rfl,hk,f,F2,rfl,hf,hs⟩,hg⟩:=h
 obtain ⟨f',hp,hr⟩:=hf.2 w.heap (fun _ _=>rfl) z k hk
 have hp2:(f'++F2).Perm (k++(f++F2)):=by
  rw [← List.append_assoc]
  exact (hp.trans List.perm_append_comm).append_right F2
 refine ⟨Z,f'++F2,⟨f',F2,rfl,hr,?_⟩,hg.perm hp2⟩
 refine SA.mono (fun _ h=>h) (fun b hb=>hp.mem_iff.2 (List.mem_append_left _ hb)) hs
theorem St.back2 {α β:Type} {T:STy α} {v':Value} {x':α} {e:TypeId} {E:STy β} {v u:Value} {xs:List β} {j:Int} {z:β} {Γ0:List Ent} (h:St B (.own T v' x' :: .own E u z :: .hol e E v xs j u :: Γ0) w):St B (.own T v' x' :: .own (aK e E) v (xs.set j.toNat z) :: Γ0) w:=by
 obtain ⟨Z,F,⟨n,F0,rfl,hn,k,F1,rfl,hk,f,F2,rfl,hf,hs⟩,hg⟩:=h
 obtain ⟨f',hp,hr⟩:=hf.2 w.heap (fun _ _=>rfl) z k hk
 have hp2:(n++(f'++F2)).Perm (n++(k++(f++F2))):=by
  rw [← List.append_assoc k f F2]
  exact ((hp.trans List.perm_append_comm).append_right F2).append_left n
 refine ⟨Z,n++(f'++F2),⟨n,_,rfl,hn,f',F2,rfl,hr,?_⟩,hg.perm hp2⟩
 refine SA.mono (fun _ h=>h) (fun b hb=>hp.mem_iff.2 (List.mem_append_left _ hb)) hs
theorem erun_wl {R M:Type} {cx:Cx R} {all l:List Oper} {rk:RK R M} {o:M} {r:Nat→Value} {d:Option Nat} {op:Op} {ty:TypeId} {pos:String} {aft:Array Edge} {g:Option (Nat×Bool)}
  (h:WL P all (⟨d,op,ty,pos,aft,none⟩ :: l) r w (endRK P cx B rk o)):erun P cx B false ⟨d,op,ty,pos,aft,g⟩ all l rk o r w:=by
 rcases h with ⟨_,h⟩ | ⟨hw,_⟩
 ·exact h
 ·cases hw
theorem St.put {F1 f':List Nat} (hS:SA Z w Γ' [] F1) (hg:Gd B Z (f++F1) w) (hC:Chg f w w') (ho:owns Z w' f' e) (hn:f'.Nodup) (hs:∀ b∈f',b∈f∨w.heap.size≤b):St B (e :: Γ') w':=by
 have hnd:=List.nodup_append.1 hg.nd
 have hk:SA Z w' Γ' [] F1:=hS.keep hC (fun b hb=>hg.apart b (List.mem_append_left _ hb)) (fun b _=>List.not_mem_nil) (fun b hb hm=>hnd.2.2 b hb b hm rfl)
 refine ⟨Z,f'++F1,hk.cons ho,List.nodup_append.2 ⟨hn,hnd.2.1,?_⟩,?_,fun b hb=>Nat.lt_of_lt_of_le (hg.zlt b hb) hC.size,?_,hg.zup,hg.zlow,hg.chg.then hC fun i hi=>hg.low i (List.mem_append_left _ hi)⟩
 ·rintro b hb c hc rfl
  rcases hs b hb with h | h
  ·exact hnd.2.2 b h b hc rfl
  ·exact absurd (hS.lt b hc) (Nat.not_lt.2 h)
 ·intro b hb hz
  rcases List.mem_append.1 hb with hb | hb
  ·rcases hs b hb with h | h
   ·exact hg.apart b (List.mem_append_left _ h) hz
   ·exact absurd (hg.zlt b hz) (Nat.not_lt.2 h)
  ·exact hg.apart b (List.mem_append_right _ hb) hz
 ·intro b hb
  rcases List.mem_append.1 hb with hb | hb
  ·rcases hs b hb with h | h
   ·exact hg.low b (List.mem_append_left _ h)
   ·exact .inr (Nat.le_trans hg.chg.size h)
  ·exact hg.low b (List.mem_append_right _ hb)
theorem St.new (h:St B Γ w) {f':List Nat} (hC:Chg [] w w') (ho:∀ Z,owns Z w' f' e) (hn:f'.Nodup) (hs:∀ b∈f',w.heap.size≤b):St B (e :: Γ) w':=by
 obtain ⟨Z,F,hS,hg⟩:=h
 exact St.put (f:=[]) hS hg hC (ho Z) hn fun b hb=>.inr (hs b hb)
theorem Has.one {v:Value} (h:Has v Γ):∀ {cur F:List Nat},SA Z w Γ cur F→v.oneCell'=true:=by
 induction h with
 | @own α T x Γ=>rintro cur F ⟨f,F',_,h,_⟩; exact T.one h v (by simp)
 | @om α t E xs Γ=>rintro cur F ⟨f,F',_,⟨us,g,h,_⟩,_⟩; exact STy.one _ h v (by simp)
 | @rd o α T x Γ=>rintro cur F ⟨⟨g,h,_⟩,_⟩; exact T.one h v (by simp)
 | @there e Γ _ ih=>
  intro cur F hS
  cases e with
  | own T v x=>obtain ⟨f,F',h1,h2,h3⟩:=hS; exact ih h3
  | om e E v xs=>obtain ⟨f,F',h1,h2,h3⟩:=hS; exact ih h3
  | row b cs e=>obtain ⟨f,F',h1,h2,h3⟩:=hS; exact ih h3
  | hol e E v xs j u=>obtain ⟨f,F',h1,h2,h3⟩:=hS; exact ih h3
  | _=>exact ih hS.2
theorem One.one {v:Value} (h:One Γ v) (hS:SA Z w Γ cur F):v.oneCell'=true:=by
 cases h with
 | int=>rfl
 | bool=>rfl
 | ptr=>rfl
 | sl=>rfl
 | var h=>exact h.one hS
theorem Ones.one {vs:List Value} (h:Ones Γ vs) (hS:SA Z w Γ cur F):∀ u∈vs,u.oneCell'=true:=by
 induction h with
 | nil=>intro u hu; cases hu
 | cons h _ ih=>intro u hu; rcases List.mem_cons.1 hu with rfl | hu; exact h.one hS; exact ih u hu
theorem CellsD.eq {v:Value} {cs:List Value} (h:CellsD Γ v cs) (hS:SA Z w Γ cur F):v.cells.toList=cs:=by
 cases h with
 | agg=>rfl
 | one h=>rw [cells_one (h.one hS)]
theorem SegD.eq {us cs ds:List Value} {j:Nat} (h:SegD us j cs ds):j+us.length≤cs.length∧ds=cs.take j++us++cs.drop (j+us.length):=by
 induction h with
 | nil=>simp
 | put _ ih=>obtain ⟨h1,h2⟩:=ih; refine ⟨by simp at h1 ⊢; omega,?_⟩; rw [h2]; simp
 | s _ ih=>
  obtain ⟨h1,h2⟩:=ih
  refine ⟨by simp; omega,?_⟩
  rw [h2]
  rename_i us cs ds j _
  rw [show j+1+us.length=(j+us.length)+1 by omega]
  simp
theorem TakeD.eq {j n:Nat} {cs ds:List Value} (h:TakeD j n cs ds):ds.length=n∧(cs.drop j).take n=ds:=by
 induction h with
 | z=>simp
 | c _ ih=>obtain ⟨h1,h2⟩:=ih; simp at h2; simp [h1,h2]
 | s _ ih=>simpa using ih
theorem FndW.sound {a:Addr} {n:Nat} {ds:List Value} (h:FndW Γ a n ds):∀ {cur F:List Nat},SA Z w Γ cur F→At w a ds∧ds.length=n:=by
 induction h with
 | row h=>
  rintro cur F ⟨f,F',h1,⟨_,h2⟩,_⟩
  obtain ⟨e1,e2⟩:=h.eq
  have:=At.sub h2.at (by rw [e1]; exact e2)
  rw [addr_add,Nat.zero_add] at this
  exact ⟨this,e1⟩
 | «at» h=>rintro cur F ⟨⟨h1,_⟩,_⟩; obtain ⟨e1,e2⟩:=h.eq; exact ⟨At.sub h1 (by rw [e1]; exact e2),e1⟩
 | at0 h=>rintro cur F ⟨⟨h1,_⟩,_⟩; obtain ⟨e1,e2⟩:=h.eq; exact ⟨At.sub (j:=0) h1 (by rw [e1]; exact e2),e1⟩
 | @there a n ds e Γ _ ih=>
  intro cur F hS
  cases e with
  | own T v x=>obtain ⟨f,F',h1,h2,h3⟩:=hS; exact ih h3
  | om e E v xs=>obtain ⟨f,F',h1,h2,h3⟩:=hS; exact ih h3
  | row b cs e=>obtain ⟨f,F',h1,h2,h3⟩:=hS; exact ih h3
  | hol e E v xs j u=>obtain ⟨f,F',h1,h2,h3⟩:=hS; exact ih h3
  | _=>exact ih hS.2
theorem LenD.sound {v:Value} {n:Nat} (h:LenD Γ v n):∀ {cur F:List Nat},SA Z w Γ cur F→∃ b c,v = .slice b n c:=by
 induction h with
 | lit=>intro _ _ _; exact ⟨_,_,rfl⟩
 | ln=>rintro cur F ⟨⟨g,⟨⟨a,c,hv⟩,_⟩,_⟩,_⟩; exact ⟨a,c,by simpa using hv⟩
 | rd h=>rintro cur F ⟨⟨g,h1,_⟩,_⟩; exact imm_len (h.le.le h1)
 | own h=>rintro cur F ⟨f,F',_,h1,_⟩; exact imm_len (h.le.le h1)
 | om=>rintro cur F ⟨f,F',_,h1,_⟩; obtain ⟨⟨g,h2,_⟩,_⟩:=sl_om h1; exact imm_len h2
 | @there v n e Γ _ ih=>
  intro cur F hS
  cases e with
  | own T v x=>obtain ⟨f,F',h1,h2,h3⟩:=hS; exact ih h3
  | om e E v xs=>obtain ⟨f,F',h1,h2,h3⟩:=hS; exact ih h3
  | row b cs e=>obtain ⟨f,F',h1,h2,h3⟩:=hS; exact ih h3
  | hol e E v xs j u=>obtain ⟨f,F',h1,h2,h3⟩:=hS; exact ih h3
  | _=>exact ih hS.2
theorem LiI.sound {k:IntKind} {us:List Value} {xs:List Int} (h:LiI k us xs):∀ (hp:Array Obj),us.length=xs.length∧repL (aC k) hp us xs []:=by
 induction h with
 | nil=>intro h; exact ⟨rfl,rfl,rfl⟩
 | cons _ ih=>intro h; obtain ⟨e1,e2⟩:=ih h; exact ⟨by simp [e1],[_],_,[],[],rfl,rfl,⟨rfl,rfl⟩,e2⟩
theorem TkE.sound {α:Type} {E:STy α} {v:Value} {x:α} (h:TkE Γ E v x Γ') {F:List Nat} (hS:SA Z w Γ [] F):∃ f F',(f++F').Perm F∧E.rep w.heap [v] x f∧SA Z w Γ' [] F':=by
 cases h with
 | int=>exact ⟨[],F,.refl _,⟨rfl,rfl⟩,hS⟩
 | bool=>exact ⟨[],F,.refl _,⟨rfl,rfl⟩,hS⟩
 | own h=>obtain ⟨f,F1,hp,ho,hS1⟩:=h.sound hS; exact ⟨f,F1,hp,ho,hS1⟩
 | @lit b n us k xs e Γ1 _ h0 h1 hn hb=>
  obtain ⟨f0,F1,hp,⟨rfl,hrow⟩,hS1⟩:=h0.sound hS
  obtain ⟨e1,e2⟩:=LiI.sound h1 w.heap
  have hble:=Nat.le_of_ble_eq_true hb
  refine ⟨[b],F1,hp,⟨some ⟨b,0,none⟩,n,by rw [← hn,e1],.inr ⟨b,us.toArray,[],rfl,hrow,rfl,by rw [← hn,e1]; exact Nat.le_refl _,Nat.le_trans hble (by decide),by rw [show (aC k).size=1 from rfl,Nat.mul_one]; simp [hn],?_⟩⟩,hS1⟩
  rw [show (aC k).size=1 from rfl,Nat.mul_one,List.toList_toArray,← e1,List.take_length]
  exact e2
theorem TkL.sound {α:Type} {E:STy α} {us:List Value} {xs:List α} (h:TkL Γ E us xs Γ'):∀ {F:List Nat},SA Z w Γ [] F→us.length=xs.length∧∃ f F',(f++F').Perm F∧repL E w.heap us xs f∧SA Z w Γ' [] F':=by
 induction h with
 | nil=>intro F hS; exact ⟨rfl,[],F,.refl _,⟨rfl,rfl⟩,hS⟩
 | cons h _ ih=>
  intro F hS
  obtain ⟨f1,F1,p1,r1,S1⟩:=h.sound hS
  obtain ⟨e,f2,F2,p2,r2,S2⟩:=ih S1
  exact ⟨by simp [e],f1++f2,F2,(by rw [List.append_assoc]; exact (p2.append_left f1).trans p1),⟨[_],_,f1,f2,rfl,rfl,r1,r2⟩,S2⟩
theorem MpD.sound {κ υ:Type} {ek:κ→Value} {eu:υ→Value} {v:Value} {x:List (κ×υ)} (h:MpD ek eu Γ v x):∀ {cur F:List Nat},SA Z w Γ cur F→∃ f,(sMp ek eu).rep w.heap [v] x f:=by
 induction h with
 | own=>rintro cur F ⟨f,F',_,h2,_⟩; exact ⟨f,h2⟩
 | @there v x e Γ h ih=>
  intro cur F hS
  cases e with
  | own T v x=>obtain ⟨f,F',h1,h2,h3⟩:=hS; exact ih h3
  | om e E v xs=>obtain ⟨f,F',h1,h2,h3⟩:=hS; exact ih h3
  | row b cs e=>obtain ⟨f,F',h1,h2,h3⟩:=hS; exact ih h3
  | hol e E v xs j u=>obtain ⟨f,F',h1,h2,h3⟩:=hS; exact ih h3
  | _=>exact ih hS.2
theorem Rg.sound {v:Value} {j:Int} (h:Rg v j Γ):∀ {cur F:List Nat},SA Z w Γ cur F→0≤j∧j.toNat < slen v:=by
 induction h with
 | ad=>rintro cur F ⟨⟨h1,h2,_⟩,_⟩; exact ⟨h1,h2⟩
 | @there e Γ _ ih=>
  intro cur F hS
  cases e with
  | own T v x=>obtain ⟨f,F',h1,h2,h3⟩:=hS; exact ih h3
  | om e E v xs=>obtain ⟨f,F',h1,h2,h3⟩:=hS; exact ih h3
  | row b cs e=>obtain ⟨f,F',h1,h2,h3⟩:=hS; exact ih h3
  | hol e E v xs j u=>obtain ⟨f,F',h1,h2,h3⟩:=hS; exact ih h3
  | _=>exact ih hS.2
theorem nthP_eq {pl:List (Nat×Nat)} {i:Nat} {p:Nat×Nat} (h:nthP pl i=some p):pl[i]? = some p:=by
 induction pl generalizing i with
 | nil=>cases h
 | cons a l ih=>cases i with
  | zero=>simpa [nthP] using h
  | succ n=>simpa using ih h
theorem seg_fold:∀ (us:List Value) (off k:Nat) (cs:Array Value),off+k+us.length≤cs.size→
  ((us.zipIdx k).foldl (fun (cs:Array Value) (p:Value×Nat)=>cs.setIfInBounds (off+p.2) p.1) cs).toList=cs.toList.take (off+k)++us++cs.toList.drop (off+k+us.length):=by
 intro us
 induction us with
 | nil=>intro off k cs h; simp
 | cons u us ih=>
  intro off k cs h
  simp only [List.zipIdx_cons,List.foldl_cons]
  simp only [List.length_cons] at h
  rw [ih off (k+1) _ (by simp; omega)]
  rw [Array.toList_setIfInBounds,show off+(k+1)=(off+k)+1 by omega]
  have hs:cs.toList.length=cs.size:=Array.length_toList
  generalize hl:cs.toList=l at *
  generalize off+k=o at *
  obtain ⟨a,x,b,rfl,rfl⟩ : ∃ a x b,l=a++x :: b∧a.length=o:=⟨l.take o,l[o]'(by omega),l.drop (o+1),by rw [List.getElem_cons_drop,List.take_append_drop],by rw [List.length_take]; omega⟩
  have e1:(a++x :: b).set a.length u=a++u :: b:=by simp
  rw [e1,List.length_cons]
  have e2:(a++u :: b).take (a.length+1)=a++[u]:=by rw [List.take_append,List.take_of_length_le (by omega)]; simp
  have e3:(a++u :: b).drop (a.length+1+us.length)=b.drop us.length:=by rw [show a.length+1+us.length=a.length+(us.length+1) by omega,List.drop_append,List.drop_eq_nil_of_le (by omega)]; simp
  have e4:(a++x :: b).drop (a.length+(us.length+1))=b.drop us.length:=by rw [List.drop_append,List.drop_eq_nil_of_le (by omega)]; simp
  have e5:(a++x :: b).take a.length=a:=by simp
  rw [e2,e3,e4,e5]
  simp
theorem LitD.fill {fr:Fr} {r:Nat→Value} (ha:agr r fr) (hS:SA Z w Γ cur F) {k:Nat} {ps:List (Nat×Operand)} {us:List Value} (h:LitD Γ fr k ps us) :
  ∀ pre suf:List Value,pre.length=k→suf.length=us.length→Instr.fill (fun i=>some (i * 1,1)) (pre++suf).toArray (ps.map fun x=>(x.1,ev r x.2))=some (pre++us).toArray:=by
 induction h with
 | nil=>
  intro pre suf _ h2
  obtain rfl:suf=[]:=List.eq_nil_of_length_eq_zero h2
  rfl
 | @cons k x u ps us hx ho _ ih=>
  intro pre suf h1 h2
  cases suf with
  | nil=>cases h2
  | cons y suf=>
   have hc:=cells_one (ho.one hS)
   rw [List.map_cons,aU ha hx]
   unfold Instr.fill
   simp only [hc]
   rw [if_neg (by simp; omega)]
   have:=ih (pre++[u]) suf (by simp [h1]) (by simpa using h2)
   have e:(Array.foldl (fun cs (x:Value×Nat)=>cs.setIfInBounds (k * 1+x.2) x.1) (pre++y :: suf).toArray (#[u].zipIdx))=((pre++[u])++suf).toArray:=by
    subst h1
    simp
   first
    | (rw [e,this]; simp)
    | (simp only [e] at *; simp [this])
theorem LitD.op {P:Program} {fr:Fr} {r:Nat→Value} {w':World} {t e n:Nat} {ps:List (Nat×Operand)} {us:List Value} {d:Option Nat} {ty:TypeId} {pos:String} {aft:Array Edge} {g:Option (Nat×Bool)} (hl:LitD Γ fr 0 ps us) (ha:agr r fr) (hS:SA Z w Γ cur F) (hz:LTc P t e) (hn:us.length=n) (hb:(Nat.ble 1 n && Nat.ble n 16777216)=true) :
  (execOp (ev r) ⟨d,.buildSlice t n ps.toArray,ty,pos,aft,g⟩).run P w' = .ok (.value (.slice (some ⟨w'.heap.size,0,none⟩) n n)) (w'.alloc (.cells us.toArray e)):=by
 obtain ⟨h1,i,z,h2,h3,h4⟩:=hz.h
 rw [Bool.and_eq_true] at hb
 have b1:=Nat.le_of_ble_eq_true hb.1
 have b2:=Nat.le_of_ble_eq_true hb.2
 refine op_lit h1 h2 h3 h4 b1 b2 ?_
 have:=hl.fill ha hS [] ((Array.range (n * 1)).map (z.cells[· % z.cells.size]!)).toList rfl (by simp [hn])
 rw [List.nil_append,List.nil_append,Array.toArray_toList] at this
 rw [show (ps.toArray.map fun (x:Nat×Operand)=>(x.1,ev r x.2)).toList=ps.map fun x=>(x.1,ev r x.2) by simp]
 exact this
theorem LitSD.fill {n:Nat} {fr:Fr} {r:Nat→Value} (ha:agr r fr) (hS:SA Z w Γ cur F) {k:Nat} {ps:List (Nat×Operand)} {us:List Value} (h:LitSD Γ fr n k ps us) :
  us.length=ps.length * n∧∀ pre suf:List Value,pre.length=k * n→suf.length=us.length→Instr.fill (fun i=>some (i * n,n)) (pre++suf).toArray (ps.map fun x=>(x.1,ev r x.2))=some (pre++us).toArray:=by
 induction h with
 | nil=>
  refine ⟨by simp,fun pre suf _ h2=>?_⟩
  obtain rfl:suf=[]:=List.eq_nil_of_length_eq_zero h2
  rfl
 | @cons k x v cs us ws ps hx hc hl _ hcat ih=>
  obtain ⟨e0,ih⟩:=ih
  have hcat:=hcat.eq
  subst hcat
  refine ⟨by rw [List.length_append,hl,e0,List.length_cons,Nat.succ_mul,Nat.add_comm],fun pre suf h1 h2=>?_⟩
  rw [List.length_append] at h2
  have hv:=hc.eq hS
  have hcells:v.cells=cs.toArray:=by rw [← hv]
  rw [List.map_cons,aU ha hx]
  unfold Instr.fill
  simp only [hcells]
  rw [if_neg (by simp; omega)]
  have hsf:=seg_fold cs (k * n) 0 (pre++suf).toArray (by simp; omega)
  have:=ih (pre++cs) (suf.drop n) (by rw [List.length_append,h1,hl,Nat.succ_mul]) (by rw [List.length_drop]; omega)
  have e:(cs.toArray.zipIdx.foldl (fun (cs:Array Value) (x:Value×Nat)=>cs.setIfInBounds (k * n+x.2) x.1) (pre++suf).toArray)=((pre++cs)++suf.drop n).toArray:=by
   apply Array.toList_inj.1
   rw [← Array.foldl_toList]
   simp only [Array.toList_zipIdx]
   rw [hsf,← h1]
   simp only [Nat.add_zero,List.take_left',List.drop_append,List.append_assoc]
   rw [List.drop_eq_nil_of_le (by omega),show pre.length+cs.length - pre.length=n by omega]
   simp
  refine Eq.trans ?_ (this.trans (by simp))
  congr 1
theorem LitSD.op {P:Program} {fr:Fr} {r:Nat→Value} {w':World} {t e n k:Nat} {ps:List (Nat×Operand)} {us:List Value} {d:Option Nat} {ty:TypeId} {pos:String} {aft:Array Edge} {g:Option (Nat×Bool)} (hl:LitSD Γ fr k 0 ps us) (ha:agr r fr) (hS:SA Z w Γ cur F) (hz:LSc P t e k) (hn:ps.length=n) (hb:(Nat.ble 1 n && Nat.ble (n * k) 16777216)=true) :
  (execOp (ev r) ⟨d,.buildSlice t n ps.toArray,ty,pos,aft,g⟩).run P w' = .ok (.value (.slice (some ⟨w'.heap.size,0,none⟩) n n)) (w'.alloc (.cells us.toArray e)):=by
 obtain ⟨h1,i,z,h2,h3,h4,h5⟩:=hz.h
 rw [Bool.and_eq_true] at hb
 have b1:=Nat.le_of_ble_eq_true hb.1
 have b2:=Nat.le_of_ble_eq_true hb.2
 obtain ⟨e1,hf⟩:=hl.fill ha hS
 have:=hf [] ((Array.range (n * k)).map (z.cells[· % z.cells.size]!)).toList (by simp) (by simp [e1,hn])
 rw [List.nil_append,List.nil_append,Array.toArray_toList] at this
 have hpos:0 < n * k:=Nat.mul_pos b1 h5
 have h:=run_buildSlice (P:=P) w' t e n (ps.toArray.map fun (x:Nat×Operand)=>(x.1,ev r x.2)) us.toArray i z h1 h2 h3 (by rw [h4]; omega) (by rw [h4]; omega) (by rw [h4]; simpa using this)
 simp only [execOp]
 simp at h
 simp [h]
theorem FillD.fill {fr:Fr} {r:Nat→Value} {pl:List (Nat×Nat)} {ps:List (Nat×Operand)} {cs es:List Value} (h:FillD Γ fr pl ps cs es) (ha:agr r fr) (hS:SA Z w Γ cur F) :
  Instr.fill (fun i=>pl.toArray[i]?) cs.toArray (ps.map fun x=>(x.1,ev r x.2))=some es.toArray:=by
 induction h with
 | nil=>rfl
 | @cons i off k x v us cs ds es ps hp hx hc hl hs _ ih=>
  rw [List.map_cons,aU ha hx]
  have hv:=hc.eq hS
  have hp':pl.toArray[i]? = some (off,k):=by rw [List.getElem?_toArray]; exact nthP_eq hp
  obtain ⟨e1,e2⟩:=hs.eq
  have hsz:v.cells.size=us.length:=by rw [← hv]; simp
  unfold Instr.fill
  simp only [hp']
  rw [if_neg (by simp [hsz,hl]; omega)]
  have hcells:v.cells=us.toArray:=by rw [← hv]
  have:=seg_fold us off 0 cs.toArray (by simpa using e1)
  rw [hcells]
  have h2:(us.toArray.zipIdx.foldl (fun (cs:Array Value) (x:Value×Nat)=>cs.setIfInBounds (off+x.2) x.1) cs.toArray)=ds.toArray:=by
   apply Array.toList_inj.1
   rw [← Array.foldl_toList]
   simp only [Array.toList_zipIdx] 
   rw [this,e2]; simp
  refine Eq.trans ?_ ih
  congr 1
theorem own_slen {α:Type} {E:STy α} {t:TypeId} {v:Value} {xs:List α} {f:List Nat} (h:(aK t E).rep w.heap [v] xs f):slen v=xs.length:=by
 obtain ⟨base,cap,hv,_⟩:=h
 obtain rfl:v = .slice base xs.length cap:=by simpa using hv
 rfl
theorem ResD.sound {fr:Fr} {r:Nat→Value} (ha:agr r fr) {fn:Func} {rs:List ResultVar} {vs:List Value} (hr:fn.results=rs.toArray) (h:ResD P fr Γ rs vs) {n:Nat} (hs:SA Z w Γ [] F) :
  ∀ a:Act,a.tmps.size=n→rho a=r→(results fn a.tmps).run P w = .ok (tupv vs) w:=by
 rintro a - rfl
 have key:∀ {rs:List ResultVar} {vs:List Value},ResD P fr Γ rs vs→Sem.run P (rs.mapM fun | .tmp t=>pure (a.tmps.getD t undef) | .cell b t=>do loadVar t (← asAddr (a.tmps.getD b undef))) w = .ok vs w:=by
  intro rs vs h
  induction h with
  | nil=>rfl
  | @tmp t v l vs h _ ih=>
   rw [List.mapM_cons]
   have:=ha _ _ h
   simp only [rho] at this
   simp only [Sem.run_bind,this,ih,Sem.run_pure,Result.andThen_ok]
  | @cell t n ty p ds vs l hk h hw _ ih=>
   rw [List.mapM_cons]
   have:=ha _ _ h
   simp only [rho] at this
   obtain ⟨dd,i,k1,k2,k3,k4⟩:=hk.h
   obtain ⟨hc,hl⟩:=hw.sound hs
   have h3:=run_loadCells_list (P:=P) (w:=w) p ds hc
   rw [hl,← k4] at h3
   have h4:Sem.run P (do loadVar ty (← asAddr (a.tmps.getD t undef))) w = .ok (.agg ds.toArray) w:=by
    rw [this]
    simp [asAddr,loadVar,op_isAgg k1,k2,sizeOf,typeInfo,k3,h3]
   simp only [Sem.run_bind] at h4 ih ⊢
   rw [h4]
   simp only [ih,Sem.run_pure,Result.andThen_ok]
 have h2:=key h
 unfold results
 rw [hr,Sem.run_bind,List.mapM_toArray,← bind_pure_comp,Sem.run_bind]
 generalize hm:Sem.run P (List.mapM _ rs) w=z
 obtain rfl:z = .ok vs w:=hm.symm.trans h2
 simp only [Result.andThen_ok,Sem.run_pure]
 have e:∀ vs:List Value,(if h:vs.toArray.size=1 then vs.toArray[0] else Value.tuple vs.toArray)=tupv vs:=by
  intro vs
  match vs with
  | []=>rfl
  | [v]=>rfl
  | a :: b :: l=>rw [dif_neg (by simp)]; rfl
 rw [e]
end
end Go.Dk
namespace Go.Dk
open Go Go.Li
section
variable {B:Bs} {P:Program} {R:Type} {cx:Cx R}
theorem ql_wl {C:World→Prop} {ops:List Oper} {K:(Nat→Value)→World→Prop}:∀ (l':List Oper) (r:Nat→Value) (w:World),C w→QL P C ops l' r (fun r'=>∀ w',C w'→K r' w')→WL P ops l' r w K:=by
 intro l'
 induction l' with
 | nil=>intro r w hw hh; exact hh w hw
 | cons o l' ih=>
  intro r w hw hh
  rcases hh with ⟨hwt,v,hv,hh⟩ | ⟨hwt,hh⟩
  ·refine .inl ⟨hwt,?_⟩
   have h3:=hv w hw
   unfold OpW
   generalize (execOp (ev r) o).run P w=x at h3
   cases x with
   | halt y w'=>exact h3.elim
   | ok y w'=>
    cases y <;> simp only [Oper.quietUpon] at h3
    case value u=>obtain ⟨rfl,rfl⟩:=h3; exact ih _ _ hw hh
    case skip=>obtain ⟨rfl,rfl⟩:=h3; exact ih _ _ hw hh
    case enter f args=>
     obtain ⟨rfl,h3⟩:=h3
     exact h3.mono fun e w'' ⟨he,hw''⟩=>⟨v,he,ih _ _ hw'' hh⟩
  ·exact .inr ⟨hwt,ih _ _ hw hh⟩
theorem W_rg {n id:Nat} {draw:Bool} {ops:List Oper} {Q:Exit→(Nat→Value)→World→Prop} {r:Nat→Value} {w:World} (hd:dstOk n ops=true) (hm:draw=true→P.follows .mixedOrders=true∧Region.lexB .any ops.toArray=true)
  (h:QL P (Chg [] w) ops ops r fun r'=>∀ w',Chg [] w w'→Q .normal r' w'):W P n (.region id ops.toArray draw) Q r w:=by
 cases draw with
 | true=>exact W_quiet (hm rfl).1 hd (fun _=>(hm rfl).2) (Chg.refl _ _) (Chg.drew _ _) h
 | false=>exact W_region hd (ql_wl _ _ _ (Chg.refl _ _) h)
theorem Calls.of_ct {f:FuncId} {fn:Func} {c:Code} {xs:List Operand} {ats:Array TypeId} {r:Nat→Value} {w:World} {d:Option Nat} {ty:TypeId} {pos:String} {aft:Array Edge} {g:Option (Nat×Bool)} {K:Value→World→Prop}
  (hf : P.funcs[f]? = some fn) (hb : fn.body = some c) (hn : (fn.name == "runtime.NumGoroutine") = false)
  (h:Calls P f (xs.map (ev r)).toArray w fun e w'=>∃ v,e = .returned v∧K v w'):OpW P ⟨d,.call ⟨.value (.func f),xs.toArray,ats⟩,ty,pos,aft,g⟩ r w K:=by
 unfold OpW
 rw [op_callF hf hb hn]
 exact h
theorem hl_facts {Z:Nat→Prop} {w:World}:∀ {Δ:List Ent},(∀ e∈Δ,fact Z w [] e)→HL Z w Δ []:=by
 intro Δ
 induction Δ with
 | nil=>intro _; exact .nil
 | cons e Δ ih=>intro h; exact .fact (h e (by simp)) (ih fun e he=>h e (by simp [he]))
theorem hl_own {Z Z2:Nat→Prop} {w:World}:∀ {Δ:List Ent} {F:List Nat},owB Δ=true→HL Z2 w Δ F→HL Z w Δ F:=by
 intro Δ
 induction Δ with
 | nil=>intro F _ h; cases h; exact .nil
 | cons e Δ ih=>
  intro F ho h
  cases e with
  | own T v x=>cases h with
   | own h k=>exact .own h (ih ho k)
   | fact h k=>exact h.elim
  | row b cs e=>cases h with
   | own h k=>exact .own h (ih ho k)
   | fact h k=>exact h.elim
  | _=>cases ho
theorem call_step {f:FuncId} {ow:Bool} {vs:List Value} {Δ Γ1:List Ent} {β V:Type} {mo:Option β} {rt:β→V→List Value} {ps:β→V→List Ent} {w:World} {Z Z':Nat→Prop} {Fd F1:List Nat} {y:β} (hc:CtS P f ow vs Δ β V mo rt ps) (hl:HL Z' w Δ Fd) (a2:SA Z w Γ1 [] F1) (hG2:Gd B Z (Fd++F1) w)
  (hz:∀ b,Z b→Z' b) (hz2:∀ b,Z' b→Z b∨b∈F1) (hm:(∀ v,owB (ps y v)=true)∨∀ b,Z' b→Z b) (hy:mo=some y) :
  Calls P f vs.toArray w fun e w'=>∃ v,e = .returned (tupv (rt y v))∧St B ((ps y v).reverse++Γ1) w':=by
 have hnd:=List.nodup_append.1 hG2.nd
 refine (hc.2 w Z' Fd hl hnd.1 (fun b hb hzb=>(hz2 b hzb).elim (hG2.apart b (List.mem_append_left _ hb)) (fun h=>hnd.2.2 b hb b h rfl)) (fun b hb=>(hz2 b hb).elim (hG2.zlt b) (a2.lt b)) y hy).mono ?_
 rintro e w' ⟨v,he,Z2,F2,hl2,hg2⟩
 refine ⟨v,he,?_⟩
 have hC:Chg Fd w w':=hg2.chg
 have hF1:SA Z w' Γ1 [] F1:=a2.keep hC (fun b hb=>hG2.apart b (List.mem_append_left _ hb)) (fun b _=>List.not_mem_nil) (fun b hb hm=>hnd.2.2 b hb b hm rfl)
 have fin:∀ Z3:Nat→Prop,HL Z3 w' (ps y v) F2→(∀ b,Z b→Z3 b)→(∀ b,Z3 b→Z b∨b∈Fd∨w.heap.size≤b)→(∀ b∈F2,¬ Z3 b)→(∀ b,Z3 b→b < w'.heap.size)→St B ((ps y v).reverse++Γ1) w':=by
  intro Z3 hl' h31 h32 h33 h34
  obtain ⟨F3,b1,b2⟩:=hl'.build (hF1.mono h31 fun _ h=>h)
  refine St.of b2 (F':=F2++F1) ?_ b1
  refine ⟨List.nodup_append.2 ⟨hg2.nd,hnd.2.1,?_⟩,?_,h34,?_,fun b hb=>h31 b (hG2.zup b hb),?_,?_⟩
  ·rintro b hb c hc' rfl
   rcases hg2.low b hb with h | h
   ·exact hnd.2.2 b h b hc' rfl
   ·exact absurd (a2.lt b hc') (Nat.not_lt.2 h)
  ·intro b hb hz
   rcases List.mem_append.1 hb with hb | hb
   ·exact h33 b hb hz
   ·rcases h32 b hz with h | h | h
    ·exact hG2.apart b (List.mem_append_right _ hb) h
    ·exact hnd.2.2 b h b hb rfl
    ·exact absurd (a2.lt b hb) (Nat.not_lt.2 h)
  ·intro b hb
   rcases List.mem_append.1 hb with hb | hb
   ·rcases hg2.low b hb with h | h
    ·exact hG2.low b (List.mem_append_left _ h)
    ·exact .inr (Nat.le_trans hG2.chg.size h)
   ·exact hG2.low b (List.mem_append_right _ hb)
  ·intro b hb
   rcases h32 b hb with h | h | h
   ·exact hG2.zlow b h
   ·exact .inr (hG2.low b (List.mem_append_left _ h))
   ·exact .inr (.inr (Nat.le_trans hG2.chg.size h))
  ·exact hG2.chg.then hC fun i hi=>hG2.low i (List.mem_append_left _ hi)
 rcases hm with hm | hm
 ·exact fin Z (hl_own (hm v) hl2) (fun _ h=>h) (fun _ h=>.inl h) (fun b hb h=>hg2.apart b hb (hg2.zup b (hz b h))) (fun b hb=>Nat.lt_of_lt_of_le (hG2.zlt b hb) hC.size)
 ·exact fin Z2 hl2 (fun b h=>hg2.zup b (hz b h)) (fun b h=>(hg2.zlow b h).imp (hm b) id) hg2.apart hg2.zlt
theorem row_store {M α:Type} {rk:RK R M} {oo:M} {E E':STy α} {t:TypeId} {x y:Operand} {i:TypeInfo} {Γ Γ1 Γx:List Ent} {w:World} {r:Nat→Value} {v v' u:Value} {j j':Int} {e e':TypeId} {zs:List α} {xs:List (List α)} {z:α} {o1 o2:Bool} {all l:List Oper} {ty:TypeId} {pos:String} {aft:Array Edge} {g:Option (Nat×Bool)}
  (hE:∀ {h cs x f},E.rep h cs x f→f=[]) (h1:E.size=1) (hi:P.info? t=some i) (hs:i.size=1) (hS:St B Γ w) (hl:Loc Γ v (.row v' j')) (h0:Rg v j Γ) (hf:Fnd Γ v o1 o2 E' zs noE Γx) (hr:RT E E') (h2:Sel Γ (.own (aK e (aK e' E)) v' xs) Γ1)
  (hx:ev r x = .pointer (some (elA v 1 j))) (hy:ev r y=u) (hu:E.rep w.heap [u] z [])
  (k:∀ w',St B (.own (aK e (aK e' E)) v' (xs.set j'.toNat (zs.set j.toNat z)) :: Γ1) w'→WL P all l (updO r none undef) w' (endRK P cx B rk oo)):erun P cx B false ⟨none,.store t x y,ty,pos,aft,g⟩ all l rk oo r w:=by
 obtain ⟨Z,F,hS,hg⟩:=hS
 obtain ⟨j0,j1,hc⟩:=Loc.row hl rfl hS
 obtain ⟨r0,r1⟩:=h0.sound hS
 obtain ⟨cur',_,⟨⟨gg,hgg,_⟩,_⟩,_⟩:=hf.sound hS
 obtain ⟨f,F1,hp,hO,hS1⟩:=h2.sound hS
 have hg':=hg.perm hp
 have hnd:=List.nodup_append.1 hg'.nd
 have hlen:slen v'=xs.length:=own_slen hO
 rw [hlen] at j1
 obtain ⟨k0,g0,a1,a2,a3⟩:=own_hol rfl hO (List.getElem?_eq_getElem j1) hc
 have hro:RT (aK e' E) (aE E'):=.own hr
 have hz:xs[j'.toNat]=zs:=hro.det (hro.le.le a1) hgg
 rw [hz] at a1
 have hl2:slen v=zs.length:=own_slen a1
 rw [hl2] at r1
 have hkn:=List.nodup_append.1 (a2.nodup_iff.2 hnd.1)
 refine erun_wl (WL.storeEl (E:=E) k0 w.heap.size hE h1 hi hs ⟨a1,hkn.1,fun b hb=>.inl hb⟩ (List.getElem?_eq_getElem r1) hx hy hu fun w' hC hO'=>k w' ?_)
 have hkf:∀ b∈k0,b∈f:=fun b hb=>a2.mem_iff.1 (List.mem_append_left _ hb)
 obtain ⟨f',b1,b2⟩:=a3.2 w'.heap (fun b hb=>hC.block b (a3.1 b hb) fun hm=>hkn.2.2 b hm b hb rfl) _ k0 hO'.1
 have hpf:f'.Perm f:=b1.trans (List.perm_append_comm.trans a2)
 exact St.put hS1 hg' (hC.mono hkf) b2 (hpf.nodup_iff.2 hnd.1) fun b hb=>.inl (hpf.mem_iff.1 hb)
theorem D.sound {J:Jd R} (h:D P cx J):sem P cx J:=by
 induction h with
 | pf _ ih=>simpa [sem] using ih
 | pe _ ih=>simpa [sem] using ih
 | pz _ ih=>simpa [sem] using ih
 | @csp A B' y k _ _ ih0 ih1=>
  obtain ⟨a,z⟩:=y
  cases a with
  | none=>exact ih0 z
  | some a=>exact ih1 a z
 | @cso A y k _ _ ih0 ih1=>
  cases y with
  | none=>exact ih0
  | some a=>exact ih1 a
 | csd _ ih=>exact ih
 | tp1 _ ih=>exact ih
 | tp0 _ ih=>exact ih
 | tp2 _ ih=>exact ih
 | cnone=>exact fun B o ho=>nomatch ho
 | seq _ ih=>exact fun B o ho r w ha hs=>W_seq (ih B o ho r w ha hs)
 | skip _ ih=>exact fun B o ho r w ha hs=>W_skip (ih B o ho r w ha hs)
 | exit _ ih=>exact fun B o ho r w ha hs=>W_exit (ih B o ho r w ha hs)
 | cond hb _ ih=>exact fun B o ho r w ha hs=>W_cond (ha _ _ hb) (ih B o ho r w ha hs).1 (ih B o ho r w ha hs).2
 | cdt _ ih=>exact fun B o ho r w ha hs=>⟨fun _=>ih B o ho r w ha hs,fun h=>nomatch h⟩
 | cdf _ ih=>exact fun B o ho r w ha hs=>⟨(fun h=>nomatch h),fun _=>ih B o ho r w ha hs⟩
 | cds _ _ ih1 ih2=>exact fun B o ho r w ha hs=>⟨fun h=>ih1 B o (by rw [h] at ho; exact ho) r w ha hs,fun h=>ih2 B o (by rw [h] at ho; exact ho) r w ha hs⟩
 | ret hr _ h h1=>
  intro B o ho r w ha hs
  cases ho
  refine W_ret (postK_ret ?_)
  obtain ⟨Z,F,hS,hg⟩:=hs
  refine ⟨_,h.sound ha hr hS,?_⟩
  exact ⟨_,rfl,St.leave ⟨Z,F,hS,hg⟩ h1⟩
 | block _ ih=>exact fun B o ho r w ha hs=>ih B o ho r w ha hs
 | bkf _ ih=>exact fun B o ho r w ha hs=>W_block (ih B o ho r w ha hs)
 | bks h=>rw [bx_eq] at h; exact h
 | draw _ ih=>exact fun B o ho r w ha hs=>ih B o ho r w ha hs
 | drs h=>rw [bx_eq] at h; exact h
 | inj h=>rw [bx_eq] at h; exact h
 | region hd _ ih=>exact fun B o ho r w ha hs=>ih hd (fun h=>nomatch h) B o ho r w ha hs _
 | rgf _ ih=>exact fun hd _ B o ho r w ha hs id=>W_region hd (ih B o ho r w ha hs)
 | rgq _ ih=>exact fun hd hm B o ho r w ha hs id=>W_rg hd hm (ih B o ho r w ha hs)
 | rgt _ ih=>exact fun hd _=>ih hd
 | rwu _ ih=>exact fun hd B o ho r w ha hs id=>W_region hd (ih B o ho r w ha hs)
 | rwt _ ih=>exact fun hd B o ho r w ha hs id=>W_region hd (ih B o ho r w ha hs)
 | rwf ht _ _ _ ih ihk=>
  intro hd B o ho r w ha hs id
  obtain ⟨g,hg,ho⟩:=bind_some ho
  refine W_rg hd (fun h=>nomatch h) (QL.meet _ (ih B g hg r w ha hs) ?_)
  intro r' hr' w' hC
  obtain ⟨h1,h2⟩:=hr' w' hC
  refine ihk g B o ho r' w' ?_ (hs.keep0 hC)
  intro s u hl
  unfold look at hl
  cases hb:Nat.beq s _ with
  | true=>rw [hb] at hl; cases hl; rw [Nat.eq_of_beq_eq_true hb]; exact h1
  | false=>rw [hb] at hl; exact h2 s u hl
 | @osl S q _ K Γ fr m _ ih=>
  intro B o ho r w ha hs
  cases q with
  | false=>exact ih B o ho r w ha hs
  | true=>exact fun w' hC=>ih B o ho r w' ha (hs.keep0 hC)
 | @ohl S q all tail K Γ fr m _ ih=>
  intro B o ho r w ha hs
  cases q with
  | false=>exact ih B o ho r w ha hs
  | true=>exact fun w' hC=>ih B o ho r w' ha (hs.keep0 hC)
 | @as1 S α β q d op ty all l K Γ fr m f g _ ih=>
  intro B o ho
  refine ih B o ?_
  rw [← ho]
  cases m <;> rfl
 | @as2 S α β q d op ty al all tail l K Γ fr m f g _ ih=>
  intro B o ho
  refine ih B o ?_
  rw [← ho]
  cases m <;> rfl
 | tgn _ ih=>exact ih
 | tgg ht _ _ _ ih ihk=>
  intro B o ho r w ha hs
  obtain ⟨g,hg,ho⟩:=bind_some ho
  refine QL.meet _ (ih B g hg r w ha hs) ?_
  intro r' hr' w' hC
  obtain ⟨h1,h2⟩:=hr' w' hC
  refine ihk g B o ho r' w' ?_ (hs.keep0 hC)
  intro s u hl
  unfold look at hl
  cases hb:Nat.beq s _ with
  | true=>rw [hb] at hl; cases hl; rw [Nat.eq_of_beq_eq_true hb]; exact h1
  | false=>rw [hb] at hl; exact h2 s u hl
 | rgg ht _ _ _ ih ihk=>
  intro hd hm B o ho r w ha hs id
  obtain ⟨g,hg,ho⟩:=bind_some ho
  refine W_rg hd hm (QL.meet _ (ih B g hg r w ha hs) ?_)
  intro r' hr' w' hC
  obtain ⟨h1,h2⟩:=hr' w' hC
  refine ihk g B o ho r' w' ?_ (hs.keep0 hC)
  intro s u hl
  unfold look at hl
  cases hb:Nat.beq s _ with
  | true=>rw [hb] at hl; cases hl; rw [Nat.eq_of_beq_eq_true hb]; exact h1
  | false=>rw [hb] at hl; exact h2 s u hl
 | ntop hr _ h h1=>
  intro B o ho r w ha hs
  cases ho
  obtain ⟨Z,F,hS,hg⟩:=hs
  exact ⟨_,h.sound ha hr hS,⟨_,rfl,St.leave ⟨Z,F,hS,hg⟩ h1⟩⟩
 | nseq _ ih=>exact fun B o ho r w ha hs=>ih B o ho r w ha hs
 | nblk _ ih=>exact fun B o ho r w ha hs=>ih B o ho r w ha hs
 | @nloop S V k Δ φ Γ2 Γ Γ1 Γ3 f2 fr s v _ ha hf h0 hw h1 h2=>
  intro B o ho r w hag hs
  cases ho
  exact ⟨v,agr_rev (ha.all hag) (hf.sound hag),hs.again h0 hw h1 h2⟩
 | @xloop S V k Δ φ Γ2 Γ Γ1 Γ3 f2 fr s v _ ha hf h0 hw h1 h2=>
  intro B o ho r w hag hs
  cases ho
  refine ⟨rfl,?_⟩
  show (bif Nat.beq k k then _ else False)
  rw [show Nat.beq k k=true from Nat.beq_refl k]
  exact ⟨v,agr_rev (ha.all hag) (hf.sound hag),hs.again h0 hw h1 h2⟩
 | xseq _ ih=>exact fun B o ho r w ha hs=>ih B o ho r w ha hs
 | @xblk S its kb k j Γ fr m _ ih=>
  intro B o ho r w ha hs
  have:=ih B o ho r w ha hs
  show (bif Nat.beq k j then _ else _)
  cases hb:Nat.beq k j with
  | true=>rw [hb] at this; exact this
  | false=>rw [hb] at this; exact this
 | xbt _ ih=>exact fun B o ho r w ha hs=>ih B o ho r w ha hs
 | xbf _ ih=>exact fun B o ho r w ha hs=>ih B o ho r w ha hs
 | @onil S q _ K Γ fr m _ ih=>
  intro B o ho r w ha hs
  cases q with
  | false=>exact ih B o ho r w ha hs
  | true=>exact fun w' hC=>ih B o ho r w' ha (hs.keep0 hC)
 | @ogd q _ t f0 fr Γ b h k=>
  intro B o ho r w ha hs
  cases ho
  cases q with
  | false=>exact ⟨ha _ _ h,k.sound ha⟩
  | true=>exact fun w' hC=>⟨ha _ _ h,k.sound ha⟩
 | plain _ ih=>exact fun B o ho r w ha hs=>run_cons (wanted_none rfl) (ih B o ho r w ha hs _ _ _)
 | grd hj hv _ ih=>exact fun B o ho r w ha hs=>ih hj hv B o ho r w ha hs _ _
 | gtt _ ih=>exact fun hj hv B o ho r w ha hs pos aft=>run_cons ((wanted_at rfl hj (ha _ _ hv)).trans rfl) (ih B o ho r w ha hs _ _ _)
 | gff _ ih=>exact fun hj hv B o ho r w ha hs pos aft=>run_cons ((wanted_at rfl hj (ha _ _ hv)).trans rfl) (ih B o ho r w ha hs _ _ _)
 | gtf _ ih=>exact fun hj hv B o ho r w ha hs pos aft=>run_skip ((wanted_at rfl hj (ha _ _ hv)).trans rfl) (ih B o ho _ w (agr_cons ha) hs)
 | gft _ ih=>exact fun hj hv B o ho r w ha hs pos aft=>run_skip ((wanted_at rfl hj (ha _ _ hv)).trans rfl) (ih B o ho _ w (agr_cons ha) hs)
 | gun _ ih=>exact fun hj hv B o ho r w ha hs pos aft=>run_skip (wanted_undef rfl hj (ha _ _ hv)) (ih B o ho _ w (agr_cons ha) hs)
 | @gsb M α q b tt d op ty j t all l rk Γ fr m1 m2 f _ _ ih1 ih2=>
  intro hj hv B o ho r w ha hs pos aft
  have key:∀ c:Bool,b=c→agr r ((t,.bool c) :: fr)∧look ((t,Value.bool c) :: fr) t=some (.bool c):=by
   intro c hc
   refine ⟨?_,by unfold look; rw [show Nat.beq t t=true from Nat.beq_refl t]; rfl⟩
   intro s u hl
   unfold look at hl
   cases hb:Nat.beq s t with
   | true=>rw [hb] at hl; cases hl; rw [Nat.eq_of_beq_eq_true hb,← hc]; exact ha _ _ hv
   | false=>rw [hb] at hl; exact ha s u hl
  cases b with
  | true=>exact ih1 hj (key true rfl).2 B o ho r w (key true rfl).1 hs pos aft
  | false=>exact ih2 hj (key false rfl).2 B o ho r w (key false rfl).1 hs pos aft
 | @gsp M q b tt d op ty j t all l rk Γ fr m1 m2 _ _ ih1 ih2=>
  intro hj hv B o ho r w ha hs pos aft
  have key:∀ c:Bool,b=c→agr r ((t,.bool c) :: fr)∧look ((t,Value.bool c) :: fr) t=some (.bool c):=by
   intro c hc
   refine ⟨?_,by unfold look; rw [show Nat.beq t t=true from Nat.beq_refl t]; rfl⟩
   intro s u hl
   unfold look at hl
   cases hb:Nat.beq s t with
   | true=>rw [hb] at hl; cases hl; rw [Nat.eq_of_beq_eq_true hb,← hc]; exact ha _ _ hv
   | false=>rw [hb] at hl; exact ha s u hl
  cases b with
  | true=>exact ih1 hj (key true rfl).2 B o ho r w (key true rfl).1 hs pos aft
  | false=>exact ih2 hj (key false rfl).2 B o ho r w (key false rfl).1 hs pos aft
 | @assoc α β q d op ty all l gt g0 Γ fr m f g _ ih=>
  intro B o ho
  refine ih B o ?_
  rw [← ho]
  cases m <;> rfl
 | mv hx _ ih=>exact fun B o ho r w ha hs pos aft g=>erun_of (Mv _ (aU ha hx)) (ih B o ho _ w (agr_cons ha) hs)
 | as hx _ ih=>exact fun B o ho r w ha hs pos aft g=>erun_of (Av _ (aU ha hx)) (ih B o ho _ w (agr_cons ha) hs)
 | add hx hy _ ih=>exact fun B o ho r w ha hs pos aft g=>erun_of (Ba (aU ha hx) (aU ha hy)) (ih B o ho _ w (agr_cons ha) hs)
 | sub hx hy _ ih=>exact fun B o ho r w ha hs pos aft g=>erun_of (Go.Li.Bs (aU ha hx) (aU ha hy)) (ih B o ho _ w (agr_cons ha) hs)
 | mul hx hy _ ih=>exact fun B o ho r w ha hs pos aft g=>erun_of (Bm (aU ha hx) (aU ha hy)) (ih B o ho _ w (agr_cons ha) hs)
 | lss hx hy _ ih=>exact fun B o ho r w ha hs pos aft g=>erun_of (Bl (aU ha hx) (aU ha hy)) (ih B o ho _ w (agr_cons ha) hs)
 | leq hx hy _ ih=>exact fun B o ho r w ha hs pos aft g=>erun_of (Bk (aU ha hx) (aU ha hy)) (ih B o ho _ w (agr_cons ha) hs)
 | gtr hx hy _ ih=>exact fun B o ho r w ha hs pos aft g=>erun_of (Bg (aU ha hx) (aU ha hy)) (ih B o ho _ w (agr_cons ha) hs)
 | geq hx hy _ ih=>exact fun B o ho r w ha hs pos aft g=>erun_of (Bh (aU ha hx) (aU ha hy)) (ih B o ho _ w (agr_cons ha) hs)
 | eql hx hy hb _ ih=>
  intro B o ho r w ha hs pos aft g
  refine erun_of ?_ (ih B o ho _ w (agr_cons ha) hs)
  cases hb with
  | int=>exact Be (aU ha hx) (aU ha hy)
  | @bool a b h=>exact fun _ _=>op_binB (aU ha hx) (aU ha hy) h.h
  | @ptr1 a h=>exact Bpe1 h.h (aU ha hx) (aU ha hy)
  | @ptr0 h=>exact Bpe0 h.h (aU ha hx) (aU ha hy)
  | @s2 k0 k1 a b c e h=>
   obtain ⟨f0,f1,h1,h2,h3,h4,h5,h6,h7,h8,h9⟩:=h.h
   exact fun _ _=>op_eqlS2 h1 h2 h3 h4 h5 h6 h7 h8 h9 (aU ha hx) (aU ha hy)
 | neq hx hy hb _ ih=>
  intro B o ho r w ha hs pos aft g
  refine erun_of ?_ (ih B o ho _ w (agr_cons ha) hs)
  cases hb with
  | int=>exact Bn (aU ha hx) (aU ha hy)
  | @bool a b h=>exact fun _ _=>op_binBn (aU ha hx) (aU ha hy) h.h
  | @ptr1 a h=>exact Bpn1 h.h (aU ha hx) (aU ha hy)
  | @ptr0 h=>exact Bpn0 h.h (aU ha hx) (aU ha hy)
  | @s2 k0 k1 a b c e h=>
   obtain ⟨f0,f1,h1,h2,h3,h4,h5,h6,h7,h8,h9⟩:=h.h
   exact fun _ _=>op_neqS2 h1 h2 h3 h4 h5 h6 h7 h8 h9 (aU ha hx) (aU ha hy)
 | not hx _ ih=>exact fun B o ho r w ha hs pos aft g=>erun_of (Nt (aU ha hx)) (ih B o ho _ w (agr_cons ha) hs)
 | neg hx _ ih=>exact fun B o ho r w ha hs pos aft g=>erun_of (Ng (aU ha hx)) (ih B o ho _ w (agr_cons ha) hs)
 | nilc hx _ ih=>exact fun B o ho r w ha hs pos aft g=>erun_of (Nk (aU ha hx)) (ih B o ho _ w (agr_cons ha) hs)
 | @pick M q d c x y ty b v all l rk Γ fr m hc hx _ ih=>
  intro B o ho r w ha hs pos aft g
  refine erun_of ?_ (ih B o ho _ w (agr_cons ha) hs)
  intro w' _
  rw [op_pick (aU ha hc)]
  cases b
  ·rw [← aU ha hx]; rfl
  ·rw [← aU ha hx]; rfl
 | @fld M q d s k off x cs v ty all l rk Γ fr m hf hx hc _ ih=>
  intro B o ho r w ha hs pos aft g
  obtain ⟨fs,f,ds,h1,h2,h3,h4,h5⟩:=hf.h
  exact erun_of (fun _ _=>op_field h1 h2 h3 h4 h5 (aU ha hx) (by simpa using hc)) (ih B o ho _ w (agr_cons ha) hs)
 | ext hx hv _ ih=>exact fun B o ho r w ha hs pos aft g=>erun_of (Ex _ (aU ha hx) (by simpa using hv)) (ih B o ho _ w (agr_cons ha) hs)
 | @fad M q d s k off x ty a a' all l rk Γ fr m hf hx hq _ ih=>
  intro B o ho r w ha hs pos aft g
  refine erun_of ?_ (ih B o ho _ w (agr_cons ha) hs)
  rw [hq.eq]
  exact Fp hf.h (aU ha hx)
 | @len M q d n x v t ty all l rk Γ fr m ht hx hr _ ih=>
  intro B o ho r w ha hs pos aft g
  obtain ⟨Z,F,hS,_⟩:=id hs
  obtain ⟨b,c,rfl⟩:=hr.sound hS
  obtain ⟨e,i,h1,_,_⟩:=ht.h
  exact erun_of (fun _ _=>op_len h1 (aU ha hx)) (ih B o ho _ w (agr_cons ha) hs)
 | @idx M α q d x y v k j t ty o1 o2 E xs Γ' all l rk Γ fr f ht hx hy hr hE _ ih=>
  intro B o ho r w ha hs pos aft g
  obtain ⟨z,hz,ho⟩:=bind_some ho
  replace hz:=idx_some hz
  obtain ⟨Z,F,hS,hG⟩:=hs
  obtain ⟨cur',_,⟨⟨n,hn,_⟩,hel⟩,hins⟩:=(hr z).sound hS
  exact erun_of (Ix ht.h hn hz (aU ha hx) (aU ha hy) hE) (ih z B o ho _ w (agr_cons ha) ⟨Z,F,hins (hel hE j z hz.1 hz.2),hG⟩)
 | maxi hx hy _ ih=>exact fun B o ho r w ha hs pos aft g=>erun_of (fun _ _=>op_max (aU ha hx) (aU ha hy)) (ih B o ho _ w (agr_cons ha) hs)
 | mini hx hy _ ih=>exact fun B o ho r w ha hs pos aft g=>erun_of (fun _ _=>op_min (aU ha hx) (aU ha hy)) (ih B o ho _ w (agr_cons ha) hs)
 | @lkp M κ υ q d x y v t ty bq ek eu xs a z0 all l rk Γ fr m ht hz hx hy hr _ ih=>
  intro B o ho r w ha hs pos aft g
  obtain ⟨Z,F,hS,_⟩:=id hs
  obtain ⟨f,hm⟩:=hr.sound hS
  obtain ⟨kt,vt,kd,h1,h2,h3⟩:=ht.h
  obtain ⟨kt',vt',i,g1,g2,g3⟩:=hz.h
  rw [h1] at g1
  cases g1
  exact erun_of (fun w' hC=>op_mapGet (ek:=ek) (ev':=eu) h3 h1 h2 g2 g3 (by rw [aU ha hx]; exact STy.keep _ hm hC fun _ _=>List.not_mem_nil) (aU ha hy)) (ih B o ho _ w (agr_cons ha) hs)
 | @asl M α q d b n x us E xs e ty all l rk Γ Γ1 Γ2 fr m hx h0 h1 hE hn hb _ ih=>
  intro B o ho r w ha hs pos aft g
  have he:=aU ha hx
  refine erun_of (v:=.slice (some ⟨b,0,none⟩) n n) (fun _ _=>by rw [← he]; rfl) (ih B o ho _ w (agr_cons ha) ?_)
  obtain ⟨Z,F,hS,hg⟩:=hs
  obtain ⟨f0,F1,hp,⟨rfl,hrow⟩,hS1⟩:=h0.sound hS
  obtain ⟨e1,f,F2,hp2,hr,hS2⟩:=h1.sound hS1
  have hble:=Nat.le_of_ble_eq_true hb
  refine ⟨Z,([b]++f)++F2,⟨[b]++f,F2,rfl,⟨some ⟨b,0,none⟩,n,by rw [← hn,e1],.inr ⟨b,us.toArray,f,rfl,hrow,rfl,by rw [← hn,e1]; exact Nat.le_refl _,Nat.le_trans hble (by decide),by rw [hE,Nat.mul_one]; simp [hn],?_⟩⟩,hS2.any⟩,hg.perm (by rw [List.append_assoc]; exact (hp2.append_left [b]).trans hp)⟩
  rw [hE,Nat.mul_one,List.toList_toArray,← e1,List.take_length]
  exact hr
 | @lnm M κ υ q d x v t ty bq ek eu xs all l rk Γ fr m ht hx hr _ ih=>
  intro B o ho r w ha hs pos aft g
  obtain ⟨Z,F,hS,_⟩:=id hs
  obtain ⟨f,hm⟩:=hr.sound hS
  obtain ⟨kt,vt,kd,h1,_,_⟩:=ht.h
  exact erun_of (fun w' hC=>op_lenM (ek:=ek) (ev':=eu) h1 (by rw [aU ha hx]; exact STy.keep _ hm hC fun _ _=>List.not_mem_nil)) (ih B o ho _ w (agr_cons ha) hs)
 | @cvb M q d x k k2 n s t ty all l rk Γ fr m ht hx _ ih=>
  intro B o ho r w ha hs pos aft g
  exact erun_of (fun _ _=>op_conv ht.h.1 ht.h.2 (aU ha hx)) (ih B o ho _ w (agr_cons ha) hs)
 | @ari M q d op x y k k' a b t t' ty all l rk Γ fr f hx hy hk _ ih=>
  intro B o ho r w ha hs pos aft g
  obtain ⟨z,hz,ho⟩:=bind_some ho
  have hk':shB op=true∨k=k':=by
   cases hk with
   | same=>exact .inr rfl
   | sh h=>exact .inl h
  exact erun_of (fun _ _=>op_aop (aU ha hx) (aU ha hy) hk' hz) (ih z B o ho _ w (agr_cons ha) hs)
 | @cvs M q o1 o2 d x v xs s t ty all l rk Γ Γx fr m ht hx hr _ ih=>
  intro B o ho r w ha hs pos aft g
  obtain ⟨e,h1,h2,h3⟩:=ht.h
  obtain ⟨Z,F,hS,_⟩:=id hs
  obtain ⟨cur',_,⟨⟨f0,hf0,_⟩,_⟩,_⟩:=hr.sound hS
  exact erun_of (fun w' hC=>op_convS h1 h2 h3 (by rw [aU ha hx]; exact STy.keep _ hf0 hC fun _ _=>List.not_mem_nil)) (ih B o ho _ w (agr_cons ha) hs)
 | @mkm M κ υ d t ty bq ek eu all l rk Γ fr m ht _ ih=>
  intro B o ho r w ha hs pos aft g
  exact erun_wl (WL.val rfl op_makeMap (ih _ B o ho _ _ (agr_cons ha) (hs.new (f':=[w.heap.size]) (Chg.alloc _ _ _) (fun _=>⟨w.heap.size,#[],0,rfl,rfl,(MapKept.heap_alloc w _).1,rfl⟩) (by simp) (one_new (Nat.le_refl _)))))
 | @mpu M κ υ x y z v t ty bq ek eu xs a b all l rk Γ Γ1 fr m ht hx hy hz h1 _ ih=>
  intro B o ho r w ha hs pos aft g
  obtain ⟨kt,vt,kd,q1,q2,q3⟩:=ht.h
  obtain ⟨Z,F,hS,hg⟩:=hs
  obtain ⟨n,F1,hp,hO,hS1⟩:=h1.sound hS
  obtain ⟨i,es,ck,rfl,e1,e2⟩:=op_mapPut (P:=P) (d:=none) (ty:=ty) (pos:=pos) (aft:=aft) (g:=none) (ek:=ek) (ev':=eu) (a:=a) (b:=b) (x:=x) (k:=y) (v:=z) (r:=r) q3 q1 q2 (by rw [aU ha hx]; exact hO) (aU ha hy) (aU ha hz)
  rw [aU ha hx] at e2
  exact erun_wl (WL.skip rfl e1 (ih B o ho _ _ ha (St.put (f:=[i]) (f':=[i]) hS1 (hg.perm hp) (Chg.setObj _ _ _) e2 (by simp) fun b hb=>.inl hb)))
 | @lenS M q d n k x v t ty all l rk Γ fr m ht hx hr _ ih=>
  intro B o ho r w ha hs pos aft g
  obtain ⟨Z,F,hS,_⟩:=id hs
  obtain ⟨e,i,h1,_,_⟩:=ht.h
  obtain ⟨b,c,hv⟩:=hr.sound hS
  exact erun_of (v:=.int .i64 (n:Int)) (fun _ _=>op_len h1 ((aU ha hx).trans hv)) (ih B o ho _ w (agr_cons ha) hs)
 | @idxS M α V q d n x y v k j t ty S cl en xs all l rk Γ Γx fr f ht hx hy hr hso hn _ ih=>
  intro B o ho r w ha hs pos aft g
  replace hso:SO S V cl en:=by cases hso; assumption
  obtain ⟨z,hz,ho⟩:=bind_some ho
  replace hz:=idx_some hz
  obtain ⟨e,i,h1,h2,h3⟩:=ht.h
  obtain ⟨Z,F,hS,hG⟩:=hs
  obtain ⟨cur',_,⟨⟨f0,hf0,hb0⟩,_⟩,_⟩:=hr.sound hS
  have hZ:∀ b∈f0,Z b:=fun b hb=>(hb0 b hb).elim id id
  obtain ⟨⟨a,c,hv⟩,hlt,cs,f1,hrep,hf1,hcell⟩:=imm_get hf0 j hz.1 hz.2
  have hn':(sStr S).size=n:=hn
  rw [hn'] at hcell
  obtain ⟨u,rfl,hen⟩:=hso.op hrep.2
  have hblk:Z (elA v n j).block:=by
   obtain ⟨base,cap,hv',hr'⟩:=hf0
   rcases hr' with ⟨rfl,_⟩ | ⟨b,off,cr,e',fz,f',rfl,_,rfl,_⟩
   ·simp at hlt; omega
   ·obtain rfl:v = .slice (some ⟨b,off,none⟩) xs.length cap:=by simpa using hv'
    have:(elA (.slice (some ⟨b,off,none⟩) xs.length cap) n j).block=b:=by unfold elA; rw [add_block]
    rw [this]; exact hZ b (by simp)
  have hAt:fact Z w [] (.ats (elA v n j) (cl z u)):=⟨fun i u' hi=>hcell i u' hi,fun _=>hblk⟩
  have hall:HL Z w (.ats (elA v n j) (cl z u) :: en z u) []:=.fact hAt (hl_facts (hen Z fun b hb=>hZ b (hf1 b hb)))
  obtain ⟨F',hp,hS2⟩:=hall.build hS
  refine erun_of (v:=.pointer (some (elA v n j))) (fun w' hC=>?_) (ih z u B o ho _ w (agr_cons ha) ⟨Z,F',hS2,hG.perm (by simpa using hp)⟩)
  rw [op_indexAddr h1 h2 ((aU ha hx).trans hv) (aU ha hy) hz.1 (by omega),h3,hv]
  rfl
 | @load M q d x a t ty lk all l rk Γ fr m ht hx _ ih=>exact fun B o ho r w ha hs pos aft g=>ih ht.h hx B o ho r w ha hs _ _ _ _
 | @lel M α q d x v j ty o E z Γx all l rk Γ fr m h _ ih=>
  intro ht hx B o ho r w ha hs t pos aft g
  obtain ⟨Z,F,hS,_⟩:=id hs
  obtain ⟨_,⟨u,k,h1,h2,_⟩,_⟩:=h.sound hS
  exact ih ht hx B o ho r w ha hs ⟨u,k,h1,h2⟩ _ _ _ _
 | lce h _ ih=>
  intro ht hx B o ho r w ha hs t pos aft g
  obtain ⟨Z,F,hS,_⟩:=id hs
  exact erun_of (Ld ht (h.sound hS) (aU ha hx)) (ih B o ho _ w (agr_cons ha) hs)
 | ldi _ ih=>
  intro ht hx B o ho r w ha hs hu t pos aft g
  obtain ⟨u,k,h1,h2,_⟩:=hu
  obtain rfl:u=_:=by simpa using h2
  exact erun_of (Ld ht h1 (aU ha hx)) (ih B o ho _ w (agr_cons ha) hs)
 | ldb _ ih=>
  intro ht hx B o ho r w ha hs hu t pos aft g
  obtain ⟨u,k,h1,h2,_⟩:=hu
  obtain rfl:u=_:=by simpa using h2
  exact erun_of (Ld ht h1 (aU ha hx)) (ih B o ho _ w (agr_cons ha) hs)
 | @lds M α q o' d x v j E z ty all l rk Γ Γ1 Γ' fr m h h2 _ ih=>
  intro ht hx B o ho r w ha hs hu t pos aft g
  obtain ⟨u,k,h1,h2'⟩:=hu
  obtain ⟨Z,F,hS,hG⟩:=hs
  obtain ⟨cur',⟨u',k',h3,h4,h5⟩,hins⟩:=(h u).sound hS
  rw [h1] at h3
  cases h3
  exact erun_of (Ld ht h1 (aU ha hx)) (ih u B o ho _ w (agr_cons ha) ⟨Z,F,(h2 u).sound h1 (hins ⟨k',h4,h5⟩),hG⟩)
 | @ldp M α V q d x a S cl en z ty all l rk Γ Γx fr m hso h _ ih=>
  intro ht hx B o ho r w ha hs hu t pos aft g
  obtain ⟨u,k,h1,_⟩:=hu
  obtain ⟨Z,F,hS,hG⟩:=hs
  obtain ⟨cur',⟨u',k',h3,⟨p,cs',g',e1,hlt,hat,hrep,rfl⟩,h5⟩,_⟩:=h.sound hS
  rw [h1] at h3
  cases h3
  obtain rfl:u = .pointer (some p):=by simpa using e1
  obtain ⟨v,rfl,hf⟩:=hso.op hrep
  have hz:∀ b∈p.block :: g',Z b:=fun b hb=>h5 b hb
  have hAt:fact Z w [] (.ats p (cl z v)):=⟨fun j u hj=>hat j u hj,fun _=>hz _ (by simp)⟩
  have hall:HL Z w (.ats p (cl z v) :: en z v) []:=.fact hAt (hl_facts (hf Z fun b hb=>hz b (by simp [hb])))
  obtain ⟨F',hp,hS2⟩:=hall.build hS
  exact erun_of (Ld ht h1 (aU ha hx)) (ih p v B o ho _ w (agr_cons ha) ⟨Z,F',hS2,hG.perm (by simpa using hp)⟩)
 | las h _ ih=>
  intro ht hx B o ho r w ha hs t pos aft g
  obtain ⟨Z,F,hS,_⟩:=id hs
  obtain ⟨h1,h2⟩:=h.sound hS
  exact erun_of (Lg ht h1 (aU ha hx) h2) (ih B o ho _ w (agr_cons ha) hs)
 | @bld M q d t ty ps zc cs pl all l rk Γ fr m hb hf _ ih=>
  intro B o ho r w ha hs pos aft g
  obtain ⟨Z,F,hS,_⟩:=id hs
  obtain ⟨fs,i,z,h1,h2,h3,h4,h5⟩:=hb.h
  refine erun_of (Bu ?_) (ih B o ho _ w (agr_cons ha) hs)
  have:=hf.fill ha hS
  unfold Program.built
  rw [h3,h1]
  simp only [h4,h2]
  rw [show z.cells=zc.toArray by rw [← h5]]
  exact this
 | @box M d x t ty v cs all l rk Γ fr m hx hc _ ih=>
  intro B o ho r w ha hs pos aft g
  obtain ⟨Z,F,hS,_⟩:=id hs
  refine erun_wl (WL.box fun b w' hC hrow hb=>ih b B o ho _ w' (agr_cons ha) (hs.new (f':=[b]) hC (fun _=>⟨rfl,?_⟩) (by simp) (one_new hb)))
  rw [aU ha hx,hc.eq hS] at hrow
  exact hrow
 | @alloc M d t ty cs all l rk Γ fr m hz _ ih=>
  intro B o ho r w ha hs pos aft g
  obtain ⟨i,z,h1,h2,h3⟩:=hz.h
  refine erun_wl (WL.alloc h1 h2 fun b w' hC hrow hb=>ih b B o ho _ w' (agr_cons ha) (hs.new (f':=[b]) hC (fun _=>⟨rfl,?_⟩) (by simp) (one_new hb)))
  rw [h3] at hrow
  exact hrow
 | @lit0 M α d t e ty E z0 bt all l rk Γ fr m hz _ ih=>
  intro B o ho r w ha hs pos aft g
  obtain ⟨h1,_,i,z,h2,_⟩:=hz.h
  exact erun_wl (WL.lit0 E h1 h2 fun v w' f hC hO=>ih v B o ho _ w' (agr_cons ha) (hs.new hC (fun _=>hO.1) hO.2.1 hO.fresh))
 | @litn M d n ps us t e ty all l rk Γ fr m hz hl hn hb _ ih=>
  intro B o ho r w ha hs pos aft g
  obtain ⟨Z,F,hS,_⟩:=id hs
  exact erun_wl (WL.val rfl (hl.op ha hS hz hn hb) (ih w.heap.size B o ho _ _ (agr_cons ha) (hs.new (f':=[w.heap.size]) (Chg.alloc _ _ _) (fun _=>⟨rfl,heap_alloc_new w _⟩) (by simp) (one_new (Nat.le_refl _)))))
 | @litu M d n ps us t e ty all l rk Γ fr m hz hl hn hb _ ih=>
  intro B o ho r w ha hs pos aft g
  obtain ⟨Z,F,hS,_⟩:=id hs
  exact erun_wl (WL.val rfl (hl.op ha hS ⟨hz.h⟩ hn hb) (ih w.heap.size B o ho _ _ (agr_cons ha) (hs.new (f':=[w.heap.size]) (Chg.alloc _ _ _) (fun _=>⟨rfl,heap_alloc_new w _⟩) (by simp) (one_new (Nat.le_refl _)))))
 | @lits M d n k ps us t e ty all l rk Γ fr m hz hl hn hb _ ih=>
  intro B o ho r w ha hs pos aft g
  obtain ⟨Z,F,hS,_⟩:=id hs
  exact erun_wl (WL.val rfl (hl.op ha hS hz hn hb) (ih w.heap.size B o ho _ _ (agr_cons ha) (hs.new (f':=[w.heap.size]) (Chg.alloc _ _ _) (fun _=>⟨rfl,heap_alloc_new w _⟩) (by simp) (one_new (Nat.le_refl _)))))
 | @lit1 M α d x u t e ty E z0 bt all l rk Γ fr m hz hx hu _ ih=>
  intro B o ho r w ha hs pos aft g
  obtain ⟨h1,_,i,z,h2,h3,h4,_⟩:=hz.h
  obtain ⟨Z,F,hS,_⟩:=id hs
  have he:=aU ha hx
  refine erun_wl (WL.lit1 h1 h2 h3 h4 (by rw [he]; exact hu.one hS) fun b w' hC hrow hb=>ih b B o ho _ w' (agr_cons ha) (hs.new (f':=[b]) hC (fun _=>⟨rfl,?_⟩) (by simp) (one_new hb)))
  rw [he] at hrow
  exact hrow
 | @make0 M α d y a t e ty E z0 bt all l rk Γ fr f hz hy _ ih=>
  intro B o ho r w ha hs pos aft g
  obtain ⟨n,hn,ho2⟩:=bind_some ho
  obtain ⟨e1,e2,e3⟩:=mk_some hn
  obtain ⟨h1,hE,i,z,h2,h3,h4,h5,h6,h7⟩:=hz.h
  subst e1
  exact erun_wl (WL.make0 E h1 h2 h3 (by rw [h4,hE]) rfl (aU ha hy) (by rw [h6]; exact e2) e3 fun v w' f hC hO=>ih n v B o ho2 _ w' (agr_cons ha) (hs.new hC (fun _=>hO.1) hO.2.1 hO.fresh))
 | @make M α d x a t e ty E z0 bt all l rk Γ fr f hz hx _ ih=>
  intro B o ho r w ha hs pos aft g
  obtain ⟨n,hn,ho2⟩:=bind_some ho
  obtain ⟨e1,e2,e3⟩:=mk_some hn
  obtain ⟨h1,hE,i,z,h2,h3,h4,h5,h6,h7⟩:=hz.h
  subst e1
  exact erun_wl (WL.make E h1 h2 h3 h4 hE h5 h7 (aU ha hx) (aU ha hx) (by rw [h6]; exact e2) e3 fun v w' f hC hO=>ih n v B o ho2 _ w' (agr_cons ha) (hs.new hC (fun _=>hO.1) hO.2.1 hO.fresh))
 | @app M α d s x sv xv t e ty E z0 bt all l rk Γ fr m hz hs' hx _ ih=>
  obtain ⟨h1,hE,i,z,h2,h3,h4,h5,h6,h7⟩:=hz.h
  exact ih ⟨h1,hE,i,z,h2,h3,h4,h5,h6⟩ hs' hx
 | ax1 hc _ ih=>exact fun h1 hs hx=>ih h1 hs hx
 | @axi M d k s x sv yv o1 o2 t e ty xs ys bt all l rk Γ Γ1 Γx fr f h1 h2 _ ih=>
  intro hT hs' hx B o ho r w ha hs pos aft g
  obtain ⟨u,hu,ho⟩:=bind_some ho
  obtain ⟨b1,b2⟩:=fits_some hu
  obtain ⟨q1,q2,i,z,q3,q4,q5,q6,q7⟩:=hT
  obtain ⟨Z,F,hS,hg⟩:=hs
  obtain ⟨n,F1,hp,hO,hS1⟩:=h1.sound hS
  have hg':=hg.perm hp
  have hnd:=List.nodup_append.1 hg'.nd
  obtain ⟨cur',hcur,⟨⟨kk,hk,hkl⟩,_⟩,_⟩:=h2.sound hS1
  have hd:Dis kk n:=fun b hb hm=>(hkl b hb).elim (fun h=>by
   cases o1
   ·exact hg'.apart b (List.mem_append_left _ hm) h
   ·exact hnd.2.2 b hm b ((hcur b h).resolve_left (by simp)) rfl) (fun h=>by
   cases o2
   ·exact hg'.apart b (List.mem_append_left _ hm) h
   ·exact hnd.2.2 b hm b ((hcur b h).resolve_left (by simp)) rfl)
  refine erun_wl (WL.appendS (E:=aC k) n w.heap.size sInt_nofp q1 q3 q4 q5 rfl q6 (aU ha hs') ⟨hO,hnd.1,fun b hb=>.inl hb⟩ (aU ha hx) hk (by rw [q7]; exact b1) b2 (Nat.le_refl _) fun v w' f' hC hO' hsub=>ih v B o ho _ w' (agr_cons ha) (St.put hS1 hg' hC hO'.1 hO'.2.1 fun b hb=>(hsub b hb).elim .inl fun h=>h.elim (fun h=>absurd h List.not_mem_nil) .inr))
 | @axb M d s x sv yv o1 o2 t e ty xs ys bt all l rk Γ Γ1 Γx fr f h1 h2 _ ih=>
  intro hT hs' hx B o ho r w ha hs pos aft g
  obtain ⟨u,hu,ho⟩:=bind_some ho
  obtain ⟨b1,b2⟩:=fits_some hu
  obtain ⟨q1,q2,i,z,q3,q4,q5,q6,q7⟩:=hT
  obtain ⟨Z,F,hS,hg⟩:=hs
  obtain ⟨n,F1,hp,hO,hS1⟩:=h1.sound hS
  have hg':=hg.perm hp
  have hnd:=List.nodup_append.1 hg'.nd
  obtain ⟨cur',hcur,⟨⟨kk,hk,hkl⟩,_⟩,_⟩:=h2.sound hS1
  refine erun_wl (WL.appendS (E:=sBool) n w.heap.size sBool_nofp q1 q3 q4 q5 rfl q6 (aU ha hs') ⟨hO,hnd.1,fun b hb=>.inl hb⟩ (aU ha hx) hk (by rw [q7]; exact b1) b2 (Nat.le_refl _) fun v w' f' hC hO' hsub=>ih v B o ho _ w' (agr_cons ha) (St.put hS1 hg' hC hO'.1 hO'.2.1 fun b hb=>(hsub b hb).elim .inl fun h=>h.elim (fun h=>absurd h List.not_mem_nil) .inr))
 | @api M d b k y s x sv t e et ty xs bt all l rk Γ Γ1 Γ2 fr f h0 h1 _ ih=>
  intro hT hs' hx B o ho r w ha hs pos aft g
  obtain ⟨u,hu,ho⟩:=bind_some ho
  obtain ⟨b1,b2⟩:=fits_some hu
  obtain ⟨q1,q2,i,z,q3,q4,q5,q6,q7⟩:=hT
  obtain ⟨Z,F,hS,hg⟩:=hs
  obtain ⟨n0,F0,hp0,⟨rfl,hrow⟩,hS0⟩:=h0.sound hS
  obtain ⟨n,F1,hp,hO,hS1⟩:=h1.sound hS0
  have hg':Gd B Z (n++F1) w:=Gd.left (F':=[b]) (hg.perm ((List.perm_append_comm.trans (hp.append_left [b])).trans hp0))
  have hnd:=List.nodup_append.1 hg'.nd
  refine erun_wl (WL.append1 (E:=aC k) (k:=[]) n w.heap.size q1 q3 q4 q5 rfl q6 (aU ha hs') ⟨hO,hnd.1,fun b hb=>.inl hb⟩ (aU ha hx) hrow ⟨rfl,rfl⟩ List.nodup_nil (fun _ h=>absurd h List.not_mem_nil) (fun _ h=>absurd h List.not_mem_nil) (by rw [q7]; exact b1) b2 (Nat.le_refl _) fun v w' f' hC hO' hsub=>ih v B o ho _ w' (agr_cons ha) (St.put hS1 hg' hC hO'.1 hO'.2.1 fun b hb=>(hsub b hb).elim .inl fun h=>h.elim (fun h=>absurd h List.not_mem_nil) .inr))
 | @apb M d b y s x sv t e et ty xs bt all l rk Γ Γ1 Γ2 fr f h0 h1 _ ih=>
  intro hT hs' hx B o ho r w ha hs pos aft g
  obtain ⟨u,hu,ho⟩:=bind_some ho
  obtain ⟨b1,b2⟩:=fits_some hu
  obtain ⟨q1,q2,i,z,q3,q4,q5,q6,q7⟩:=hT
  obtain ⟨Z,F,hS,hg⟩:=hs
  obtain ⟨n0,F0,hp0,⟨rfl,hrow⟩,hS0⟩:=h0.sound hS
  obtain ⟨n,F1,hp,hO,hS1⟩:=h1.sound hS0
  have hg':Gd B Z (n++F1) w:=Gd.left (F':=[b]) (hg.perm ((List.perm_append_comm.trans (hp.append_left [b])).trans hp0))
  have hnd:=List.nodup_append.1 hg'.nd
  refine erun_wl (WL.append1 (E:=sBool) (k:=[]) n w.heap.size q1 q3 q4 q5 rfl q6 (aU ha hs') ⟨hO,hnd.1,fun b hb=>.inl hb⟩ (aU ha hx) hrow ⟨rfl,rfl⟩ List.nodup_nil (fun _ h=>absurd h List.not_mem_nil) (fun _ h=>absurd h List.not_mem_nil) (by rw [q7]; exact b1) b2 (Nat.le_refl _) fun v w' f' hC hO' hsub=>ih v B o ho _ w' (agr_cons ha) (St.put hS1 hg' hC hO'.1 hO'.2.1 fun b hb=>(hsub b hb).elim .inl fun h=>h.elim (fun h=>absurd h List.not_mem_nil) .inr))
 | aps hk _ ih=>exact ih
 | @apo M α d b s x sv u y xs t e e' et ty E bt all l rk Γ Γ1 Γ2 Γ3 fr f h0 h1 h2 _ ih=>
  intro hT hs' hx B o ho r w ha hs pos aft g
  obtain ⟨_,hu,ho⟩:=bind_some ho
  obtain ⟨b1,b2⟩:=fits_some hu
  obtain ⟨q1,q2,i,z,q3,q4,q5,q6,q7⟩:=hT
  obtain ⟨Z,F,hS,hg⟩:=hs
  obtain ⟨n0,F0,hp0,⟨rfl,hrow⟩,hS0⟩:=h0.sound hS
  obtain ⟨k,F1,hp1,hK,hS1⟩:=h1.sound hS0
  obtain ⟨n,F2,hp2,hO,hS2⟩:=h2.sound hS1
  have hpp:((n++k)++F2++[b]).Perm F:=by
   refine List.perm_append_comm.trans (.trans (List.Perm.append_left [b] ?_) hp0)
   refine .trans ?_ hp1
   refine .trans ?_ (hp2.append_left k)
   rw [← List.append_assoc k n F2]
   exact List.perm_append_comm.append_right F2
  have hg':Gd B Z ((n++k)++F2) w:=Gd.left (hg.perm hpp)
  have hnd:=List.nodup_append.1 hg'.nd
  have hnk:=List.nodup_append.1 hnd.1
  have hln:fact Z w [] (.rd false sLn u y.length):=by
   obtain ⟨base,cap,hv,_⟩:=hK
   obtain rfl:u = .slice base y.length cap:=by simpa using hv
   exact ⟨[],⟨⟨_,_,rfl⟩,rfl⟩,fun b hb=>absurd hb List.not_mem_nil⟩
  refine erun_wl (WL.append1 (E:=aK e' E) (k:=k) (n++k) w.heap.size q1 q3 q4 q5 q2 q6 (aU ha hs') ⟨hO,hnk.1,fun b hb=>.inl (List.mem_append_left _ hb)⟩ (aU ha hx) hrow hK hnk.2.1 (fun _ h=>.inl (List.mem_append_right _ h)) (fun b hb hm=>hnk.2.2 b hm b hb rfl) (by rw [q7]; exact b1) b2 (Nat.le_refl _) fun v w' f' hC hO' hsub=>ih v B o ho _ w' (agr_cons ha) (St.put (hS2.fact (e:=.rd false sLn u y.length) hln) hg' (hC.mono fun b hb=>List.mem_append_left _ hb) hO'.1 hO'.2.1 fun b hb=>(hsub b hb).elim (fun h=>.inl (List.mem_append_left _ h)) fun h=>h.elim (fun h=>.inl (List.mem_append_right _ h)) .inr))
 | @ldn M α q o' d x v j Q T z ty all l rk Γ Γ1 Γ' fr m h h2 _ ih=>
  intro ht hx B o ho r w ha hs hu t pos aft g
  obtain ⟨u,k,h1,h2'⟩:=hu
  obtain ⟨Z,F,hS,hG⟩:=hs
  obtain ⟨cur',⟨u',k',h3,h4,h5⟩,hins⟩:=(h u).sound hS
  rw [h1] at h3
  cases h3
  exact erun_of (Ld ht h1 (aU ha hx)) (ih u B o ho _ w (agr_cons ha) ⟨Z,F,(h2 u).sound h1 (hins ⟨k',h4,h5⟩),hG⟩)
 | @apn M α d b s x sv u y xs t e e' et ty E Q T bt all l rk Γ Γ1 Γ2 fr f h0 h1 h2 _ ih=>
  intro hT hs' hx B o ho r w ha hs pos aft g
  obtain ⟨_,hu,ho⟩:=bind_some ho
  obtain ⟨b1,b2⟩:=fits_some hu
  obtain ⟨q1,q2,i,z,q3,q4,q5,q6,q7⟩:=hT
  obtain ⟨Z,F,hS,hg⟩:=hs
  obtain ⟨n0,F0,hp0,⟨rfl,hrow⟩,hS0⟩:=h0.sound hS
  obtain ⟨k,hk,hkz⟩:=h1.rd hS0 []
  obtain ⟨n,F1,hp,⟨us,gg,hO,hr,hgz,h1s⟩,hS1⟩:=h2.sound hS0
  have hg':Gd B Z (n++F1) w:=Gd.left (F':=[b]) (hg.perm ((List.perm_append_comm.trans (hp.append_left [b])).trans hp0))
  have hnd:=List.nodup_append.1 hg'.nd
  have hkz':∀ b∈k,Z b:=fun b hb=>hkz b hb
  have hzn:∀ b∈n,¬ Z b:=fun b hb=>hg'.apart b (List.mem_append_left _ hb)
  refine erun_wl (WLM.append1 (E:=sIn Q T) (G:=n) (B:=w.heap.size) (g:=gg) (k:=k) q1 q3 q4 q5 q6 (aU ha hs') ⟨us,⟨hO,hnd.1,fun b hb=>.inl hb⟩,hr,h1s⟩ (aU ha hx) hrow hk (fun b hb hm=>hzn b hm (hkz' b hb)) (fun b hb hm=>hzn b hm (hgz b hb)) (by rw [q7]; exact b1) b2 (Nat.le_refl _) fun v w' f' hC hO' hsub=>?_)
  obtain ⟨us',ho',hr',hs1'⟩:=hO'
  exact ih v B o ho _ w' (agr_cons ha) (St.put hS1 hg' hC ⟨us',_,ho'.1,hr',(fun b hb=>(List.mem_append.1 hb).elim (hgz b) (hkz' b)),hs1'⟩ ho'.2.1 fun b hb=>(hsub b hb).elim .inl fun h=>h.elim (fun h=>absurd h List.not_mem_nil) .inr)
 | @apm M α d b s x sv u y xs t e e' et ty E E1 bt all l rk Γ Γ1 Γ2 Γx fr f h0 h1 h2 _ ih=>
  intro hT hs' hx B o ho r w ha hs pos aft g
  obtain ⟨_,hu,ho⟩:=bind_some ho
  obtain ⟨b1,b2⟩:=fits_some hu
  obtain ⟨q1,q2,i,z,q3,q4,q5,q6,q7⟩:=hT
  obtain ⟨Z,F,hS,hg⟩:=hs
  obtain ⟨n0,F0,hp0,⟨rfl,hrow⟩,hS0⟩:=h0.sound hS
  obtain ⟨cur',_,⟨⟨k,hk,hkz⟩,_⟩,_⟩:=h1.sound hS0
  obtain ⟨n,F1,hp,⟨us,gg,hO,hr,hgz,h1s⟩,hS1⟩:=h2.sound hS0
  have hg':Gd B Z (n++F1) w:=Gd.left (F':=[b]) (hg.perm ((List.perm_append_comm.trans (hp.append_left [b])).trans hp0))
  have hnd:=List.nodup_append.1 hg'.nd
  have hkz':∀ b∈k,Z b:=fun b hb=>(hkz b hb).elim id id
  have hzn:∀ b∈n,¬ Z b:=fun b hb=>hg'.apart b (List.mem_append_left _ hb)
  refine erun_wl (WLM.append1 (E:=aE E1) (G:=n) (B:=w.heap.size) (g:=gg) (k:=k) q1 q3 q4 q5 q6 (aU ha hs') ⟨us,⟨hO,hnd.1,fun b hb=>.inl hb⟩,hr,h1s⟩ (aU ha hx) hrow hk (fun b hb hm=>hzn b hm (hkz' b hb)) (fun b hb hm=>hzn b hm (hgz b hb)) (by rw [q7]; exact b1) b2 (Nat.le_refl _) fun v w' f' hC hO' hsub=>?_)
  obtain ⟨us',ho',hr',hs1'⟩:=hO'
  exact ih v B o ho _ w' (agr_cons ha) (St.put hS1 hg' hC ⟨us',_,ho'.1,hr',(fun b hb=>(List.mem_append.1 hb).elim (hgz b) (hkz' b)),hs1'⟩ ho'.2.1 fun b hb=>(hsub b hb).elim .inl fun h=>h.elim (fun h=>absurd h List.not_mem_nil) .inr)
 | @axm M α d s x sv yv xs ys t e e' ty E E1 bt all l rk Γ Γ1 Γx fr f h2 h1 _ ih=>
  intro hT hs' hx B o ho r w ha hs pos aft g
  obtain ⟨_,hu,ho⟩:=bind_some ho
  obtain ⟨b1,b2⟩:=fits_some hu
  obtain ⟨q1,q2,i,z,q3,q4,q5,q6,q7⟩:=hT
  obtain ⟨Z,F,hS,hg⟩:=hs
  obtain ⟨cur',_,⟨⟨k,hk,hkz⟩,_⟩,_⟩:=h2.sound hS
  obtain ⟨n,F1,hp,⟨us,gg,hO,hr,hgz,h1s⟩,hS1⟩:=h1.sound hS
  have hg':=hg.perm hp
  have hnd:=List.nodup_append.1 hg'.nd
  have hkz':∀ b∈k,Z b:=fun b hb=>(hkz b hb).elim id id
  have hzn:∀ b∈n,¬ Z b:=fun b hb=>hg'.apart b (List.mem_append_left _ hb)
  refine erun_wl (WLM.appendS (E:=aE E1) (G:=n) (B:=w.heap.size) (g:=gg) (k:=k) q1 q3 q4 q5 q6 (aU ha hs') ⟨us,⟨hO,hnd.1,fun b hb=>.inl hb⟩,hr,h1s⟩ (aU ha hx) hk (fun b hb hm=>hzn b hm (hkz' b hb)) (fun b hb hm=>hzn b hm (hgz b hb)) (by rw [q7]; exact b1) b2 (Nat.le_refl _) fun v w' f' g' hC hO' hsub hg2=>?_)
  obtain ⟨us',ho',hr',hs1'⟩:=hO'
  exact ih v B o ho _ w' (agr_cons ha) (St.put hS1 hg' hC ⟨us',_,ho'.1,hr',(fun b hb=>(hg2 b hb).elim (hgz b) (hkz' b)),hs1'⟩ ho'.2.1 fun b hb=>(hsub b hb).elim .inl fun h=>h.elim (fun h=>absurd h List.not_mem_nil) .inr)
 | @sto M x y a u t ty n all l rk Γ fr m ht hx hy _ ih=>exact ih ht.h hx hy
 | @stn M x y b j n us cs ds t e ty all l rk Γ Γ1 fr m h0 h1 h2 h3 _ ih=>
  intro hT hx hy B o ho r w ha hs pos aft g
  obtain ⟨i,hi,hsz⟩:=hT
  obtain ⟨Z,F,hS,hg⟩:=hs
  obtain ⟨n0,F0,hp0,⟨rfl,hrow⟩,hS0⟩:=h0.sound hS
  obtain ⟨e1,e2⟩:=h1.eq
  refine erun_wl (WL.storeSeg hi (by rw [h3,hsz]) hrow e1 (aU ha hx) (aU ha hy) (h2.one hS) fun w' hC hrow'=>ih B o ho _ w' ha (St.put (f:=[b]) (f':=[b]) hS0 (hg.perm hp0) hC ⟨rfl,by rw [e2]; exact hrow'⟩ (by simp) fun b hb=>.inl hb))
 | @st1 M x y b j u cs ds t e ty all l rk Γ Γ1 fr m h0 h1 h2 _ ih=>
  intro hT hx hy B o ho r w ha hs pos aft g
  obtain ⟨i,hi,hsz⟩:=hT
  obtain ⟨Z,F,hS,hg⟩:=hs
  obtain ⟨n0,F0,hp0,⟨rfl,hrow⟩,hS0⟩:=h0.sound hS
  obtain ⟨e1,e2⟩:=h1.eq
  have e3:cs.set j u=ds:=by rw [e2,List.set_eq_take_append_cons_drop,if_pos (by simp at e1; omega)]; simp
  refine erun_wl (WL.storeRow hi hsz hrow (by simp at e1; omega) (aU ha hx) (aU ha hy) (h2.one hS) fun w' hC hrow'=>ih B o ho _ w' ha (St.put (f:=[b]) (f':=[b]) hS0 (hg.perm hp0) hC ⟨rfl,by rw [← e3]; exact hrow'⟩ (by simp) fun b hb=>.inl hb))
 | stl hl _ ih=>exact fun hT hx hy=>ih hT hx hy hl
 | @sti M x y v j z k xs t e ty all l rk Γ Γ1 fr m h0 h1 _ ih=>
  intro hT hx hy _ B o ho r w ha hs pos aft g
  obtain ⟨i,hi,hsz⟩:=hT
  obtain ⟨Z,F,hS,hg⟩:=hs
  obtain ⟨j0,j1⟩:=h0.sound hS
  obtain ⟨n,F1,hp,hO,hS1⟩:=h1.sound hS
  have hg':=hg.perm hp
  have hnd:=List.nodup_append.1 hg'.nd
  rw [own_slen hO] at j1
  exact erun_wl (WL.storeEl (E:=aC k) n w.heap.size sInt_nofp rfl hi hsz ⟨hO,hnd.1,fun b hb=>.inl hb⟩ (List.getElem?_eq_getElem j1) (aU ha hx) (aU ha hy) ⟨rfl,rfl⟩ fun w' hC hO'=>ih B o ho _ w' ha (St.put hS1 hg' hC hO'.1 hO'.2.1 fun b hb=>.inl hb))
 | @stb M x y v j z xs t e ty all l rk Γ Γ1 fr m h0 h1 _ ih=>
  intro hT hx hy _ B o ho r w ha hs pos aft g
  obtain ⟨i,hi,hsz⟩:=hT
  obtain ⟨Z,F,hS,hg⟩:=hs
  obtain ⟨j0,j1⟩:=h0.sound hS
  obtain ⟨n,F1,hp,hO,hS1⟩:=h1.sound hS
  have hg':=hg.perm hp
  have hnd:=List.nodup_append.1 hg'.nd
  rw [own_slen hO] at j1
  exact erun_wl (WL.storeEl (E:=sBool) n w.heap.size sBool_nofp rfl hi hsz ⟨hO,hnd.1,fun b hb=>.inl hb⟩ (List.getElem?_eq_getElem j1) (aU ha hx) (aU ha hy) ⟨rfl,rfl⟩ fun w' hC hO'=>ih B o ho _ w' ha (St.put hS1 hg' hC hO'.1 hO'.2.1 fun b hb=>.inl hb))
 | @sri M x y v v' j j' z k zs xs t e e' ty o1 o2 all l rk Γ Γ1 Γx fr m h0 h1 h2 _ ih=>
  intro hT hx hy hl B o ho r w ha hs pos aft g
  obtain ⟨i,hi,hsz⟩:=hT
  exact row_store (E:=aC k) sInt_nofp rfl hi hsz hs hl h0 h1 .i h2 (aU ha hx) (aU ha hy) ⟨rfl,rfl⟩ fun w' h=>ih B o ho _ w' ha h
 | @srb M x y v v' j j' z zs xs t e e' ty o1 o2 all l rk Γ Γ1 Γx fr m h0 h1 h2 _ ih=>
  intro hT hx hy hl B o ho r w ha hs pos aft g
  obtain ⟨i,hi,hsz⟩:=hT
  exact row_store (E:=sBool) sBool_nofp rfl hi hsz hs hl h0 h1 .b h2 (aU ha hx) (aU ha hy) ⟨rfl,rfl⟩ fun w' h=>ih B o ho _ w' ha h
 | @stm M α x y v u j z xs E t e ty all l rk Γ Γ1 Γx fr m h0 h1 h2 _ ih=>
  intro hT hx hy _ B o ho r w ha hs pos aft g
  obtain ⟨i,hi,hsz⟩:=hT
  obtain ⟨Z,F,hS,hg⟩:=hs
  obtain ⟨j0,j1⟩:=h0.sound hS
  obtain ⟨cur',_,⟨⟨k,hk,hkz⟩,_⟩,_⟩:=h1.sound hS
  obtain ⟨n,F1,hp,⟨us,gg,hO,hr,hgz,h1s⟩,hS1⟩:=h2.sound hS
  have hg':=hg.perm hp
  have hnd:=List.nodup_append.1 hg'.nd
  have hkz':∀ b∈k,Z b:=fun b hb=>(hkz b hb).elim id id
  have hzn:∀ b∈n,¬ Z b:=fun b hb=>hg'.apart b (List.mem_append_left _ hb)
  have hl:us.length=xs.length:=by have:=repL_len hr; rw [h1s,Nat.mul_one] at this; exact this
  have hsl:slen v=us.length:=own_slen hO
  rw [hsl,hl] at j1
  refine erun_wl (WLM.store (E:=aE E) (G:=n) (B:=w.heap.size) (g:=gg) (k:=k) hi hsz ⟨us,⟨hO,hnd.1,fun b hb=>.inl hb⟩,hr,h1s⟩ (List.getElem?_eq_getElem j1) (aU ha hx) (aU ha hy) hk (fun b hb hm=>hzn b hm (hkz' b hb)) (fun b hb hm=>hzn b hm (hgz b hb)) fun w' g' hC hO' hg2=>?_)
  obtain ⟨us',ho',hr',hs1'⟩:=hO'
  exact ih B o ho _ w' ha (St.put hS1 hg' hC ⟨us',_,ho'.1,hr',(fun b hb=>(hg2 b hb).elim (hgz b) (hkz' b)),hs1'⟩ ho'.2.1 fun b hb=>.inl hb)
 | @stw M α x y v u j z xs E t e e' ty all l rk Γ Γ1 Γ2 fr m h0 h1 h2 _ ih=>
  intro hT hx hy _ B o ho r w ha hs pos aft g
  obtain ⟨i,hi,hsz⟩:=hT
  obtain ⟨Z,F,hS,hg⟩:=hs
  obtain ⟨j0,j1⟩:=h0.sound hS
  obtain ⟨k,F1,hp1,hK,hS1⟩:=h1.sound hS
  obtain ⟨n,F2,hp2,hO,hS2⟩:=h2.sound hS1
  have hpp:((n++k)++F2).Perm F:=by
   refine .trans ?_ hp1
   refine .trans ?_ (hp2.append_left k)
   rw [← List.append_assoc k n F2]
   exact List.perm_append_comm.append_right F2
  have hg':Gd B Z ((n++k)++F2) w:=hg.perm hpp
  have hnd:=List.nodup_append.1 hg'.nd
  have hnk:=List.nodup_append.1 hnd.1
  rw [own_slen hO] at j1
  exact erun_wl (WL.storeOwn (E:=aK e' E) (k:=k) (n++k) w.heap.size rfl hi hsz ⟨hO,hnk.1,fun b hb=>.inl (List.mem_append_left _ hb)⟩ (List.getElem?_eq_getElem j1) (aU ha hx) (aU ha hy) hK hnk.2.1 (fun _ h=>.inl (List.mem_append_right _ h)) (fun b hb hm=>hnk.2.2 b hm b hb rfl) fun w' f' hC hO' hsub=>ih B o ho _ w' ha (St.put hS2 hg' (hC.mono fun b hb=>List.mem_append_left _ hb) hO'.1 hO'.2.1 fun b hb=>(hsub b hb).elim (fun h=>.inl (List.mem_append_left _ h)) fun h=>h.elim (fun h=>.inl (List.mem_append_right _ h)) .inr))
 | @cal M q d f xs vs ats ty all l rk Γ fr m hf hx _ ih=>
  intro B o ho r w ha hs pos aft g
  obtain ⟨fn,c,f1,f2,f3⟩:=hf.h
  refine ih B o ho r w ha hs pos aft g fun w'=>?_
  rw [op_callF f1 f2 f3,opvs_ev ha hx]
 | @cav M q d f x xs vs us ws as bs ats ty all l rk Γ fr m hv hx h1 h2 _ ih=>
  intro B o ho r w ha hs pos aft g
  refine ih.2 B o ho r w ha hs pos aft g fun w'=>?_
  obtain ⟨fn,c,f1,f2,f3⟩:=ih.1
  rw [op_callT (aU ha hv) f1 f2 f3,opvs_ev ha hx,List.append_assoc,h1.eq,h2.eq]
 | @fa f j hf _ ih=>exact ⟨hf.h,ih⟩
 | @ia t a j hf _ ih=>exact ⟨hf.h,ih⟩
 | @im t name nm f j hf hn _ ih=>
  rw [bx_eq] at hn
  subst hn
  exact ⟨f,hf.h,ih⟩
 | @cin M q d name t x u xs vs ats ty all l rk Γ fr m hv hx _ ih=>
  intro B o ho r w ha hs pos aft g
  obtain ⟨f,h1,h2⟩:=ih
  refine h2 B o ho r w ha hs pos aft g fun w'=>?_
  rw [op_invoke h1 (aU ha hv),opvs_ev ha hx]
 | @mkf M q d f xs ys as bs ty all l rk Γ fr m hx hy _ ih=>
  intro B o ho r w ha hs pos aft g
  refine erun_of ?_ (ih B o ho _ w (agr_cons ha) hs)
  intro w' _
  rw [op_makeFunc,opvs_ev ha hx,opvs_ev ha hy]
 | @mki M q d x v t ty all l rk Γ fr m hf hx _ ih=>
  intro B o ho r w ha hs pos aft g
  obtain ⟨ds,h1,h2⟩:=hf.h
  exact erun_of (If h1 h2 _ (aU ha hx)) (ih B o ho _ w (agr_cons ha) hs)
 | @tas M q d x u t a xt ty all l rk Γ fr m hx _ ih=>exact fun B o ho r w ha hs pos aft g=>erun_of (Ta ih.1 (aU ha hx)) (ih.2 B o ho _ w (agr_cons ha) hs)
 | @atl M q d f x a n ats ty all l rk Γ fr m hf hx hc _ ih=>
  intro B o ho r w ha hs pos aft g
  obtain ⟨fn,h1,h2,h3,h4,h5⟩:=hf.h
  obtain ⟨Z,F,hS,hG⟩:=id hs
  exact erun_of (fun w' hC=>op_atLoad h1 h2 h3 h4 h5 (aU ha hx) (hc.sound (hS.keep0 hC))) (ih B o ho _ w (agr_cons ha) hs)
 | @ata M d f x y b j n z cs ds ats ty e all l rk Γ Γ1 fr m hf hx hy h0 h1 h2 _ ih=>
  intro B o ho r w ha hs pos aft g
  obtain ⟨fn,q1,q2,q3,q4,q5⟩:=hf.h
  obtain ⟨Z,F,hS,hg⟩:=hs
  obtain ⟨n0,F0,hp0,⟨rfl,hrow⟩,hS0⟩:=h0.sound hS
  obtain ⟨e1,e2⟩:=h2.eq
  have e3:cs.set j (.int .i64 (w64 (n+z)))=ds:=by rw [e2,List.set_eq_take_append_cons_drop,if_pos (by simp at e1; omega)]; simp
  refine erun_wl (WL.atAdd q1 q2 q3 q4 q5 hrow h1 (aU ha hx) (aU ha hy) fun w' hC hrow'=>ih B o ho _ w' (agr_cons ha) (St.put (f:=[b]) (f':=[b]) hS0 (hg.perm hp0) hC ⟨rfl,by rw [← e3]; exact hrow'⟩ (by simp) fun b hb=>.inl hb))
 | cvn=>exact fun B o ho=>nomatch ho
 | @cvq M β ow d f vs op ty Δ mo rt all l rk Γ fr g hc h0 h1 _ ih=>
  intro B o ho r w ha hs pos aft gg hen
  obtain ⟨y,hy,ho⟩:=bind_some ho
  refine ⟨tupv (rt y ()),?_,ih y B o ho _ w (agr_cons ha) hs⟩
  intro w' hC
  unfold Oper.quietUpon
  rw [hen w']
  refine ⟨rfl,?_⟩
  obtain ⟨Z,F,hS,hG⟩:=hs
  have hS':=hS.keep0 hC
  have hG':=hG.keep0 hC
  rw [ct_eq] at hc
  refine (hc.2 w' (fun b=>Z b∨b∈F) [] (h1.sound (fun _ h=>.inl h) (fun _ _ h=>.inr h) hS' h0.ho) List.nodup_nil (fun b hb=>absurd hb List.not_mem_nil)
   (fun b hb=>hb.elim (hG'.zlt b) (hS'.lt b)) y hy).mono ?_
  rintro e w'' ⟨v,he,Z2,F2,_,hg2⟩
  exact ⟨he,hC.trans hg2.chg⟩
 | @cvw M β V ow d f vs op ty Δ mo rt ps all l rk Γ fr g hc _ _ ih=>exact ih hc
 | @czt M β V d f vs op ty Δ mo rt ps all l rk Γ Γ1 fr g h0 h1 _ ih=>
  intro hc B o ho r w ha hs pos aft gg hen
  obtain ⟨y,hy,ho⟩:=bind_some ho
  unfold erun OpW
  rw [hen w]
  obtain ⟨Z,F,hS,hG⟩:=hs
  obtain ⟨Fd,F1,a1,a2,a3⟩:=h0.sound hS
  have hG2:=hG.perm a3
  rw [ct_eq] at hc
  exact (call_step hc (Z':=fun b=>Z b∨b∈F1) (h1.sound (fun _ h=>.inl h) (fun _ _ h=>.inr h) a2 a1) a2 hG2 (fun _ h=>.inl h) (fun _ h=>h) (.inl (hc.1 rfl y)) hy).mono fun e w' ⟨v,h2,h3⟩=>⟨_,h2,ih y v B o ho _ w' (agr_cons ha) h3⟩
 | @czf M β V d f vs op ty Δ mo rt ps all l rk Γ Γ1 fr g h0 _ ih=>
  intro hc B o ho r w ha hs pos aft gg hen
  obtain ⟨y,hy,ho⟩:=bind_some ho
  unfold erun OpW
  rw [hen w]
  obtain ⟨Z,F,hS,hG⟩:=hs
  obtain ⟨Fd,F1,Zn,a1,a2,a3⟩:=h0.sound hS
  have hG2:=Gd.freeze (hG.perm a3) fun b hb=>hS.lt b (a3.mem_iff.1 (List.mem_append_right _ hb))
  rw [ct_eq] at hc
  exact (call_step hc a1 a2 hG2 (fun _ h=>h) (fun _ h=>.inl h) (.inr fun _ h=>h) hy).mono fun e w' ⟨v,h2,h3⟩=>⟨_,h2,ih y v B o ho _ w' (agr_cons ha) h3⟩
 | mo1 _ ih=>exact fun B o ho r w ha hs=>ih B o ho r w ha hs.back
 | mo2 _ ih=>exact fun B o ho r w ha hs=>ih B o ho r w ha hs.back2
 | mo0 _ ih=>exact fun B o ho r w ha hs=>ih B o ho r w ha hs
 | mn1 _ ih=>exact fun B o ho r w ha hs=>ih B o ho r w ha hs.back
 | mn2 _ ih=>exact fun B o ho r w ha hs=>ih B o ho r w ha hs.back2
 | mn0 _ ih=>exact fun B o ho r w ha hs=>ih B o ho r w ha hs
theorem loop {S S1 V:Type} (k:Nat) (Δ:S1→V→List Ent) (φ:S1→V→Fr) (v0:V) (f2:Fr) {its:List KI} {kb:Kb R S} {c:Code} {s0:S1} {body:S1→Option (Out S1 R)} {f:S1→Option (Out S R)} {Γ Γ1 Γ2:List Ent} {fr:Fr}
   (ha:Agr fr (φ s0 v0)) (hf:Agr fr f2) (h0:EO Γ (Δ s0 v0) Γ1) (hn:OW Γ (Δ s0 v0)) (hs:Strip Γ1 Γ2)
   (hb:∀ s v,D P cx (.p (φ s v) (Δ s v) f2 Γ2 fun fr Γ=>.c ⟨[],.loop V k Δ φ Γ2 f2⟩ c Γ fr (body s)))
   (hk:∀ s v,D P cx (.p (φ s v) (Δ s v) f2 Γ2 fun fr Γ=>.mn ⟨its,kb⟩ Γ fr (f s))):Bx (sem P cx (.bk true k ⟨its,kb⟩ (.loop c) Γ fr (lbind (blockM k (loopM body s0)) f))):=by
 rw [bx_eq]
 intro B o ho r w hag hst
 refine W_for (T:=TT P cx B) (LI B Δ φ _ f2) ho ⟨v0,agr_rev (ha.all hag) (hf.sound hag),hst.enter h0 hn hs⟩ ?_ ?_ ?_
 ·intro x r w he hx
  subst he
  exact postK_ret hx
 ·rintro s r w ⟨v,h1,h2⟩ o ho
  exact (hb s v).sound B o ho r w h1 h2
 ·rintro s r w ⟨v,h1,h2⟩ ho
  exact (hk s v).sound B o ho r w h1 h2
noncomputable def pc.{u,v,w} {A:Type u} {B:Type v} {C:Sort w} (f:A→B→C) (p:A×B):C:=Prod.rec (motive:=fun _=>C) f p
theorem loopA {S S1 V A:Type} (k:Nat) (a0:A) (Δ:A→S1→V→List Ent) (φ:A→S1→V→Fr) (v0:V) (f2:Fr) {its:List KI} {kb:Kb R S} {c:Code} {s0:S1} {body:S1→Option (Out S1 R)} {f:S1→Option (Out S R)} {Γ Γ1 Γ2:List Ent} {fr:Fr}
   (ha:Agr fr (φ a0 s0 v0)) (hf:Agr fr f2) (h0:EO Γ (Δ a0 s0 v0) Γ1) (hn:OW Γ (Δ a0 s0 v0)) (hs:Strip Γ1 Γ2)
   (hb:∀ s v,D P cx (.p (φ a0 s v) (Δ a0 s v) f2 Γ2 fun fr Γ=>.c ⟨[],.loop V k (Δ a0) (φ a0) Γ2 f2⟩ c Γ fr (body s)))
   (hk:∀ s v,D P cx (.p (φ a0 s v) (Δ a0 s v) f2 Γ2 fun fr Γ=>.mn ⟨its,kb⟩ Γ fr (f s))):Bx (sem P cx (.bk true k ⟨its,kb⟩ (.loop c) Γ fr (lbind (blockM k (loopM body s0)) f))):=
 loop k (Δ a0) (φ a0) v0 f2 ha hf h0 hn hs hb hk
theorem quiet {S:Type} {id:Nat} {K:Kont R S} {ops:List Oper} {Γ:List Ent} {fr:Fr} {m:Option (Out S R)} (hB:(P.follows .mixedOrders && dstOk cx.n ops && Region.lexB .any ops.toArray)=true) (h:D P cx (.rg (hasG ops) true ops K Γ fr m)):Bx (sem P cx (.dr id ops K Γ fr m)):=by
 simp only [Bool.and_eq_true] at hB
 rw [bx_eq]
 exact fun B o ho r w ha hs=>h.sound hB.1.2 (fun _=>⟨hB.1.1,hB.2⟩) B o ho r w ha hs _
theorem tail {S:Type} {id:Nat} (k:Nat) {K:Kont R S} {l ops tl:List Oper} {Γ:List Ent} {fr:Fr} {m:Option (Out S R)} (hB:(P.follows .mixedOrders && dstOk cx.n l && ((l.take k).all fun o=>plainB o.op) && Region.lexTailB .any l.toArray k)=true) (ho:ops=l.take k) (ht:tl=l.drop k)
  (h:D P cx (.o true l ops (.h l tl K) Γ fr m)):Bx (sem P cx (.dr id l K Γ fr m)):=by
 simp only [Bool.and_eq_true] at hB
 obtain ⟨⟨⟨h1,h2⟩,h3⟩,h4⟩:=hB
 subst ho ht
 rw [bx_eq]
 intro B o ho r w ha hs
 exact W_tail k h1 h2 h3 h4 (Chg.refl _ _) (h.sound B o ho r w ha hs)
def nums:Nat→List Value→Fr
 | _,[]=>[]
 | i,v :: l=>(i,v) :: nums (i+1) l
theorem agr_rnums {args:List Value}:agr (fun t=>args.getD t undef) ((nums 0 args).reverse++[]):=by
 refine agr_rev ?_ agr_nil
 have key:∀ (l:List Value) (i:Nat) (p:Nat×Value),p∈nums i l→i≤p.1∧l[p.1 - i]? = some p.2:=by
  intro l
  induction l with
  | nil=>intro i p hp; cases hp
  | cons a l ih=>
   intro i p hp
   unfold nums at hp
   rcases List.mem_cons.1 hp with rfl | hp
   ·simp
   ·obtain ⟨h1,h2⟩:=ih _ _ hp
    refine ⟨by omega,?_⟩
    rw [show p.1 - i=(p.1 - (i+1))+1 by omega]
    simpa using h2
 intro p hp
 obtain ⟨_,h⟩:=key args 0 p hp
 simp only [Nat.sub_zero] at h
 simp [List.getD_eq_getElem?_getD,h]
theorem owt {β V:Type} {post:β→V→List Ent} (h:∀ y v,owB (post y v)=true):true=true→∀ y v,owB (post y v)=true:=fun _=>h
theorem owf {β V:Type} {post:β→V→List Ent}:false=true→∀ y v,owB (post y v)=true:=fun h=>nomatch h
theorem ct {f:FuncId} {fn:Func} {ow:Bool} {c:Code} {args:List Value} {Δ:List Ent} {S V:Type} {m:Option (Out S R)} {ret:R→V→List Value} {post:R→V→List Ent} (hw:ow=true→∀ y v,owB (post y v)=true) (hf:P.funcs[f]? = some fn) (hb:fn.body=some c) (hl:Nat.ble args.length fn.ntmps=true)
  (h:D P ⟨fn.ntmps,fn,V,ret,post⟩ (.p (nums 0 args) Δ [] [] fun fr Γ=>.c ⟨[],.top⟩ c Γ fr m)):Ct P f ow (retM m) args Δ ret post:=by
 rw [ct_eq]
 refine ⟨hw,?_⟩
 intro w Z F hh hnd hap hlt y hy
 have hs:=h.sound
 obtain ⟨F',hp,hS⟩:=hh.build (Γ:=[]) (F:=[]) rfl
 rw [List.append_nil] at hp
 have hst:St ⟨w,Z,F⟩ (Δ.reverse++[]) w:=⟨Z,F',hS,Gd.perm ⟨hnd,hap,hlt,fun b hb=>.inl hb,fun _ h=>h,fun _ h=>.inl h,Chg.refl _ _⟩ hp⟩
 exact (calls_of_M (Rr:=fun y e w'=>∃ v:V,e = .returned (tupv (ret y v))∧StH ⟨w,Z,F⟩ (post y v) w') hf hb rfl (Nat.le_of_ble_eq_true hl) (retM_some hy)
  fun o ho=>hs ⟨w,Z,F⟩ o ho _ _ agr_rnums hst)
theorem ctv {f:FuncId} {fn:Func} {ow:Bool} {c:Code} {args:List Value} {Δ:List Ent} {V:Type} {m:Option (Out R R)} {ret:R→V→List Value} {post:R→V→List Ent} (hw:ow=true→∀ y v,owB (post y v)=true) (hf:P.funcs[f]? = some fn) (hb:fn.body=some c) (hl:Nat.ble args.length fn.ntmps=true)
  (h:D P ⟨fn.ntmps,fn,V,ret,post⟩ (.p (nums 0 args) Δ [] [] fun fr Γ=>.c ⟨[],.topv⟩ c Γ fr m)):Ct P f ow (finM m) args Δ ret post:=by
 rw [ct_eq]
 refine ⟨hw,?_⟩
 intro w Z F hh hnd hap hlt y hy
 have hs:=h.sound
 obtain ⟨F',hp,hS⟩:=hh.build (Γ:=[]) (F:=[]) rfl
 rw [List.append_nil] at hp
 have hst:St ⟨w,Z,F⟩ (Δ.reverse++[]) w:=⟨Z,F',hS,Gd.perm ⟨hnd,hap,hlt,fun b hb=>.inl hb,fun _ h=>h,fun _ h=>.inl h,Chg.refl _ _⟩ hp⟩
 exact (calls_of_Mv (Rr:=fun y e w'=>∃ v:V,e = .returned (tupv (ret y v))∧StH ⟨w,Z,F⟩ (post y v) w') hf hb rfl (Nat.le_of_ble_eq_true hl) hy
  fun o ho=>hs ⟨w,Z,F⟩ o ho _ _ agr_rnums hst)
end
end Go.Dk
