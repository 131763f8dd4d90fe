/- Lists of arrows that are sieves; each sieve is found by the searches. No condition beside those that each theorem names. -/
import Derived.Test.YtkhdhnpokfibjaaGreatPr
namespace Go.Proofs.YtkhdhnpokfibjaaGreat
open Go Go.Li
section
variable {c:aI} (H:qD c)
include H
end
section
variable {c:aI} (H:Cat c) {x:Int}
include H
theorem close_app {A:List Int} {a:Int} (hA:Arr c A):closeS c (closeS c A++[a])=closeS c (A++[a]):=by
 show (ns c.aG.length).filter _=(ns c.aG.length).filter _
 apply List.filter_congr
 intro z hz
 have key:∀ B:List Int,clP c B z=true↔z∈closeS c B:=fun B=>by
  unfold closeS; rw [List.mem_filter]; exact ⟨fun h=>⟨hz,h⟩,fun h=>h.2⟩
 rw [Bool.eq_iff_iff,key,key,close_mem,close_mem]
 refine and_congr_right fun hz=>⟨?_,?_⟩
 ·rintro ⟨y,hy,b,hb,e1,e2⟩
  rcases List.mem_append.1 hy with hy | hy
  ·obtain ⟨hy0,u,hu,b',hb',e3,e4⟩:=close_mem.1 hy
   have hu':=hA u hu
   have c1:=H.cell u b' hu'.1 hu'.2 hb'.1 hb'.2 e3
   have e5:gi c.To b'=gi c.aG b:=by rw [← c1.2.2.2,e4]; exact e1
   have c2:=H.cell b' b hb'.1 hb'.2 hb.1 hb.2 e5
   exact ⟨u,List.mem_append_left _ hu,gk c.aF b' b,⟨c2.1,c2.2.1⟩,by rw [c2.2.2.1]; exact e3,by rw [← H.assoc u b' b hu'.1 hu'.2 hb'.1 hb'.2 hb.1 hb.2 e3 e5,e4]; exact e2⟩
  ·exact ⟨y,List.mem_append_right _ hy,b,hb,e1,e2⟩
 ·rintro ⟨y,hy,b,hb,e1,e2⟩
  rcases List.mem_append.1 hy with hy | hy
  ·exact ⟨y,List.mem_append_left _ (close_sub H hA y hy),b,hb,e1,e2⟩
  ·exact ⟨y,List.mem_append_right _ hy,b,hb,e1,e2⟩
theorem close_reach:∀ (n:Nat) (A:List Int),A.length=n→(∀ a∈A,a∈outS c x)→Reaches (outS c x) (stepS c) [] (closeS c A):=by
 intro n
 induction n with
 | zero=>
  intro A hA _
  obtain rfl:A=[]:=List.length_eq_zero_iff.1 hA
  have:closeS c []=[]:=by unfold closeS; rw [List.filter_eq_nil_iff]; intro a _; simp [clP]
  rw [this]; exact .base
 | succ n ih=>
  intro A hA hs
  have hne:A≠[]:=by rintro rfl; cases hA
  have hd:=List.dropLast_concat_getLast hne
  have hl:A.getLast hne∈A:=List.getLast_mem hne
  have hsub:∀ a∈A.dropLast,a∈outS c x:=fun a ha=>hs a (List.dropLast_subset A ha)
  have h1:=ih A.dropLast (by simp; omega) hsub
  have h2:=Reaches.step (step:=stepS c) h1 (hs _ hl)
  unfold stepS at h2
  rw [close_app H (fun a ha=>(outS_mem.1 (hsub a ha)).1),hd] at h2
  exact h2
theorem sv_reach {s:List Int} (h:Sv c x s):Reaches (outS c x) (stepS c) [] s:=by
 have h1:=close_reach H s.length s rfl fun a ha=>outS_mem.2 ⟨h.arr a ha,h.src a ha⟩
 have h2:closeS c s=s:=by
  conv=>rhs; rw [h.form]
  unfold closeS
  apply List.filter_congr
  intro z hz
  rw [Bool.eq_iff_iff,hasB_iff]
  constructor
  ·intro hc
   have:z∈closeS c s:=List.mem_filter.2 ⟨hz,hc⟩
   obtain ⟨_,y,hy,b,hb,e1,e2⟩:=close_mem.1 this
   rw [← e2]; exact h.closed y hy b hb.1 hb.2 e1
  ·intro hs
   exact (List.mem_filter.1 (close_sub H h.arr z hs)).2
 rw [h2] at h1; exact h1
theorem svl_mem {L:List (List Int)} (h:SvList c x L) (s:List Int):s∈L↔Sv c x s:=⟨h.sv H s,fun hs=>(h.mem s).2 (sv_reach H hs)⟩
theorem out_sv:Sv c x (outS c x):=by
 refine ⟨?_,fun y hy=>(outS_mem.1 hy).2,fun y hy b b0 b1 e=>?_⟩
 ·show (ns c.aG.length).filter _=_
  apply List.filter_congr
  intro z hz
  rw [Bool.eq_iff_iff,hasB_iff,outS_mem]
  simp only [beq_iff_eq]
  exact ⟨fun h=>⟨ns_mem.1 hz,h⟩,fun h=>h.2⟩
 ·have hy:=outS_mem.1 hy
  have c1:=H.cell y b hy.1.1 hy.1.2 b0 b1 e
  exact outS_mem.2 ⟨⟨c1.1,c1.2.1⟩,by rw [c1.2.2.1]; exact hy.2⟩
end
end Go.Proofs.YtkhdhnpokfibjaaGreat
namespace Go.Li
open Go
section
variable {S S1 R α:Type} {body:S1→Option (Out S1 R)}
end
end Go.Li
namespace Go.Proofs.YtkhdhnpokfibjaaGreat
open Go Go.Li
def put (p:Int→List Int→Bool) (x:Int) (s:List Int):Int→List Int→Bool:=fun y t=>p y t || (y == x && t == s)
structure Tab (c:aI) (ls:List (List (List Int))):Prop where
 cat:Cat c
 lists:Lists c c.aD.toNat ls
namespace Tab
variable {c:aI} {ls:List (List (List Int))} (T:Tab c ls)
include T
theorem len:(ls.length:Int)=c.aD:=by have h1:=T.lists.len; have h2:=T.cat.o0; omega
theorem sv {x:Int} (h0:0≤x) (h1:x < ls.length):SvList c x (gl ls x):=T.lists.sv T.cat h0 (by have:=T.lists.len; omega)
theorem mem {x:Int} (h0:0≤x) (h1:x < ls.length) {s:List Int}:s∈gl ls x↔Sv c x s:=svl_mem T.cat (T.sv h0 h1) s
theorem nodup {x:Int} (h0:0≤x) (h1:x < ls.length):(gl ls x).Nodup:=(T.sv h0 h1).nodup
theorem fr {a:Int} (a0:0≤a) (a1:a < c.aG.length):0≤gi c.aG a∧gi c.aG a < ls.length:=by have:=T.cat.fr a0 a1; rw [← T.len] at this; exact this
theorem to {a:Int} (a0:0≤a) (a1:a < c.aG.length):0≤gi c.To a∧gi c.To a < ls.length:=by have:=T.cat.to a0 a1; rw [← T.len] at this; exact this
theorem out {x:Int} (h0:0≤x) (h1:x < ls.length):outS c x∈gl ls x:=(T.mem h0 h1).2 (out_sv T.cat)
theorem arr {x:Int} (h0:0≤x) (h1:x < ls.length) {s:List Int} (hs:s∈gl ls x) {a:Int} (ha:a∈s):0≤a∧a < c.aG.length:=((T.mem h0 h1).1 hs).arr a ha
end Tab
def localB (c:aI) (p:Int→List Int→Bool) (s t:List Int):Bool:=!(s.any fun a=>!(p (gi c.To a) (pullS c a t)))
structure Closed (c:aI) (ls:List (List (List Int))) (q:Int→List Int→Bool):Prop where
 top:∀ x:Int,0≤x→x < ls.length→q x (outS c x)=true
 arrow:∀ a s:_,0≤a→a < (c.aG.length:Int)→s∈gl ls (gi c.aG a)→q (gi c.aG a) s=true→q (gi c.To a) (pullS c a s)=true
 loc:∀ x:Int,0≤x→x < ls.length→∀ s∈gl ls x,∀ t∈gl ls x,q x s=true→localB c q s t=true→q x t=true
section
variable {c:aI} {ls:List (List (List Int))} (T:Tab c ls) {p:Int→List Int→Bool}
include T
end
end Go.Proofs.YtkhdhnpokfibjaaGreat
namespace Go.Proofs.YtkhdhnpokfibjaaGreat
open Go Go.Li
def pairs (ls:List (List (List Int))):List (Int×List Int):=(ns ls.length).flatMap fun x=>(gl ls x).map fun s=>(x,s)
def cnt (ls:List (List (List Int))) (p:Int→List Int→Bool):Nat:=(pairs ls).countP fun z=>p z.1 z.2
def Le (ls:List (List (List Int))) (p q:Int→List Int→Bool):Prop:=∀ y:Int,0≤y→y < ls.length→∀ t∈gl ls y,p y t=true→q y t=true
theorem Le.tr {ls:List (List (List Int))} {p q r:Int→List Int→Bool} (h:Le ls p q) (g:Le ls q r):Le ls p r:=fun y h0 h1 t ht hp=>g y h0 h1 t ht (h y h0 h1 t ht hp)
theorem Le.put {ls:List (List (List Int))} {p:Int→List Int→Bool} {x:Int} {s:List Int}:Le ls p (put p x s):=fun y _ _ t _ h=>by
 show (p y t || _)=true
 rw [h]; rfl
end Go.Proofs.YtkhdhnpokfibjaaGreat
namespace Go.Proofs.YtkhdhnpokfibjaaGreat
open Go Go.Li
section
variable {c:aI} {ls:List (List (List Int))} (T:Tab c ls) {p:Int→List Int→Bool}
include T
end
end Go.Proofs.YtkhdhnpokfibjaaGreat
namespace Go.Proofs.YtkhdhnpokfibjaaGreat
open Go Go.Li
section
end
end Go.Proofs.YtkhdhnpokfibjaaGreat
namespace Go.Proofs.YtkhdhnpokfibjaaGreat
open Go Go.Li
end Go.Proofs.YtkhdhnpokfibjaaGreat
