/- All cones of a diagram are listed, and none twice; maps between cones and their images. No condition beside those that each theorem names. -/
import Derived.Test.YtgjbmjjihmfppaaGreatUy
namespace Go.Proofs.YtgjbmjjihmfppaaGreat
open Go Go.Li
set_option linter.unusedVariables false
set_option linter.unusedSectionVars false
set_option linter.unusedSimpArgs false
section
variable {d:aI} (hb:bx d=true)
include hb
end
section
variable {d f:aI} (hd:bx d=true) (hf:bx f=true) (e:d.aE=f.aC)
include hd hf e
end
end Go.Proofs.YtgjbmjjihmfppaaGreat
namespace Go.Proofs.YtgjbmjjihmfppaaGreat
open Go Go.Li
set_option linter.unusedVariables false
set_option linter.unusedSectionVars false
set_option linter.unusedSimpArgs false
def XF (p q:bG):Bool:=p.dy == q.dy && p.br == q.br
theorem Ub {p q:bG}:XF p q=true↔p=q:=by
 unfold XF
 rw [Bool.and_eq_true,beq_iff_eq,beq_iff_eq]
 obtain ⟨a,b⟩:=p
 obtain ⟨a',b'⟩:=q
 exact ⟨fun ⟨h1,h2⟩=>by dsimp only at h1 h2; rw [h1,h2],fun h=>by cases h; exact ⟨rfl,rfl⟩⟩
def A8 (d f:aI) (q:bG):List bG:=(ao d).filter fun p=>XF (rz f p) q
def Rb (d:aI) (l:List bG):Bool:=match l with
 | [p]=>er d (ao d) p
 | _=>false
def Jn (d f:aI):Bool:=(ao (bb d f)).all fun q=>!er (bb d f) (ao (bb d f)) q || Rb d (A8 d f q)
def DP (d f:aI):Bool:=(ao d).all fun p=>!er (bb d f) (ao (bb d f)) (rz f p) || er d (ao d) p
section
variable {d f:aI} (hd:bx d=true) (hf:bx f=true) (e:d.aE=f.aC)
include hd hf e
end
end Go.Proofs.YtgjbmjjihmfppaaGreat
namespace Go.Proofs.YtgjbmjjihmfppaaGreat
open Go Go.Li
set_option linter.unusedVariables false
set_option linter.unusedSectionVars false
set_option linter.unusedSimpArgs false
def Dl (p:bG):List Int:=([p.dy].map (fun n=>IntKind.u8.wrap n)++[255])++(p.br.map (fun n=>IntKind.u8.wrap n)++[255])
def uC (p:bG):ByteArray:=strOfNums (Dl p)
theorem J7 {p:bG} (hp:p.br.length≤1000):lC p=some (uC p):=by
 unfold lC sA
 have hk:ak (S:=Unit) (ah (ae 0 (ai (fun s=>iX [[p.dy],p.br] s.1 s.2) (([]:(List Int)),(0:Int)))) (fun (ie,fi)=>(some (Out.ret ((strOfNums ie))))))=some (uC p):=by
  have e1:iX [[p.dy],p.br] [] 0=some (.norm ([p.dy].map (fun n=>IntKind.u8.wrap n)++[255],1)):=by
   unfold iX
   rw [av (by show (0:Int) < 2; omega),cond_true,show idx [[p.dy],p.br] (0:Int)=some [p.dy] from rfl,aF]
   refine (congrArg (fun z=>z) (?_:ah (ae 2 (ai (fun s=>lW [p.dy] s.1 s.2) (([]:List Int),(0:Int)))) _=_))
   refine (pq [p.dy] (fun i=>(([p.dy].take i).map (fun n=>IntKind.u8.wrap n),(i:Int))) (e:=([p.dy].map (fun n=>IntKind.u8.wrap n),(1:Int))) rfl ?_ ?_).trans ?_
   ·intro i n hn
    obtain rfl:i=0:=by have:=bj hn; simp at this; exact this
    obtain rfl:p.dy=n:=by simpa using hn
    rfl
   ·rfl
   ·rfl
  have e2:iX [[p.dy],p.br] ([p.dy].map (fun n=>IntKind.u8.wrap n)++[255]) 1=some (.norm (Dl p,2)):=by
   unfold iX
   rw [av (by show (1:Int) < 2; omega),cond_true,show idx [[p.dy],p.br] (1:Int)=some p.br from rfl,aF]
   generalize ho:([p.dy].map (fun n=>IntKind.u8.wrap n)++[(255:Int)])=o
   have ij:o.length≤1048576:=by rw [← ho]; simp
   refine (pq p.br (fun i=>(o++(p.br.take i).map (fun n=>IntKind.u8.wrap n),(i:Int))) (e:=(o++p.br.map (fun n=>IntKind.u8.wrap n),(p.br.length:Int))) (by simp) ?_ ?_).trans ?_
   ·intro i n hn
    have hi:=bj hn
    have ht:(o++(p.br.take i).map (fun n=>IntKind.u8.wrap n)).length≤2097152:=by rw [List.length_append,List.length_map,List.length_take]; omega
    show lW p.br (o++(p.br.take i).map (fun n=>IntKind.u8.wrap n)) (i:Int)=_
    unfold lW
    rw [av (by omega),cond_true,bu,hn,aF,dK (by omega) (by omega),aF,bR (by omega),List.take_add_one,hn,List.map_append,← List.append_assoc]; rfl
   ·show lW p.br _ _=_
    unfold lW
    rw [aX (by omega),cond_false,List.take_length]
   ·have ht:(o++p.br.map (fun n=>IntKind.u8.wrap n)).length≤2097152:=by rw [List.length_append,List.length_map]; omega
    show (fits 1 ((o++p.br.map (fun n=>IntKind.u8.wrap n)).length+1)>>=_)=_
    rw [dK (by omega) (by omega),aF]
    unfold Dl
    rw [ho,List.append_assoc]; rfl
  have e3:iX [[p.dy],p.br] (Dl p) 2=some (.exit 0 (Dl p,2)):=by
   unfold iX
   rw [aX (by show ¬ (2:Int) < 2; omega),cond_false]
  refine (congrArg ak (pq [[p.dy],p.br] (fun i=>((match i with | 0=>[] | 1=>[p.dy].map (fun n=>IntKind.u8.wrap n)++[255] | _=>Dl p),(i:Int))) (e:=(Dl p,(2:Int))) rfl ?_ e3)).trans rfl
  intro i n hn
  have hi:=bj hn
  match i,hi with
  | 0,_=>exact e1
  | 1,_=>exact e2
 rw [hk,aF]; rfl
theorem SV {n:Int} (h0:0≤n) (h1:n < 256):IntKind.u8.wrap n=n:=by
 unfold IntKind.wrap
 have:n % (2 ^ IntKind.u8.bits:Int)=n:=by
  show n % 256=n
  omega
 rw [this]
 rfl
theorem Zs {m n:Int} (m0:0≤m) (m1:m < 256) (n0:0≤n) (n1:n < 256) (h:UInt8.ofNat m.toNat=UInt8.ofNat n.toNat):m=n:=by
 have h2:=congrArg UInt8.toNat h
 rw [UInt8.toNat_ofNat',UInt8.toNat_ofNat',Nat.mod_eq_of_lt (by omega),Nat.mod_eq_of_lt (by omega)] at h2
 omega
theorem bytes_inj:∀ {l k:List Int},(∀ y∈l,0≤y∧y < 256)→(∀ y∈k,0≤y∧y < 256)→l.map (fun n=>UInt8.ofNat n.toNat)=k.map (fun n=>UInt8.ofNat n.toNat)→l=k:=by
 intro l
 induction l with
 | nil=>intro k _ _ h; cases k with | nil=>rfl | cons b k=>simp at h
 | cons a l ih=>
  intro k h1 h2 h
  cases k with
  | nil=>simp at h
  | cons b k=>
   rw [List.map_cons,List.map_cons] at h
   injection h with h3 h4
   have ha:=h1 a (by simp)
   have hb:=h2 b (by simp)
   rw [Zs ha.1 ha.2 hb.1 hb.2 h3,ih (fun y hy=>h1 y (by simp [hy])) (fun y hy=>h2 y (by simp [hy])) h4]
theorem Rc {d:aI} (hb:bx d=true) {p q:bG} (P:j7 d p) (Q:j7 d q) (h:uC p=uC q):p=q:=by
 have D:=dh hb
 have o8:=D.d.o8
 have m:=D.d.m
 have bd:∀ {r:bG},j7 d r→(0≤r.dy∧r.dy < 256)∧∀ y∈r.br,0≤y∧y < 256:=fun {r} R=>by
  have l:=R.l
  have x0:=R.x0
  have x1:=R.x1
  refine ⟨by omega,fun y hy=>?_⟩
  obtain ⟨i,hi,rfl⟩:=List.mem_iff_getElem.1 hy
  replace hi:i < r.br.length:=hi
  have:=(R.v (i:Int) (by omega) (by omega)).1
  unfold gi at this
  rw [List.getD_eq_getElem?_getD,Int.toNat_natCast,List.getElem?_eq_getElem hi] at this
  have h2:0≤r.br[i]∧r.br[i] < d.aE.aD.length:=this
  omega
 have XG:∀ {r:bG},j7 d r→Dl r=(r.dy :: 255 :: r.br)++[255]:=fun {r} R=>by
  obtain ⟨⟨a0,a1⟩,b⟩:=bd R
  unfold Dl
  have hm:r.br.map (fun n=>IntKind.u8.wrap n)=r.br:=by
   have:r.br.map (fun n=>IntKind.u8.wrap n)=r.br.map id:=List.map_congr_left fun y hy=>SV (b y hy).1 (b y hy).2
   rw [this,List.map_id]
  rw [hm,List.map_cons,SV a0 a1]; rfl
 have hl:∀ {r:bG},j7 d r→∀ y∈Dl r,0≤y∧y < 256:=fun {r} R y hy=>by
  obtain ⟨a,b⟩:=bd R
  rw [XG R] at hy
  rcases List.mem_append.1 hy with hy | hy
  ·rcases List.mem_cons.1 hy with rfl | hy
   ·exact a
   ·rcases List.mem_cons.1 hy with rfl | hy
    ·omega
    ·exact b y hy
  ·rw [List.mem_singleton.1 hy]; omega
 have h3:=congrArg (fun b:ByteArray=>b.data.toList) h
 simp only [uC,strOfNums_data] at h3
 have h4:=bytes_inj (hl P) (hl Q) h3
 rw [XG P,XG Q] at h4
 have h5:=List.append_cancel_right h4
 injection h5 with h6 h7
 injection h7 with _ h8
 obtain ⟨a,b⟩:=p
 obtain ⟨a',b'⟩:=q
 dsimp only at h6 h8
 rw [h6,h8]
theorem Zt {υ:Type} {k a:ByteArray} {b:υ}:∀ {m:List (ByteArray×υ)},jz (qm m a b) k=bif a == k then some b else jz m k:=by
 intro m
 induction m with
 | nil=>rfl
 | cons p m ih=>
  unfold qm
  cases h:(p.1 == a) with
  | true=>
   have h':p.1=a:=(MapKept.bytes_beq _ _).1 h
   rw [cond_true]
   unfold jz
   dsimp only
   rw [h']
   cases (a == k) <;> rfl
  | false=>
   rw [cond_false]
   unfold jz
   rw [ih]
   cases h2:(p.1 == k) with
   | true=>
    have h3:(a == k)=false:=by
     cases h4:(a == k) with
     | false=>rfl
     | true=>
      rw [(MapKept.bytes_beq _ _).1 h2,(MapKept.bytes_beq _ _).1 h4,(MapKept.bytes_beq _ _).2 rfl] at h
      cases h
    rw [h3]; rfl
   | false=>rfl
def GG (f:aI) (m:List (ByteArray×List bG)) (p:bG):List (ByteArray×List bG):=qm m (uC (rz f p)) ((jz m (uC (rz f p))).getD []++[p])
theorem OK (f:aI) (k:ByteArray):∀ (l:List bG) (m:List (ByteArray×List bG)),(jz (l.foldl (GG f) m) k).getD []=(jz m k).getD []++l.filter fun p=>uC (rz f p) == k:=by
 intro l
 induction l with
 | nil=>intro m; simp
 | cons p l ih=>
  intro m
  rw [List.foldl_cons,ih]
  unfold GG
  rw [Zt,List.filter_cons]
  cases h:(uC (rz f p) == k) with
  | true=>
   have h':=(MapKept.bytes_beq _ _).1 h
   rw [cond_true,if_pos rfl,h']
   simp
  | false=>rw [cond_false,if_neg (by decide)]
section
variable {d f:aI} (hd:bx d=true) (hf:bx f=true) (e:d.aE=f.aC)
include hd hf e
theorem Fy (h2:(ao (bb d f)).length≤400) {c:List bG} {p:bG} (P:j7 d p):fN (dZ.mk d (bb d f) f c (ao (bb d f))) p=some (er (bb d f) (ao (bb d f)) (rz f p)):=by
 have he:=sO hd hf e
 unfold fN
 rw [FC hd hf e P,aF,we he (fun q hq=>ta he hq) (by omega) (yI hd hf e P),aF]; rfl
theorem Jl (h1:(ao d).length≤400) (h2:(ao (bb d f)).length≤400):eM (dZ.mk d (bb d f) f (ao d) (ao (bb d f)))=some (DP d f):=by
 have hC:∀ q∈ao d,j7 d q:=fun q hq=>ta hd hq
 unfold eM
 have hr:DP d f = !((ao d).any fun p=>er (bb d f) (ao (bb d f)) (rz f p) && !er d (ao d) p):=by
  unfold DP
  rw [Bool.eq_iff_iff,Bool.not_eq_true',List.all_eq_true,List.any_eq_false]
  refine forall_congr' fun p=>forall_congr' fun _=>?_
  cases er (bb d f) (ao (bb d f)) (rz f p) <;> cases er d (ao d) p <;> decide
 rw [hr]
 refine (congrArg ak (jr (ao d) (fun p=>er (bb d f) (ao (bb d f)) (rz f p) && !er d (ao d) p) (fun i=>(i:Int)) (y:=false) (e:=((ao d).length:Int)) rfl ?_ ?_ ?_)).trans ?_
 ·intro i p hp hn
  have hi:=bj hp
  have P:=hC p (List.mem_of_getElem? hp)
  unfold gZ
  dsimp only
  rw [av (by omega),cond_true,bu,hp,aF,Fy hd hf e h2 P,aF,bR (by omega),we hd hC (by omega) P]
  revert hn
  cases er (bb d f) (ao (bb d f)) (rz f p) <;> cases er d (ao d) p <;> intro hn <;> first | rfl | cases hn
 ·intro i p hp hn
  have hi:=bj hp
  have P:=hC p (List.mem_of_getElem? hp)
  unfold gZ
  dsimp only
  rw [av (by omega),cond_true,bu,hp,aF,Fy hd hf e h2 P,aF,we hd hC (by omega) P]
  revert hn
  cases er (bb d f) (ao (bb d f)) (rz f p) <;> cases er d (ao d) p <;> intro hn <;> first | rfl | cases hn
 ·unfold gZ
  dsimp only
  rw [aX (by omega),cond_false]
 ·cases (ao d).any fun p=>er (bb d f) (ao (bb d f)) (rz f p) && !er d (ao d) p <;> rfl
theorem KW (h1:(ao d).length≤400) (h2:(ao (bb d f)).length≤400):fA (dZ.mk d (bb d f) f (ao d) (ao (bb d f)))=some (Jn d f):=by
 have he:=sO hd hf e
 have hC:∀ q∈ao d,j7 d q:=fun q hq=>ta hd hq
 have hE:∀ q∈ao (bb d f),j7 (bb d f) q:=fun q hq=>ta he hq
 have hk:∀ q,j7 (bb d f) q→lC q=some (uC q):=fun q Q=>J7 (by have:=Q.l; have:=(dh he).c.o8; omega)
 unfold fA
 refine (congrArg ak (pq (ao d) (fun i=>(((ao d).take i).foldl (GG f) [],(i:Int))) (e:=((ao d).foldl (GG f) [],((ao d).length:Int))) rfl ?_ ?_)).trans ?_
 ·intro i p hp
  have hi:=bj hp
  have P:=hC p (List.mem_of_getElem? hp)
  show fO (dZ.mk d (bb d f) f (ao d) (ao (bb d f))) (((ao d).take i).foldl (GG f) [],(i:Int))=_
  unfold fO
  dsimp only
  have hlen:((jz (((ao d).take i).foldl (GG f) []) (uC (rz f p))).getD []).length≤400:=by
   rw [OK]
   refine Nat.le_trans (by rw [show (jz ([]:List (ByteArray×List bG)) (uC (rz f p))).getD []=[] from rfl,List.nil_append]; exact List.length_filter_le _ _) (by rw [List.length_take]; omega)
  rw [av (by omega),cond_true,bu,hp,aF,FC hd hf e P,aF,hk _ (yI hd hf e P),aF,dK (by omega) (by omega),aF,bR (by omega),List.take_add_one,hp,List.foldl_append]
  rfl
 ·show fO (dZ.mk d (bb d f) f (ao d) (ao (bb d f))) (((ao d).take (ao d).length).foldl (GG f) [],((ao d).length:Int))=_
  unfold fO
  dsimp only
  rw [aX (by omega),cond_false,List.take_length]
 ·generalize hm:(ao d).foldl (GG f) []=im
  have hg:∀ q,j7 (bb d f) q→(jz im (uC q)).getD []=A8 d f q:=fun q Q=>by
   rw [← hm,OK]
   unfold A8
   show []++(ao d).filter (fun p=>uC (rz f p) == uC q)=_
   rw [List.nil_append]
   refine List.filter_congr fun p hp=>?_
   rw [Bool.eq_iff_iff,MapKept.bytes_beq,Ub]
   exact ⟨fun h=>Rc he (yI hd hf e (hC p hp)) Q h,fun h=>by rw [h]⟩
  let GH:bG→Bool:=fun q=>!er (bb d f) (ao (bb d f)) q || Rb d (A8 d f q)
  dsimp only
  refine (congrArg ak (pq (ao (bb d f)) (fun i=>(((ao (bb d f)).take i).all GH,(i:Int))) (e:=((ao (bb d f)).all GH,((ao (bb d f)).length:Int))) rfl ?_ ?_)).trans rfl
  ·intro i q hq
   have hi:=bj hq
   have Q:=hE q (List.mem_of_getElem? hq)
   show fP (dZ.mk d (bb d f) f (ao d) (ao (bb d f))) im (((ao (bb d f)).take i).all GH,(i:Int))=_
   unfold fP
   dsimp only
   have e1:((ao (bb d f)).take (i+1)).all GH=(((ao (bb d f)).take i).all GH && GH q):=by
    rw [List.take_add_one,hq,List.all_append]; simp
   rw [av (by omega),cond_true,bu,hq,aF,we he hE (by omega) Q,aF,bR (by omega),e1,hk q Q,aF,hg q Q]
   generalize ((ao (bb d f)).take i).all GH=g
   show _=some (Out.norm (g && (!er (bb d f) (ao (bb d f)) q || Rb d (A8 d f q)),_))
   cases er (bb d f) (ao (bb d f)) q with
   | false=>cases g <;> rfl
   | true=>
    cases g with
    | false=>rfl
    | true=>
     have dg:∀ p∈A8 d f q,p∈ao d:=fun p hp=>(List.mem_filter.1 hp).1
     generalize A8 d f q=l at dg
     match l,dg with
     | [],_=>rfl
     | [p],dg=>
      have hp:=dg p (by simp)
      show ((bif (1:Int) == 1 then ((idx [p] (0:Int))>>=fun IP=>(eH d (ao d) IP>>=fun IU=>some IU)) else some false)>>=fun Ot=>some (Out.norm (Ot,((i+1:Nat):Int))))=_
      rw [show idx [p] (0:Int)=some p from rfl,aF,we hd hC (by omega) (hC p hp),aF]
      rfl
     | a :: b :: m,_=>
      show ((bif ((a :: b :: m).length:Int) == (1:Int) then ((idx (a :: b :: m) (0:Int))>>=fun IP=>(eH d (ao d) IP>>=fun IU=>some IU)) else some false)>>=fun Ot=>some (Out.norm (Ot,((i+1:Nat):Int))))=_
      rw [show (((a :: b :: m).length:Int) == (1:Int))=false by rw [beq_eq_false_iff_ne]; simp; omega]
      rfl
  ·show fP (dZ.mk d (bb d f) f (ao d) (ao (bb d f))) im (((ao (bb d f)).take (ao (bb d f)).length).all GH,((ao (bb d f)).length:Int))=_
   unfold fP
   dsimp only
   rw [aX (by omega),cond_false,List.take_length]
end
end Go.Proofs.YtgjbmjjihmfppaaGreat
namespace Go.Proofs.YtgjbmjjihmfppaaGreat
open Go Go.Li
set_option linter.unusedVariables false
set_option linter.unusedSectionVars false
set_option linter.unusedSimpArgs false
def CU (b:Bool) (d f:aI):Bool×Int:=bif bx d && bx f then (bif o7 d.aE f.aC then (bif decide ((ao d).length≤400) && decide ((ao (bb d f)).length≤400) then (b,0) else (false,3)) else (false,5)) else (false,1)
theorem Co {d f:aI} (ds:dj d) (fs:dj f):∀ c∈[d,f],dj c:=fun c hc=>by
 rcases List.mem_cons.1 hc with rfl | hc
 ·exact ds
 ·rw [List.mem_singleton.1 hc]; exact fs
theorem EM {te:dZ→Option Bool} {b:Bool} {d f:aI} (ds:dj d) (fs:dj f) (ht:bx d=true→bx f=true→d.aE=f.aC→(ao d).length≤400→(ao (bb d f)).length≤400→te (dZ.mk d (bb d f) f (ao d) (ao (bb d f)))=some b):fB te d f false=some (CU b d f):=by
 unfold fB fM CU
 rw [wC [d,f] (by simp) (Co ds fs),aF]
 have du:[d,f].all bx=(bx d && bx f):=by simp
 rw [du]
 cases hb:bx d && bx f with
 | false=>rfl
 | true=>
  rw [Bool.and_eq_true] at hb
  obtain ⟨hd,hf⟩:=hb
  simp only [Bool.not_true,cond_false,cond_true]
  rw [wB ds.t,aF]
  cases hs:o7 d.aE f.aC with
  | false=>rfl
  | true=>
   have e:=sN.1 hs
   have he:=sO hd hf e
   simp only [Bool.not_true,cond_false,cond_true]
   unfold jL
   rw [zn (dh hd).toFHead (dh hf).toFHead e ds fs,aF,sm hd,aF,sm he,aF]
   by_cases h1:(ao d).length≤400
   ·rw [av h1]
    by_cases h2:(ao (bb d f)).length≤400
    ·rw [av h2]
     simp only [cond_true,Bool.and_self]
     show ak (S:=Unit) (te (dZ.mk d (bb d f) f (ao d) (ao (bb d f)))>>=fun vq=>(some (Out.ret (vq,(0:Int)))))=_
     rw [ht hd hf e h1 h2,aF]; rfl
    ·rw [aX h2]; rfl
   ·rw [aX h1]; rfl
theorem Jo {d f:aI} (ds:dj d) (fs:dj f):jR d f=some (CU (DP d f) d f):=by
 unfold jR
 rw [EM ds fs (b:=DP d f) fun hd hf e h1 h2=>Jl hd hf e h1 h2,aF]; rfl
theorem J6 {d f:aI} (ds:dj d) (fs:dj f):kB d f=some (CU (Jn d f) d f):=by
 unfold kB
 rw [EM ds fs (b:=Jn d f) fun hd hf e h1 h2=>KW hd hf e h1 h2,aF]; rfl
section
variable {d f:aI} (hd:bx d=true) (hf:bx f=true) (e:d.aE=f.aC)
include hd hf e
end
end Go.Proofs.YtgjbmjjihmfppaaGreat
namespace Go.Proofs.YtgjbmjjihmfppaaGreat
open Go Go.Li
set_option linter.unusedVariables false
set_option linter.unusedSectionVars false
set_option linter.unusedSimpArgs false
def vA (d f:aI):Bool×Int:=bif bx d && bx f then (bif o7 d.aE f.aC then uq (ed d) (ed f) else (false,5)) else (false,1)
def CT (b:Bool) (d f:aI):Bool×Int:=bif bx d && bx f then (bif o7 d.aE f.aC then (bif decide ((ao (ed d)).length≤400) && decide ((ao (bb (ed d) (ed f))).length≤400) then (b,0) else (false,3)) else (false,5)) else (false,1)
theorem xQ {d f:aI} (e:d.aE=f.aC):(ed d).aE=(ed f).aC:=congrArg vB e
theorem Dj {te:dZ→Option Bool} {b:Bool} {d f:aI} (ds:dj d) (fs:dj f) (ht:bx d=true→bx f=true→d.aE=f.aC→(ao (ed d)).length≤400→(ao (bb (ed d) (ed f))).length≤400→te (dZ.mk (ed d) (bb (ed d) (ed f)) (ed f) (ao (ed d)) (ao (bb (ed d) (ed f))))=some b):fB te d f true=some (CT b d f):=by
 unfold fB fM CT
 rw [wC [d,f] (by simp) (Co ds fs),aF]
 have du:[d,f].all bx=(bx d && bx f):=by simp
 rw [du]
 cases hb:bx d && bx f with
 | false=>rfl
 | true=>
  rw [Bool.and_eq_true] at hb
  obtain ⟨hd,hf⟩:=hb
  simp only [Bool.not_true,cond_false,cond_true]
  rw [wB ds.t,aF]
  cases hs:o7 d.aE f.aC with
  | false=>rfl
  | true=>
   have e:=sN.1 hs
   have ha:=sW hd
   have hc:=sW hf
   have eo:=xQ e
   have he:=sO ha hc eo
   simp only [Bool.not_true,cond_false,cond_true]
   rw [Ag hd,aF,Ag hf,aF]
   unfold jL
   rw [zn (dh ha).toFHead (dh hc).toFHead eo (si (dh ha)) (si (dh hc)),aF,sm ha,aF,sm he,aF]
   by_cases h1:(ao (ed d)).length≤400
   ·rw [av h1]
    by_cases h2:(ao (bb (ed d) (ed f))).length≤400
    ·rw [av h2]
     simp only [cond_true,Bool.and_self]
     show ak (S:=Unit) (te (dZ.mk (ed d) (bb (ed d) (ed f)) (ed f) (ao (ed d)) (ao (bb (ed d) (ed f))))>>=fun vq=>(some (Out.ret (vq,(0:Int)))))=_
     rw [ht hd hf e h1 h2,aF]; rfl
    ·rw [aX h2]; rfl
   ·rw [aX h1]; rfl
theorem MB {d f:aI} (hd:bx d=true) (hf:bx f=true) (e:d.aE=f.aC) (h1:(ao d).length≤400) (h2:(ao (bb d f)).length≤400):fL (dZ.mk d (bb d f) f (ao d) (ao (bb d f)))=some (match (ao d).find? (er d (ao d)) with | some p=>(er (bb d f) (ao (bb d f)) (rz f p),true) | none=>(false,false)):=by
 have he:=sO hd hf e
 unfold fL
 rw [Jk hd hf e h1,aF]
 have hh:((ao d).filter (er d (ao d))).head? = (ao d).find? (er d (ao d)):=List.head?_filter ..
 cases hF:(ao d).filter (er d (ao d)) with
 | nil=>rw [hF] at hh; rw [← hh]; rfl
 | cons p l=>
  rw [hF] at hh
  rw [← hh]
  have hp:p∈ao d:=(List.mem_filter.1 (by rw [hF]; simp)).1
  have P:=ta hd hp
  rw [show (((p :: l).length:Int) == (0:Int))=false by rw [beq_eq_false_iff_ne]; simp; omega,cond_false,show idx (p :: l) (0:Int)=some p from rfl,aF,Fy hd hf e h2 P,aF]
  rfl
theorem MC {d f:aI} (ds:dj d) (fs:dj f):kN d f=some (vA d f):=by
 unfold kN jA fM vA uq
 rw [wC [d,f] (by simp) (Co ds fs),aF]
 have du:[d,f].all bx=(bx d && bx f):=by simp
 rw [du]
 cases hb:bx d && bx f with
 | false=>rfl
 | true=>
  rw [Bool.and_eq_true] at hb
  obtain ⟨hd,hf⟩:=hb
  simp only [Bool.not_true,cond_false,cond_true]
  rw [wB ds.t,aF]
  cases hs:o7 d.aE f.aC with
  | false=>rfl
  | true=>
   have e:=sN.1 hs
   have ha:=sW hd
   have hc:=sW hf
   have eo:=xQ e
   have he:=sO ha hc eo
   simp only [Bool.not_true,cond_false,cond_true]
   rw [Ag hd,aF,Ag hf,aF]
   unfold jL
   rw [zn (dh ha).toFHead (dh hc).toFHead eo (si (dh ha)) (si (dh hc)),aF,sm ha,aF,sm he,aF]
   by_cases h1:(ao (ed d)).length≤400
   ·rw [av h1]
    by_cases h2:(ao (bb (ed d) (ed f))).length≤400
    ·rw [av h2]
     simp only [cond_true,Bool.and_self]
     show ak (S:=Unit) (ak (S:=Unit) (fL (dZ.mk (ed d) (bb (ed d) (ed f)) (ed f) (ao (ed d)) (ao (bb (ed d) (ed f))))>>=fun vq=>(bif !(vq.2) then (some (Out.ret (false,(4:Int)))) else (some (Out.ret (vq.1,(0:Int))))))>>=fun lh=>(some (Out.ret ((lh.1,lh.2)))))=_
     rw [MB ha hc eo h1 h2,aF]
     cases (ao (ed d)).find? (er (ed d) (ao (ed d))) <;> rfl
    ·rw [aX h2]; rfl
   ·rw [aX h1]; rfl
theorem MD {d f:aI} (ds:dj d) (fs:dj f):kO d f=some (vA d f):=by
 unfold kO qU vA
 rw [Cp ds,aF,Cp fs,aF]
 cases hd:bx d with
 | false=>rfl
 | true=>
  cases hf:bx f with
  | false=>rfl
  | true=>
   simp only [Bool.not_true,cond_false,cond_true,aF,Bool.and_self]
   rw [J5 ds.t,aF]
   cases hs:o7 d.aE f.aC with
   | false=>rfl
   | true=>
    have e:=sN.1 hs
    have he:=sO hd hf e
    simp only [Bool.not_true,cond_false,cond_true]
    rw [OG (dh hd).toFHead (dh hf).toFHead e ds fs,aF]
    show ak (S:=Unit) (iR d>>=fun QZ=>iR (bb d f)>>=fun Q0=>iR f>>=fun Q1=>jS QZ Q0 Q1>>=fun zF=>(some (Out.ret ((zF.1,zF.2)))))=_
    rw [FB hd,aF,FB he,aF,FB hf,aF,show ed (bb d f)=bb (ed d) (ed f) from rfl,OH (sW hd) (sW hf) (xQ e)]
    rfl
theorem GZ {d f:aI} (ds:dj d) (fs:dj f):iK d f=some (CT (DP (ed d) (ed f)) d f):=by
 unfold iK
 rw [Dj ds fs (b:=DP (ed d) (ed f)) fun hd hf e h1 h2=>Jl (sW hd) (sW hf) (xQ e) h1 h2,aF]; rfl
theorem Jm {d f:aI} (ds:dj d) (fs:dj f):iU d f=some (CT (Jn (ed d) (ed f)) d f):=by
 unfold iU
 rw [Dj ds fs (b:=Jn (ed d) (ed f)) fun hd hf e h1 h2=>KW (sW hd) (sW hf) (xQ e) h1 h2,aF]; rfl
theorem OI {x:List Int} (B:Ah x):Ok (iE x) fun y=>dj y.1∧dj y.2:=by
 unfold iE
 refine jo (ob (XC B) fun y hy=>?_)
 obtain ⟨s,rfl,S⟩:=hy
 show Ok (mL (aK.mk x s.At s.aq)>>=_) _
 exact ob (XD B S.on') fun f hf=>os hf.1
theorem GY {x0:List Int} (hl:x0.length≤maxLen∧∀ y∈x0,0≤y∧y < 256):fD x0=some true:=by
 unfold fD
 have Fj:rY x0=some (decide ((x0.length:Int) > 4096)):=rfl
 rw [Fj,aF]
 by_cases hb:(x0.length:Int) > 4096
 ·rw [av hb,cond_true]; rfl
 rw [aX hb,cond_false]
 obtain ⟨⟨d,f⟩,e,ds,fs⟩:=OI (x:=x0) ⟨by omega,hl.2⟩
 dsimp only at ds fs
 rw [e,aF]
 dsimp only
 rw [MC ds fs,aF,MD ds fs,aF,A5 rfl,cond_false,show ((vA d f).1 == (vA d f).1)=true by simp]
 simp only [Bool.not_true,aF,cond_false]
 cases hd:bx d with
 | false=>unfold vA; rw [hd]; rfl
 | true=>
  cases hf:bx f with
  | false=>unfold vA; rw [hd,hf]; rfl
  | true=>
   cases hs:o7 d.aE f.aC with
   | false=>unfold vA; rw [hd,hf,hs]; rfl
   | true=>
    have et:=sN.1 hs
    have ha:=sW hd
    have hc:=sW hf
    have eo:=xQ et
    have XE:=si (dh ha)
    have gy:=si (dh hc)
    have nn:o7 (ed d).aE (ed f).aC=true:=sN.2 eo
    have hk:vA d f=uq (ed d) (ed f):=by unfold vA; rw [hd,hf,hs]; rfl
    have n7:G9 (ed d) (ed f)=uq (ed d) (ed f):=by unfold G9; rw [ha,hc,nn]; rfl
    have htt:∀ b,CT b d f=CU b (ed d) (ed f):=fun b=>by unfold CT CU; rw [hd,hf,hs,ha,hc,nn]
    have ho:∀ {g:aI},dj g→bx g=true→gC g=some (ed g,0):=fun gs hg=>by
     unfold gC
     rw [Cq gs,aF,hg]
     simp only [Bool.not_true,cond_false]
     rw [Ag hg,aF]; rfl
    rw [ho ds hd,aF,ho fs hf,aF]
    dsimp only
    rw [OJ XE gy,aF,GZ ds fs,aF,Jo XE gy,aF,Jm ds fs,aF,J6 XE gy,aF,hk,n7,htt,htt]
    have hw:(aj ((0:Int)+0) == 0)=true:=rfl
    rw [hw]
    have hc5:((uq (ed d) (ed f)).2 == (1:Int))=false∧((uq (ed d) (ed f)).2 == (5:Int))=false:=by
     unfold uq
     cases (decide ((ao (ed d)).length≤400) && decide ((ao (bb (ed d) (ed f))).length≤400)) with
     | false=>exact ⟨rfl,rfl⟩
     | true=>cases (ao (ed d)).find? (er (ed d) (ao (ed d))) <;> exact ⟨rfl,rfl⟩
    rw [hc5.1,hc5.2]
    simp
    rfl
end Go.Proofs.YtgjbmjjihmfppaaGreat
