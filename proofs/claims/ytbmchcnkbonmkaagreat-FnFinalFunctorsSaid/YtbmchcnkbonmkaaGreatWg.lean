/- Walks by the calculus D. No condition beside those that each theorem names. -/
import Derived.Test.YtbmchcnkbonmkaaGreatDi
import Derived.Test.YtbmchcnkbonmkaaGreatMo
import Derived.Test.YtbmchcnkbonmkaaGreatDp
import Derived.Test.YtbmchcnkbonmkaaGreatDs
import Derived.Test.YtbmchcnkbonmkaaGreatWb
import Derived.Test.YtbmchcnkbonmkaaGreatWc
import Derived.Test.YtbmchcnkbonmkaaGreatWd
namespace Go.Proofs.YtbmchcnkbonmkaaGreat
open Go Go.Li Go.Dk
set_option linter.unusedVariables false
set_option maxHeartbeats 16000000
set_option maxRecDepth 100000
theorem c81 {x0:aG} {aU aZ aN aK:Value}:Ct Tryz.prog 81 true (pG x0) [.agg #[.int .i64 (x0.aA),aU,aZ,aN,aK]] [rI aU x0.aC,rI aZ x0.To,rI aN x0.aH,rJ aK x0.aB] (fun y (_:Unit)=>[.bool y]) (fun y _=>[]):=by
 refine ct (S:=Unit) (bw fun _ _=>rfl) Tryz.func81 rfl rfl ?_
 repeat' first
  | (apply Dk.fe; repeat' first | exact rfl | (refine @id.{0} _ ?_; constructor))
  | intro _
  | exact rfl
  | (refine Dk.uH (t:=102) rfl ?_ ?_)
  | (refine @id.{0} _ ?_; constructor)
  | apply Dk.loop 0 (V:=Unit) (fun (s:Int) v=>[]) (fun s v=>[(4,.int .i64 (s))]) () [(1,_),(3,_)]
  | apply Dk.loop 2 (V:=Unit) (fun (s:Int) v=>[]) (fun s v=>[(5,.int .i64 (s))]) () [(1,_),(3,_)]
  | apply Dk.loop 4 (V:=Unit) (fun (s:Int) v=>[]) (fun s v=>[(6,.int .i64 (s))]) () [(1,_),(3,_),(5,_)]
  | apply Dk.quiet (id:=9) (by kernel_rfl)
  | apply Dk.quiet (id:=20) (by kernel_rfl)
  | apply Dk.quiet (id:=23) (by kernel_rfl)
  | apply afa
  | apply afj
  | apply YU
  | exact ()
theorem c45 {x0:aG} {aU aZ aN aK:Value}:Ct Tryz.prog 45 true (pH x0) [.agg #[.int .i64 (x0.aA),aU,aZ,aN,aK]] [rI aU x0.aC,rI aZ x0.To,rI aN x0.aH,rJ aK x0.aB] (fun y (_:Unit)=>[.bool y]) (fun y _=>[]):=by
 refine ct (S:=Unit) (bw fun _ _=>rfl) Tryz.func45 rfl rfl ?_
 repeat' first
  | (apply Dk.fe; repeat' first | exact rfl | (refine @id.{0} _ ?_; constructor))
  | intro _
  | exact rfl
  | (refine @id.{0} _ ?_; constructor)
  | apply c81
  | apply c82
  | exact ()
theorem U7 {x0:aG} {cX:Nat} {aU aZ aN aK:Value} {Ga:aG} {Lx Py:Addr} {DF Hc zN xE:Value}:Ct Tryz.prog 89 true (fU x0 (fun a0 a1=>eB a0 a1 Ga)) [.pointer (some (⟨cX,0,none⟩)),.func (.func 90) #[] #[.pointer (some (Lx))]] [.row cX [.int .i64 (x0.aA),aU,aZ,aN,aK] 27,rI aU x0.aC,rI aZ x0.To,rI aN x0.aH,.own (aI 24 (aI 2 (aL .i64))) aK x0.aB,.aw Lx [.pointer (some (Py))],.aw Py [.int .i64 (Ga.aA),DF,Hc,zN,xE],rI DF Ga.aC,rI Hc Ga.To,rI zN Ga.aH,rJ xE Ga.aB] (fun y (v:Value)=>[]) (fun y v=>[.row cX [.int .i64 y.aA,aU,aZ,aN,v] 27,.own (aI 24 (aI 2 (aL .i64))) v y.aB]):=by
 refine ctv (bw fun _ _=>rfl) Tryz.func89 rfl rfl ?_
 repeat' first
  | (apply Dk.fe; repeat' first | exact rfl | (refine @id.{0} _ ?_; constructor))
  | intro _
  | exact rfl
  | (refine @id.{0} _ ?_; constructor)
  | apply Dk.je 0 (V:=Unit) (A:=Value) _ (fun a (s:Int×(List (List Int))) v=>[.own (aI 24 (aI 2 (aL .i64))) a s.2]) (fun a s v=>[(19,.int .i64 (s.1))]) () [(0,_),(1,_),(4,_),(18,_)]
  | apply Dk.je 2 (V:=Unit) (A:=Value) _ (fun a (s:Int×(List (List Int))) v=>[.own (aI 24 (aI 2 (aL .i64))) a s.2]) (fun a s v=>[(38,.int .i64 (s.1))]) () [(0,_),(1,_),(4,_),(5,_),(18,_),(19,_),(37,_)]
  | apply Dk.quiet (id:=10) (by kernel_rfl)
  | apply Dk.any (id:=5) 7 [] [] [[],[0],[1,0],[2,1,0],[],[],[5,5]] (by kernel_rfl)
  | apply Dk.any (id:=11) 12 [] [] [[],[0],[1,0],[2,1,0],[],[3,2,1,0,4],[5,3,2,1,0,4],[],[],[],[],[8,9,10]] (by kernel_rfl)
  | apply Lw
  | apply c90
  | exact ()
theorem c53 {x0:aG} {cS:Addr} {aU aZ aN aK:Value}:Ct Tryz.prog 53 true (lH x0) [.pointer (some (cS))] [.aw cS [.int .i64 (x0.aA),aU,aZ,aN,aK],rI aU x0.aC,rI aZ x0.To,rI aN x0.aH,rJ aK x0.aB] (fun y (v:Value×Value×Value×Value)=>[.agg #[.int .i64 y.aA,v.1,v.2.1,v.2.2.1,v.2.2.2]]) (fun y v=>[.own (aI 2 (aL .i64)) v.1 y.aC,.own (aI 2 (aL .i64)) v.2.1 y.To,.own (aI 2 (aL .i64)) v.2.2.1 y.aH,.own (aI 24 (aI 2 (aL .i64))) v.2.2.2 y.aB]):=by
 refine ct (S:=Unit) (bw fun _ _=>rfl) Tryz.func53 rfl rfl ?_
 repeat' first
  | (apply Dk.fe; repeat' first | exact rfl | (refine @id.{0} _ ?_; constructor))
  | intro _
  | exact rfl
  | (refine @id.{0} _ ?_; constructor)
  | apply Dk.Wr (id:=1) [20,0,1,2,3,4,5,6,7,8,9,10,11,12,13,14,15,16,17,18,19,21] [1,2,3,4,5,6,7,8,9,10,11,12,13,14,15,16,17,18,19,20,0,21] [] 21 [] [] [[],[],[1],[2,1],[3,2,1],[],[5],[6,5],[7,6,5],[8,7,6,5],[],[10],[11,10],[12,11,10],[13,12,11,10,9,8,7,6,5],[],[15],[16,15],[17,16,15],[18,17,16,15,14,13,12,11,10,9,8,7,6,5],[4,3,2,1,9,8,7,6,5,14,13,12,11,10,9,8,7,6,5,19,18,17,16,15,14,13,12,11,10,9,8,7,6,5]] (by kernel_rfl)
  | apply Px
  | apply c90
  | apply U7
  | exact ()
theorem YY {x0:aJ} {xa:Int} {rc:Int→List Int→List bD→Option (Bool×List Int×List bD)} (ih:∀ {x:Int} {cs:List Int} {st:List bD} {ps po pk pc px pd ph pf pm:Addr} {vk vo:Value} {bo:Nat} {p9 qa qb qc qd qe qf qg uo ua:Value},Ct Tryz.prog 115 true (rc x cs st) [.int .i64 x,.pointer (some ps),.pointer (some po),.pointer (some pk),.pointer (some pc),.pointer (some px),.pointer (some pd),.pointer (some ph)] [.row bo [vo] 93,.aw ps [.pointer (some pf)],.aw pc [.pointer (some (pf.add 5))],.aw px [.int .i64 xa],.aw pd [.pointer (some pf)],.aw pk [vk],.aw po [.func (.func 99) #[] #[.pointer (some ⟨bo,0,none⟩),.pointer (some pm)]],.aw ph [.func (.func 115) #[] #[.pointer (some ps),.pointer (some po),.pointer (some pk),.pointer (some pc),.pointer (some px),.pointer (some pd),.pointer (some ph)]],.aw pm [.int .i64 xa],.aw pf [.int .i64 x0.aE.aA,p9,qa,qb,qc,.int .i64 x0.aF.aA,qd,qe,qf,qg,uo,ua],.own (aI 38 sd) vo st,.own (aI 2 (aL .i64)) vk cs,rI p9 x0.aE.aC,rI qa x0.aE.To,rI qb x0.aE.aH,rJ qc x0.aE.aB,rI qd x0.aF.aC,rI qe x0.aF.To,rI qf x0.aF.aH,rJ qg x0.aF.aB,rI uo x0.aA,rI ua x0.ah] (fun y (_:Value)=>[.bool y.1]) (fun y v=>[.row bo [v] 93,.own (aI 38 sd) v y.2.2,.own (aI 2 (aL .i64)) vk y.2.1])) {x:Int} {cs:List Int} {st:List bD} {ps po pk pc px pd ph pf pm:Addr} {vk vo:Value} {bo:Nat} {p9 qa qb qc qd qe qf qg uo ua:Value}:Ct Tryz.prog 115 true (oA (fun a0 a1=>dK a0 a1 xa) x0 xa rc x cs st) [.int .i64 x,.pointer (some ps),.pointer (some po),.pointer (some pk),.pointer (some pc),.pointer (some px),.pointer (some pd),.pointer (some ph)] [.row bo [vo] 93,.aw ps [.pointer (some pf)],.aw pc [.pointer (some (pf.add 5))],.aw px [.int .i64 xa],.aw pd [.pointer (some pf)],.aw pk [vk],.aw po [.func (.func 99) #[] #[.pointer (some ⟨bo,0,none⟩),.pointer (some pm)]],.aw ph [.func (.func 115) #[] #[.pointer (some ps),.pointer (some po),.pointer (some pk),.pointer (some pc),.pointer (some px),.pointer (some pd),.pointer (some ph)]],.aw pm [.int .i64 xa],.aw pf [.int .i64 x0.aE.aA,p9,qa,qb,qc,.int .i64 x0.aF.aA,qd,qe,qf,qg,uo,ua],.own (aI 38 sd) vo st,.own (aI 2 (aL .i64)) vk cs,rI p9 x0.aE.aC,rI qa x0.aE.To,rI qb x0.aE.aH,rJ qc x0.aE.aB,rI qd x0.aF.aC,rI qe x0.aF.To,rI qf x0.aF.aH,rJ qg x0.aF.aB,rI uo x0.aA,rI ua x0.ah] (fun y (_:Value)=>[.bool y.1]) (fun y v=>[.row bo [v] 93,.own (aI 38 sd) v y.2.2,.own (aI 2 (aL .i64)) vk y.2.1]):=by
 refine ct (S:=Unit) (bw fun _ _=>rfl) Tryz.func115 rfl rfl ?_
 repeat' first
  | (apply Dk.fe; repeat' first | exact rfl | (refine @id.{0} _ ?_; constructor))
  | intro _
  | exact rfl
  | (refine @id.{0} _ ?_; constructor)
  | apply Dk.scp
  | apply Dk.ny
  | apply Dk.loop 0 (V:=Value) (fun (s:Int×List Int×List bD) v=>[.row bo [v] 93,.own (aI 38 sd) v s.2.2,.own (aI 2 (aL .i64)) vk s.2.1]) (fun s v=>[(36,.int .i64 s.1)]) _ [(0,_),(1,_),(2,_),(3,_),(4,_),(5,_),(6,_),(7,_),(34,_),(35,_)]
  | apply Dk.S8 2 1 (V:=Unit) (fun (s:Int) _=>[]) (fun s _=>[(49,.int .i64 s)]) () [(0,_),(1,_),(2,_),(3,_),(4,_),(5,_),(6,_),(7,_),(11,_),(34,_),(35,_),(36,_),(47,_),(48,_)] rfl
  | apply Dk.nlx
  | apply Dk.xlx
  | (apply Dk.xlo <;> first | exact rfl | skip)
  | apply Dk.any (id:=3) 12 [] [] [[],[],[],[2],[3,2],[4,3,2],[],[5,4,3,2,6],[7,5,4,3,2,6],[0,1,8,7,5,4,3,2,6],[9,0,1,8,7,5,4,3,2,6],[]] (by kernel_rfl)
  | apply Dk.quiet (id:=10) (by kernel_rfl)
  | apply Dk.quiet (id:=11) (by kernel_rfl)
  | apply ih
  | apply c99
  | apply YQ
  | apply JM
  | exact ()
theorem YZ {x0:aJ} {xa:Int} (n:Nat):∀ {x:Int} {cs:List Int} {st:List bD} {ps po pk pc px pd ph pf pm:Addr} {vk vo:Value} {bo:Nat} {p9 qa qb qc qd qe qf qg uo ua:Value},Ct Tryz.prog 115 true (fB (fun a0 a1=>dK a0 a1 xa) x0 xa n x cs st) [.int .i64 x,.pointer (some ps),.pointer (some po),.pointer (some pk),.pointer (some pc),.pointer (some px),.pointer (some pd),.pointer (some ph)] [.row bo [vo] 93,.aw ps [.pointer (some pf)],.aw pc [.pointer (some (pf.add 5))],.aw px [.int .i64 xa],.aw pd [.pointer (some pf)],.aw pk [vk],.aw po [.func (.func 99) #[] #[.pointer (some ⟨bo,0,none⟩),.pointer (some pm)]],.aw ph [.func (.func 115) #[] #[.pointer (some ps),.pointer (some po),.pointer (some pk),.pointer (some pc),.pointer (some px),.pointer (some pd),.pointer (some ph)]],.aw pm [.int .i64 xa],.aw pf [.int .i64 x0.aE.aA,p9,qa,qb,qc,.int .i64 x0.aF.aA,qd,qe,qf,qg,uo,ua],.own (aI 38 sd) vo st,.own (aI 2 (aL .i64)) vk cs,rI p9 x0.aE.aC,rI qa x0.aE.To,rI qb x0.aE.aH,rJ qc x0.aE.aB,rI qd x0.aF.aC,rI qe x0.aF.To,rI qf x0.aF.aH,rJ qg x0.aF.aB,rI uo x0.aA,rI ua x0.ah] (fun y (_:Value)=>[.bool y.1]) (fun y v=>[.row bo [v] 93,.own (aI 38 sd) v y.2.2,.own (aI 2 (aL .i64)) vk y.2.1]):=by
 induction n with
 | zero=>intros; rw [tI]; exact ⟨(bw fun _ _=>rfl),fun _ _ _ _ _ _ _ y hy=>nomatch (show none=some y from hy)⟩
 | succ n ih=>exact YY ih
theorem afs {x0:aJ} {xa:Int} {x:Int} {cs:List Int} {st:List bD} {ps po pk pc px pd ph pf pm:Addr} {vk vo:Value} {bo:Nat} {p9 qa qb qc qd qe qf qg uo ua:Value}:Ct Tryz.prog 115 true (fB (fun a0 a1=>dK a0 a1 xa) x0 xa 64 x cs st) [.int .i64 x,.pointer (some ps),.pointer (some po),.pointer (some pk),.pointer (some pc),.pointer (some px),.pointer (some pd),.pointer (some ph)] [.row bo [vo] 93,.aw ps [.pointer (some pf)],.aw pc [.pointer (some (pf.add 5))],.aw px [.int .i64 xa],.aw pd [.pointer (some pf)],.aw pk [vk],.aw po [.func (.func 99) #[] #[.pointer (some ⟨bo,0,none⟩),.pointer (some pm)]],.aw ph [.func (.func 115) #[] #[.pointer (some ps),.pointer (some po),.pointer (some pk),.pointer (some pc),.pointer (some px),.pointer (some pd),.pointer (some ph)]],.aw pm [.int .i64 xa],.aw pf [.int .i64 x0.aE.aA,p9,qa,qb,qc,.int .i64 x0.aF.aA,qd,qe,qf,qg,uo,ua],.own (aI 38 sd) vo st,.own (aI 2 (aL .i64)) vk cs,rI p9 x0.aE.aC,rI qa x0.aE.To,rI qb x0.aE.aH,rJ qc x0.aE.aB,rI qd x0.aF.aC,rI qe x0.aF.To,rI qf x0.aF.aH,rJ qg x0.aF.aB,rI uo x0.aA,rI ua x0.ah] (fun y (_:Value)=>[.bool y.1]) (fun y v=>[.row bo [v] 93,.own (aI 38 sd) v y.2.2,.own (aI 2 (aL .i64)) vk y.2.1]):=by
 exact YZ 64
theorem c98 {x0:aJ} {xa:Int} {st:List bD} {pf pm:Addr} {vo:Value} {bo:Nat} {p9 qa qb qc qd qe qf qg uo ua:Value}:Ct Tryz.prog 98 true (rB (fun a0 a1=>dK a0 a1 xa) x0 xa st) [.pointer (some pf),.int .i64 xa,.func (.func 99) #[] #[.pointer (some ⟨bo,0,none⟩),.pointer (some pm)]] [.row bo [vo] 93,.aw pm [.int .i64 xa],.aw pf [.int .i64 x0.aE.aA,p9,qa,qb,qc,.int .i64 x0.aF.aA,qd,qe,qf,qg,uo,ua],.own (aI 38 sd) vo st,rI p9 x0.aE.aC,rI qa x0.aE.To,rI qb x0.aE.aH,rJ qc x0.aE.aB,rI qd x0.aF.aC,rI qe x0.aF.To,rI qf x0.aF.aH,rJ qg x0.aF.aB,rI uo x0.aA,rI ua x0.ah] (fun y (_:Value)=>[.bool y.1]) (fun y v=>[.row bo [v] 93,.own (aI 38 sd) v y.2]):=by
 refine ct (S:=Unit) (bw fun _ _=>rfl) Tryz.func98 rfl rfl ?_
 repeat' first
  | (apply Dk.fe; repeat' first | exact rfl | (refine @id.{0} _ ?_; constructor))
  | intro _
  | exact rfl
  | (refine @id.{0} _ ?_; constructor)
  | apply Dk.acI (id:=1) [0,1,2,3,4,5] 6 7 8 9 7 8 (by kernel_rfl)
  | apply afs
  | exact ()
theorem c66 {x0:aJ} {cS:Addr} {aS aV aQ aO aT aW aR aP bA bC:Value} {x1:(List bD)} {dD:Value} {x2:bD} {kS:Value}:Ct Tryz.prog 66 true (jM x0 x1 x2) [.pointer (some (cS)),dD,.agg #[.int .i64 (x2.da),kS]] [.aw cS [.int .i64 (x0.aE.aA),aS,aV,aQ,aO,.int .i64 (x0.aF.aA),aT,aW,aR,aP,bA,bC],rI aS x0.aE.aC,rI aV x0.aE.To,rI aQ x0.aE.aH,rJ aO x0.aE.aB,rI aT x0.aF.aC,rI aW x0.aF.To,rI aR x0.aF.aH,rJ aP x0.aF.aB,rI bA x0.aA,rI bC x0.ah,.rd false (bG (my uR)) dD x1,rI kS x2.ay] (fun y (_:Unit)=>[.bool y]) (fun y _=>[]):=by
 refine ct (S:=Unit) (bw fun _ _=>rfl) Tryz.func66 rfl rfl ?_
 repeat' first
  | (apply Dk.fe; repeat' first | exact rfl | (refine @id.{0} _ ?_; constructor))
  | intro _
  | exact rfl
  | (refine @id.{0} _ ?_; constructor)
  | apply Dk.loop 0 (V:=Unit) (fun (s:Int) v=>[]) (fun s v=>[(11,.int .i64 (s))]) () [(0,_),(5,_),(9,_),(10,_)]
  | apply afc
  | exact ()
end Go.Proofs.YtbmchcnkbonmkaaGreat
