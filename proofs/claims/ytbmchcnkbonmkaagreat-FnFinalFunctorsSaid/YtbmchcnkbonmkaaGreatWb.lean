/- Walks by the calculus D. No condition beside those that each theorem names. -/
import Derived.Test.YtbmchcnkbonmkaaGreatDi
import Derived.Test.YtbmchcnkbonmkaaGreatMo
import Derived.Test.YtbmchcnkbonmkaaGreatDp
import Derived.Test.YtbmchcnkbonmkaaGreatDs
namespace Go.Proofs.YtbmchcnkbonmkaaGreat
open Go Go.Li Go.Dk
set_option linter.unusedVariables false
set_option maxHeartbeats 16000000
set_option maxRecDepth 100000
theorem c18 {x0:(List Int)} {cA:Value}:Ct Tryz.prog 18 true (oW x0) [cA] [.rd false (bG (aL .u8)) cA x0] (fun y (v:Nat)=>[(match y with | none=>Value.pointer none | some _=>.pointer (some (⟨v,0,none⟩)))]) (fun y v=>match y with | none=>[] | some m0=>[.row v [cA,.int .i64 (m0.At),.int .u64 (m0.bb)] 68]):=by
 refine ct (S:=Unit) (by intro _ y v; obtain _ | _:=y <;> rfl) Tryz.func18 rfl rfl ?_
 repeat' first
  | (apply Dk.fe; repeat' first | exact rfl | (refine @id.{0} _ ?_; constructor))
  | intro _
  | exact rfl
  | apply Dk.D.uE (d:=9)
  | apply Dk.AD.uE (d:=9)
  | apply Dk.D.uE (d:=27)
  | apply Dk.AD.uE (d:=27)
  | apply Dk.D.uE (d:=33)
  | apply Dk.AD.uE (d:=33)
  | apply Dk.D.uE (d:=34)
  | apply Dk.AD.uE (d:=34)
  | (refine @id.{0} _ ?_; constructor)
  | apply Dk.je 0 (V:=Unit) (A:=Nat) _ (fun a (s:Int×Int) v=>[.row a [cA,.int .i64 ((0:Int)),.int .u64 (s.2)] 68]) (fun a s v=>[(3,.pointer (some ⟨a,0,none⟩)),(4,.int .i64 (s.1))]) () [(0,_)]
  | apply Dk.any (id:=5) 11 [0] [] [[],[],[1],[2,1],[3,2,1],[4,3,2,1],[],[],[6,7],[8,6,7],[9,8,6,7]] (by kernel_rfl)
  | exact ()
 all_goals try first | exact Value.nilFunc | exact (0:Nat)
theorem ae7 {x0:(List Int)} {cA:Value} {x1:(List Int)} {dD:Value}:Ct Tryz.prog 125 true (lY x0 x1) [cA,dD] [rI cA x0,rI dD x1] (fun y (_:Unit)=>[.bool y]) (fun y _=>[]):=by
 refine ct (S:=Unit) (bw fun _ _=>rfl) Tryz.func125 rfl rfl ?_
 repeat' first
  | (apply Dk.fe; repeat' first | exact rfl | (refine @id.{0} _ ?_; constructor))
  | intro _
  | exact rfl
  | (refine @id.{0} _ ?_; constructor)
  | apply Dk.loop 0 (V:=Unit) (fun (s:Int) v=>[]) (fun s v=>[(5,.int .i64 (s))]) () [(0,_),(1,_)]
  | apply Dk.quiet (id:=4) (by kernel_rfl)
  | apply Dk.quiet (id:=5) (by kernel_rfl)
  | exact ()
theorem ae8 {x0:bJ} {sH:Value} {x1:bJ} {sI:Value}:Ct Tryz.prog 123 true (iJ x0 x1) [.agg #[.int .i64 (x0.aC),.int .i64 (x0.To),sH],.agg #[.int .i64 (x1.aC),.int .i64 (x1.To),sI]] [rI sH x0.mh,rI sI x1.mh] (fun y (_:Unit)=>[.bool y]) (fun y _=>[]):=by
 refine ct (S:=Unit) (bw fun _ _=>rfl) Tryz.func123 rfl rfl ?_
 repeat' first
  | (apply Dk.fe; repeat' first | exact rfl | (refine @id.{0} _ ?_; constructor))
  | intro _
  | exact rfl
  | (refine @id.{0} _ ?_; constructor)
  | apply ae7
  | exact ()
theorem ae9  : Ct Tryz.prog 107 true (nR) [] [] (fun y (v:Value×Value×Value×Value)=>[.agg #[.int .i64 y.aA,v.1,v.2.1,v.2.2.1,v.2.2.2]]) (fun y v=>[.own (aI 2 (aL .i64)) v.1 y.aC,.own (aI 2 (aL .i64)) v.2.1 y.To,.own (aI 2 (aL .i64)) v.2.2.1 y.aH,.own (aI 24 (aI 2 (aL .i64))) v.2.2.2 y.aB]):=by
 refine ct (S:=Unit) (bw fun _ _=>rfl) Tryz.func107 rfl rfl ?_
 repeat' first
  | (apply Dk.fe; repeat' first | exact rfl | (refine @id.{0} _ ?_; constructor))
  | intro _
  | exact rfl
  | apply Dk.wu (d:=1)
  | apply Dk.wu (d:=2)
  | apply Dk.wu (d:=3)
  | apply Dk.wu (d:=4)
  | apply Dk.wu (d:=5)
  | apply Dk.wu (d:=6)
  | apply Dk.wu (d:=7)
  | apply Dk.wu (d:=8)
  | apply Dk.wu (d:=9)
  | (refine @id.{0} _ ?_; constructor)
  | exact ()
theorem Lw {x0:aG} {cS:Addr} {aU aZ aN aK:Value}:Ct Tryz.prog 58 true (cH x0) [.pointer (some (cS))] [.aw cS [.int .i64 (x0.aA),aU,aZ,aN,aK],rI aU x0.aC,rI aZ x0.To,rI aN x0.aH,rJ aK x0.aB] (fun y (_:Unit)=>[.int .i64 y]) (fun y _=>[]):=by
 refine ct (S:=Unit) (bw fun _ _=>rfl) Tryz.func58 rfl rfl ?_
 repeat' first
  | (apply Dk.fe; repeat' first | exact rfl | (refine @id.{0} _ ?_; constructor))
  | intro _
  | exact rfl
  | (refine @id.{0} _ ?_; constructor)
  | exact ()
theorem JM {x0:aG} {cS:Addr} {aU aZ aN aK:Value} {x1:Int} {x2:Int}:Ct Tryz.prog 42 true (cG x0 x1 x2) [.pointer (some (cS)),.int .i64 (x1),.int .i64 (x2)] [.aw cS [.int .i64 (x0.aA),aU,aZ,aN,aK],rI aU x0.aC,rI aZ x0.To,rI aN x0.aH,rJ aK x0.aB] (fun y (_:Unit)=>[.int .i64 y]) (fun y _=>[]):=by
 refine ct (S:=Unit) (bw fun _ _=>rfl) Tryz.func42 rfl rfl ?_
 repeat' first
  | (apply Dk.fe; repeat' first | exact rfl | (refine @id.{0} _ ?_; constructor))
  | intro _
  | exact rfl
  | (refine @id.{0} _ ?_; constructor)
  | exact ()
theorem c56 {x0:aG} {cS:Addr} {aU aZ aN aK:Value}:Ct Tryz.prog 56 true (jN x0) [.pointer (some (cS))] [.aw cS [.int .i64 (x0.aA),aU,aZ,aN,aK],rI aU x0.aC,rI aZ x0.To,rI aN x0.aH,rJ aK x0.aB] (fun y (_:Unit)=>[.int .i64 y.1,.int .i64 y.2.1,.int .i64 y.2.2.1,.int .i64 y.2.2.2]) (fun y _=>[]):=by
 refine ct (S:=Unit) (bw fun _ _=>rfl) Tryz.func56 rfl rfl ?_
 repeat' first
  | (apply Dk.fe; repeat' first | exact rfl | (refine @id.{0} _ ?_; constructor))
  | intro _
  | exact rfl
  | (refine Dk.uH (t:=64) rfl ?_ ?_)
  | (refine Dk.uH (t:=74) rfl ?_ ?_)
  | (refine @id.{0} _ ?_; constructor)
  | apply Dk.loop 0 (V:=Unit) (fun (s:Int) v=>[]) (fun s v=>[(7,.int .i64 (s))]) () [(0,_),(6,_)]
  | apply Dk.loop 2 (V:=Unit) (fun (s:Int) v=>[]) (fun s v=>[(8,.int .i64 (s))]) () [(0,_),(6,_)]
  | apply Dk.loop 4 (V:=Unit) (fun (s:Int) v=>[]) (fun s v=>[(9,.int .i64 (s))]) () [(0,_),(6,_),(8,_)]
  | apply Dk.loop 6 (V:=Unit) (fun (s:Int) v=>[]) (fun s v=>[(10,.int .i64 (s))]) () [(0,_),(6,_),(8,_),(9,_)]
  | apply Dk.quiet (id:=5) (by kernel_rfl)
  | apply Lw
  | apply JM
  | exact ()
theorem YQ {x0:aG} {cS:Addr} {aU aZ aN aK:Value} {x1:Int} {x2:Int}:Ct Tryz.prog 37 true (fP x0 x1 x2) [.pointer (some (cS)),.int .i64 (x1),.int .i64 (x2)] [.aw cS [.int .i64 (x0.aA),aU,aZ,aN,aK],rI aU x0.aC,rI aZ x0.To,rI aN x0.aH,rJ aK x0.aB] (fun y (v:Value)=>[v]) (fun y v=>[.own (aI 2 (aL .i64)) v y]):=by
 refine ct (S:=Unit) (bw fun _ _=>rfl) Tryz.func37 rfl rfl ?_
 repeat' first
  | (apply Dk.fe; repeat' first | exact rfl | (refine @id.{0} _ ?_; constructor))
  | intro _
  | exact rfl
  | (refine @id.{0} _ ?_; constructor)
  | apply Dk.loop 0 (V:=Value) (fun (s:(List Int)×Int) v=>[.own (aI 2 (aL .i64)) v s.1]) (fun s v=>[(7,v),(15,.int .i64 (s.2))]) _ [(0,_),(1,_),(2,_),(14,_)]
  | exact ()
theorem c57 {x0:Int}:Ct Tryz.prog 57 true (kM x0) [.int .i64 (x0)] [] (fun y (v:Value)=>[v]) (fun y v=>[.own (aI 2 (aL .i64)) v y]):=by
 refine ct (S:=Unit) (bw fun _ _=>rfl) Tryz.func57 rfl rfl ?_
 repeat' first
  | (apply Dk.fe; repeat' first | exact rfl | (refine @id.{0} _ ?_; constructor))
  | intro _
  | exact rfl
  | (refine @id.{0} _ ?_; constructor)
  | apply Dk.je 0 (V:=Unit) (A:=Value) _ (fun a (s:Int×(List Int)) v=>[.own (aI 2 (aL .i64)) a s.2]) (fun a s v=>[(3,a),(9,.int .i64 (s.1))]) () [(8,_)]
  | exact ()
theorem c38 {x0:Int}:Ct Tryz.prog 38 true (nU x0) [.int .i64 (x0)] [] (fun y (v:Value)=>[v]) (fun y v=>[.own (aI 2 (aL .i64)) v y]):=by
 refine ct (S:=Unit) (bw fun _ _=>rfl) Tryz.func38 rfl rfl ?_
 repeat' first
  | (apply Dk.fe; repeat' first | exact rfl | (refine @id.{0} _ ?_; constructor))
  | intro _
  | exact rfl
  | (refine @id.{0} _ ?_; constructor)
  | apply c57
  | exact ()
theorem afa {x0:Int} {x1:Int} {x2:Int}:Ct Tryz.prog 110 true (qS x0 x1 x2) [.int .i64 (x0),.int .i64 (x1),.int .i64 (x2)] [] (fun y (_:Unit)=>[.bool y]) (fun y _=>[]):=by
 refine ct (S:=Unit) (bw fun _ _=>rfl) Tryz.func110 rfl rfl ?_
 repeat' first
  | (apply Dk.fe; repeat' first | exact rfl | (refine @id.{0} _ ?_; constructor))
  | intro _
  | exact rfl
  | (refine @id.{0} _ ?_; constructor)
  | exact ()
theorem Px {x0:(List Int)} {cA:Value}:Ct Tryz.prog 88 true (eA x0) [cA] [rI cA x0] (fun y (v:Value)=>[v]) (fun y v=>[.own (aI 2 (aL .i64)) v y]):=by
 refine ct (S:=Unit) (bw fun _ _=>rfl) Tryz.func88 rfl rfl ?_
 repeat' first
  | (apply Dk.fe; repeat' first | exact rfl | (refine @id.{0} _ ?_; constructor))
  | intro _
  | exact rfl
  | (refine @id.{0} _ ?_; constructor)
  | exact ()
theorem c90 {x0:Int} {x1:Int} {x2:aG} {sO sP:Addr} {sK sN rG rD:Value}:Ct Tryz.prog 90 true (eB x0 x1 x2) [.int .i64 (x0),.int .i64 (x1),.pointer (some (sO))] [.aw sO [.pointer (some (sP))],.aw sP [.int .i64 (x2.aA),sK,sN,rG,rD],rI sK x2.aC,rI sN x2.To,rI rG x2.aH,rJ rD x2.aB] (fun y (_:Unit)=>[.int .i64 y]) (fun y _=>[]):=by
 refine ct (S:=Unit) (bw fun _ _=>rfl) Tryz.func90 rfl rfl ?_
 repeat' first
  | (apply Dk.fe; repeat' first | exact rfl | (refine @id.{0} _ ?_; constructor))
  | intro _
  | exact rfl
  | (refine @id.{0} _ ?_; constructor)
  | apply JM
  | exact ()
theorem afb {x0:(List (List Int))} {cA:Value}:Ct Tryz.prog 113 true (qF x0) [cA] [rJ cA x0] (fun y (v:Value)=>[v]) (fun y v=>[.own (aI 24 (aI 2 (aL .i64))) v y]):=by
 refine ct (S:=Unit) (bw fun _ _=>rfl) Tryz.func113 rfl rfl ?_
 repeat' first
  | (apply Dk.fe; repeat' first | exact rfl | (refine @id.{0} _ ?_; constructor))
  | intro _
  | exact rfl
  | (refine @id.{0} _ ?_; constructor)
  | apply Dk.loop 0 (V:=Value) (fun (s:(List (List Int))×Int) v=>[.own (aI 24 (aI 2 (aL .i64))) v s.1]) (fun s v=>[(3,v),(11,.int .i64 (s.2))]) _ [(9,_),(10,_)]
  | apply Px
  | exact ()
theorem c99 {x0:List Int} {v0:Value} {x1:List bD} {bo:Nat} {vo:Value} {xm:Int} {pm:Addr}:Ct Tryz.prog 99 true (dK x0 x1 xm) [v0,.pointer (some ⟨bo,0,none⟩),.pointer (some pm)] [.row bo [vo] 93,.aw pm [.int .i64 xm],.own (aI 38 sd) vo x1,rI v0 x0] (fun y (_:Value)=>[.bool y.1]) (fun y v=>[.row bo [v] 93,.own (aI 38 sd) v y.2]):=by
 refine ct (S:=Unit) (bw fun _ _=>rfl) Tryz.func99 rfl rfl ?_
 repeat' first
  | (apply Dk.fe; repeat' first | exact rfl | (refine @id.{0} _ ?_; constructor))
  | intro _
  | exact rfl
  | apply Dk.WZ (t:=93) (S:=sd) (bD.mk _ _)
  | apply Dk.AD.mls (n:=2)
  | apply Dk.WY (t:=93)
  | (refine @id.{0} _ ?_; constructor)
  | apply Dk.any (id:=1) 6 [] [] [[],[],[],[2],[1,3,2],[4,1,3,2]] (by kernel_rfl)
  | apply Px
  | exact ()
theorem afc {x0:aJ} {x1 x2:bD} {p:Addr} {p9 qa qb qc qd qe qf qg uo ua v1 v2:Value}:Ct Tryz.prog 100 true (oB x0 x1 x2) [.pointer (some p),.agg #[.int .i64 x1.da,v1],.agg #[.int .i64 x2.da,v2]] [.aw p [.int .i64 x0.aE.aA,p9,qa,qb,qc,.int .i64 x0.aF.aA,qd,qe,qf,qg,uo,ua],rI p9 x0.aE.aC,rI qa x0.aE.To,rI qb x0.aE.aH,rJ qc x0.aE.aB,rI qd x0.aF.aC,rI qe x0.aF.To,rI qf x0.aF.aH,rJ qg x0.aF.aB,rI uo x0.aA,rI ua x0.ah,rI v1 x1.ay,rI v2 x2.ay] (fun y (v:Value)=>[v]) (fun y v=>[.own (aI 2 (aL .i64)) v y]):=by
 refine ct (S:=Unit) (bw fun _ _=>rfl) Tryz.func100 rfl rfl ?_
 repeat' first
  | (apply Dk.fe; repeat' first | exact rfl | (refine @id.{0} _ ?_; constructor))
  | intro _
  | exact rfl
  | (refine @id.{0} _ ?_; constructor)
  | apply Dk.scp
  | apply Dk.ny
  | apply Dk.loop 0 (V:=Value) (fun (s:List Int×Int) v=>[.own (aI 2 (aL .i64)) v s.1]) (fun s v=>[(8,v),(24,.int .i64 s.2)]) _ [(4,_),(5,_),(7,_),(22,_),(23,_)]
  | apply Dk.S8 2 1 (V:=Unit) (fun (s:Int) _=>[]) (fun s _=>[(31,.int .i64 s)]) () [(4,_),(5,_),(7,_),(22,_),(23,_),(8,_),(10,_),(24,_),(29,_),(30,_)] rfl
  | apply Dk.nlx
  | apply Dk.xlx
  | (apply Dk.xlo <;> first | exact rfl | skip)
  | apply Dk.quiet (id:=9) (by kernel_rfl)
  | apply YQ
  | apply JM
  | exact ()
theorem c31 {x0:(List Int)} {cA:Value} {x1:(List Int)} {dD:Value}:Ct Tryz.prog 31 true (qN x0 x1) [cA,dD] [rI cA x0,rI dD x1] (fun y (_:Unit)=>[.bool y]) (fun y _=>[]):=by
 refine ct (S:=Unit) (bw fun _ _=>rfl) Tryz.func31 rfl rfl ?_
 repeat' first
  | (apply Dk.fe; repeat' first | exact rfl | (refine @id.{0} _ ?_; constructor))
  | intro _
  | exact rfl
  | (refine @id.{0} _ ?_; constructor)
  | apply Dk.loop 0 (V:=Unit) (fun (s:Int) v=>[]) (fun s v=>[(5,.int .i64 (s))]) () [(0,_),(1,_)]
  | apply Dk.quiet (id:=6) (by kernel_rfl)
  | exact ()
theorem c14 {x0:bD} {sL:Value} {x1:bD} {gT:Value}:Ct Tryz.prog 14 true (lW x0 x1) [.agg #[.int .i64 (x0.da),sL],.agg #[.int .i64 (x1.da),gT]] [rI sL x0.ay,rI gT x1.ay] (fun y (_:Unit)=>[.bool y]) (fun y _=>[]):=by
 refine ct (S:=Unit) (bw fun _ _=>rfl) Tryz.func14 rfl rfl ?_
 repeat' first
  | (apply Dk.fe; repeat' first | exact rfl | (refine @id.{0} _ ?_; constructor))
  | intro _
  | exact rfl
  | (refine @id.{0} _ ?_; constructor)
  | apply c31
  | exact ()
end Go.Proofs.YtbmchcnkbonmkaaGreat
