/- Walks by the calculus D. No condition beside those that each theorem names. -/
import Derived.Test.YtcnehblmgfbfoaaGreatDp
import Derived.Test.YtcnehblmgfbfoaaGreatDi
import Derived.Test.YtcnehblmgfbfoaaGreatMo
import Derived.Test.YtcnehblmgfbfoaaGreatDs
import Derived.Test.YtcnehblmgfbfoaaGreatWa
import Derived.Test.YtcnehblmgfbfoaaGreatWc
import Derived.Test.YtcnehblmgfbfoaaGreatWd
namespace Go.Proofs.YtcnehblmgfbfoaaGreat
open Go Go.Li Go.Dk
set_option linter.unusedVariables false
set_option maxHeartbeats 16000000
set_option maxRecDepth 100000
theorem agf {x0:cG} {rK:Value} {x1:cG} {rL:Value}:Ct Tryz.prog 290 true (mN x0 x1) [.agg #[.int .i64 (x0.aG),.int .i64 (x0.To),rK],.agg #[.int .i64 (x1.aG),.int .i64 (x1.To),rL]] [rI rK x0.rv,rI rL x1.rv] (fun y (_:Unit)=>[.bool y]) (fun y _=>[]):=by
 refine ct (S:=Unit) (bx fun _ _=>rfl) Tryz.func290 rfl rfl ?_
 repeat' first
  | (apply Dk.fe; repeat' first | exact rfl | (refine @id.{0} _ ?_; constructor))
  | intro _
  | exact rfl
  | (refine @id.{0} _ ?_; constructor)
  | apply afL
  | exact ()
theorem agh {x0:Int} {x1:(List Int)} {dG:Value} {x2:(List Int)} {kJ:Value}:Ct Tryz.prog 281 false (qI x0 x1 x2) [.int .i64 (x0),dG,kJ] [rI dG x1,rI kJ x2] (fun y (v:Value)=>[v]) (fun y v=>[.rd false (aV (sg vY)) v y]):=by
 refine ct (S:=Unit) zR Tryz.func281 rfl rfl ?_
 repeat' first
  | (apply Dk.fe; repeat' first | exact rfl | (refine @id.{0} _ ?_; constructor))
  | intro _
  | exact rfl
  | (refine (id (α:=@Eq (List Value) _ _) ?_); dsimp only; try exact rfl)
  | apply Dk.lgS (t:=285) (S:=vY)
  | apply Dk.lnS (t:=285)
  | apply Dk.ixS (t:=285)
  | apply Dk.apS (t:=285) (cG.mk _ _ _)
  | apply Dk.laS (n:=3)
  | apply Dk.acw (n:=3)
  | apply Dk.lsS (n:=3)
  | apply Dk.stS (n:=3) (S:=vY) _
  | apply Dk.AD.VA
  | apply Dk.AD.laG (n:=3)
  | apply Dk.AD.VB (n:=3)
  | (refine @id.{0} _ ?_; constructor)
  | apply Dk.E3 0 (V:=Value) (W:=List (List Value)) (fun (s:(List cG)×Int) v u=>[.own (aJ 288 (kq 3)) v u,.rd false (vz vY) (.bool true) (u,s.1)]) (fun s v u=>[(7,v),(8,.int .i64 (s.2))]) _ _ [(0,_),(1,_),(2,_)]
  | apply Dk.E3 2 (V:=Value) (W:=List (List Value)) (fun (s:(List cG)×Int) v u=>[.own (aJ 288 (kq 3)) v u,.rd false (vz vY) (.bool true) (u,s.1)]) (fun s v u=>[(7,v),(9,.int .i64 (s.2))]) _ _ [(0,_),(1,_),(2,_)]
  | apply Dk.E3 4 (V:=Value) (W:=List (List Value)) (fun (s:(List cG)×Int) v u=>[.own (aJ 288 (kq 3)) v u,.rd false (vz vY) (.bool true) (u,s.1)]) (fun s v u=>[(7,v),(10,.int .i64 (s.2))]) _ _ [(0,_),(1,_),(2,_),(9,_)]
  | apply Dk.E3 6 (V:=Value) (W:=List (List Value)) (fun (s:(List cG)×Int) v u=>[.own (aJ 288 (kq 3)) v u,.rd false (vz vY) (.bool true) (u,s.1)]) (fun s v u=>[(7,v),(11,.int .i64 (s.2))]) _ _ []
  | apply Dk.E3 8 (V:=Value) (W:=List (List Value)) (fun (s:(List cG)×Int) v u=>[.own (aJ 288 (kq 3)) v u,.rd false (vz vY) (.bool true) (u,s.1)]) (fun s v u=>[(7,v),(12,.int .i64 (s.2))]) _ _ [(11,_)]
  | apply Dk.quiet (id:=12) (by kernel_rfl)
  | apply Dk.quiet (id:=18) (by kernel_rfl)
  | apply Dk.any (id:=13) 19 [0] [[],[],[],[],[],[],[],[],[],[],[],[],[],[],[],[],[],[],[15]] [[],[],[],[1,2],[1,2,3],[1,2,3,4],[],[],[6,7],[6,7,8],[],[],[10,11],[10,11,12],[10,11,12,13],[10,11,12,13,14],[],[16],[10,11,12,13,14,15,16,17]] (by kernel_rfl)
  | apply Eo
  | apply agf
  | exact ()
theorem agi {x0:(List Int)} {cO:Value}:Ct Tryz.prog 291 true (lU x0) [cO] [rI cO x0] (fun y (v:Value)=>[v]) (fun y v=>[.own (aJ 2 (aN .i64)) v y]):=by
 refine ct (S:=Unit) (bx fun _ _=>rfl) Tryz.func291 rfl rfl ?_
 repeat' first
  | (apply Dk.fe; repeat' first | exact rfl | (refine @id.{0} _ ?_; constructor))
  | intro _
  | exact rfl
  | (refine @id.{0} _ ?_; constructor)
  | apply Dk.loop 0 (V:=Value×Value) (fun (s:(List Int)×(List Int)×Int) v=>[.own (aJ 2 (aN .i64)) v.1 s.1,.own (aJ 2 (aN .i64)) v.2 s.2.1]) (fun s v=>[(3,v.1),(4,v.2),(5,.int .i64 (s.2.2))]) (_,_) [(0,_)]
  | apply Y2
  | exact ()
theorem agj {x0:Int} {x1:(List (List Int))} {dG:Value}:Ct Tryz.prog 283 true (iW x0 x1) [.int .i64 (x0),dG] [rJ dG x1] (fun y (v:Value)=>[v]) (fun y v=>[.own (aJ 2 (aN .i64)) v y]):=by
 refine ct (S:=Unit) (bx fun _ _=>rfl) Tryz.func283 rfl rfl ?_
 repeat' first
  | (apply Dk.fe; repeat' first | exact rfl | (refine @id.{0} _ ?_; constructor))
  | intro _
  | exact rfl
  | (refine @id.{0} _ ?_; constructor)
  | apply Dk.loop 0 (V:=Value) (fun (s:(List Int)×Int) v=>[.own (aJ 2 (aN .i64)) v s.1]) (fun s v=>[(5,v),(6,.int .i64 (s.2))]) _ [(0,_),(1,_)]
  | apply Dk.de 2 (V:=Unit) (A:=Value) _ (fun a (s:Int×(List Int)) v=>[.own (aJ 2 (aN .i64)) a s.2]) (fun a s v=>[(5,a),(7,.int .i64 (s.1))]) () [(1,_)]
  | apply Dk.de 4 (V:=Unit) (A:=Value) _ (fun a (s:Int×(List Int)) v=>[.own (aJ 2 (aN .i64)) a s.2]) (fun a s v=>[(5,a),(10,.int .i64 (s.1))]) () [(1,_),(7,_),(8,_),(9,_)]
  | apply Dk.quiet (id:=9) (by kernel_rfl)
  | apply agi
  | exact ()
theorem agk {x0:aH} {cU:Addr} {bA bJ aT aR:Value}:Ct Tryz.prog 268 true (jF x0) [.pointer (some (cU))] [.au cU [.int .i64 (x0.aD),bA,bJ,aT,aR],rI bA x0.aG,rI bJ x0.To,rI aT x0.aI,rJ aR x0.aB] (fun y (_:Unit)=>[.int .i64 y.1,.int .i64 y.2.1,.int .i64 y.2.2.1,.int .i64 y.2.2.2]) (fun y _=>[]):=by
 refine ct (S:=Unit) (bx fun _ _=>rfl) Tryz.func268 rfl rfl ?_
 repeat' first
  | (apply Dk.fe; repeat' first | exact rfl | (refine @id.{0} _ ?_; constructor))
  | intro _
  | exact rfl
  | (refine Dk.tV (t:=64) rfl ?_ ?_)
  | (refine Dk.tV (t:=74) rfl ?_ ?_)
  | (refine @id.{0} _ ?_; constructor)
  | apply Dk.loop 0 (V:=Unit) (fun (s:Int) v=>[]) (fun s v=>[(7,.int .i64 (s))]) () [(0,_),(6,_)]
  | apply Dk.loop 2 (V:=Unit) (fun (s:Int) v=>[]) (fun s v=>[(8,.int .i64 (s))]) () [(0,_),(6,_)]
  | apply Dk.loop 4 (V:=Unit) (fun (s:Int) v=>[]) (fun s v=>[(9,.int .i64 (s))]) () [(0,_),(6,_),(8,_)]
  | apply Dk.loop 6 (V:=Unit) (fun (s:Int) v=>[]) (fun s v=>[(10,.int .i64 (s))]) () [(0,_),(6,_),(8,_),(9,_)]
  | apply Dk.quiet (id:=5) (by kernel_rfl)
  | apply PN
  | apply Y7
  | exact ()
theorem agl {x0:List (List Int)} {v0:Value}:Ct Tryz.prog 192 true (mX x0) [v0] [rJ v0 x0] (fun _ (v:Value)=>[v]) (fun y v=>[.own (sG Value.string (Value.int .i64)) v y]):=by
 refine ct (S:=Unit) (bx fun _ _=>rfl) Tryz.func192 rfl rfl ?_
 repeat' first
  | (apply Dk.fe; repeat' first | exact rfl | (refine @id.{0} _ ?_; constructor))
  | intro _
  | exact rfl
  | (refine @id.{0} _ ?_; constructor)
  | apply Dk.loop 0 (V:=Value) (fun (s:List (ByteArray×Int)×Int) v=>[.own (sG Value.string (Value.int .i64)) v s.1]) (fun s v=>[(3,v),(9,.int .i64 s.2)]) _ [(7,_),(8,_)]
  | apply Nl
  | exact ()
theorem agm {a0 a1:Int} {ll:List (List Int)} {mm:List (ByteArray×Int)} {cc:aH} {pz pd pk pc:Addr} {k0 k1 k2 k3 k4 k5 k6 k7 k8 df dt di dc:Value}:Ct Tryz.prog 193 true (dO a0 a1 ll mm cc) [.int .i64 a0,.int .i64 a1,.pointer (some pz),.pointer (some pd)] [.au pz [.pointer (some pk)],.au pd [.pointer (some pc)],.au pk [k0,k1,k2,k3,k4,k5,k6,k7,k8],.au pc [.int .i64 cc.aD,df,dt,di,dc],rJ k6 ll,.rd false (sG Value.string (Value.int .i64)) k8 mm,rI df cc.aG,rI dt cc.To,rI di cc.aI,rJ dc cc.aB] (fun y (_:Unit)=>[.int .i64 y]) (fun _ _=>[]):=by
 refine ct (S:=Unit) (bx fun _ _=>rfl) Tryz.func193 rfl rfl ?_
 repeat' first
  | (apply Dk.fe; repeat' first | exact rfl | (refine @id.{0} _ ?_; constructor))
  | intro _
  | exact rfl
  | apply Dk.Ww (t:=144)
  | (refine @id.{0} _ ?_; constructor)
  | apply Dk.any (id:=1) 15 [] [] [[],[0],[0,1],[0,1,2],[],[0,1,2,3,4],[0,1,2,3,4,5],[],[7],[7,8],[7,8,9],[],[7,8,9,10,11],[7,8,9,10,11,12],[0,1,2,3,4,5,6]] (by kernel_rfl)
  | apply Dk.any (id:=2) 21 [] [] [[],[0],[0,1],[0,1,2],[],[4],[4,5],[],[7],[7,8],[],[],[11],[11,12],[],[14],[14,15],[10,11,12,13,14,15,16],[4,5,6,7,8,9,10,11,12,13,14,15,16,17],[4,5,6,7,8,9,10,11,12,13,14,15,16,17,18],[4,5,6,7,8,9,10,11,12,13,14,15,16,17,18,19]] (by kernel_rfl)
  | apply Y7
  | apply Nl
  | exact ()
theorem PO {x0:aH} {cX:Nat} {bA bJ aT aR:Value} {Ze:List (List Int)} {Zf:List (ByteArray×Int)} {GK:aH} {Zg Zh Zi:Addr} {Zj Ss Zk Su Zm Zo Zp Zq:Value}:Ct Tryz.prog 166 true (jD x0 (fun a0 a1=>dO a0 a1 Ze Zf GK)) [.pointer (some (⟨cX,0,none⟩)),.func (.func 193) #[] #[.pointer (some Zg),.pointer (some Zh)]] [.row cX [.int .i64 (x0.aD),bA,bJ,aT,aR,Zj,Ss,Zk,Su] 146,rI bA x0.aG,rI bJ x0.To,rI aT x0.aI,.own (aJ 22 (aJ 2 (aN .i64))) aR x0.aB,.au Zg [.pointer (some ⟨cX,0,none⟩)],.au Zh [.pointer (some Zi)],.au Zi [.int .i64 GK.aD,Zm,Zo,Zp,Zq],rJ Ss Ze,.rd false (sG Value.string (Value.int .i64)) Su Zf,rI Zm GK.aG,rI Zo GK.To,rI Zp GK.aI,rJ Zq GK.aB] (fun y (v:Value)=>[]) (fun y v=>[.row cX [.int .i64 y.aD,bA,bJ,aT,v,Zj,Ss,Zk,Su] 146,.own (aJ 22 (aJ 2 (aN .i64))) v y.aB]):=by
 refine ctv (bx fun _ _=>rfl) Tryz.func166 rfl rfl ?_
 repeat' first
  | (apply Dk.fe; repeat' first | exact rfl | (refine @id.{0} _ ?_; constructor))
  | intro _
  | exact rfl
  | (refine @id.{0} _ ?_; constructor)
  | apply Dk.de 0 (V:=Unit) (A:=Value) _ (fun a (s:Int×(List (List Int))) v=>[.own (aJ 22 (aJ 2 (aN .i64))) a s.2]) (fun a s v=>[(19,.int .i64 (s.1))]) () [(0,_),(1,_),(4,_),(18,_)]
  | apply Dk.de 2 (V:=Unit) (A:=Value) _ (fun a (s:Int×(List (List Int))) v=>[.own (aJ 22 (aJ 2 (aN .i64))) a s.2]) (fun a s v=>[(38,.int .i64 (s.1))]) () [(0,_),(1,_),(4,_),(5,_),(18,_),(19,_),(37,_)]
  | apply Dk.quiet (id:=10) (by kernel_rfl)
  | apply Dk.any (id:=5) 7 [] [] [[],[0],[0,1],[0,1,2],[],[],[5]] (by kernel_rfl)
  | apply Dk.any (id:=11) 12 [] [] [[],[0],[0,1],[0,1,2],[],[0,1,2,3,4],[0,1,2,3,4,5],[],[],[],[],[8,9,10]] (by kernel_rfl)
  | apply PN
  | apply agm
  | exact ()
theorem c48 {x0:(List (List Int))} {cO:Value} {x1:(List (List Int))} {dG:Value}:Ct Tryz.prog 48 true (rA x0 x1) [cO,dG] [rJ cO x0,rJ dG x1] (fun y (_:Unit)=>[.bool y]) (fun y _=>[]):=by
 refine ct (S:=Unit) (bx fun _ _=>rfl) Tryz.func48 rfl rfl ?_
 repeat' first
  | (apply Dk.fe; repeat' first | exact rfl | (refine @id.{0} _ ?_; constructor))
  | intro _
  | exact rfl
  | (refine @id.{0} _ ?_; constructor)
  | apply Dk.loop 0 (V:=Unit) (fun (s:Int) v=>[]) (fun s v=>[(5,.int .i64 (s))]) () [(0,_),(1,_)]
  | apply Dk.quiet (id:=6) (by kernel_rfl)
  | apply Y8
  | exact ()
theorem c47 {x0:aH} {bA bJ aT aR:Value} {x1:aH} {dC dQ cL bY:Value}:Ct Tryz.prog 47 true (lJ x0 x1) [.agg #[.int .i64 (x0.aD),bA,bJ,aT,aR],.agg #[.int .i64 (x1.aD),dC,dQ,cL,bY]] [rI bA x0.aG,rI bJ x0.To,rI aT x0.aI,rJ aR x0.aB,rI dC x1.aG,rI dQ x1.To,rI cL x1.aI,rJ bY x1.aB] (fun y (_:Unit)=>[.bool y]) (fun y _=>[]):=by
 refine ct (S:=Unit) (bx fun _ _=>rfl) Tryz.func47 rfl rfl ?_
 repeat' first
  | (apply Dk.fe; repeat' first | exact rfl | (refine @id.{0} _ ?_; constructor))
  | intro _
  | exact rfl
  | (refine @id.{0} _ ?_; constructor)
  | apply Y8
  | apply c48
  | exact ()
end Go.Proofs.YtcnehblmgfbfoaaGreat
