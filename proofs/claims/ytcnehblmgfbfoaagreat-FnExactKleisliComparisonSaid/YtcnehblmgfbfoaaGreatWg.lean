/- Walks by the calculus D. No condition beside those that each theorem names. -/
import Derived.Test.YtcnehblmgfbfoaaGreatDp
import Derived.Test.YtcnehblmgfbfoaaGreatDi
import Derived.Test.YtcnehblmgfbfoaaGreatMo
import Derived.Test.YtcnehblmgfbfoaaGreatDs
import Derived.Test.YtcnehblmgfbfoaaGreatWa
import Derived.Test.YtcnehblmgfbfoaaGreatWb
import Derived.Test.YtcnehblmgfbfoaaGreatWc
import Derived.Test.YtcnehblmgfbfoaaGreatWd
namespace Go.Proofs.YtcnehblmgfbfoaaGreat
open Go Go.Li Go.Dk
set_option linter.unusedVariables false
set_option maxHeartbeats 16000000
set_option maxRecDepth 100000
theorem X9 {x0:aH} {bH bR aW aT:Value}:Ct Tryz.prog 139 true (iU x0) [.agg #[.int .i64 (x0.aD),bH,bR,aW,aT]] [rI bH x0.aF,rI bR x0.To,rI aW x0.aG,rJ aT x0.aC] (fun y (v:Value×Value×Value×Value)=>[.agg #[.int .i64 y.aD,v.1,v.2.1,v.2.2.1,v.2.2.2]]) (fun y v=>[.own (aI 2 (aJ .i64)) v.1 y.aF,.own (aI 2 (aJ .i64)) v.2.1 y.To,.own (aI 2 (aJ .i64)) v.2.2.1 y.aG,.own (aI 22 (aI 2 (aJ .i64))) v.2.2.2 y.aC]):=by
 refine ct (S:=Unit) (bp fun _ _=>rfl) Tryz.func139 rfl rfl ?_
 repeat' first
  | (apply Dk.fe; repeat' first | exact rfl | (refine @id.{0} _ ?_; constructor))
  | intro _
  | exact rfl
  | (refine @id.{0} _ ?_; constructor)
  | apply MN
  | apply XS
  | exact ()
theorem c60 {x0:aS} {bI bP bF bC bJ bQ bG bD bU bV:Value}:Ct Tryz.prog 60 true (lH x0) [.agg #[.int .i64 (x0.aB.aD),bI,bP,bF,bC,.int .i64 (x0.aE.aD),bJ,bQ,bG,bD,bU,bV]] [rI bI x0.aB.aF,rI bP x0.aB.To,rI bF x0.aB.aG,rJ bC x0.aB.aC,rI bJ x0.aE.aF,rI bQ x0.aE.To,rI bG x0.aE.aG,rJ bD x0.aE.aC,rI bU x0.aD,rI bV x0.ab] (fun y (v:Value×Value×Value×Value×Value×Value×Value×Value×Value×Value)=>[.agg #[.int .i64 y.aB.aD,v.1,v.2.1,v.2.2.1,v.2.2.2.1,.int .i64 y.aE.aD,v.2.2.2.2.1,v.2.2.2.2.2.1,v.2.2.2.2.2.2.1,v.2.2.2.2.2.2.2.1,v.2.2.2.2.2.2.2.2.1,v.2.2.2.2.2.2.2.2.2]]) (fun y v=>[.own (aI 2 (aJ .i64)) v.1 y.aB.aF,.own (aI 2 (aJ .i64)) v.2.1 y.aB.To,.own (aI 2 (aJ .i64)) v.2.2.1 y.aB.aG,.own (aI 22 (aI 2 (aJ .i64))) v.2.2.2.1 y.aB.aC,.own (aI 2 (aJ .i64)) v.2.2.2.2.1 y.aE.aF,.own (aI 2 (aJ .i64)) v.2.2.2.2.2.1 y.aE.To,.own (aI 2 (aJ .i64)) v.2.2.2.2.2.2.1 y.aE.aG,.own (aI 22 (aI 2 (aJ .i64))) v.2.2.2.2.2.2.2.1 y.aE.aC,.own (aI 2 (aJ .i64)) v.2.2.2.2.2.2.2.2.1 y.aD,.own (aI 2 (aJ .i64)) v.2.2.2.2.2.2.2.2.2 y.ab]):=by
 refine ct (S:=Unit) (bp fun _ _=>rfl) Tryz.func60 rfl rfl ?_
 repeat' first
  | (apply Dk.fe; repeat' first | exact rfl | (refine @id.{0} _ ?_; constructor))
  | intro _
  | exact rfl
  | (refine @id.{0} _ ?_; constructor)
  | apply X9
  | apply MN
  | exact ()
theorem Ya {x0:aH} {bH bR aW aT:Value}:Ct Tryz.prog 174 true (mP x0) [.agg #[.int .i64 (x0.aD),bH,bR,aW,aT]] [rI bH x0.aF,rI bR x0.To,rI aW x0.aG,rJ aT x0.aC] (fun y (_:Unit)=>[.bool y]) (fun y _=>[]):=by
 refine ct (S:=Unit) (bp fun _ _=>rfl) Tryz.func174 rfl rfl ?_
 repeat' first
  | (apply Dk.fe; repeat' first | exact rfl | (refine @id.{0} _ ?_; constructor))
  | intro _
  | exact rfl
  | (refine Dk.zv (t:=102) rfl ?_ ?_)
  | (refine @id.{0} _ ?_; constructor)
  | apply Dk.loop 0 (V:=Unit) (fun (s:Int) v=>[]) (fun s v=>[(4,.int .i64 (s))]) () [(1,_),(3,_)]
  | apply Dk.loop 2 (V:=Unit) (fun (s:Int) v=>[]) (fun s v=>[(5,.int .i64 (s))]) () [(1,_),(3,_)]
  | apply Dk.loop 4 (V:=Unit) (fun (s:Int) v=>[]) (fun s v=>[(6,.int .i64 (s))]) () [(1,_),(3,_),(5,_)]
  | apply Dk.quiet (id:=9) (by kernel_rfl)
  | apply Dk.quiet (id:=20) (by kernel_rfl)
  | apply Dk.quiet (id:=23) (by kernel_rfl)
  | apply XD
  | apply XE
  | apply G9
  | exact ()
theorem Yb {x0:aH} {bH bR aW aT:Value}:Ct Tryz.prog 100 true (mQ x0) [.agg #[.int .i64 (x0.aD),bH,bR,aW,aT]] [rI bH x0.aF,rI bR x0.To,rI aW x0.aG,rJ aT x0.aC] (fun y (_:Unit)=>[.bool y]) (fun y _=>[]):=by
 refine ct (S:=Unit) (bp fun _ _=>rfl) Tryz.func100 rfl rfl ?_
 repeat' first
  | (apply Dk.fe; repeat' first | exact rfl | (refine @id.{0} _ ?_; constructor))
  | intro _
  | exact rfl
  | (refine @id.{0} _ ?_; constructor)
  | apply Ya
  | apply XM
  | exact ()
theorem c91 {x0:aH} {bH bR aW aT:Value} {x1:aH} {dV fF cW cH:Value}:Ct Tryz.prog 91 true (mR x0 x1) [.agg #[.int .i64 (x0.aD),bH,bR,aW,aT],.agg #[.int .i64 (x1.aD),dV,fF,cW,cH]] [rI bH x0.aF,rI bR x0.To,rI aW x0.aG,rJ aT x0.aC,rI dV x1.aF,rI fF x1.To,rI cW x1.aG,rJ cH x1.aC] (fun y (_:Unit)=>[.bool y]) (fun y _=>[]):=by
 refine ct (S:=Unit) (bp fun _ _=>rfl) Tryz.func91 rfl rfl ?_
 repeat' first
  | (apply Dk.fe; repeat' first | exact rfl | (refine @id.{0} _ ?_; constructor))
  | intro _
  | exact rfl
  | (refine @id.{0} _ ?_; constructor)
  | apply Ls
  | apply XT
  | exact ()
theorem Yc {a0 a1:Int} {ll:List (List Int)} {mm:List (ByteArray×Int)} {cc:aH} {pz pd pk pc:Addr} {k0 k1 k2 k3 k4 k5 k6 k7 k8 df dt di dc:Value}:Ct Tryz.prog 233 true (eG a0 a1 ll mm cc) [.int .i64 a0,.int .i64 a1,.pointer (some pz),.pointer (some pd)] [.aw pz [.pointer (some pk)],.aw pd [.pointer (some pc)],.aw pk [k0,k1,k2,k3,k4,k5,k6,k7,k8],.aw pc [.int .i64 cc.aD,df,dt,di,dc],rJ k7 ll,.rd false (o3 Value.string (Value.int .i64)) k8 mm,rI df cc.aF,rI dt cc.To,rI di cc.aG,rJ dc cc.aC] (fun y (_:Unit)=>[.int .i64 y]) (fun _ _=>[]):=by
 refine ct (S:=Unit) (bp fun _ _=>rfl) Tryz.func233 rfl rfl ?_
 repeat' first
  | (apply Dk.fe; repeat' first | exact rfl | (refine @id.{0} _ ?_; constructor))
  | intro _
  | exact rfl
  | (refine @id.{0} _ ?_; constructor)
  | apply Dk.any (id:=1) 15 [] [] [[],[0],[0,1],[0,1,2],[],[0,1,2,3,4],[0,1,2,3,4,5],[],[7],[7,8],[7,8,9],[],[7,8,9,10,11],[7,8,9,10,11,12],[0,1,2,3,4,5,6]] (by kernel_rfl)
  | apply Dk.any (id:=2) 15 [] [] [[],[],[1],[1,2],[],[4],[4,5],[],[],[8],[8,9],[],[11],[11,12],[7,8,9,10,11,12,13]] (by kernel_rfl)
  | apply Ad
  | apply Lr
  | exact ()
theorem Ji {x0:aH} {oL:Nat} {bH bR aW aT:Value} {D5:List (List Int)} {D6:List (ByteArray×Int)} {AO:aH} {R7 R8 R9:Addr} {Sa Sb Lv Lw Sc Sd Se Sf:Value}:Ct Tryz.prog 166 true (eS x0 (fun a0 a1=>eG a0 a1 D5 D6 AO)) [.pointer (some (⟨oL,1,none⟩)),.func (.func 233) #[] #[.pointer (some R7),.pointer (some R8)]] [.row oL [Sa,.int .i64 (x0.aD),bH,bR,aW,aT,Sb,Lv,Lw] 185,rI bH x0.aF,rI bR x0.To,rI aW x0.aG,.own (aI 22 (aI 2 (aJ .i64))) aT x0.aC,.aw R7 [.pointer (some ⟨oL,0,none⟩)],.aw R8 [.pointer (some R9)],.aw R9 [.int .i64 AO.aD,Sc,Sd,Se,Sf],rJ Lv D5,.rd false (o3 Value.string (Value.int .i64)) Lw D6,rI Sc AO.aF,rI Sd AO.To,rI Se AO.aG,rJ Sf AO.aC] (fun y (v:Value)=>[]) (fun y v=>[.row oL [Sa,.int .i64 y.aD,bH,bR,aW,v,Sb,Lv,Lw] 185,.own (aI 22 (aI 2 (aJ .i64))) v y.aC]):=by
 refine TQ (bp fun _ _=>rfl) Tryz.func166 rfl rfl ?_
 repeat' first
  | (apply Dk.fe; repeat' first | exact rfl | (refine @id.{0} _ ?_; constructor))
  | intro _
  | exact rfl
  | (refine @id.{0} _ ?_; constructor)
  | apply Dk.mb 0 (V:=Unit) (A:=Value) _ (fun a (s:Int×(List (List Int))) v=>[.own (aI 22 (aI 2 (aJ .i64))) a s.2]) (fun a s v=>[(19,.int .i64 (s.1))]) () [(0,_),(1,_),(4,_),(18,_)]
  | apply Dk.mb 2 (V:=Unit) (A:=Value) _ (fun a (s:Int×(List (List Int))) v=>[.own (aI 22 (aI 2 (aJ .i64))) a s.2]) (fun a s v=>[(38,.int .i64 (s.1))]) () [(0,_),(1,_),(4,_),(5,_),(18,_),(19,_),(37,_)]
  | apply Dk.quiet (id:=10) (by kernel_rfl)
  | apply Dk.any (id:=5) 7 [] [] [[],[0],[0,1],[0,1,2],[],[],[5]] (by kernel_rfl)
  | apply Dk.any (id:=11) 12 [] [] [[],[0],[0,1],[0,1,2],[],[0,1,2,3,4],[0,1,2,3,4,5],[],[],[],[],[8,9,10]] (by kernel_rfl)
  | apply D2
  | apply Yc
  | exact ()
theorem c72 {x0:aH} {bH bR aW aT:Value} {x1:Int}:Ct Tryz.prog 72 true (gS x0 x1) [.agg #[.int .i64 (x0.aD),bH,bR,aW,aT],.int .i64 (x1)] [.own (aI 2 (aJ .i64)) bH x0.aF,.own (aI 2 (aJ .i64)) bR x0.To,.own (aI 2 (aJ .i64)) aW x0.aG,.own (aI 22 (aI 2 (aJ .i64))) aT x0.aC] (fun y (_:Unit)=>[.int .i64 y.1]) (fun y _=>[.own (aI 2 (aJ .i64)) bH y.2.1,.own (aI 2 (aJ .i64)) bR y.2.2.1,.own (aI 2 (aJ .i64)) aW y.2.2.2.1,.own (aI 22 (aI 2 (aJ .i64))) aT y.2.2.2.2]):=by
 refine ct (S:=Unit) (bp fun _ _=>rfl) Tryz.func72 rfl rfl ?_
 repeat' first
  | (apply Dk.fe; repeat' first | exact rfl | (refine @id.{0} _ ?_; constructor))
  | intro _
  | exact rfl
  | (refine @id.{0} _ ?_; constructor)
  | apply MO
  | apply XZ
  | exact ()
theorem UD {x0:aS} {bI bP bF bC bJ bQ bG bD bU bV:Value} {x1:Int}:Ct Tryz.prog 15 true (iD x0 x1) [.agg #[.int .i64 (x0.aB.aD),bI,bP,bF,bC,.int .i64 (x0.aE.aD),bJ,bQ,bG,bD,bU,bV],.int .i64 (x1)] [.own (aI 2 (aJ .i64)) bI x0.aB.aF,.own (aI 2 (aJ .i64)) bP x0.aB.To,.own (aI 2 (aJ .i64)) bF x0.aB.aG,.own (aI 22 (aI 2 (aJ .i64))) bC x0.aB.aC,.own (aI 2 (aJ .i64)) bJ x0.aE.aF,.own (aI 2 (aJ .i64)) bQ x0.aE.To,.own (aI 2 (aJ .i64)) bG x0.aE.aG,.own (aI 22 (aI 2 (aJ .i64))) bD x0.aE.aC,.own (aI 2 (aJ .i64)) bU x0.aD,.own (aI 2 (aJ .i64)) bV x0.ab] (fun y (_:Unit)=>[.int .i64 y.1]) (fun y _=>[.own (aI 2 (aJ .i64)) bI y.2.1,.own (aI 2 (aJ .i64)) bP y.2.2.1,.own (aI 2 (aJ .i64)) bF y.2.2.2.1,.own (aI 22 (aI 2 (aJ .i64))) bC y.2.2.2.2.1,.own (aI 2 (aJ .i64)) bJ y.2.2.2.2.2.1,.own (aI 2 (aJ .i64)) bQ y.2.2.2.2.2.2.1,.own (aI 2 (aJ .i64)) bG y.2.2.2.2.2.2.2.1,.own (aI 22 (aI 2 (aJ .i64))) bD y.2.2.2.2.2.2.2.2.1,.own (aI 2 (aJ .i64)) bU y.2.2.2.2.2.2.2.2.2.1,.own (aI 2 (aJ .i64)) bV y.2.2.2.2.2.2.2.2.2.2]):=by
 refine ct (S:=Unit) (bp fun _ _=>rfl) Tryz.func15 rfl rfl ?_
 repeat' first
  | (apply Dk.fe; repeat' first | exact rfl | (refine @id.{0} _ ?_; constructor))
  | intro _
  | exact rfl
  | (refine @id.{0} _ ?_; constructor)
  | apply c72
  | apply MO
  | exact ()
end Go.Proofs.YtcnehblmgfbfoaaGreat
