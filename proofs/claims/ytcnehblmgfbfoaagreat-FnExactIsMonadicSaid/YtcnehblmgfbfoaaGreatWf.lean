/- Walks by the calculus D. No condition beside those that each theorem names. -/
import Derived.Test.YtcnehblmgfbfoaaGreatDp
import Derived.Test.YtcnehblmgfbfoaaGreatDi
import Derived.Test.YtcnehblmgfbfoaaGreatMo
import Derived.Test.YtcnehblmgfbfoaaGreatDs
import Derived.Test.YtcnehblmgfbfoaaGreatWa
import Derived.Test.YtcnehblmgfbfoaaGreatWb
import Derived.Test.YtcnehblmgfbfoaaGreatWc
import Derived.Test.YtcnehblmgfbfoaaGreatWd
namespace Go.Proofs.YtcnehblmgfbfoaaGreat
open Go Go.Li Go.Dk
set_option linter.unusedVariables false
set_option maxHeartbeats 16000000
set_option maxRecDepth 100000
theorem ZE {x0:cK} {cH cN cC bW cI cO cD bX cU cW cG dH:Value}:Ct Tryz.prog 221 true (oU x0) [.agg #[.int .i64 (x0.On.aA.aE),cH,cN,cC,bW,.int .i64 (x0.On.aF.aE),cI,cO,cD,bX,cU,cW,cG,dH]] [rI cH x0.On.aA.aH,rI cN x0.On.aA.To,rI cC x0.On.aA.aI,rJ bW x0.On.aA.aG,rI cI x0.On.aF.aH,rI cO x0.On.aF.To,rI cD x0.On.aF.aI,rJ bX x0.On.aF.aG,rI cU x0.On.aE,rI cW x0.On.ab,rI cG x0.Unit,rI dH x0.cb] (fun y (v:Value)=>[v]) (fun y v=>[.own (aL 22 (aL 2 (aK .i64))) v y]):=by
 refine ct (S:=Unit) (bn fun _ _=>rfl) Tryz.func221 rfl rfl ?_
 repeat' first
  | (apply Dk.fe; repeat' first | exact rfl | (refine @id.{0} _ ?_; constructor))
  | intro _
  | exact rfl
  | apply Dk.QP (d:=46)
  | (refine @id.{0} _ ?_; constructor)
  | apply Dk.loop 0 (V:=Value) (fun (s:(List (List Int))×Int) v=>[.own (aL 22 (aL 2 (aK .i64))) v s.1]) (fun s v=>[(4,v),(5,.int .i64 (s.2))]) _ [(1,_),(3,_)]
  | apply Dk.loop 2 (V:=Value) (fun (s:(List (List Int))×Int) v=>[.own (aL 22 (aL 2 (aK .i64))) v s.1]) (fun s v=>[(4,v),(7,.int .i64 (s.2))]) _ [(1,_),(3,_),(5,_),(6,_)]
  | apply Dk.quiet (id:=10) (by kernel_rfl)
  | apply Dk.any (id:=6) 8 [] [] [[],[],[1],[1,2],[],[1,2,3,4],[1,2,3,4,5],[]] (by kernel_rfl)
  | apply Fb
  | apply Y7
  | exact ()
theorem ZF {x0:cK} {cH cN cC bW cI cO cD bX cU cW cG dH:Value}:Ct Tryz.prog 135 true (nW x0) [.agg #[.int .i64 (x0.On.aA.aE),cH,cN,cC,bW,.int .i64 (x0.On.aF.aE),cI,cO,cD,bX,cU,cW,cG,dH]] [rI cH x0.On.aA.aH,rI cN x0.On.aA.To,rI cC x0.On.aA.aI,rJ bW x0.On.aA.aG,rI cI x0.On.aF.aH,rI cO x0.On.aF.To,rI cD x0.On.aF.aI,rJ bX x0.On.aF.aG,rI cU x0.On.aE,rI cW x0.On.ab,rI cG x0.Unit,rI dH x0.cb] (fun y (v:Value×Value×Value×Value×Value×Value)=>[.agg #[.int .i64 y.1.aE,v.1,v.2.1,v.2.2.1,v.2.2.2.1],v.2.2.2.2.1,v.2.2.2.2.2]) (fun y v=>[.own (aL 2 (aK .i64)) v.1 y.1.aH,.own (aL 2 (aK .i64)) v.2.1 y.1.To,.own (aL 2 (aK .i64)) v.2.2.1 y.1.aI,.own (aL 22 (aL 2 (aK .i64))) v.2.2.2.1 y.1.aG,.own (aL 22 (aL 2 (aK .i64))) v.2.2.2.2.1 y.2.1,.own (aL 22 (aL 2 (aK .i64))) v.2.2.2.2.2 y.2.2]):=by
 refine ct (S:=Unit) (bn fun _ _=>rfl) Tryz.func135 rfl rfl ?_
 repeat' first
  | (apply Dk.fe; repeat' first | exact rfl | (refine @id.{0} _ ?_; constructor))
  | intro _
  | exact rfl
  | (refine Dk.z7 (t:=33) rfl ?_ ?_)
  | apply Dk.QP (d:=59)
  | (refine @id.{0} _ ?_; constructor)
  | apply Dk.loop 0 (V:=Value) (fun (s:(List (List Int))×Int) v=>[.own (aL 22 (aL 2 (aK .i64))) v s.1]) (fun s v=>[(7,v),(8,.int .i64 (s.2))]) _ [(1,_),(2,_),(5,_),(6,_)]
  | apply Dk.loop 2 (V:=Value) (fun (s:(List (List Int))×Int) v=>[.own (aL 22 (aL 2 (aK .i64))) v s.1]) (fun s v=>[(7,v),(9,.int .i64 (s.2))]) _ [(1,_),(2,_),(5,_),(6,_),(8,_)]
  | apply Dk.loop 4 (V:=Value) (fun (s:(List (List Int))×Int) v=>[.own (aL 22 (aL 2 (aK .i64))) v s.1]) (fun s v=>[(7,v),(11,.int .i64 (s.2))]) _ [(1,_),(2,_),(5,_),(6,_),(8,_),(9,_),(10,_)]
  | apply Dk.q9 6 (V:=Value) (A:=Nat×Value×Value×Value×Value) (_,_,_,_,_) (fun a (s:Int×(List Int)) v=>Dk.pc (fun a0=>Dk.pc (fun a1=>Dk.pc (fun a2=>Dk.pc (fun a3 a4=>[.row a0 [a1,a2,a3,v,a4] 31,.own (aL 2 (aK .i64)) v s.2])))) a) (fun a s v=>Dk.pc (fun a0=>Dk.pc (fun a1=>Dk.pc (fun a2=>Dk.pc (fun a3 a4=>[(12,.pointer (some ⟨a0,0,none⟩)),(13,.int .i64 (s.1))])))) a) _ [(2,_),(5,_),(6,_),(7,_)]
  | apply Dk.q9 8 (V:=Value) (A:=Nat×Value×Value×Value×Value) (_,_,_,_,_) (fun a (s:Int×(List (List Int))) v=>Dk.pc (fun a0=>Dk.pc (fun a1=>Dk.pc (fun a2=>Dk.pc (fun a3 a4=>[.row a0 [a1,a2,a3,a4,v] 31,.own (aL 22 (aL 2 (aK .i64))) v s.2])))) a) (fun a s v=>Dk.pc (fun a0=>Dk.pc (fun a1=>Dk.pc (fun a2=>Dk.pc (fun a3 a4=>[(12,.pointer (some ⟨a0,0,none⟩)),(14,.int .i64 (s.1))])))) a) _ [(2,_),(5,_),(6,_),(7,_)]
  | apply Dk.loop 10 (V:=Value) (fun (s:(List Int)×Int) v=>[.own (aL 2 (aK .i64)) v s.1]) (fun s v=>[(15,v),(16,.int .i64 (s.2))]) _ [(2,_),(5,_),(6,_),(7,_),(12,_),(14,_)]
  | apply Dk.quiet (id:=28) (by kernel_rfl)
  | apply Dk.any (id:=10) 9 [] [] [[],[],[],[1,2],[1,2,3],[],[],[5,6],[5,6,7]] (by kernel_rfl)
  | apply Dk.any (id:=19) 18 [] [] [[],[0],[],[],[],[],[5],[],[],[7,8],[7,8,9],[7,8,9,10],[7,8,9,10,11],[5,6,7,8,9,10,11,12],[5,6,7,8,9,10,11,12,13],[3,4,5,6,7,8,9,10,11,12,13,14],[2,3,4,5,6,7,8,9,10,11,12,13,14,15],[2,3,4,5,6,7,8,9,10,11,12,13,14,15,16]] (by kernel_rfl)
  | apply Dk.any (id:=29) 27 [0] [] [[],[],[],[1,2],[1,2,3],[1,2,3,4],[1,2,3,4,5],[],[],[7,8],[7,8,9],[7,8,9,10],[7,8,9,10,11],[],[],[],[14,15],[14,15,16],[14,15,16,17],[14,15,16,17,18],[],[],[20,21],[20,21,22],[20,21,22,23],[20,21,22,23,24],[13,14,15,16,17,18,19,20,21,22,23,24,25]] (by kernel_rfl)
  | apply ZE
  | apply Y8
  | apply Ze
  | apply We
  | apply Wh
  | apply Fa
  | exact ()
theorem ZG {x0:aN} {cV:Addr} {aW bG aQ aO aY bH aR aP bN bU:Value}:Ct Tryz.prog 183 true (lQ x0) [.pointer (some (cV))] [.bb cV [.int .i64 (x0.aA.aE),aW,bG,aQ,aO,.int .i64 (x0.aF.aE),aY,bH,aR,aP,bN,bU],rI aW x0.aA.aH,rI bG x0.aA.To,rI aQ x0.aA.aI,rJ aO x0.aA.aG,rI aY x0.aF.aH,rI bH x0.aF.To,rI aR x0.aF.aI,rJ aP x0.aF.aG,rI bN x0.aE,rI bU x0.ab] (fun y (_:Unit)=>[.bool y]) (fun y _=>[]):=by
 refine ct (S:=Unit) (bn fun _ _=>rfl) Tryz.func183 rfl rfl ?_
 repeat' first
  | (apply Dk.fe; repeat' first | exact rfl | (refine @id.{0} _ ?_; constructor))
  | intro _
  | exact rfl
  | (refine @id.{0} _ ?_; constructor)
  | apply Dk.loop 0 (V:=Unit) (fun (s:Int) v=>[]) (fun s v=>[(66,.int .i64 (s))]) () [(0,_),(3,_),(4,_),(64,_),(65,_)]
  | apply Dk.loop 2 (V:=Unit) (fun (s:Int) v=>[]) (fun s v=>[(121,.int .i64 (s))]) () [(0,_),(3,_),(4,_),(119,_),(120,_)]
  | apply Dk.loop 4 (V:=Unit) (fun (s:Int) v=>[]) (fun s v=>[(153,.int .i64 (s))]) () [(0,_),(4,_),(151,_),(152,_)]
  | apply Dk.loop 6 (V:=Unit) (fun (s:Int) v=>[]) (fun s v=>[(160,.int .i64 (s))]) () [(0,_),(4,_),(9,_),(151,_),(152,_),(153,_),(158,_),(159,_)]
  | apply Dk.quiet (id:=1) (by kernel_rfl)
  | apply Dk.quiet (id:=2) (by kernel_rfl)
  | apply Dk.quiet (id:=7) (by kernel_rfl)
  | apply Dk.quiet (id:=13) (by kernel_rfl)
  | apply Dk.quiet (id:=22) (by kernel_rfl)
  | apply G0
  | apply MU
  | apply Cd
  | exact ()
theorem ZH {x0:cK} {p:Addr} {Ce Cf Cg Ch Ci Cj Ck Cm fo fa fu fj:Value}:Ct Tryz.prog 231 false (iM x0) [.pointer (some p)] [.bb p [.int .i64 x0.On.aA.aE,Ce,Cf,Cg,Ch,.int .i64 x0.On.aF.aE,Ci,Cj,Ck,Cm,fo,fa,fu,fj],rI Ce x0.On.aA.aH,rI Cf x0.On.aA.To,rI Cg x0.On.aA.aI,rJ Ch x0.On.aA.aG,rI Ci x0.On.aF.aH,rI Cj x0.On.aF.To,rI Ck x0.On.aF.aI,rJ Cm x0.On.aF.aG,rI fo x0.On.aE,rI fa x0.On.ab,rI fu x0.Unit,rI fj x0.cb] (fun _ (v:Value)=>[v]) (fun y v=>[.rd false (bB (lv sI)) v y]):=by
 refine ct (S:=Unit) Vu Tryz.func231 rfl rfl ?_
 repeat' first
  | (apply Dk.fe; repeat' first | exact rfl | (refine @id.{0} _ ?_; constructor))
  | intro _
  | exact rfl
  | apply Dk.lgP (t:=183) (lv sI)
  | apply Dk.apP (S:=sI) (t:=183) (cQ.mk _ _)
  | (refine @id.{0} _ ?_; constructor)
  | apply Dk.loop 0 (V:=Value) (fun (s:List cQ×Int) v=>[.om 181 (lv sI) v s.1]) (fun s v=>[(4,v),(5,.int .i64 s.2)]) _ [(0,_),(3,_)]
  | apply Dk.loop 2 (V:=Value) (fun (s:List cQ×Int) v=>[.om 181 (lv sI) v s.1]) (fun s v=>[(4,v),(28,.int .i64 s.2)]) _ [(0,_),(3,_),(5,_),(26,_),(27,_)]
  | apply Tb
  | apply E9
  | apply YY
  | exact ()
theorem ZI {a0 a1:Int} {ll:List (List Int)} {mm:List (ByteArray×Int)} {cc:aJ} {pz pd pk pc:Addr} {k0 k1 k2 k3 k4 k5 k6 k7 k8 df dt di dc:Value}:Ct Tryz.prog 233 true (fP a0 a1 ll mm cc) [.int .i64 a0,.int .i64 a1,.pointer (some pz),.pointer (some pd)] [.bb pz [.pointer (some pk)],.bb pd [.pointer (some pc)],.bb pk [k0,k1,k2,k3,k4,k5,k6,k7,k8],.bb pc [.int .i64 cc.aE,df,dt,di,dc],rJ k7 ll,.rd false (qU Value.string (Value.int .i64)) k8 mm,rI df cc.aH,rI dt cc.To,rI di cc.aI,rJ dc cc.aG] (fun y (_:Unit)=>[.int .i64 y]) (fun _ _=>[]):=by
 refine ct (S:=Unit) (bn fun _ _=>rfl) Tryz.func233 rfl rfl ?_
 repeat' first
  | (apply Dk.fe; repeat' first | exact rfl | (refine @id.{0} _ ?_; constructor))
  | intro _
  | exact rfl
  | (refine @id.{0} _ ?_; constructor)
  | apply Dk.any (id:=1) 15 [] [] [[],[0],[0,1],[0,1,2],[],[0,1,2,3,4],[0,1,2,3,4,5],[],[7],[7,8],[7,8,9],[],[7,8,9,10,11],[7,8,9,10,11,12],[0,1,2,3,4,5,6]] (by kernel_rfl)
  | apply Dk.any (id:=2) 15 [] [] [[],[],[1],[1,2],[],[4],[4,5],[],[],[8],[8,9],[],[11],[11,12],[7,8,9,10,11,12,13]] (by kernel_rfl)
  | apply Cd
  | apply MS
  | exact ()
theorem Ko {x0:aJ} {pX:Nat} {bO cF aT aS:Value} {Th:List (List Int)} {Ti:List (ByteArray×Int)} {BC:aJ} {Tj Tk Tl:Addr} {Tn Tp MX MY Tq Tr Ts Tt:Value}:Ct Tryz.prog 166 true (kP x0 (fun a0 a1=>fP a0 a1 Th Ti BC)) [.pointer (some (⟨pX,1,none⟩)),.func (.func 233) #[] #[.pointer (some Tj),.pointer (some Tk)]] [.row pX [Tn,.int .i64 (x0.aE),bO,cF,aT,aS,Tp,MX,MY] 185,rI bO x0.aH,rI cF x0.To,rI aT x0.aI,.own (aL 22 (aL 2 (aK .i64))) aS x0.aG,.bb Tj [.pointer (some ⟨pX,0,none⟩)],.bb Tk [.pointer (some Tl)],.bb Tl [.int .i64 BC.aE,Tq,Tr,Ts,Tt],rJ MX Th,.rd false (qU Value.string (Value.int .i64)) MY Ti,rI Tq BC.aH,rI Tr BC.To,rI Ts BC.aI,rJ Tt BC.aG] (fun y (v:Value)=>[]) (fun y v=>[.row pX [Tn,.int .i64 y.aE,bO,cF,aT,v,Tp,MX,MY] 185,.own (aL 22 (aL 2 (aK .i64))) v y.aG]):=by
 refine ctv (bn fun _ _=>rfl) Tryz.func166 rfl rfl ?_
 repeat' first
  | (apply Dk.fe; repeat' first | exact rfl | (refine @id.{0} _ ?_; constructor))
  | intro _
  | exact rfl
  | (refine @id.{0} _ ?_; constructor)
  | apply Dk.q9 0 (V:=Unit) (A:=Value) _ (fun a (s:Int×(List (List Int))) v=>[.own (aL 22 (aL 2 (aK .i64))) a s.2]) (fun a s v=>[(19,.int .i64 (s.1))]) () [(0,_),(1,_),(4,_),(18,_)]
  | apply Dk.q9 2 (V:=Unit) (A:=Value) _ (fun a (s:Int×(List (List Int))) v=>[.own (aL 22 (aL 2 (aK .i64))) a s.2]) (fun a s v=>[(38,.int .i64 (s.1))]) () [(0,_),(1,_),(4,_),(5,_),(18,_),(19,_),(37,_)]
  | apply Dk.quiet (id:=10) (by kernel_rfl)
  | apply Dk.any (id:=5) 7 [] [] [[],[0],[0,1],[0,1,2],[],[],[5]] (by kernel_rfl)
  | apply Dk.any (id:=11) 12 [] [] [[],[0],[0,1],[0,1,2],[],[0,1,2,3,4],[0,1,2,3,4,5],[],[],[],[],[8,9,10]] (by kernel_rfl)
  | apply G0
  | apply ZI
  | exact ()
theorem ZJ {x0:cK} {p:Addr} {Ce Cf Cg Ch Ci Cj Ck Cm fo fa fu fj:Value}:Ct Tryz.prog 142 false (kJ x0) [.pointer (some p)] [.bb p [.int .i64 x0.On.aA.aE,Ce,Cf,Cg,Ch,.int .i64 x0.On.aF.aE,Ci,Cj,Ck,Cm,fo,fa,fu,fj],rI Ce x0.On.aA.aH,rI Cf x0.On.aA.To,rI Cg x0.On.aA.aI,rJ Ch x0.On.aA.aG,rI Ci x0.On.aF.aH,rI Cj x0.On.aF.To,rI Ck x0.On.aF.aI,rJ Cm x0.On.aF.aG,rI fo x0.On.aE,rI fa x0.On.ab,rI fu x0.Unit,rI fj x0.cb] (fun y (v:Nat×Value×Value×Value×Value×Value×Value×Value)=>[(match y.1 with | none=>Value.pointer none | some _=>.pointer (some ⟨v.1,0,none⟩)),.bool y.2]) (fun y v=>match y.1 with | none=>[] | some m=>[.bb ⟨v.1,0,none⟩ [.pointer (some p),.int .i64 m.1.aE,v.2.1,v.2.2.1,v.2.2.2.1,v.2.2.2.2.1,v.2.2.2.2.2.1,v.2.2.2.2.2.2.1,v.2.2.2.2.2.2.2],rI v.2.1 m.1.aH,rI v.2.2.1 m.1.To,rI v.2.2.2.1 m.1.aI,rJ v.2.2.2.2.1 m.1.aG,.rd false (bB (lv sI)) v.2.2.2.2.2.1 m.2.1,rJ v.2.2.2.2.2.2.1 m.2.2.1,.rd false (qU Value.string (Value.int .i64)) v.2.2.2.2.2.2.2 m.2.2.2]):=by
 refine ct (S:=Unit) Vu Tryz.func142 rfl rfl ?_
 repeat' first
  | (apply Dk.fe; repeat' first | exact rfl | (refine @id.{0} _ ?_; constructor))
  | intro _
  | exact rfl
  | apply Dk.AD.VB (t:=22)
  | apply Dk.AD.VC (t:=23)
  | (apply Dk.T3 (T:=(qU Value.string (Value.int .i64))) 107; · (repeat (first | exact Dk.dy.own (by repeat constructor) | apply Dk.dy.there)))
  | apply Dk.rgs
  | (apply Dk.QU (c:=.ret) (e:=185); · (repeat (first | exact Dk.dy.row | apply Dk.dy.there)))
  | (refine @id.{0} _ ?_; constructor)
  | apply Dk.q9 0 (V:=Value) (A:=Nat×Value) (_,_) (fun a (s:List (List Int)×Int) v=>Dk.pc (fun a0 a1=>[.row a0 [.pointer (some p),.int .i64 0,.slice none 0 0,.slice none 0 0,.slice none 0 0,.slice none 0 0,a1,v,.map none] 185,.own (aL 22 (aL 2 (aK .i64))) v s.1]) a) (fun a s v=>[(30,.int .i64 s.2)]) _ [(0,_),(4,_),(28,_),(29,_)]
  | apply Dk.q9 2 (V:=Value) (A:=Nat×Value) (_,_) (fun a (s:List (List Int)×Int) v=>Dk.pc (fun a0 a1=>[.row a0 [.pointer (some p),.int .i64 0,.slice none 0 0,.slice none 0 0,.slice none 0 0,.slice none 0 0,a1,v,.map none] 185,.own (aL 22 (aL 2 (aK .i64))) v s.1]) a) (fun a s v=>[(40,.int .i64 s.2)]) _ [(0,_),(4,_),(5,_),(6,_),(28,_),(29,_),(30,_),(38,_),(39,_)]
  | apply Dk.q9 4 (V:=Value) (A:=Nat×Value) (_,_) (fun a (s:List (List Int)×Int) v=>Dk.pc (fun a0 a1=>[.row a0 [.pointer (some p),.int .i64 0,.slice none 0 0,.slice none 0 0,.slice none 0 0,.slice none 0 0,a1,v,.map none] 185,.own (aL 22 (aL 2 (aK .i64))) v s.1]) a) (fun a s v=>[(50,.int .i64 s.2)]) _ [(0,_),(4,_),(5,_),(6,_),(7,_),(8,_),(28,_),(29,_),(30,_),(38,_),(39,_),(40,_),(48,_),(49,_)]
  | apply Dk.q9 6 (V:=Value) (A:=Nat×Value×Value×Value×Value×Value×Value×Value×Value) (_,_,_,_,_,_,_,_,_) (fun a (s:List Int×Int) v=>Dk.pc (fun a0=>Dk.pc (fun a1=>Dk.pc (fun a2=>Dk.pc (fun a3=>Dk.pc (fun a4=>Dk.pc (fun a5=>Dk.pc (fun a6=>Dk.pc (fun a7 a8=>[.row a0 [a1,a2,a3,a4,v,a5,a6,a7,a8] 185,.own (aL 2 (aK .i64)) v s.1])))))))) a) (fun a s v=>[(112,.int .i64 s.2)]) _ [(0,_),(4,_),(11,_),(110,_),(111,_)]
  | apply Dk.K2 (id:=13) [Dk.ay.own (aL 22 (aL 2 (aK .i64))) _ _] 11 [] [[],[],[],[],[],[],[],[],[],[],[14,8]] [[],[],[1],[1,2],[1,2,3],[],[],[],[5,6,7],[5,6,7,8],[1,2,3,4,5,6,7,8,9]] (by kernel_rfl)
  | apply Dk.any (id:=20) 6 [] [] [[],[],[1],[1,2],[1,2,3],[1,2,3,4]] (by kernel_rfl)
  | apply Dk.any (id:=21) 17 [] [] [[],[],[1],[1,2],[1,2,3],[1,2,3,4],[],[6],[6,7],[6,7,8],[6,7,8,9],[],[11],[11,12],[11,12,13],[6,7,8,9,10,11,12,13,14],[1,2,3,4,5,6,7,8,9,10,11,12,13,14,15]] (by kernel_rfl)
  | apply Dk.K2 (id:=25) [Dk.ay.own (aL 2 (aK .i64)) _ _] 22 [] [[],[],[],[],[],[],[],[],[],[],[],[],[],[],[],[],[],[],[],[],[],[26]] [[],[],[1],[1,2],[1,2,3],[1,2,3,4],[],[],[],[],[9],[9,10],[9,10,11],[],[13],[13,14],[13,14,15],[9,10,11,12,13,14,15,16],[9,10,11,12,13,14,15,16,17],[6,7,8,9,10,11,12,13,14,15,16,17,18],[6,7,8,9,10,11,12,13,14,15,16,17,18,19],[1,2,3,4,5,6,7,8,9,10,11,12,13,14,15,16,17,18,19,20]] (by kernel_rfl)
  | apply ZH
  | apply YZ
  | apply Zh
  | apply Zu
  | apply MS
  | apply Ko
  | exact ()
 all_goals try first | exact Value.nilFunc | exact (0:Nat)
theorem ZK {x0:aJ} {cV:Addr} {bO cF aT aS:Value} {x1:Int} {x2:Int}:Ct Tryz.prog 246 true (hP x0 x1 x2) [.pointer (some (cV)),.int .i64 (x1),.int .i64 (x2)] [.bb cV [.int .i64 (x0.aE),bO,cF,aT,aS],rI bO x0.aH,rI cF x0.To,rI aT x0.aI,rJ aS x0.aG] (fun y (_:Unit)=>[.int .i64 y]) (fun y _=>[]):=by
 refine ct (S:=Unit) (bn fun _ _=>rfl) Tryz.func246 rfl rfl ?_
 repeat' first
  | (apply Dk.fe; repeat' first | exact rfl | (refine @id.{0} _ ?_; constructor))
  | intro _
  | exact rfl
  | (refine @id.{0} _ ?_; constructor)
  | apply Dk.loop 0 (V:=Unit) (fun (s:Int) v=>[]) (fun s v=>[(14,.int .i64 (s))]) () [(0,_),(12,_),(13,_)]
  | apply E9
  | apply Y3
  | exact ()
theorem ZL {x0:aN} {p:Addr} {Ce Cf Cg Ch Ci Cj Ck Cm fo fa:Value}:Ct Tryz.prog 160 true (eV x0) [.pointer (some p)] [.bb p [.int .i64 x0.aA.aE,Ce,Cf,Cg,Ch,.int .i64 x0.aF.aE,Ci,Cj,Ck,Cm,fo,fa],rI Ce x0.aA.aH,rI Cf x0.aA.To,rI Cg x0.aA.aI,rJ Ch x0.aA.aG,rI Ci x0.aF.aH,rI Cj x0.aF.To,rI Ck x0.aF.aI,rJ Cm x0.aF.aG,rI fo x0.aE,rI fa x0.ab] (fun y (_:Unit)=>[.bool y]) (fun _ _=>[]):=by
 refine ct (S:=Unit) (bn fun _ _=>rfl) Tryz.func160 rfl rfl ?_
 repeat' first
  | (apply Dk.fe; repeat' first | exact rfl | (refine @id.{0} _ ?_; constructor))
  | intro _
  | exact rfl
  | (refine @id.{0} _ ?_; constructor)
  | apply Dk.scp
  | apply Dk.lab
  | apply Dk.loop 0 (V:=Unit) (fun (s:Int) _=>[]) (fun s _=>[(3,.int .i64 s)]) () [(0,_)]
  | apply Dk.T4 2 1 (V:=Unit) (fun (s:Int) _=>[]) (fun s _=>[(20,.int .i64 s)]) () [(0,_),(3,_),(18,_),(19,_)] rfl
  | apply Dk.nlx
  | apply Dk.xlx
  | (apply Dk.xlo <;> first | exact rfl | skip)
  | apply ZK
  | exact ()
theorem c78 {x0:aN} {cV:Addr} {aW bG aQ aO aY bH aR aP bN bU:Value}:Ct Tryz.prog 78 true (gN x0) [.pointer (some (cV))] [.bb cV [.int .i64 (x0.aA.aE),aW,bG,aQ,aO,.int .i64 (x0.aF.aE),aY,bH,aR,aP,bN,bU],rI aW x0.aA.aH,rI bG x0.aA.To,rI aQ x0.aA.aI,rJ aO x0.aA.aG,rI aY x0.aF.aH,rI bH x0.aF.To,rI aR x0.aF.aI,rJ aP x0.aF.aG,rI bN x0.aE,rI bU x0.ab] (fun y (_:Unit)=>[.bool y]) (fun y _=>[]):=by
 refine ct (S:=Unit) (bn fun _ _=>rfl) Tryz.func78 rfl rfl ?_
 repeat' first
  | (apply Dk.fe; repeat' first | exact rfl | (refine @id.{0} _ ?_; constructor))
  | intro _
  | exact rfl
  | (refine @id.{0} _ ?_; constructor)
  | apply Y1
  | apply Y2
  | apply ZL
  | exact ()
end Go.Proofs.YtcnehblmgfbfoaaGreat
