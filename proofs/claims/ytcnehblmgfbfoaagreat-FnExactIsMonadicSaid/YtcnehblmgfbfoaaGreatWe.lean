/- Walks by the calculus D. No condition beside those that each theorem names. -/
import Derived.Test.YtcnehblmgfbfoaaGreatDp
import Derived.Test.YtcnehblmgfbfoaaGreatDi
import Derived.Test.YtcnehblmgfbfoaaGreatMo
import Derived.Test.YtcnehblmgfbfoaaGreatDs
import Derived.Test.YtcnehblmgfbfoaaGreatWa
import Derived.Test.YtcnehblmgfbfoaaGreatWb
import Derived.Test.YtcnehblmgfbfoaaGreatWc
import Derived.Test.YtcnehblmgfbfoaaGreatWd
namespace Go.Proofs.YtcnehblmgfbfoaaGreat
open Go Go.Li Go.Dk
set_option linter.unusedVariables false
set_option maxHeartbeats 16000000
set_option maxRecDepth 100000
theorem Zw {x0:aJ} {bO cF aT aS:Value}:Ct Tryz.prog 174 true (oI x0) [.agg #[.int .i64 (x0.aE),bO,cF,aT,aS]] [rI bO x0.aH,rI cF x0.To,rI aT x0.aI,rJ aS x0.aG] (fun y (_:Unit)=>[.bool y]) (fun y _=>[]):=by
 refine ct (S:=Unit) (bn fun _ _=>rfl) Tryz.func174 rfl rfl ?_
 repeat' first
  | (apply Dk.fe; repeat' first | exact rfl | (refine @id.{0} _ ?_; constructor))
  | intro _
  | exact rfl
  | (refine Dk.z7 (t:=102) rfl ?_ ?_)
  | (refine @id.{0} _ ?_; constructor)
  | apply Dk.loop 0 (V:=Unit) (fun (s:Int) v=>[]) (fun s v=>[(4,.int .i64 (s))]) () [(1,_),(3,_)]
  | apply Dk.loop 2 (V:=Unit) (fun (s:Int) v=>[]) (fun s v=>[(5,.int .i64 (s))]) () [(1,_),(3,_)]
  | apply Dk.loop 4 (V:=Unit) (fun (s:Int) v=>[]) (fun s v=>[(6,.int .i64 (s))]) () [(1,_),(3,_),(5,_)]
  | apply Dk.quiet (id:=9) (by kernel_rfl)
  | apply Dk.quiet (id:=20) (by kernel_rfl)
  | apply Dk.quiet (id:=23) (by kernel_rfl)
  | apply Y4
  | apply Y5
  | apply Il
  | exact ()
theorem Zx {x0:aJ} {bO cF aT aS:Value}:Ct Tryz.prog 100 true (oJ x0) [.agg #[.int .i64 (x0.aE),bO,cF,aT,aS]] [rI bO x0.aH,rI cF x0.To,rI aT x0.aI,rJ aS x0.aG] (fun y (_:Unit)=>[.bool y]) (fun y _=>[]):=by
 refine ct (S:=Unit) (bn fun _ _=>rfl) Tryz.func100 rfl rfl ?_
 repeat' first
  | (apply Dk.fe; repeat' first | exact rfl | (refine @id.{0} _ ?_; constructor))
  | intro _
  | exact rfl
  | (refine @id.{0} _ ?_; constructor)
  | apply Zw
  | apply Zd
  | exact ()
theorem Tg {x0:aN} {aW bG aQ aO aY bH aR aP bN bU:Value}:Ct Tryz.prog 168 true (nP x0) [.agg #[.int .i64 (x0.aA.aE),aW,bG,aQ,aO,.int .i64 (x0.aF.aE),aY,bH,aR,aP,bN,bU]] [rI aW x0.aA.aH,rI bG x0.aA.To,rI aQ x0.aA.aI,rJ aO x0.aA.aG,rI aY x0.aF.aH,rI bH x0.aF.To,rI aR x0.aF.aI,rJ aP x0.aF.aG,rI bN x0.aE,rI bU x0.ab] (fun y (_:Unit)=>[.bool y]) (fun y _=>[]):=by
 refine ct (S:=Unit) (bn fun _ _=>rfl) Tryz.func168 rfl rfl ?_
 repeat' first
  | (apply Dk.fe; repeat' first | exact rfl | (refine @id.{0} _ ?_; constructor))
  | intro _
  | exact rfl
  | (refine Dk.z7 (t:=136) rfl ?_ ?_)
  | (refine @id.{0} _ ?_; constructor)
  | apply Dk.loop 0 (V:=Unit) (fun (s:Int) v=>[]) (fun s v=>[(5,.int .i64 (s))]) () [(1,_),(3,_),(4,_)]
  | apply Dk.loop 2 (V:=Unit) (fun (s:Int) v=>[]) (fun s v=>[(6,.int .i64 (s))]) () [(1,_),(3,_),(4,_)]
  | apply Dk.loop 4 (V:=Unit) (fun (s:Int) v=>[]) (fun s v=>[(7,.int .i64 (s))]) () [(1,_),(3,_),(4,_)]
  | apply Dk.loop 6 (V:=Unit) (fun (s:Int) v=>[]) (fun s v=>[(8,.int .i64 (s))]) () [(1,_),(3,_),(4,_),(7,_)]
  | apply Dk.quiet (id:=9) (by kernel_rfl)
  | apply Dk.quiet (id:=14) (by kernel_rfl)
  | apply Dk.quiet (id:=22) (by kernel_rfl)
  | apply Dk.any (id:=1) 7 [] [[],[],[],[],[],[],[4]] [[],[0],[],[2],[],[],[0,1,4,5]] (by kernel_rfl)
  | apply Zx
  | apply Il
  | exact ()
theorem Zy {x0:aJ} {cV:Addr} {bO cF aT aS:Value}:Ct Tryz.prog 267 true (jE x0) [.pointer (some (cV))] [.bb cV [.int .i64 (x0.aE),bO,cF,aT,aS],rI bO x0.aH,rI cF x0.To,rI aT x0.aI,rJ aS x0.aG] (fun y (_:Unit)=>[.bool y]) (fun y _=>[]):=by
 refine ct (S:=Unit) (bn fun _ _=>rfl) Tryz.func267 rfl rfl ?_
 repeat' first
  | (apply Dk.fe; repeat' first | exact rfl | (refine @id.{0} _ ?_; constructor))
  | intro _
  | exact rfl
  | (refine @id.{0} _ ?_; constructor)
  | apply Dk.loop 0 (V:=Unit) (fun (s:Int) v=>[]) (fun s v=>[(88,.int .i64 (s))]) () [(0,_),(3,_),(86,_),(87,_)]
  | apply Dk.loop 2 (V:=Unit) (fun (s:Int) v=>[]) (fun s v=>[(106,.int .i64 (s))]) () [(0,_),(3,_),(104,_),(105,_)]
  | apply Dk.loop 4 (V:=Unit) (fun (s:Int) v=>[]) (fun s v=>[(117,.int .i64 (s))]) () [(0,_),(3,_),(6,_),(104,_),(105,_),(106,_),(115,_),(116,_)]
  | apply Dk.quiet (id:=2) (by kernel_rfl)
  | apply Dk.quiet (id:=4) (by kernel_rfl)
  | apply Dk.quiet (id:=20) (by kernel_rfl)
  | apply Dk.quiet (id:=23) (by kernel_rfl)
  | apply G0
  | apply Tf
  | apply MU
  | apply Ik
  | exact ()
theorem Zz {x0:aJ} {cV:Addr} {bO cF aT aS:Value}:Ct Tryz.prog 201 true (gU x0) [.pointer (some (cV))] [.bb cV [.int .i64 (x0.aE),bO,cF,aT,aS],rI bO x0.aH,rI cF x0.To,rI aT x0.aI,rJ aS x0.aG] (fun y (_:Unit)=>[.bool y]) (fun y _=>[]):=by
 refine ct (S:=Unit) (bn fun _ _=>rfl) Tryz.func201 rfl rfl ?_
 repeat' first
  | (apply Dk.fe; repeat' first | exact rfl | (refine @id.{0} _ ?_; constructor))
  | intro _
  | exact rfl
  | (refine @id.{0} _ ?_; constructor)
  | apply Zy
  | apply YW
  | exact ()
theorem ZA {x0:(List aJ)} {dC:Value}:Ct Tryz.prog 171 true (lC x0) [dC] [.rd false (bB (lv Lt)) dC x0] (fun y (_:Unit)=>[.bool y]) (fun y _=>[]):=by
 refine ct (S:=Unit) (bn fun _ _=>rfl) Tryz.func171 rfl rfl ?_
 repeat' first
  | (apply Dk.fe; repeat' first | exact rfl | (refine @id.{0} _ ?_; constructor))
  | intro _
  | exact rfl
  | (refine @id.{0} _ ?_; constructor)
  | apply Dk.loop 0 (V:=Unit) (fun (s:Int) v=>[]) (fun s v=>[(7,.int .i64 (s))]) () [(5,_),(6,_)]
  | apply Zz
  | exact ()
theorem ZB {x0:aJ} {cV:Addr} {bO cF aT aS:Value}:Ct Tryz.prog 119 true (iY x0) [.pointer (some (cV))] [.bb cV [.int .i64 (x0.aE),bO,cF,aT,aS],rI bO x0.aH,rI cF x0.To,rI aT x0.aI,rJ aS x0.aG] (fun y (v:Value×Value×Value×Value)=>[.agg #[.int .i64 y.aE,v.1,v.2.1,v.2.2.1,v.2.2.2]]) (fun y v=>[.own (aL 2 (aK .i64)) v.1 y.aH,.own (aL 2 (aK .i64)) v.2.1 y.To,.own (aL 2 (aK .i64)) v.2.2.1 y.aI,.own (aL 22 (aL 2 (aK .i64))) v.2.2.2 y.aG]):=by
 refine ct (S:=Unit) (bn fun _ _=>rfl) Tryz.func119 rfl rfl ?_
 repeat' first
  | (apply Dk.fe; repeat' first | exact rfl | (refine @id.{0} _ ?_; constructor))
  | intro _
  | exact rfl
  | (refine @id.{0} _ ?_; constructor)
  | apply Dk.any (id:=1) 24 [] [] [[],[0],[0,1],[0,1,2],[],[4],[4,5],[4,5,6],[4,5,6,7],[],[9],[9,10],[9,10,11],[4,5,6,7,8,9,10,11,12],[],[14],[14,15],[14,15,16],[4,5,6,7,8,9,10,11,12,13,14,15,16,17],[],[19],[19,20],[19,20,21],[4,5,6,7,8,9,10,11,12,13,14,15,16,17,18,19,20,21,22]] (by kernel_rfl)
  | apply Og
  | apply Zf
  | exact ()
theorem Oj {x0:aJ} {cV:Addr} {bO cF aT aS:Value} {x1:aJ} {iZ:Addr} {gC jI eN eA:Value} {x2:(List Int)} {mI:Value} {x3:(List Int)} {pW:Value}:Ct Tryz.prog 89 true (kI x0 x1 x2 x3) [.pointer (some (cV)),.pointer (some (iZ)),mI,pW] [.bb iZ [.int .i64 (x1.aE),gC,jI,eN,eA],.bb cV [.int .i64 (x0.aE),bO,cF,aT,aS],rI bO x0.aH,rI cF x0.To,rI aT x0.aI,rJ aS x0.aG,rI gC x1.aH,rI jI x1.To,rI eN x1.aI,rJ eA x1.aG,rI mI x2,rI pW x3] (fun y (v:Value×Value×Value×Value×Value×Value×Value×Value×Value×Value)=>[.agg #[.int .i64 y.aA.aE,v.1,v.2.1,v.2.2.1,v.2.2.2.1,.int .i64 y.aF.aE,v.2.2.2.2.1,v.2.2.2.2.2.1,v.2.2.2.2.2.2.1,v.2.2.2.2.2.2.2.1,v.2.2.2.2.2.2.2.2.1,v.2.2.2.2.2.2.2.2.2]]) (fun y v=>[.own (aL 2 (aK .i64)) v.1 y.aA.aH,.own (aL 2 (aK .i64)) v.2.1 y.aA.To,.own (aL 2 (aK .i64)) v.2.2.1 y.aA.aI,.own (aL 22 (aL 2 (aK .i64))) v.2.2.2.1 y.aA.aG,.own (aL 2 (aK .i64)) v.2.2.2.2.1 y.aF.aH,.own (aL 2 (aK .i64)) v.2.2.2.2.2.1 y.aF.To,.own (aL 2 (aK .i64)) v.2.2.2.2.2.2.1 y.aF.aI,.own (aL 22 (aL 2 (aK .i64))) v.2.2.2.2.2.2.2.1 y.aF.aG,.own (aL 2 (aK .i64)) v.2.2.2.2.2.2.2.2.1 y.aE,.own (aL 2 (aK .i64)) v.2.2.2.2.2.2.2.2.2 y.ab]):=by
 refine ct (S:=Unit) (bn fun _ _=>rfl) Tryz.func89 rfl rfl ?_
 repeat' first
  | (apply Dk.fe; repeat' first | exact rfl | (refine @id.{0} _ ?_; constructor))
  | intro _
  | exact rfl
  | (refine @id.{0} _ ?_; constructor)
  | apply ZB
  | apply Og
  | exact ()
theorem Wi {x0:aN} {cV:Addr} {aW bG aQ aO aY bH aR aP bN bU:Value} {x1:aN} {iZ:Addr} {cY dA cR cL cZ dB cS cM dG dI:Value}:Ct Tryz.prog 99 true (fY x0 x1) [.pointer (some (cV)),.pointer (some (iZ))] [.bb iZ [.int .i64 (x1.aA.aE),cY,dA,cR,cL,.int .i64 (x1.aF.aE),cZ,dB,cS,cM,dG,dI],.bb cV [.int .i64 (x0.aA.aE),aW,bG,aQ,aO,.int .i64 (x0.aF.aE),aY,bH,aR,aP,bN,bU],rI aW x0.aA.aH,rI bG x0.aA.To,rI aQ x0.aA.aI,rJ aO x0.aA.aG,rI aY x0.aF.aH,rI bH x0.aF.To,rI aR x0.aF.aI,rJ aP x0.aF.aG,rI bN x0.aE,rI bU x0.ab,rI cY x1.aA.aH,rI dA x1.aA.To,rI cR x1.aA.aI,rJ cL x1.aA.aG,rI cZ x1.aF.aH,rI dB x1.aF.To,rI cS x1.aF.aI,rJ cM x1.aF.aG,rI dG x1.aE,rI dI x1.ab] (fun y (v:Value×Value×Value×Value×Value×Value×Value×Value×Value×Value)=>[.agg #[.int .i64 y.aA.aE,v.1,v.2.1,v.2.2.1,v.2.2.2.1,.int .i64 y.aF.aE,v.2.2.2.2.1,v.2.2.2.2.2.1,v.2.2.2.2.2.2.1,v.2.2.2.2.2.2.2.1,v.2.2.2.2.2.2.2.2.1,v.2.2.2.2.2.2.2.2.2]]) (fun y v=>[.own (aL 2 (aK .i64)) v.1 y.aA.aH,.own (aL 2 (aK .i64)) v.2.1 y.aA.To,.own (aL 2 (aK .i64)) v.2.2.1 y.aA.aI,.own (aL 22 (aL 2 (aK .i64))) v.2.2.2.1 y.aA.aG,.own (aL 2 (aK .i64)) v.2.2.2.2.1 y.aF.aH,.own (aL 2 (aK .i64)) v.2.2.2.2.2.1 y.aF.To,.own (aL 2 (aK .i64)) v.2.2.2.2.2.2.1 y.aF.aI,.own (aL 22 (aL 2 (aK .i64))) v.2.2.2.2.2.2.2.1 y.aF.aG,.own (aL 2 (aK .i64)) v.2.2.2.2.2.2.2.2.1 y.aE,.own (aL 2 (aK .i64)) v.2.2.2.2.2.2.2.2.2 y.ab]):=by
 refine ct (S:=Unit) (bn fun _ _=>rfl) Tryz.func99 rfl rfl ?_
 repeat' first
  | (apply Dk.fe; repeat' first | exact rfl | (refine @id.{0} _ ?_; constructor))
  | intro _
  | exact rfl
  | (refine @id.{0} _ ?_; constructor)
  | apply Dk.any (id:=1) 24 [] [] [[],[0],[0,1],[],[3],[3,4],[],[6],[6,7],[6,7,8],[],[10],[10,11],[10,11,12],[6,7,8,9,10,11,12,13],[],[15],[15,16],[15,16,17],[],[19],[19,20],[19,20,21],[6,7,8,9,10,11,12,13,14,15,16,17,18,19,20,21,22]] (by kernel_rfl)
  | apply Ta
  | apply Oj
  | exact ()
theorem ZC {x0:aJ} {cV:Addr} {bO cF aT aS:Value}:Ct Tryz.prog 202 true (mV x0) [.pointer (some (cV))] [.bb cV [.int .i64 (x0.aE),bO,cF,aT,aS],rI bO x0.aH,rI cF x0.To,rI aT x0.aI,rJ aS x0.aG] (fun y (v:Value×Value×Value×Value×Value×Value×Value×Value×Value×Value)=>[.agg #[.int .i64 y.aA.aE,v.1,v.2.1,v.2.2.1,v.2.2.2.1,.int .i64 y.aF.aE,v.2.2.2.2.1,v.2.2.2.2.2.1,v.2.2.2.2.2.2.1,v.2.2.2.2.2.2.2.1,v.2.2.2.2.2.2.2.2.1,v.2.2.2.2.2.2.2.2.2]]) (fun y v=>[.own (aL 2 (aK .i64)) v.1 y.aA.aH,.own (aL 2 (aK .i64)) v.2.1 y.aA.To,.own (aL 2 (aK .i64)) v.2.2.1 y.aA.aI,.own (aL 22 (aL 2 (aK .i64))) v.2.2.2.1 y.aA.aG,.own (aL 2 (aK .i64)) v.2.2.2.2.1 y.aF.aH,.own (aL 2 (aK .i64)) v.2.2.2.2.2.1 y.aF.To,.own (aL 2 (aK .i64)) v.2.2.2.2.2.2.1 y.aF.aI,.own (aL 22 (aL 2 (aK .i64))) v.2.2.2.2.2.2.2.1 y.aF.aG,.own (aL 2 (aK .i64)) v.2.2.2.2.2.2.2.2.1 y.aE,.own (aL 2 (aK .i64)) v.2.2.2.2.2.2.2.2.2 y.ab]):=by
 refine ct (S:=Unit) (bn fun _ _=>rfl) Tryz.func202 rfl rfl ?_
 repeat' first
  | (apply Dk.fe; repeat' first | exact rfl | (refine @id.{0} _ ?_; constructor))
  | intro _
  | exact rfl
  | (refine @id.{0} _ ?_; constructor)
  | apply Zg
  | apply G0
  | apply Oj
  | exact ()
theorem ZD {x0:aN} {cV:Addr} {aW bG aQ aO aY bH aR aP bN bU:Value}:Ct Tryz.prog 279 true (lS x0) [.pointer (some (cV))] [.bb cV [.int .i64 (x0.aA.aE),aW,bG,aQ,aO,.int .i64 (x0.aF.aE),aY,bH,aR,aP,bN,bU],rI aW x0.aA.aH,rI bG x0.aA.To,rI aQ x0.aA.aI,rJ aO x0.aA.aG,rI aY x0.aF.aH,rI bH x0.aF.To,rI aR x0.aF.aI,rJ aP x0.aF.aG,rI bN x0.aE,rI bU x0.ab] (fun y (v:Value×Value×Value×Value×Value×Value×Value×Value×Value×Value)=>[.agg #[.int .i64 y.aA.aE,v.1,v.2.1,v.2.2.1,v.2.2.2.1,.int .i64 y.aF.aE,v.2.2.2.2.1,v.2.2.2.2.2.1,v.2.2.2.2.2.2.1,v.2.2.2.2.2.2.2.1,v.2.2.2.2.2.2.2.2.1,v.2.2.2.2.2.2.2.2.2]]) (fun y v=>[.own (aL 2 (aK .i64)) v.1 y.aA.aH,.own (aL 2 (aK .i64)) v.2.1 y.aA.To,.own (aL 2 (aK .i64)) v.2.2.1 y.aA.aI,.own (aL 22 (aL 2 (aK .i64))) v.2.2.2.1 y.aA.aG,.own (aL 2 (aK .i64)) v.2.2.2.2.1 y.aF.aH,.own (aL 2 (aK .i64)) v.2.2.2.2.2.1 y.aF.To,.own (aL 2 (aK .i64)) v.2.2.2.2.2.2.1 y.aF.aI,.own (aL 22 (aL 2 (aK .i64))) v.2.2.2.2.2.2.2.1 y.aF.aG,.own (aL 2 (aK .i64)) v.2.2.2.2.2.2.2.2.1 y.aE,.own (aL 2 (aK .i64)) v.2.2.2.2.2.2.2.2.2 y.ab]):=by
 refine ct (S:=Unit) (bn fun _ _=>rfl) Tryz.func279 rfl rfl ?_
 repeat' first
  | (apply Dk.fe; repeat' first | exact rfl | (refine @id.{0} _ ?_; constructor))
  | intro _
  | exact rfl
  | (refine @id.{0} _ ?_; constructor)
  | apply Dk.any (id:=1) 14 [] [] [[],[0],[0,1],[],[3],[3,4],[],[6],[6,7],[6,7,8],[],[10],[10,11],[10,11,12]] (by kernel_rfl)
  | apply Oj
  | exact ()
theorem MW {xs:List cQ} {mm:List (ByteArray×Int)} {kc c:aJ} {p pc:Addr} {k0 k6 k7 k8 gf gt gi gc df dt di dc:Value} {jt:bI} {BB Kn:Addr} {qN rK oq np qO rL ot nq sm s8 qv qZ nz nc qw q8 n4 nh sg sn zn xI:Value}:Ct Tryz.prog 64 true (mK mm xs kc c (fun a0=>iB a0 jt) (fun a0=>iC a0 jt)) [.pointer (some p),.pointer (some pc),.func (.func 156) #[] #[.pointer (some (BB))],.func (.func 157) #[] #[.pointer (some (BB))]] [.bb p [k0,.int .i64 kc.aE,gf,gt,gi,gc,k6,k7,k8],.bb pc [.int .i64 c.aE,df,dt,di,dc],.rd false (bB (lv sI)) k6 xs,.rd false (qU Value.string (Value.int .i64)) k8 mm,rI gf kc.aH,rI gt kc.To,rI gi kc.aI,rJ gc kc.aG,rI df c.aH,rI dt c.To,rI di c.aI,rJ dc c.aG,.bb BB [.pointer (some (Kn))],.bb Kn [.int .i64 (jt.Left.aA.aE),qN,rK,oq,np,.int .i64 (jt.Left.aF.aE),qO,rL,ot,nq,sm,s8,.int .i64 (jt.ae.aA.aE),qv,qZ,nz,nc,.int .i64 (jt.ae.aF.aE),qw,q8,n4,nh,sg,sn,zn,xI],rI qN jt.Left.aA.aH,rI rK jt.Left.aA.To,rI oq jt.Left.aA.aI,rJ np jt.Left.aA.aG,rI qO jt.Left.aF.aH,rI rL jt.Left.aF.To,rI ot jt.Left.aF.aI,rJ nq jt.Left.aF.aG,rI sm jt.Left.aE,rI s8 jt.Left.ab,rI qv jt.ae.aA.aH,rI qZ jt.ae.aA.To,rI nz jt.ae.aA.aI,rJ nc jt.ae.aA.aG,rI qw jt.ae.aF.aH,rI q8 jt.ae.aF.To,rI n4 jt.ae.aF.aI,rJ nh jt.ae.aF.aG,rI sg jt.ae.aE,rI sn jt.ae.ab,rI zn jt.Unit,rI xI jt.aw] (fun y (v:Value×Value×Value×Value×Value×Value×Value×Value×Value×Value)=>[.agg #[.int .i64 y.aA.aE,v.1,v.2.1,v.2.2.1,v.2.2.2.1,.int .i64 y.aF.aE,v.2.2.2.2.1,v.2.2.2.2.2.1,v.2.2.2.2.2.2.1,v.2.2.2.2.2.2.2.1,v.2.2.2.2.2.2.2.2.1,v.2.2.2.2.2.2.2.2.2]]) (fun y v=>[.own (aL 2 (aK .i64)) v.1 y.aA.aH,.own (aL 2 (aK .i64)) v.2.1 y.aA.To,.own (aL 2 (aK .i64)) v.2.2.1 y.aA.aI,.own (aL 22 (aL 2 (aK .i64))) v.2.2.2.1 y.aA.aG,.own (aL 2 (aK .i64)) v.2.2.2.2.1 y.aF.aH,.own (aL 2 (aK .i64)) v.2.2.2.2.2.1 y.aF.To,.own (aL 2 (aK .i64)) v.2.2.2.2.2.2.1 y.aF.aI,.own (aL 22 (aL 2 (aK .i64))) v.2.2.2.2.2.2.2.1 y.aF.aG,.own (aL 2 (aK .i64)) v.2.2.2.2.2.2.2.2.1 y.aE,.own (aL 2 (aK .i64)) v.2.2.2.2.2.2.2.2.2 y.ab]):=by
 refine ct (S:=Unit) (bn fun _ _=>rfl) Tryz.func64 rfl rfl ?_
 repeat' first
  | (apply Dk.fe; repeat' first | exact rfl | (refine @id.{0} _ ?_; constructor))
  | intro _
  | exact rfl
  | (refine @id.{0} _ ?_; constructor)
  | apply Dk.loop 0 (V:=Value) (fun (s:List Int×Int) v=>[.own (aL 2 (aK .i64)) v s.1]) (fun s v=>[(9,v),(11,.int .i64 s.2)]) _ [(0,_),(1,_),(2,_),(3,_),(8,_),(10,_)]
  | apply Dk.loop 2 (V:=Value) (fun (s:List Int×Int) v=>[.own (aL 2 (aK .i64)) v s.1]) (fun s v=>[(10,v),(36,.int .i64 s.2)]) _ [(0,_),(1,_),(3,_),(8,_),(9,_),(34,_),(35,_)]
  | apply Dk.any (id:=9) 25 [0] [] [[],[],[],[],[3],[3,4],[3,4,5],[],[3,4,5,6,7],[3,4,5,6,7,8],[2,3,4,5,6,7,8,9],[2,3,4,5,6,7,8,9,10],[],[],[13],[13,14],[13,14,15],[],[13,14,15,16,17],[13,14,15,16,17,18],[12,13,14,15,16,17,18,19],[12,13,14,15,16,17,18,19,20],[],[],[22,23]] (by kernel_rfl)
  | apply Zi
  | apply Zj
  | apply Zv
  | apply MS
  | apply Oj
  | exact ()
end Go.Proofs.YtcnehblmgfbfoaaGreat
