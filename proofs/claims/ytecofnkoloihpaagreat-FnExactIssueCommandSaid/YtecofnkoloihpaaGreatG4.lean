/-
  Functions of the program as plain functions of contents, and that the code computes them. Nothing here is a claim.
-/
import Derived.Test.YtecofnkoloihpaaGreatVZ
import Derived.Test.YtecofnkoloihpaaGreatRows
import Derived.Test.YtecofnkoloihpaaGreatG1
import Derived.Test.YtecofnkoloihpaaGreatG2
import Derived.Test.YtecofnkoloihpaaGreatG3
namespace Go.Proofs.YtecofnkoloihpaaGreat
open Go.RowKit
set_option linter.unusedVariables false
set_option maxRecDepth 100000
def OV(x0:aF)(x1:bV):ak ((ah)×(aF×ah)):=bif (x1.kind==1)then xC x0.bK.aI x1.ay (if h2:x1.ay.toNat<x0.bK.aI.length then (let e3:=x0.bK.aI[x1.ay.toNat]'h2;some ((),((⟨x0.config,x0.box,x0.now,⟨(x0.bK.aI.set x1.ay.toNat (⟨true,x1.row⟩:c8)),x0.bK.aN⟩,x0.ready,x0.array,x0.spare,x0.bT,x0.aW,x0.guard,x0.pending,x0.queue,x0.shares,x0.drain,x0.aN,x0.cC,x0.errors,x0.trace,x0.bY⟩:aF),())))else none)else bif (x1.kind==4)then xC x0.bK.aI x1.ay (if h5:x1.ay.toNat<x0.bK.aI.length then (let e6:=x0.bK.aI[x1.ay.toNat]'h5;some ((),((⟨x0.config,x0.box,x0.now,⟨(x0.bK.aI.set x1.ay.toNat (⟨false,0⟩:c8)),x0.bK.aN⟩,x0.ready,x0.array,x0.spare,x0.bT,x0.aW,x0.guard,x0.pending,x0.queue,x0.shares,x0.drain,x0.aN,x0.cC,x0.errors,x0.trace,x0.bY⟩:aF),())))else none)else bif (x1.kind==6)then some ((),((⟨x0.config,x0.box,x0.now,⟨x0.bK.aI,1⟩,x0.ready,x0.array,x0.spare,x0.bT,x0.aW,x0.guard,x0.pending,x0.queue,x0.shares,x0.drain,x0.aN,x0.cC,x0.errors,x0.trace,x0.bY⟩:aF),()))else bif (x1.kind==8)then some ((),((⟨x0.config,x0.box,x0.now,⟨x0.bK.aI,2⟩,x0.ready,x0.array,x0.spare,x0.bT,x0.aW,x0.guard,x0.pending,x0.queue,x0.shares,x0.drain,x0.aN,x0.cC,x0.errors,x0.trace,x0.bY⟩:aF),()))else bif (x1.kind==7)then bif (x1.kind==7)then some ((),((⟨x0.config,x0.box,x0.now,⟨x0.bK.aI,0⟩,x0.ready,x0.array,x0.spare,x0.bT,x0.aW,x0.guard,x0.pending,x0.queue,x0.shares,x0.drain,x0.aN,x0.cC,x0.errors,x0.trace,x0.bY⟩:aF),()))else some ((),(x0,()))else bif (x1.kind==9)then some ((),((⟨x0.config,x0.box,x0.now,⟨x0.bK.aI,0⟩,x0.ready,x0.array,x0.spare,x0.bT,x0.aW,x0.guard,x0.pending,x0.queue,x0.shares,x0.drain,x0.aN,x0.cC,x0.errors,x0.trace,x0.bY⟩:aF),()))else some ((),(x0,()))
def aqC:KX:=⟨132,.m ⟨[.p .cK 4 46,.v true .Command],[],λx=>OV x.1 x.2.1⟩,km 44 [] Tryz.func132⟩
abbrev ad9:=((ah×Int×ah)×(aF×ah))
def CH(x:ad9):ak (ad9⊕(((ah)×(aF×ah))⊕Empty)):=bif x.1.2.1<(x.2.1.bK.aI.length:Int)then (Jk x.2.1 x.1.2.1).bind λcH=>xC cH.2.1.bT.cg x.1.2.1 (if gP:x.1.2.1.toNat<cH.2.1.bT.cg.length then (let dL:=cH.2.1.bT.cg[x.1.2.1.toNat]'gP;xG (((),(W6 (x.1.2.1+1)),()),((⟨cH.2.1.config,cH.2.1.box,cH.2.1.now,cH.2.1.bK,cH.2.1.ready,cH.2.1.array,cH.2.1.spare,⟨(cH.2.1.bT.cg.set x.1.2.1.toNat 0),cH.2.1.bT.wait,cH.2.1.bT.ja⟩,cH.2.1.aW,cH.2.1.guard,cH.2.1.pending,cH.2.1.queue,cH.2.1.shares,cH.2.1.drain,cH.2.1.aN,cH.2.1.cC,cH.2.1.errors,cH.2.1.trace,cH.2.1.bY⟩:aF),())))else none)else ax ((),(x.2.1,()))
def aea:KY 120 (bz Tryz.f29):=⟨1,lB 1 ⟨[(0,.aK 20000 0),(7,tI)],[],[(20000,.cK,4,[102000033,102000041,102000046,102000048,102000049,102000050,102000051,102000052,102000054,102000055,102000058,102000059,102000060,102000061,102000062,102000072,102000073,102000074])]⟩ [(3,⟨[],[],[(20000,.cK,4,[102000033,102000041,102000046,102000048,102000049,102000050,102000051,102000052,102000054,102000055,102000058,102000059,102000060,102000061,102000062,102000072,102000073,102000074])]⟩)] CH,lp [adN]⟩
def OW(x0:aF)(x1:bV)(x2:Int):ak ((ah)×(aF×ah)):=bif bH (x0.trace.length+([(⟨x0.now,x1⟩:cw)]:af cw).length)then (Ow x0.config.aJ x0.ready (⟨x0.now,x1⟩:cw)).bind λy1=>(OV (⟨x0.config,x0.box,x0.now,x0.bK,y1,x0.array,x0.spare,x0.bT,x0.aW,x0.guard,x0.pending,x0.queue,x0.shares,x0.drain,x0.aN,x0.cC,x0.errors,(x0.trace++([(⟨x0.now,x1⟩:cw)]:af cw)),x0.bY⟩:aF) x1).bind λy2=>(let sP:aF -> ak ((ah)×(aF×ah)):=λiJ=>bif (x1.kind==9)then bQ CH (((),0,()),(iJ,())) λwq=>some ((),(wq.2.1,()))else some ((),(iJ,()));bif (x1.kind==1)then (OA y2.2.1 x1).bind λy3=>(sP y3.2.1)else bif (x1.kind==5)then (Jk y2.2.1 x1.ay).bind λy4=>(OE y4.2.1.bT x1.ay).bind λy5=>bif (x1.kind==9)then bQ CH (((),0,()),((⟨y4.2.1.config,y4.2.1.box,y4.2.1.now,y4.2.1.bK,y4.2.1.ready,y4.2.1.array,y4.2.1.spare,y5.1,y4.2.1.aW,y4.2.1.guard,y4.2.1.pending,y4.2.1.queue,y4.2.1.shares,y4.2.1.drain,y4.2.1.aN,y4.2.1.cC,y4.2.1.errors,y4.2.1.trace,y4.2.1.bY⟩:aF),())) λz23=>some ((),(z23.2.1,()))else some ((),((⟨y4.2.1.config,y4.2.1.box,y4.2.1.now,y4.2.1.bK,y4.2.1.ready,y4.2.1.array,y4.2.1.spare,y5.1,y4.2.1.aW,y4.2.1.guard,y4.2.1.pending,y4.2.1.queue,y4.2.1.shares,y4.2.1.drain,y4.2.1.aN,y4.2.1.cC,y4.2.1.errors,y4.2.1.trace,y4.2.1.bY⟩:aF),()))else (let Js:Bool -> ak ((ah)×(aF×ah)):=λj6=>bif j6 then (OT y2.2.1 x2).bind λy7=>(sP y7.2.1)else (let AD:Bool -> ak ((ah)×(aF×ah)):=λj8=>bif j8 then (OU y2.2.1.aN x1.kind y2.2.1.now).bind λy9=>(sP (⟨y2.2.1.config,y2.2.1.box,y2.2.1.now,y2.2.1.bK,y2.2.1.ready,y2.2.1.array,y2.2.1.spare,y2.2.1.bT,y2.2.1.aW,y2.2.1.guard,y2.2.1.pending,y2.2.1.queue,y2.2.1.shares,y2.2.1.drain,y9.1,y2.2.1.cC,y2.2.1.errors,y2.2.1.trace,y2.2.1.bY⟩:aF))else (sP y2.2.1);bif (x1.kind==6)then (AD (x1.kind==6))else bif (x1.kind==7)then (AD (x1.kind==7))else bif (x1.kind==8)then (AD (x1.kind==8))else (AD (x1.kind==9)));bif (x1.kind==2)then (Js (x1.kind==2))else (Js (x1.kind==3))))else none
def aqD:KX:=⟨29,.m ⟨[.p .cK 4 0,.v true .Command,.v false .int],[],λx=>OW x.1 x.2.1 x.2.2.1⟩,kn 120 [apK,aqC,apW,adN,ap5,aqA,aqB] [aea,aea] Tryz.func29⟩
def Jt(x0:aF)(x1:bV)(x2:Int):ak (aF×Bool):=(Iz x0).bind λy1=>(Ol x0).bind λy2=>bif (!y2)then some (y1,false)else (Ov y1 x1 x2).bind λy3=>bif (!y3)then some (y1,false)else (OW y1 x1 x2).bind λy4=>(Iz y4.2.1).bind λy5=>some (y5,true)
def aqE:KX:=⟨5,.p (aE [(true,.cK),(true,.Command),(false,.int)] [(true,.cK,4),(false,.bool,0)] λx=>Jt x.1 x.2.1 x.2.2.1),kp 26 [aoQ,apu,apI,aqD] Tryz.func5⟩
def OX(x0:aX):ak (aX):=some x0
def aqF:KX:=⟨138,.p (aE [(true,.dM)] [(true,.dM,0)] λx=>OX x.1),kp 17 [] Tryz.func138⟩
def OY(x0:dx):ak (dx):=some x0
def aqG:KX:=⟨139,.p (aE [(true,.ic)] [(true,.ic,0)] λx=>OY x.1),kp 56 [] Tryz.func139⟩
def OZ(x0:lu):ak (lu):=some x0
def aqH:KX:=⟨140,.p (aE [(true,.ot)] [(true,.ot,0)] λx=>OZ x.1),kp 11 [] Tryz.func140⟩
def O0(x0:jz):ak (jz):=some x0
def aqI:KX:=⟨141,.p (aE [(true,.nT)] [(true,.nT,0)] λx=>O0 x.1),kp 11 [] Tryz.func141⟩
def O1(x0:jr):ak (jr):=(OX x0.aJ).bind λy1=>(OY x0.cx).bind λy2=>(OZ x0.mapping).bind λy3=>(O0 x0.dZ).bind λy4=>some (⟨y1,y2,y3,x0.cF,x0.interval,x0.kI,y4⟩:jr)
def aqJ:KX:=⟨30,.p (aE [(true,.Config)] [(true,.Config,0)] λx=>O1 x.1),kp 30 [aqF,aqG,aqH,aqI] Tryz.func30⟩
abbrev aeb:=(((af Int)×ah×Int×ah)×((af Int)×ah))
def aec(x:aeb):ak (aeb⊕(((ah×ah)×((af Int)×ah))⊕Empty)):=bif x.1.2.2.1<(x.1.1.length:Int)then xI x.1.1 x.1.2.2.1 λe2=>xC x.2.1 x.1.2.2.1 (if h4:x.1.2.2.1.toNat<x.2.1.length then (let e5:=x.2.1[x.1.2.2.1.toNat]'h4;xG ((x.1.1,(),(W6 (x.1.2.2.1+1)),()),((x.2.1.set x.1.2.2.1.toNat e2),())))else none)else ax (((),()),(x.2.1,()))
def aqK:KY 22 (bz Tryz.f38):=⟨0,lB 0 ⟨[(0,.lf (.az .int 0)),(3,.lf (.own 7)),(4,tI)],[(7,.sl .int 2)],[]⟩ [(2,⟨[(3,.lf (.own 7))],[(7,.sl .int 2)],[]⟩)] aec,lp []⟩
def rM(x0:af Int):ak ((af Int)):=if 0 <= (x0.length:Int)/\(x0.length:Int) <= (x0.length:Int)/\(x0.length:Int)<1073741824 then bQ aec ((x0,(),0,()),((List.replicate (x0.length:Int).toNat 0),())) λz6=>some z6.2.1 else none
def AJ:KX:=⟨38,.p (aE [(false,(.sl .int))] [(false,(.sl .int),2)] λx=>rM x.1),kq 22 [] [aqK] Tryz.func38⟩
def O2(x0:oq):ak (oq):=some x0
def aqL:KX:=⟨248,.p (aE [(true,.pY)] [(true,.pY,0)] λx=>O2 x.1),kp 11 [] Tryz.func248⟩
def Ju(x0:gn):ak (gn):=(rM x0.weights).bind λy1=>(O2 x0.fZ).bind λy2=>some (⟨x0.jb,x0.cap,x0.fY,x0.low,x0.high,y1,y2⟩:gn)
def aqM:KX:=⟨142,.p (aE [(true,.lz)] [(true,.lz,2)] λx=>Ju x.1),kp 28 [AJ,aqL] Tryz.func142⟩
def O3(x0:kf):ak (kf):=(Ju x0.cO).bind λy1=>(Ju x0.next).bind λy2=>some (⟨y1,y2,x0.waits⟩:kf)
def aqN:KX:=⟨31,.p (aE [(true,.nt)] [(true,.nt,2)] λx=>O3 x.1),kp 16 [aqM] Tryz.func31⟩
def Jv(x0:c8):ak (c8):=some x0
def aqO:KX:=⟨249,.p (aE [(true,.fL)] [(true,.fL,0)] λx=>Jv x.1),kp 11 [] Tryz.func249⟩
abbrev aed:=(((af c8)×ah×Int×ah)×((af c8)×ah))
def aee(x:aed):ak (aed⊕(((ah×ah)×((af c8)×ah))⊕Empty)):=bif x.1.2.2.1<(x.1.1.length:Int)then xI x.1.1 x.1.2.2.1 λe2=>(Jv e2).bind λy3=>xC x.2.1 x.1.2.2.1 (if h5:x.1.2.2.1.toNat<x.2.1.length then (let e6:=x.2.1[x.1.2.2.1.toNat]'h5;xG ((x.1.1,(),(W6 (x.1.2.2.1+1)),()),((x.2.1.set x.1.2.2.1.toNat y3),())))else none)else ax (((),()),(x.2.1,()))
def aqP:KY 23 (bz Tryz.f143):=⟨0,lB 0 ⟨[(0,.lf (.az .fL 0)),(3,.lf (.own 7)),(4,tI)],[(7,.sl .fL 2)],[]⟩ [(2,⟨[(3,.lf (.own 7))],[(7,.sl .fL 2)],[]⟩)] aee,lp [aqO]⟩
def O4(x0:af c8):ak ((af c8)):=if 0 <= (x0.length:Int)/\(x0.length:Int) <= (x0.length:Int)/\(x0.length:Int)<1073741824 then bQ aee ((x0,(),0,()),((List.replicate (x0.length:Int).toNat (⟨false,0⟩:c8)),())) λz7=>some z7.2.1 else none
def aqQ:KX:=⟨143,.p (aE [(false,(.sl .fL))] [(false,(.sl .fL),2)] λx=>O4 x.1),kq 23 [] [aqP] Tryz.func143⟩
def O5(x0:dy):ak (dy):=(O4 x0.aI).bind λy1=>some (⟨y1,x0.aN⟩:dy)
def aqR:KX:=⟨32,.p (aE [(true,.jc)] [(true,.jc,2)] λx=>O5 x.1),kp 12 [aqQ] Tryz.func32⟩
def O6(x0:dA):ak (dA):=(rM x0.last).bind λy1=>(rM x0.aZ).bind λy2=>some (⟨y1,y2⟩:dA)
def aqS:KX:=⟨33,.p (aE [(true,.jA)] [(true,.jA,2)] λx=>O6 x.1),kp 13 [AJ] Tryz.func33⟩
def Jw(x0:bG):ak (bG):=(rM x0.symbols).bind λy1=>some (⟨y1,x0.eF⟩:bG)
def aqT:KX:=⟨250,.p (aE [(true,.Cell)] [(true,.Cell,2)] λx=>Jw x.1),kp 12 [AJ] Tryz.func250⟩
abbrev aef:=(((af bG)×ah×Int×ah)×((af bG)×ah))
def aeg(x:aef):ak (aef⊕(((ah×ah)×((af bG)×ah))⊕Empty)):=bif x.1.2.2.1<(x.1.1.length:Int)then xI x.1.1 x.1.2.2.1 λe2=>(Jw e2).bind λy3=>xC x.2.1 x.1.2.2.1 (if h5:x.1.2.2.1.toNat<x.2.1.length then (let e6:=x.2.1[x.1.2.2.1.toNat]'h5;xG ((x.1.1,(),(W6 (x.1.2.2.1+1)),()),((x.2.1.set x.1.2.2.1.toNat y3),())))else none)else ax (((),()),(x.2.1,()))
def aqU:KY 23 (bz Tryz.f144):=⟨0,lB 0 ⟨[(0,.lf (.az .Cell 0)),(3,.lf (.own 7)),(4,tI)],[(7,.sl .Cell 4)],[]⟩ [(2,⟨[(3,.lf (.own 7))],[(7,.sl .Cell 4)],[]⟩)] aeg,lp [aqT]⟩
def O7(x0:af bG):ak ((af bG)):=if 0 <= (x0.length:Int)/\(x0.length:Int) <= (x0.length:Int)/\(x0.length:Int)<1073741824 then bQ aeg ((x0,(),0,()),((List.replicate (x0.length:Int).toNat (⟨[],false⟩:bG)),())) λz7=>some z7.2.1 else none
def aqV:KX:=⟨144,.p (aE [(false,(.sl .Cell))] [(false,(.sl .Cell),4)] λx=>O7 x.1),kq 23 [] [aqU] Tryz.func144⟩
def O8(x0:eZ):ak (eZ):=(O7 x0.cells).bind λy1=>(rM x0.bI).bind λy2=>(rM x0.bk).bind λy3=>some (⟨y1,y2,y3⟩:eZ)
def aqW:KX:=⟨34,.p (aE [(true,.Array)] [(true,.Array,4)] λx=>O8 x.1),kp 17 [AJ,aqV] Tryz.func34⟩
def O9(x0:fe):ak (fe):=(rM x0.map).bind λy1=>some (⟨x0.cF,y1⟩:fe)
def aqX:KX:=⟨35,.p (aE [(true,.kg)] [(true,.kg,2)] λx=>O9 x.1),kp 12 [AJ] Tryz.func35⟩
def Pa(x0:fI):ak (fI):=(rM x0.cg).bind λy1=>some (⟨y1,x0.wait,x0.ja⟩:fI)
def aqY:KX:=⟨36,.p (aE [(true,.ki)] [(true,.ki,2)] λx=>Pa x.1),kp 15 [AJ] Tryz.func36⟩
def Jx(x0:bO):ak (bO):=(rM x0.rows).bind λy1=>(rM x0.counts).bind λy2=>some (⟨y1,y2,x0.cN⟩:bO)
def aqZ:KX:=⟨145,.p (aE [(true,.eN)] [(true,.eN,2)] λx=>Jx x.1),kp 16 [AJ] Tryz.func145⟩
abbrev aeh:=(((af bO)×ah×Int×ah)×((af bO)×ah))
def aei(x:aeh):ak (aeh⊕(((ah×ah)×((af bO)×ah))⊕Empty)):=bif x.1.2.2.1<(x.1.1.length:Int)then xI x.1.1 x.1.2.2.1 λe2=>(Jx e2).bind λy3=>xC x.2.1 x.1.2.2.1 (if h5:x.1.2.2.1.toNat<x.2.1.length then (let e6:=x.2.1[x.1.2.2.1.toNat]'h5;xG ((x.1.1,(),(W6 (x.1.2.2.1+1)),()),((x.2.1.set x.1.2.2.1.toNat y3),())))else none)else ax (((),()),(x.2.1,()))
def aq0:KY 23 (bz Tryz.f37):=⟨0,lB 0 ⟨[(0,.lf (.az .eN 0)),(3,.lf (.own 7)),(4,tI)],[(7,.sl .eN 4)],[]⟩ [(2,⟨[(3,.lf (.own 7))],[(7,.sl .eN 4)],[]⟩)] aei,lp [aqZ]⟩
def Pb(x0:af bO):ak ((af bO)):=if 0 <= (x0.length:Int)/\(x0.length:Int) <= (x0.length:Int)/\(x0.length:Int)<1073741824 then bQ aei ((x0,(),0,()),((List.replicate (x0.length:Int).toNat (⟨[],[],0⟩:bO)),())) λz7=>some z7.2.1 else none
def aq1:KX:=⟨37,.p (aE [(false,(.sl .eN))] [(false,(.sl .eN),4)] λx=>Pb x.1),kq 23 [] [aq0] Tryz.func37⟩
def Jy(x0:aP):ak (aP):=some x0
def aq2:KX:=⟨146,.p (aE [(true,.Addr)] [(true,.Addr,0)] λx=>Jy x.1),kp 14 [] Tryz.func146⟩
abbrev aej:=(((af aP)×ah×Int×ah)×((af aP)×ah))
def aek(x:aej):ak (aej⊕(((ah×ah)×((af aP)×ah))⊕Empty)):=bif x.1.2.2.1<(x.1.1.length:Int)then xI x.1.1 x.1.2.2.1 λe2=>(Jy e2).bind λy3=>xC x.2.1 x.1.2.2.1 (if h5:x.1.2.2.1.toNat<x.2.1.length then (let e6:=x.2.1[x.1.2.2.1.toNat]'h5;xG ((x.1.1,(),(W6 (x.1.2.2.1+1)),()),((x.2.1.set x.1.2.2.1.toNat y3),())))else none)else ax (((),()),(x.2.1,()))
def aq3:KY 23 (bz Tryz.f39):=⟨0,lB 0 ⟨[(0,.lf (.az .Addr 0)),(3,.lf (.own 7)),(4,tI)],[(7,.sl .Addr 2)],[]⟩ [(2,⟨[(3,.lf (.own 7))],[(7,.sl .Addr 2)],[]⟩)] aek,lp [aq2]⟩
def Pc(x0:af aP):ak ((af aP)):=if 0 <= (x0.length:Int)/\(x0.length:Int) <= (x0.length:Int)/\(x0.length:Int)<1073741824 then bQ aek ((x0,(),0,()),((List.replicate (x0.length:Int).toNat (⟨0,0,0⟩:aP)),())) λz7=>some z7.2.1 else none
def aq4:KX:=⟨39,.p (aE [(false,(.sl .Addr))] [(false,(.sl .Addr),2)] λx=>Pc x.1),kq 23 [] [aq3] Tryz.func39⟩
def Jz(x0:bN):ak (bN):=some x0
def aq5:KX:=⟨147,.p (aE [(true,.dR)] [(true,.dR,0)] λx=>Jz x.1),kp 23 [] Tryz.func147⟩
abbrev ael:=(((af bN)×ah×Int×ah)×((af bN)×ah))
def aem(x:ael):ak (ael⊕(((ah×ah)×((af bN)×ah))⊕Empty)):=bif x.1.2.2.1<(x.1.1.length:Int)then xI x.1.1 x.1.2.2.1 λe2=>(Jz e2).bind λy3=>xC x.2.1 x.1.2.2.1 (if h5:x.1.2.2.1.toNat<x.2.1.length then (let e6:=x.2.1[x.1.2.2.1.toNat]'h5;xG ((x.1.1,(),(W6 (x.1.2.2.1+1)),()),((x.2.1.set x.1.2.2.1.toNat y3),())))else none)else ax (((),()),(x.2.1,()))
def aq6:KY 23 (bz Tryz.f40):=⟨0,lB 0 ⟨[(0,.lf (.az .dR 0)),(3,.lf (.own 7)),(4,tI)],[(7,.sl .dR 2)],[]⟩ [(2,⟨[(3,.lf (.own 7))],[(7,.sl .dR 2)],[]⟩)] aem,lp [aq5]⟩
def Pd(x0:af bN):ak ((af bN)):=if 0 <= (x0.length:Int)/\(x0.length:Int) <= (x0.length:Int)/\(x0.length:Int)<1073741824 then bQ aem ((x0,(),0,()),((List.replicate (x0.length:Int).toNat (⟨0,0,0,false,0,0⟩:bN)),())) λz7=>some z7.2.1 else none
def aq7:KX:=⟨40,.p (aE [(false,(.sl .dR))] [(false,(.sl .dR),2)] λx=>Pd x.1),kq 23 [] [aq6] Tryz.func40⟩
def JA(x0:bC):ak (bC):=some x0
def aq8:KX:=⟨148,.p (aE [(true,.dK)] [(true,.dK,0)] λx=>JA x.1),kp 11 [] Tryz.func148⟩
abbrev aen:=(((af bC)×ah×Int×ah)×((af bC)×ah))
def aeo(x:aen):ak (aen⊕(((ah×ah)×((af bC)×ah))⊕Empty)):=bif x.1.2.2.1<(x.1.1.length:Int)then xI x.1.1 x.1.2.2.1 λe2=>(JA e2).bind λy3=>xC x.2.1 x.1.2.2.1 (if h5:x.1.2.2.1.toNat<x.2.1.length then (let e6:=x.2.1[x.1.2.2.1.toNat]'h5;xG ((x.1.1,(),(W6 (x.1.2.2.1+1)),()),((x.2.1.set x.1.2.2.1.toNat y3),())))else none)else ax (((),()),(x.2.1,()))
def aq9:KY 23 (bz Tryz.f41):=⟨0,lB 0 ⟨[(0,.lf (.az .dK 0)),(3,.lf (.own 7)),(4,tI)],[(7,.sl .dK 2)],[]⟩ [(2,⟨[(3,.lf (.own 7))],[(7,.sl .dK 2)],[]⟩)] aeo,lp [aq8]⟩
def Pe(x0:af bC):ak ((af bC)):=if 0 <= (x0.length:Int)/\(x0.length:Int) <= (x0.length:Int)/\(x0.length:Int)<1073741824 then bQ aeo ((x0,(),0,()),((List.replicate (x0.length:Int).toNat (⟨0,0⟩:bC)),())) λz7=>some z7.2.1 else none
def ara:KX:=⟨41,.p (aE [(false,(.sl .dK))] [(false,(.sl .dK),2)] λx=>Pe x.1),kq 23 [] [aq9] Tryz.func41⟩
def Pf(x0:mP):ak (mP):=some x0
def arb:KX:=⟨42,.p (aE [(true,.pX)] [(true,.pX,0)] λx=>Pf x.1),kp 14 [] Tryz.func42⟩
def Pg(x0:gO):ak (gO):=some x0
def arc:KX:=⟨43,.p (aE [(true,.Power)] [(true,.Power,0)] λx=>Pg x.1),kp 14 [] Tryz.func43⟩
def Ph(x0:s8):ak (s8):=some x0
def ard:KX:=⟨44,.p (aE [(true,.rX)] [(true,.rX,0)] λx=>Ph x.1),kp 14 [] Tryz.func44⟩
def JB(x0:bw):ak (bw):=some x0
def arf:KX:=⟨149,.p (aE [(true,.dB)] [(true,.dB,0)] λx=>JB x.1),kp 14 [] Tryz.func149⟩
abbrev aep:=(((af bw)×ah×Int×ah)×((af bw)×ah))
def aeq(x:aep):ak (aep⊕(((ah×ah)×((af bw)×ah))⊕Empty)):=bif x.1.2.2.1<(x.1.1.length:Int)then xI x.1.1 x.1.2.2.1 λe2=>(JB e2).bind λy3=>xC x.2.1 x.1.2.2.1 (if h5:x.1.2.2.1.toNat<x.2.1.length then (let e6:=x.2.1[x.1.2.2.1.toNat]'h5;xG ((x.1.1,(),(W6 (x.1.2.2.1+1)),()),((x.2.1.set x.1.2.2.1.toNat y3),())))else none)else ax (((),()),(x.2.1,()))
def arh:KY 23 (bz Tryz.f45):=⟨0,lB 0 ⟨[(0,.lf (.az .dB 0)),(3,.lf (.own 7)),(4,tI)],[(7,.sl .dB 2)],[]⟩ [(2,⟨[(3,.lf (.own 7))],[(7,.sl .dB 2)],[]⟩)] aeq,lp [arf]⟩
def Pj(x0:af bw):ak ((af bw)):=if 0 <= (x0.length:Int)/\(x0.length:Int) <= (x0.length:Int)/\(x0.length:Int)<1073741824 then bQ aeq ((x0,(),0,()),((List.replicate (x0.length:Int).toNat (⟨0,0,0⟩:bw)),())) λz7=>some z7.2.1 else none
def ari:KX:=⟨45,.p (aE [(false,(.sl .dB))] [(false,(.sl .dB),2)] λx=>Pj x.1),kq 23 [] [arh] Tryz.func45⟩
def CI(x0:bV):ak (bV):=some x0
def aer:KX:=⟨7,.p (aE [(true,.Command)] [(true,.Command,0)] λx=>CI x.1),kp 17 [] Tryz.func7⟩
def JC(x0:cw):ak (cw):=(CI x0.cmd).bind λy1=>some (⟨x0.at_,y1⟩:cw)
def arj:KX:=⟨150,.p (aE [(true,.Event)] [(true,.Event,0)] λx=>JC x.1),kp 12 [aer] Tryz.func150⟩
abbrev aes:=(((af cw)×ah×Int×ah)×((af cw)×ah))
def aet(x:aes):ak (aes⊕(((ah×ah)×((af cw)×ah))⊕Empty)):=bif x.1.2.2.1<(x.1.1.length:Int)then xI x.1.1 x.1.2.2.1 λe2=>(JC e2).bind λy3=>xC x.2.1 x.1.2.2.1 (if h5:x.1.2.2.1.toNat<x.2.1.length then (let e6:=x.2.1[x.1.2.2.1.toNat]'h5;xG ((x.1.1,(),(W6 (x.1.2.2.1+1)),()),((x.2.1.set x.1.2.2.1.toNat y3),())))else none)else ax (((),()),(x.2.1,()))
def ark:KY 23 (bz Tryz.f46):=⟨0,lB 0 ⟨[(0,.lf (.az .Event 0)),(3,.lf (.own 7)),(4,tI)],[(7,.sl .Event 2)],[]⟩ [(2,⟨[(3,.lf (.own 7))],[(7,.sl .Event 2)],[]⟩)] aet,lp [arj]⟩
def Pm(x0:af cw):ak ((af cw)):=if 0 <= (x0.length:Int)/\(x0.length:Int) <= (x0.length:Int)/\(x0.length:Int)<1073741824 then bQ aet ((x0,(),0,()),((List.replicate (x0.length:Int).toNat (⟨0,⟨0,0,0,0⟩⟩:cw)),())) λz7=>some z7.2.1 else none
def arl:KX:=⟨46,.p (aE [(false,(.sl .Event))] [(false,(.sl .Event),2)] λx=>Pm x.1),kq 23 [] [ark] Tryz.func46⟩
def JD(x0:cD):ak (cD):=some x0
def arn:KX:=⟨151,.p (aE [(true,.gD)] [(true,.gD,0)] λx=>JD x.1),kp 17 [] Tryz.func151⟩
abbrev aeu:=(((af cD)×ah×Int×ah)×((af cD)×ah))
def aev(x:aeu):ak (aeu⊕(((ah×ah)×((af cD)×ah))⊕Empty)):=bif x.1.2.2.1<(x.1.1.length:Int)then xI x.1.1 x.1.2.2.1 λe2=>(JD e2).bind λy3=>xC x.2.1 x.1.2.2.1 (if h5:x.1.2.2.1.toNat<x.2.1.length then (let e6:=x.2.1[x.1.2.2.1.toNat]'h5;xG ((x.1.1,(),(W6 (x.1.2.2.1+1)),()),((x.2.1.set x.1.2.2.1.toNat y3),())))else none)else ax (((),()),(x.2.1,()))
def aro:KY 23 (bz Tryz.f47):=⟨0,lB 0 ⟨[(0,.lf (.az .gD 0)),(3,.lf (.own 7)),(4,tI)],[(7,.sl .gD 2)],[]⟩ [(2,⟨[(3,.lf (.own 7))],[(7,.sl .gD 2)],[]⟩)] aev,lp [arn]⟩
def Pn(x0:af cD):ak ((af cD)):=if 0 <= (x0.length:Int)/\(x0.length:Int) <= (x0.length:Int)/\(x0.length:Int)<1073741824 then bQ aev ((x0,(),0,()),((List.replicate (x0.length:Int).toNat (⟨0,0,0,0⟩:cD)),())) λz7=>some z7.2.1 else none
def arp:KX:=⟨47,.p (aE [(false,(.sl .gD))] [(false,(.sl .gD),2)] λx=>Pn x.1),kq 23 [] [aro] Tryz.func47⟩
def CJ(x0:aF):ak (aF):=(O1 x0.config).bind λy1=>(O3 x0.box).bind λy2=>(O5 x0.bK).bind λy3=>(O6 x0.ready).bind λy4=>(O8 x0.array).bind λy5=>(O9 x0.spare).bind λy6=>(Pa x0.bT).bind λy7=>(Pb x0.aW).bind λy8=>(rM x0.guard).bind λy9=>(Pc x0.pending).bind λgA=>(Pd x0.queue).bind λfj=>(Pe x0.shares).bind λfF=>(Pf x0.drain).bind λcH=>(Pg x0.aN).bind λgY=>(Ph x0.cC).bind λgH=>(Pj x0.errors).bind λcE=>(Pm x0.trace).bind λfG=>(Pn x0.bY).bind λgI=>some (⟨y1,y2,x0.now,y3,y4,y5,y6,y7,y8,y9,gA,fj,fF,cH,gY,gH,cE,fG,gI⟩:aF)
def arq:KX:=⟨6,.p (aE [(true,.cK)] [(true,.cK,4)] λx=>CJ x.1),kp 80 [aqJ,aqN,aqR,aqS,aqW,aqX,aqY,aq1,AJ,aq4,aq7,ara,arb,arc,ard,ari,arl,arp] Tryz.func6⟩
def V1(x0:gn):ak (gn):=bif bH (([]:af Int).length+x0.weights.length)then some (⟨x0.jb,x0.cap,x0.fY,x0.low,x0.high,(([]:af Int)++x0.weights),x0.fZ⟩:gn)else none
def ars:KX:=⟨251,.p (aE [(true,.lz)] [(true,.lz,2)] λx=>V1 x.1),kp 9 [] Tryz.func251⟩
end Go.Proofs.YtecofnkoloihpaaGreat
