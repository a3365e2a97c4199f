/-
  Functions of the program as plain functions of contents, and that the code computes them. Nothing here is a claim.
-/
import Derived.Test.YtnilicojgkhpnaaGreatVZ
import Derived.Test.YtnilicojgkhpnaaGreatRows
import Derived.Test.YtnilicojgkhpnaaGreatG1
import Derived.Test.YtnilicojgkhpnaaGreatG2
namespace Go.Proofs.YtnilicojgkhpnaaGreat
open Go.RowKit Go.Proofs.Tryz
set_option linter.unusedVariables false
set_option maxRecDepth 100000
def uQ(C:dJ):ah (dJ):=bif xZ C.last then bif xZ C.aX then some (⟨(xA C.last),(xA C.aX)⟩:dJ)else none else none
def ahm:=aZ [(true,.jZ)] [(true,.jZ,2)] (bO uQ) 12 [] func160
def Lb(C:bN):ah (bN):=bif xZ C.symbols then some (⟨(xA C.symbols),C.hG⟩:bN)else none
def ahn:=aZ [(true,.Cell)] [(true,.Cell,2)] (bO Lb) 9 [] func289
def au0:bG:=⟨agq,[(1,.aB QS),(2,.aB Dq),(3,.aB [.own 90200,.own 5,.own 9]),(90100,.sl .Cell 4),(90101,.sl .int 2),(90102,.sl .int 2),(90200,.sl .Cell 4),(5,.sl .int 2),(9,.sl .int 2)],[]⟩
def au1:aa (Nat×bG):=[(2,⟨Y3,[(2,.aB Dq),(3,.aB [.own 90200,.own 5,.own 9]),(90100,.sl .Cell 4),(90101,.sl .int 2),(90102,.sl .int 2),(90200,.sl .Cell 4),(5,.sl .int 2),(9,.sl .int 2)],[]⟩)]
abbrev aho:=((af×af×af×Int×af)×(((aa bN)×(aa Int)×(aa Int)×af)×(af×af×af×af)×(af×af×af×af)×(aa bN)×(aa Int)×(aa Int)×(aa bN)×(aa Int)×(aa Int)×af))
def Lc(x:aho):ah (aho⊕(((af×af×af)×((af×af×af×af)×(af×af×af×af)×(aa bN)×(aa Int)×(aa Int)×(aa bN)×(aa Int)×(aa Int)×af))⊕Empty)):=letI L:=x.1.2.2.2.1;letI E:=((),(),(),());letI D:=x.2.2.2.2.2;letI C:=D.2.2;bif L<(x.2.1.1.length:Int)then xI x.2.1.1 L λT=>(Lb T).bind λO=>bif bI (C.1.length+[O].length)then xG (((),(),(),(W6 (L+1)),()),(x.2.1,E,E,x.2.2.2.2.1,D.1,D.2.1,(C.1++[O]),C.2.1,C.2.2.1,()))else none else ax (((),(),()),(E,E,x.2.2.2.2.1,D.1,D.2.1,C.1,C.2.1,C.2.2.1,()))
def au2:KY 33 (aW f161):=⟨0,lB 0 au0 au1 Lc,lp [ahn]⟩
def Rx(C:cN):ah (cN):=bif xZ C.bD then bif xZ C.bC then bh Lc (((),(),(),0,()),((C.cells,C.bD,C.bC,()),((),(),(),()),((),(),(),()),([]:aa bN),([]:aa Int),([]:aa Int),([]:aa bN),(xA C.bD),(xA C.bC),())) λE=>letI D:=E.2.2.2.2.2.2;some (⟨D.1,D.2.1,D.2.2.1⟩:cN)else none else none
def au3:=bS [(true,.Array)] [(true,.Array,4)] (bO Rx) 33 [] [au2] func161
def Ld(C:c8):ah (c8):=bif xZ C.map then some (⟨C.bF,(xA C.map)⟩:c8)else none
def ahp:=aZ [(true,.mB)] [(true,.mB,2)] (bO Ld) 10 [] func162
def Dy(C:cO):ah (cO):=bif xZ C.aI then some (⟨(xA C.aI),C.wait,C.dy⟩:cO)else none
def Zl:=aZ F3 [(true,.jJ,2)] (bO Dy) 9 [] func163
def Le(C:bU):ah (bU):=bif xZ C.rows then bif xZ C.counts then some (⟨(xA C.rows),(xA C.counts),C.dx⟩:bU)else none else none
def ahq:=aZ [(true,.gp)] [(true,.gp,2)] (bO Le) 14 [] func164
def au4:bG:=⟨[(1,.aG 1 0),(2,.aG 2 0),(3,.lf (.own 29)),(4,tI)],afD,QX⟩
def au5:aa (Nat×bG):=[(2,⟨[(1,.aG 1 0),(2,.aG 2 0),(3,.lf (.own 29))],afD,QX⟩)]
abbrev ahr:=((af×af×af×Int×af)×(av×(Int×Int×Int×Int×Int×Int×Int×Int×Int×Int×Int×Int×Int×Int×Int×Int×Int×Int×Int×Int×Int×Int×Bool×Int×Int×Int×Int×Int×Int×Int×Int×Int×Int×af×Int×Int×Int×Int×Int×Int×Int×af×Int×Int×Bool×Int×af×Int×af×af×af×af×af×Int×af×af×Int×Bool×(aa bU)×(aa Int)×(aa aJ)×(aa aN)×(aa bZ)×Bool×Int×Int×Int×Int×Int×Int×Int×Int×(aa bV)×(aa dA)×(aa cR)×af)×(aa bU)×(aa Int)×(aa Int)×(aa dG)×(aa Int)×(aa Int)×(aa bN)×(aa Int)×(aa Int)×(aa Int)×(aa Int)×af))
def Gf(x:ahr):ah (ahr⊕(((af×af×af×af)×(av×(Int×Int×Int×Int×Int×Int×Int×Int×Int×Int×Int×Int×Int×Int×Int×Int×Int×Int×Int×Int×Int×Int×Bool×Int×Int×Int×Int×Int×Int×Int×Int×Int×Int×af×Int×Int×Int×Int×Int×Int×Int×af×Int×Int×Bool×Int×af×Int×af×af×af×af×af×Int×af×af×Int×Bool×(aa bU)×(aa Int)×(aa aJ)×(aa aN)×(aa bZ)×Bool×Int×Int×Int×Int×Int×Int×Int×Int×(aa bV)×(aa dA)×(aa cR)×af)×(aa bU)×(aa Int)×(aa Int)×(aa dG)×(aa Int)×(aa Int)×(aa bN)×(aa Int)×(aa Int)×(aa Int)×(aa Int)×af))⊕Empty)):=letI L:=x.1.2.2.2.1;letI C:=x.2.2.2;letI O:=x.2.2.1.2.2.2.2.2.2.2.2.2.2.2.2.2.2.2.2.2.2.2.2.2.2.2.2.2.2.2.2.2.2.2.2.2.2.2.2.2.2.2.2.2.2.2.2.2.2.2.2.2.2.2.2.2.2.2.2.2.2.1;letI E:=C.2.2.2.2;letI D:=E.2.2.2;bif L<(O.length:Int)then xI O L λU=>(Le U).bind λT=>bif bI (C.1.length+[T].length)then xG (((),(),(),(W6 (L+1)),()),(x.2.1,x.2.2.1,(C.1++[T]),C.2.1,C.2.2.1,C.2.2.2.1,E.1,E.2.1,E.2.2.1,D.1,D.2.1,D.2.2.1,D.2.2.2.1,()))else none else ax (((),(),(),()),(x.2.1,x.2.2.1,C.1,C.2.1,C.2.2.1,C.2.2.2.1,E.1,E.2.1,E.2.2.1,D.1,D.2.1,D.2.2.1,D.2.2.2.1,()))
def au6:KY 84 (aW f50):=⟨0,lB 0 au4 au5 Gf,lp [ahq]⟩
def Ry(C:av):ah (av):=(La C.box).bind λD=>(Zk C.bq).bind λy2=>(uQ C.ready).bind λy3=>(Rx C.array).bind λy4=>(Ld C.spare).bind λy5=>(Dy C.aV).bind λy6=>bh Gf (((),(),(),0,()),((⟨⟨⟨0,0,0,0⟩,⟨0,0,0,0,0,0,0,0,0,0,0,0,0,0,0,0,0⟩,⟨0,false⟩,0,0,0,⟨0,0⟩⟩,⟨⟨0,0,0,0,0,([]:aa Int),⟨0,0⟩⟩,⟨0,0,0,0,0,([]:aa Int),⟨0,0⟩⟩,false⟩,0,⟨([]:aa dG),0⟩,⟨([]:aa Int),([]:aa Int)⟩,⟨([]:aa bN),([]:aa Int),([]:aa Int)⟩,⟨0,([]:aa Int)⟩,⟨([]:aa Int),0,false⟩,([]:aa bU),([]:aa Int),([]:aa aJ),([]:aa aN),([]:aa bZ),⟨false,0,0⟩,⟨0,0,0⟩,⟨0,0,0⟩,([]:aa bV),([]:aa dA),([]:aa cR)⟩:av),(C.config.az.cg,C.config.az.aC,C.config.az.rows,C.config.az.aO,C.config.cq.kF,C.config.cq.rp,C.config.cq.hD,C.config.cq.nT,C.config.cq.kG,C.config.cq.kH,C.config.cq.nU,C.config.cq.nW,C.config.cq.jI,C.config.cq.wr,C.config.cq.nX,C.config.cq.nY,C.config.cq.qB,C.config.cq.nZ,C.config.cq.oK,C.config.cq.xp,C.config.cq.xs,C.config.mapping.order,C.config.mapping.hash,C.config.bF,C.config.interval,C.config.fZ,C.config.ep.bD,C.config.ep.bC,D.bK.dM,D.bK.cap,D.bK.dK,D.bK.low,D.bK.high,(),D.bK.de.down,D.bK.de.sleep,D.next.dM,D.next.cap,D.next.dK,D.next.low,D.next.high,(),D.next.de.down,D.next.de.sleep,D.waits,C.now,(),y2.bk,(),(),(),(),(),y5.bF,(),(),y6.wait,y6.dy,C.bL,C.guard,C.pending,C.queue,C.shares,C.drain.on,C.drain.low,C.drain.high,C.bk.state,C.bk.since,C.bk.idle,C.cB.next,C.cB.every,C.cB.wait,C.errors,C.trace,C.cr,()),([]:aa bU),D.bK.weights,D.next.weights,y2.aC,y3.last,y3.aX,y4.cells,y4.bD,y4.bC,y5.map,y6.aI,())) λfy=>letI E:=fy.2.2;letI O:=E.1.2.2.2.2;letI ow:=E.2.2.2.2.2;letI Dz:=ow.2.2.2;letI u3:=O.2.2.2.2.2;letI yK:=u3.2.2.2;letI u7:=yK.2.2.2;letI AX:=u7.2.2.2;letI u1:=AX.2.2.2;letI yL:=u1.2.2.2;letI u8:=yL.2.2.2;letI Rz:=u8.2.2.2;letI u2:=Rz.2.2.2.2;letI Y:=u2.2.2.2;letI T:=Y.2.2.2.2.2;letI u14:=T.2.2.2.2.2.2.2.2.2.2.2;letI Z:=u14.2.2.2;letI u9:=Z.2.2.2.2;letI u16:=u9.2.2;letI U:=u16.2.2.2.2;letI L:=U.2.2.2.2.2;bif xZ Z.2.2.2.1 then bif xZ u9.1 then bif xZ u9.2.1 then bif xZ u16.1 then bif xZ L.2.1 then bif xZ L.2.2.1 then bif xZ L.2.2.2.1 then some (⟨⟨⟨E.1.1,E.1.2.1,E.1.2.2.1,E.1.2.2.2.1⟩,⟨O.1,O.2.1,O.2.2.1,O.2.2.2.1,O.2.2.2.2.1,u3.1,u3.2.1,u3.2.2.1,yK.1,yK.2.1,yK.2.2.1,u7.1,u7.2.1,u7.2.2.1,AX.1,AX.2.1,AX.2.2.1⟩,⟨u1.1,u1.2.1⟩,u1.2.2.1,yL.1,yL.2.1,⟨yL.2.2.1,u8.1⟩⟩,⟨⟨u8.2.1,u8.2.2.1,Rz.1,Rz.2.1,Rz.2.2.1,E.2.2.1,⟨u2.1,u2.2.1⟩⟩,⟨u2.2.2.1,Y.1,Y.2.1,Y.2.2.1,Y.2.2.2.1,E.2.2.2.1,⟨T.1,T.2.1⟩⟩,T.2.2.1⟩,T.2.2.2.1,⟨E.2.2.2.2.1,T.2.2.2.2.2.1⟩,⟨ow.1,ow.2.1⟩,⟨ow.2.2.1,Dz.1,Dz.2.1⟩,⟨u14.1,Dz.2.2.1⟩,⟨Dz.2.2.2.1,Z.1,Z.2.1⟩,E.2.1,(xA Z.2.2.2.1),(xA u9.1),(xA u9.2.1),(xA u16.1),⟨u16.2.1,u16.2.2.1,u16.2.2.2.1⟩,⟨U.1,U.2.1,U.2.2.1⟩,⟨U.2.2.2.1,U.2.2.2.2.1,L.1⟩,(xA L.2.1),(xA L.2.2.1),(xA L.2.2.2.1)⟩:av)else none else none else none else none else none else none else none
def au7:=bS yG [(true,.cP,4)] (bO Ry) 84 [Zj,auZ,ahm,au3,ahp,Zl] [au6] func50
def cT(C D E:Int):ah (Bool):=bif C >= D then some (C <= E)else some false
def fG:=aZ [(false,.int),(false,.int),(false,.int)] bP (fR cT) 15 [] func132
def yM(C:aL):ah (Bool):=(cT C.cg 1 2).bind λD=>bif D then (cT C.aC 1 4).bind λE=>bif E then (cT C.rows 2 16).bind λL=>bif L then (cT C.aO 1 8).bind λO=>some O else some false else some false else some false
def Gg:=aZ su bP (bO yM) 21 [fG] func293
def o8(C:aL):ah (Int):=(yM C).bind λD=>bif (!D)then some 0 else some (W6 (C.cg*C.aC))
def ox:=aZ su cE (bO o8) 11 [Gg] func255
abbrev ahs:=((Int×af×af×af×Int×af)×((Int×Int×Int×Int×af)×(Int×af×af)×(Int×af×af)×(aa Int)×(aa Int)×af))
def Lg(x:ahs):ah (ahs⊕(((af×af×af)×((Int×af×af)×(Int×af×af)×(aa Int)×(aa Int)×af))⊕Empty)):=letI C:=x.2.2.2;letI D:=x.1.2.2.2.2.1;letI E:=W6 (x.2.1.2.2.1-x.1.1);letI L:=([(D.tmod E)]:aa Int);(o8 (⟨x.2.1.1,x.2.1.2.1,x.2.1.2.2.1,x.2.1.2.2.2.1⟩:aL)).bind λO=>bif D<(W6 (O*E))then if E=0 then none else bif bI (C.2.2.1.length+L.length)then xG ((x.1.1,(),(),(),(W6 (D+1)),()),(x.2.1,x.2.2.1,C.1,C.2.1,(C.2.2.1++L),()))else none else ax (((),(),()),(x.2.2.1,C.1,C.2.1,C.2.2.1,()))
def au8:KY 49 (aW f257):=⟨0,lB 0 YN [(2,afN)] Lg,lp [ox]⟩
def Gh(C:aL)(D:Int):ah (c8×Bool):=letI E:=some ((⟨0,[]⟩:c8),false);(yM C).bind λO=>bif (!O)then E else (cT D 0 2).bind λT=>bif (!T)then E else bif (W6 (C.rows-D))<2 then E else bh Lg ((D,(),(),(),0,()),((C.cg,C.aC,C.rows,C.aO,()),(0,(),()),(D,(),()),([]:aa Int),([]:aa Int),())) λL=>some ((⟨L.2.2.1.1,L.2.2.2.2.1⟩:c8),true)
def Zm:=bS Kf [(true,.mB,2),(false,.bool,0)] (bx Gh) 49 [fG,Gg] [au8] func257
def Zn(C:dw):ah ((aa Int)):=some ([C.kF,C.rp,C.hD,C.nT,C.kG,C.kH,C.nU,C.nW,C.jI,C.wr,C.nX,C.nY,C.qB,C.nZ,C.oK,C.xp,C.xs]:aa Int)
def au9:=aZ F4 mP (bO Zn) 38 [] func441
abbrev aht:=((af×af×Int×af)×(dw×(aa Int)×af))
def Gi(x:aht):ah (aht⊕(((Bool×af)×(af))⊕(((af×af)×(dw×af))⊕Empty))):=bif x.1.2.2.1<(x.2.2.1.length:Int)then xL x.2.2.1 x.1.2.2.1 λC=>(cT C 1 64).bind λD=>bif (!D)then ax ((false,()),())else xG (((),(),(W6 (x.1.2.2.1+1)),()),(x.2.1,x.2.2.1,()))else aU (((),()),(x.2.1,()))
def ava:KY 45 (aW f381):=⟨0,lB 0 ⟨[(1,.aG 1 0),(3,.lf (.own 1000000000106000)),(4,tI)],[(1,.st .kI),(1000000000106000,.sl .int 2)],[]⟩ [(1,qW),(2,agn)] Gi,lp [fG]⟩
def DA(D:dw):ah (Bool):=(Zn D).bind λE=>bE Gi (((),(),0,()),(D,E,())) (λL=>some L.1.1) λO=>letI C:=O.2.1;bif C.kF <= C.hD then bif C.nT <= C.kG then bif C.nU <= C.nW then some (C.nX <= C.nY)else some false else some false else some false
def RB:=bS F4 bP (bO DA) 45 [au9] [ava] func381
def Gj(C:kE):ah (Bool):=(cT C.order 0 2).bind λD=>some D
def ahu:=aZ [(true,.oL)] bP (bO Gj) 6 [fG] func382
def Lh(C:dw):ah (Int):=(DA C).bind λD=>bif (!D)then some 0 else some (W6 (2*(W6 ((W6 ((W6 ((W6 ((W6 ((W6 ((W6 ((W6 ((W6 (C.oK+C.xp))+C.hD))+C.wr))+C.jI))+C.rp))+C.nZ))+C.kF))+(W6 (8*C.kG))))+16))))
def avb:=aZ F4 cE (bO Lh) 35 [RB] func383
def RC(C:eT):ah (Bool):=(Gh C.az C.bF).bind λD=>bif (!D.2)then some false else (DA C.cq).bind λE=>bif (!E)then some false else (Gj C.mapping).bind λL=>bif (!L)then some false else (Lh C.cq).bind λO=>(cT C.interval O 10000).bind λT=>bif (!T)then some false else (cT C.fZ 1 16).bind λU=>bif U then (cT C.ep.bD (W6 (6*C.interval)) 100000).bind λY=>bif Y then (cT C.ep.bC 0 100000).bind λZ=>some Z else some false else some false
def avc:=aZ [(true,.Config)] bP (bO RC) 54 [fG,Zm,RB,ahu,avb] func290
def Gk(C:gV):ah (Bool):=bif C.low >= 0 then bif C.high <= 12 then some (C.low<C.high)else some false else some false
def Zo:=aZ [(true,.n6)] bP (bO Gk) 18 [] func176
abbrev ahv:=(((aa bZ)×Int×af)×(af))
def Li(x:ahv):ah (ahv⊕(((Bool×af)×(af))⊕((((aa bZ)×af)×(af))⊕Empty))):=letI C:=x.1.2.1;bif C<(x.1.1.length:Int)then xI x.1.1 C λD=>(cT D.weight 1 9).bind λE=>bif (!E)then ax ((false,()),())else xI x.1.1 C λL=>xI x.1.1 C λO=>(cT L.fK 0 O.weight).bind λT=>bif (!T)then ax ((false,()),())else xG ((x.1.1,(W6 (C+1)),()),())else aU ((x.1.1,()),())
def avd:KY 34 (aW f175):=⟨0,lB 0 ⟨[(0,.lf (.aF .fm 0)),(3,tI)],[],[]⟩ [(1,qW),(2,ags)] Li,lp [fG]⟩
def Lj(C:aa bZ):ah (Bool):=bE Li ((C,0,()),()) (λD=>some D.1.1) λE=>(cT (E.1.1.length:Int) 1 4).bind λL=>some L
def ahw:=bS [(false,(.sl .fm))] bP (bO Lj) 34 [fG] [avd] func175
abbrev ahx:=(((aa Int)×af×Int×af)×((aa bZ)×af))
def Lk(x:ahx):ah (ahx⊕(((af×af)×((aa bZ)×af))⊕Empty)):=letI D:=ax (((),()),(x.2.1,()));letI C:=x.1.2.2.1;bif C<(x.1.1.length:Int)then bif C <= 4 then xI x.1.1 C λL=>xI x.1.1 C λO=>letI E:=([(⟨L,O⟩:bZ)]:aa bZ);bif bI (x.2.1.length+E.length)then xG ((x.1.1,(),(W6 (C+1)),()),((x.2.1++E),()))else none else D else D
def ave:KY 34 (aW f186):=⟨0,lB 0 ⟨[(0,.lf (.aF .int 0)),(4,.lf (.own 6)),(5,tI)],[(6,.sl .fm 2)],[]⟩ [(2,⟨[(4,.lf (.own 6))],[(6,.sl .fm 2)],[]⟩)] Lk,lp []⟩
def AY(D:aa Int):ah ((aa bZ)×Bool):=bh Lk ((D,(),0,()),(([]:aa bZ),())) λC=>(Lj C.2.1).bind λE=>bif (!E)then some (([]:aa bZ),false)else some (C.2.1,true)
def Zp:=bS ou [(false,(.sl .fm),2),(false,.bool,0)] (bO AY) 34 [ahw] [ave] func186
def Ll(C:lW):ah (Bool):=(cT C.down 1 10000).bind λD=>bif D then bif C.sleep > C.down then some (C.sleep <= 20000)else some false else some false
def ahy:=aZ [(true,.oM)] bP (bO Ll) 18 [fG] func384
def Gl(C:dB):ah (Bool):=(AY C.weights).bind λD=>(cT C.dM 0 1).bind λE=>bif E then (cT C.cap 0 100000).bind λL=>bif L then (cT C.dK 3 1000).bind λO=>bif O then (Gk (⟨false,C.low,C.high⟩:gV)).bind λT=>bif T then bif D.2 then bif ((C.weights.length:Int)==4)then (Ll C.de).bind λU=>some U else some false else some false else some false else some false else some false else some false
def Zq:=aZ Dv bP (bO Gl) 46 [fG,Zo,Zp,ahy] func291
def RD(C:Int):ah (Int):=(cT C 3 1000).bind λD=>bif (!D)then some 0 else some (W6 ((W6 (2*C))+2))
def avf:=aZ lO cE (bO RD) 9 [fG] func292
def Gm(C:eT)(D:dB):ah (Bool):=letI E:=W6 (C.cq.hD+C.cq.rp);(RC C).bind λL=>bif (!L)then some false else (Gl D).bind λO=>bif (!O)then some false else (RD D.dK).bind λT=>bif (W6 (T+2)) <= C.ep.bC then if E=0 then none else some ((W6 ((W6 (C.fZ+1))*D.dK)) > (W6 ((W6 ((W6 (5*C.interval)).tdiv E))+2)))else some false
def ahz:=aZ QV bP (bx Gm) 42 [avc,Zq,avf] func165
def RE(D:aL):ah (cH):=(o8 D).bind λC=>if 0 <= C/\C <= C/\C<1073741824 then some (⟨(List.replicate C.toNat (⟨false,0⟩:dG)),0⟩:cH)else none
def avg:=aZ su [(true,.iO,2)] (bO RE) 7 [ox] func252
abbrev ahA:=((Int×af×Int×af)×((aa Int)×af))
def Ln(x:ahA):ah (ahA⊕(((af×af)×((aa Int)×af))⊕Empty)):=letI C:=x.1.2.2.1;bif C<x.1.1 then xL x.2.1 C λD=>xG ((x.1.1,(),(W6 (C+1)),()),((x.2.1.set C.toNat (-1:Int)),()))else ax (((),()),(x.2.1,()))
def avh:KY 16 (aW f367):=⟨0,lB 0 ⟨[(0,tI),(3,.lf (.own 6)),(4,tI)],[(6,.sl .int 2)],[]⟩ [(2,agd)] Ln,lp []⟩
def Lo(C:Int):ah ((aa Int)):=if 0 <= C/\C <= C/\C<1073741824 then bh Ln ((C,(),0,()),((List.replicate C.toNat (0:Int)),())) λD=>some D.2.1 else none
def ahB:=bS lO mP (bO Lo) 16 [] [avh] func367
def RG(C:aL):ah (dJ):=(yM C).bind λD=>bif (!D)then some (⟨[],[]⟩:dJ)else (o8 C).bind λE=>(Lo (W6 (9*(W6 (E+1))))).bind λL=>some (⟨L,[]⟩:dJ)
def avi:=aZ su [(true,.jZ,2)] (bO RG) 13 [ox,Gg,ahB] func253
def wK(C:aL):ah (Int):=(yM C).bind λD=>bif (!D)then some 0 else (o8 C).bind λE=>some (W6 ((W6 (E*C.rows))*C.aO))
def RH:=aZ su cE (bO wK) 14 [ox,Gg] func173
def avj:bG:=⟨agq,afK,[]⟩
def avk:aa (Nat×bG):=[(2,⟨agA,afK,[]⟩)]
abbrev ahC:=((af×af×af×Int×af)×((Int×Int×Int×Int×af)×(af×af×af×af)×(af×af×af×af)×(aa bN)×(aa Int)×(aa Int)×(aa bN)×(aa Int)×(aa Int)×af))
def Lp(x:ahC):ah (ahC⊕(((af×af×af×af)×((Int×Int×Int×Int×af)×(af×af×af×af)×(af×af×af×af)×(aa bN)×(aa Int)×(aa Int)×(aa bN)×(aa Int)×(aa Int)×af))⊕Empty)):=letI L:=(11:Int);letI O:=(⟨(List.replicate L.toNat (0:Int)),false⟩:bN);letI D:=((),(),(),());letI E:=x.2.2.2.2.2;letI C:=E.2.2;(wK (⟨x.2.1.1,x.2.1.2.1,x.2.1.2.2.1,x.2.1.2.2.2.1⟩:aL)).bind λT=>bif x.1.2.2.2.1<T then if 0 <= L/\L <= 11/\L<1073741824 then bif bI (C.1.length+[O].length)then xG (((),(),(),(W6 (x.1.2.2.2.1+1)),()),(x.2.1,D,D,x.2.2.2.2.1,E.1,E.2.1,(C.1++[O]),C.2.1,C.2.2.1,()))else none else none else ax (D,(x.2.1,D,D,x.2.2.2.2.1,E.1,E.2.1,C.1,C.2.1,C.2.2.1,()))
def avl:KY 39 (aW f254):=⟨0,lB 0 avj avk Lp,lp [RH]⟩
def RI(E:aL):ah (cN):=letI C:=(0:Int);bh Lp (((),(),(),0,()),((E.cg,E.aC,E.rows,E.aO,()),((),(),(),()),((),(),(),()),([]:aa bN),([]:aa Int),([]:aa Int),([]:aa bN),([]:aa Int),([]:aa Int),())) λL=>letI O:=L.2.1.2;letI T:=(⟨L.2.1.1,O.1,O.2.1,O.2.2.1⟩:aL);letI U:=if 0 <= C/\C <= 0/\C<1073741824 then if 0 <= C/\C <= 0/\C<1073741824 then some (⟨L.2.2.2.2.2.2.2.1,(List.replicate C.toNat C),(List.replicate C.toNat C)⟩:cN)else none else none;(o8 T).bind λY=>letI D:=W6 (Y*O.2.1);bif D<0 then U else (yM T).bind λZ=>bif (!Z)then U else if 0 <= D/\D <= D/\D<1073741824 then if 0 <= D/\D <= D/\D<1073741824 then some (⟨L.2.2.2.2.2.2.2.1,(List.replicate D.toNat C),(List.replicate D.toNat C)⟩:cN)else none else none
def avm:=bS su [(true,.Array,4)] (bO RI) 39 [ox,Gg] [avl] func254
def RJ(C:dB):ah (fL×Bool):=(Gl C).bind λD=>bif (!D)then some ((⟨⟨0,0,0,0,0,[],⟨0,0⟩⟩,⟨0,0,0,0,0,[],⟨0,0⟩⟩,false⟩:fL),false)else (wJ C).bind λE=>(wJ C).bind λL=>some ((⟨E,L,false⟩:fL),true)
def avn:=aZ Dv F1 (bO RJ) 13 [Rw,Zq] func256
def RK(C D:Int):ah (cO×Bool):=letI E:=some ((⟨[],0,false⟩:cO),false);(cT C 1 8).bind λL=>bif (!L)then E else (cT D 2 10000).bind λO=>bif (!O)then E else if 0 <= C/\C <= C/\C<1073741824 then some ((⟨(List.replicate C.toNat (0:Int)),D,false⟩:cO),true)else none
def avo:=aZ AT [(true,.jJ,2),(false,.bool,0)] (bx RK) 19 [fG] func258
def Lq(C:Int):ah (bU×Bool):=(cT C 1 16).bind λD=>bif (!D)then some ((⟨[],[],0⟩:bU),false)else (Lo C).bind λE=>if 0 <= C/\C <= C/\C<1073741824 then some ((⟨E,(List.replicate C.toNat (0:Int)),0⟩:bU),true)else none
def ahD:=aZ lO [(true,.gp,2),(false,.bool,0)] (bO Lq) 13 [fG,ahB] func259
def Zr(C:Int):ah (jY×Bool):=(cT C 1 100000).bind λD=>bif (!D)then some ((⟨0,0,0⟩:jY),false)else some ((⟨0,C,C⟩:jY),true)
def avp:=aZ lO [(true,.pP,0),(false,.bool,0)] (bO Zr) 11 [fG] func260
def avq:bG:=⟨[(2,.aG 2 0),(3,.aG 3 0),(4,.aG 4 0),(6,.aG 6 0),(7,tI),(8,tI)],[(2,.st .Config),(3,.aB yF)],afH⟩
def avr:aa (Nat×bG):=[(2,⟨[(3,.aG 3 0),(4,.aG 4 0),(6,.aG 6 0)],[(3,.aB yF)],afH⟩)]
abbrev ahE:=((af×af×af×af×Int×Int×af)×(av×av×eT×(Int×Int×Int×Int×Int×(aa Int)×Int×Int×af)×af))
def Gn(x:ahE):ah (ahE⊕(((af×af×af×af)×(av×av×(Int×Int×Int×Int×Int×(aa Int)×Int×Int×af)×af))⊕Empty)):=letI E:=x.2.2.2.2.1;letI L:=([E.2.2.1]:aa Int);letI D:=x.1.2.2.2.2;letI C:=x.2.2.1;bif D.2.1<D.1 then (Lq x.2.2.2.1.fZ).bind λO=>bif bI (C.bL.length+[O.1].length)then bif bI (C.guard.length+L.length)then xG (((),(),(),(),D.1,(W6 (D.2.1+1)),()),(x.2.1,{C with bL:=(C.bL++[O.1]),guard:=(C.guard++L)},x.2.2.2.1,E,()))else none else none else ax (((),(),(),()),(x.2.1,C,E,()))
def avs:KY 95 (aW f134):=⟨0,lB 0 avq avr Gn,lp [ahD]⟩
def Gq(D:eT)(C:dB):ah (av×Bool):=(Gm D C).bind λO=>bif (!O)then some ((⟨⟨⟨0,0,0,0⟩,⟨0,0,0,0,0,0,0,0,0,0,0,0,0,0,0,0,0⟩,⟨0,false⟩,0,0,0,⟨0,0⟩⟩,⟨⟨0,0,0,0,0,[],⟨0,0⟩⟩,⟨0,0,0,0,0,[],⟨0,0⟩⟩,false⟩,0,⟨[],0⟩,⟨[],[]⟩,⟨[],[],[]⟩,⟨0,[]⟩,⟨[],0,false⟩,[],[],[],[],[],⟨false,0,0⟩,⟨0,0,0⟩,⟨0,0,0⟩,[],[],[]⟩:av),false)else (RE D.az).bind λT=>(RG D.az).bind λU=>(RI D.az).bind λY=>(o8 D.az).bind λE=>(RJ C).bind λZ=>(Gh D.az D.bF).bind λy7=>(RK E D.interval).bind λy8=>bh Gn (((),(),(),(),E,0,()),((⟨⟨⟨0,0,0,0⟩,⟨0,0,0,0,0,0,0,0,0,0,0,0,0,0,0,0,0⟩,⟨0,false⟩,0,0,0,⟨0,0⟩⟩,⟨⟨0,0,0,0,0,([]:aa Int),⟨0,0⟩⟩,⟨0,0,0,0,0,([]:aa Int),⟨0,0⟩⟩,false⟩,0,⟨([]:aa dG),0⟩,⟨([]:aa Int),([]:aa Int)⟩,⟨([]:aa bN),([]:aa Int),([]:aa Int)⟩,⟨0,([]:aa Int)⟩,⟨([]:aa Int),0,false⟩,([]:aa bU),([]:aa Int),([]:aa aJ),([]:aa aN),([]:aa bZ),⟨false,0,0⟩,⟨0,0,0⟩,⟨0,0,0⟩,([]:aa bV),([]:aa dA),([]:aa cR)⟩:av),(⟨D,Z.1,0,T,U,Y,y7.1,y8.1,([]:aa bU),([]:aa Int),([]:aa aJ),([]:aa aN),([]:aa bZ),⟨false,C.low,C.high⟩,⟨0,0,0⟩,⟨0,0,0⟩,([]:aa bV),([]:aa dA),([]:aa cR)⟩:av),D,(C.dM,C.cap,C.dK,C.low,C.high,C.weights,C.de.down,C.de.sleep,()),())) λL=>letI u0:=L.2.2.1;(AY L.2.2.2.1.2.2.2.2.2.1).bind λfW=>(Zr 10).bind λjd=>some ({u0 with shares:=fW.1,cB:=jd.1},true)
def avt:=bS QV Kd (bx Gq) 95 [ahz,Zp,avg,avi,avm,ox,avn,Zm,avo,avp] [avs] func134
def Lr(C:gV)(D:Int):ah (gV):=letI E:=some (⟨false,C.low,C.high⟩:gV);(Gk C).bind λL=>bif (!L)then some C else bif D >= C.high then bif D <= C.low then E else some (⟨true,C.low,C.high⟩:gV)else bif D <= C.low then E else some C
def avu:=aZ [(true,.n6),(false,.int)] [(true,.n6,0)] (bx Lr) 20 [Zo] func181
abbrev ahF:=(((aa aN)×Bool×Int×Int×af)×(af))
def Ls(x:ahF):ah (ahF⊕(((Int×af)×(af))⊕Empty)):=letI C:=x.1.2.2;bif C.2.1<(x.1.1.length:Int)then xI x.1.1 C.2.1 λD=>bif (D.write==x.1.2.1)then xG ((x.1.1,x.1.2.1,(W6 (C.1+1)),(W6 (C.2.1+1)),()),())else xG ((x.1.1,x.1.2.1,C.1,(W6 (C.2.1+1)),()),())else ax ((C.1,()),())
def avv:KY 23 (aW f182):=⟨0,lB 0 ⟨[(0,.lf (.aF .dg 0)),(1,tB),(5,tI),(6,tI)],[],[]⟩ [(2,wI)] Ls,lp []⟩
def Lt(C:aa aN)(D:Bool):ah (Int):=bh Ls ((C,D,0,0,()),()) λE=>some E.1.1
def avw:=bS [(false,(.sl .dg)),(false,.bool)] cE (bx Lt) 23 [] [avv] func182
def yN(C:fk):ah (Bool):=(cT C.state 0 2).bind λD=>bif D then (cT C.since 0 1000000).bind λE=>bif E then (cT C.idle 0 1000000).bind λL=>some L else some false else some false
def Zs:=aZ [(true,.Power)] bP (bO yN) 16 [fG] func177
def Lu(C:fk)(E:Bool):ah (fk):=letI D:=W6 (C.idle+1);(yN C).bind λL=>bif (!L)then some C else bif E then some (⟨C.state,C.since,0⟩:fk)else some (⟨C.state,C.since,(if 1000000<D then 1000000 else D)⟩:fk)
def avx:=aZ [(true,.Power),(false,.bool)] [(true,.Power,0)] (bx Lu) 17 [Zs] func183
abbrev ahG:=((af×Int×af)×(((aa Int)×Int×Bool×af)×af))
def Lv(x:ahG):ah (ahG⊕(((Bool×af)×(af))⊕(((af×af)×(((aa Int)×Int×Bool×af)×af))⊕Empty))):=bif x.1.2.1<(x.2.1.1.length:Int)then xI x.2.1.1 x.1.2.1 λC=>(cT C (-2) 5).bind λD=>bif (!D)then ax ((false,()),())else xG (((),(W6 (x.1.2.1+1)),()),(x.2.1,()))else aU (((),()),(x.2.1,()))
def avy:KY 27 (aW f170):=⟨0,lB 0 ⟨[(1,.aG 1 0),(3,tI)],[(1,.aB Ds)],[]⟩ [(1,qW),(2,ago)] Lv,lp [fG]⟩
def DB(C:cO):ah (Bool):=bE Lv (((),0,()),((C.aI,C.wait,C.dy,()),())) (λE=>some E.1.1) λD=>(cT (D.2.1.1.length:Int) 1 8).bind λL=>bif L then (cT D.2.1.2.1 1 10000).bind λO=>some O else some false
def RL:=bS F3 bP (bO DB) 27 [fG] [avy] func170
end Go.Proofs.YtnilicojgkhpnaaGreat
