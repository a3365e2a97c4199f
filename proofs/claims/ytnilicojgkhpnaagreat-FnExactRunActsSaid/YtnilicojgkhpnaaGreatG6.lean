/-
  Functions of the program as plain functions of contents, and that the code computes them. Nothing here is a claim.
-/
import Derived.Test.YtnilicojgkhpnaaGreatVZ
import Derived.Test.YtnilicojgkhpnaaGreatRows
import Derived.Test.YtnilicojgkhpnaaGreatG1
import Derived.Test.YtnilicojgkhpnaaGreatG2
import Derived.Test.YtnilicojgkhpnaaGreatG3
import Derived.Test.YtnilicojgkhpnaaGreatG4
import Derived.Test.YtnilicojgkhpnaaGreatG5
namespace Go.Proofs.YtnilicojgkhpnaaGreat
set_option linter.defProp false
open Go.RowKit Go.Proofs.Tryz
set_option linter.unusedVariables false
set_option maxRecDepth 100000
def DU(C:av)(D:Int):ah ((Int×Int)×(av×af)):=xL C.array.cells D λT=>bif T.hG then some ((0,2),(C,()))else xM C.array.cells D λU=>(RS U.symbols).bind λE=>letI L:=(E.1,E.2.1);bif (E.2.1==1)then (Gx E.1).bind λY=>xL C.array.cells D λZ=>letI O:=C.array.cells.set D.toNat (⟨Y,Z.hG⟩:bN);bif (E.2.1==2)then xL O D λZN=>some (L,({C with array:=⟨(O.set D.toNat (⟨ZN.symbols,true⟩:bN)),C.array.bD,C.array.bC⟩},()))else some (L,({C with array:=⟨O,C.array.bD,C.array.bC⟩},()))else bif (E.2.1==2)then xL C.array.cells D λoy=>some (L,({C with array:=⟨(C.array.cells.set D.toNat (⟨oy.symbols,true⟩:bN)),C.array.bD,C.array.bC⟩},()))else some (L,(C,()))
def aiX:=yE Y0 [(false,.int,0),(false,.int,0)] (bx DU) 48 [avP,ah3] func188
def Sv(C:av)(x1:Int):ah ((af)×(av×af)):=letI E:=(4:Int);xL C.queue x1 λD=>letI U:=([(⟨D.id,C.now,0,0⟩:cR)]:aa cR);(yQ C D.line).bind λy4=>(DT C.config.az y4).bind λL=>(Su C.queue D.id).bind λY=>if 0 <= E/\E <= 4/\E<1073741824 then xL (List.replicate E.toNat false) D.c9 λe9=>(L1 C.shares ((List.replicate E.toNat false).set D.c9.toNat true)).bind λZ=>bif D.write then (Gx D.data).bind λfW=>xL C.array.cells L λiA=>bif bI (C.cr.length+U.length)then some ((),({C with array:=⟨(C.array.cells.set L.toNat (⟨fW,false⟩:bN)),C.array.bD,C.array.bC⟩,queue:=Y.1,shares:=Z.1,cr:=(C.cr++U)},()))else none else (DU {C with queue:=Y.1,shares:=Z.1} L).bind λO=>letI u1:=([(⟨D.id,C.now,O.1.1,O.1.2⟩:cR)]:aa cR);(DI O.2.1 L O.1.2).bind λnH=>letI T:=nH.2.1;bif bI (T.cr.length+u1.length)then some ((),({T with cr:=(T.cr++u1)},()))else none else none
def axf:=yE Kg [] (bx Sv) 100 [aiX,ah8,ZM,ah3,⟨316,.q R6,ZC⟩,ait,axe] func322
def Sw(C:fk)(E L:Int):ah (fk×Bool):=letI O:=cT L C.since 1000000;letI D:=some (C,false);letI T:=O.bind λU=>bif (!U)then D else some ((⟨0,L,C.idle⟩:fk),true);bif (E==6)then (yN C).bind λY=>bif (!Y)then D else bif (C.state != 0)then D else O.bind λZ=>bif (!Z)then D else some ((⟨1,L,C.idle⟩:fk),true)else bif (E==8)then (yN C).bind λy3=>bif (!y3)then D else bif (C.state != 0)then D else O.bind λy4=>bif (!y4)then D else some ((⟨2,L,C.idle⟩:fk),true)else bif (E==7)then (yN C).bind λy5=>bif (!y5)then D else bif (C.state != 1)then D else T else bif (E==9)then (yN C).bind λy7=>bif (!y7)then D else bif (C.state != 2)then D else T else D
def axg:=aZ [(true,.Power),(false,.int),(false,.int)] [(true,.Power,0),(false,.bool,0)] (fR Sw) 42 [fG,Zs] func323
def Sx(C:av)(D:aH):ah ((af)×(av×af)):=letI E:=some ((),({C with bq:=⟨C.bq.aC,0⟩},()));bif (D.kind==1)then xL C.bq.aC D.ay λL=>some ((),({C with bq:=⟨(C.bq.aC.set D.ay.toNat (⟨true,D.row⟩:dG)),C.bq.bk⟩},()))else bif (D.kind==4)then xL C.bq.aC D.ay λO=>some ((),({C with bq:=⟨(C.bq.aC.set D.ay.toNat (⟨false,0⟩:dG)),C.bq.bk⟩},()))else bif (D.kind==6)then some ((),({C with bq:=⟨C.bq.aC,1⟩},()))else bif (D.kind==8)then some ((),({C with bq:=⟨C.bq.aC,2⟩},()))else bif (D.kind==7)then bif (D.kind==7)then E else some ((),(C,()))else bif (D.kind==9)then E else some ((),(C,()))
def axh:=yE [.p .cP 4 46,.v true .Command] [] (bx Sx) 44 [] func318
abbrev aiY:=((af×Int×af)×(av×af))
def DV(x:aiY):ah (aiY⊕(((af)×(av×af))⊕Empty)):=letI C:=x.1.2.1;bif C<(x.2.1.bq.aC.length:Int)then (Ml x.2.1 C).bind λE=>letI D:=E.2.1;xL D.aV.aI C λL=>xG (((),(W6 (C+1)),()),({D with aV:=⟨(D.aV.aI.set C.toNat (0:Int)),D.aV.wait,D.aV.dy⟩},()))else ax ((),(x.2.1,()))
def aiZ:KY 120 (aW f192):=⟨1,lB 1 ⟨[(0,.aG 20000 0),(7,tI)],[],QO⟩ [(3,Za)] DV,lp [aiU]⟩
def Ba(E:av)(C:aH)(x2:Int):ah ((af)×(av×af)):=letI T:=C.kind==9;letI U:=(⟨E.now,C⟩:dA);bif bI (E.trace.length+([U]:aa dA).length)then (Sn E.config.az E.ready U).bind λy1=>(Sx {E with ready:=y1,trace:=(E.trace++([U]:aa dA))} C).bind λy2=>letI D:=y2.2.1;(let L:av -> ah ((af)×(av×af)):=λY=>bif T then bh DV (((),0,()),(Y,())) λSA=>some ((),(SA.2.1,()))else some ((),(Y,()));bif (C.kind==1)then (Sr D C).bind λy3=>(L y3.2.1)else bif (C.kind==5)then (Ml D C.ay).bind λy4=>letI Z:=y4.2.1;(Ss Z.aV C.ay).bind λy5=>letI u0:=({Z with aV:=y5.1},());bif T then bh DV (((),0,()),u0) λz23=>some ((),(z23.2.1,()))else some ((),u0)else (let Mo:Bool -> ah ((af)×(av×af)):=λj6=>bif j6 then (Sv D x2).bind λy7=>(L y7.2.1)else (let O:Bool -> ah ((af)×(av×af)):=λj8=>bif j8 then (Sw D.bk C.kind D.now).bind λy9=>(L {D with bk:=y9.1})else (L D);bif (C.kind==6)then (O (C.kind==6))else bif (C.kind==7)then (O (C.kind==7))else bif (C.kind==8)then (O (C.kind==8))else (O T));bif (C.kind==2)then (Mo (C.kind==2))else (Mo (C.kind==3))))else none
def axi:=jc agw [] (fR Ba) 120 [awQ,axh,aw6,aiU,axc,axf,axg] [aiZ,aiZ] func192
abbrev ai0:=((af×Int×Int×af)×(av×af))
def Mp(x:ai0):ah (ai0⊕(((af×Int×af)×(av×af))⊕Empty)):=letI D:=x.1.2.2.1;letI C:=x.2.1;bif D<(C.aV.aI.length:Int)then xL C.aV.aI D λL=>letI E:=W6 (L+1);xL C.aV.aI D λO=>xG (((),x.1.2.1,(W6 (D+1)),()),({C with aV:=⟨(C.aV.aI.set D.toNat (if 5<E then 5 else E)),C.aV.wait,C.aV.dy⟩},()))else ax (((),x.1.2.1,()),(C,()))
def axj:KY 55 (aW f179):=⟨0,lB 0 ⟨[(0,.aG 20000 55),(1,tI),(4,tI)],[],kV⟩ [(2,⟨[(0,.aG 20000 55),(1,tI)],[],kV⟩)] Mp,lp []⟩
def Mq(D:av)(O:Int):ah ((af)×(av×af)):=letI L:=({D with aV:=⟨D.aV.aI,(W6 (D.aV.wait-1)),D.aV.dy⟩},());bif (W6 (D.aV.wait-1)) > 0 then some ((),L)else bh Mp (((),O,0,()),L) λE=>letI C:=E.2.1;bif C.aV.dy then some ((),({C with aV:=⟨C.aV.aI,(W6 (E.1.2.1.tdiv 2)),C.aV.dy⟩},()))else some ((),({C with aV:=⟨C.aV.aI,E.1.2.1,C.aV.dy⟩},()))
def axk:=jc [.p .cP 4 55,.v false .int] [] (bx Mq) 55 [] [axj] func179
abbrev ai1:=((af×Int×Int×af)×(av×af))
def Mr(x:ai1):ah (ai1⊕(((af)×(av×af))⊕Empty)):=letI D:=x.1.2.2.1;letI C:=x.2.1;bif D<(C.array.bD.length:Int)then xL C.array.bD D λL=>letI E:=W6 (L+x.1.2.1);xL C.array.bD D λO=>xG (((),x.1.2.1,(W6 (D+1)),()),({C with array:=⟨C.array.cells,(C.array.bD.set D.toNat (if 100000<E then 100000 else E)),C.array.bC⟩},()))else ax ((),(C,()))
def axl:KY 30 (aW f180):=⟨0,lB 0 ⟨[(0,.aG 20000 50),(1,tI),(4,tI)],[],kV⟩ [(2,F2)] Mr,lp []⟩
def Ms(C:av)(D:Int):ah ((af)×(av×af)):=bh Mr (((),D,0,()),(C,())) λE=>some ((),(E.2.1,()))
def axm:=jc Y0 [] (bx Ms) 30 [] [axl] func180
def Mt(D:av):ah ((af)×(av×af)):=letI u3:={D with now:=(W6 (D.now+1))};bif D.now >= 1000000 then some ((),(D,()))else (let k38:av -> ah ((af)×(av×af)):=λC=>(Lt C.queue true).bind λy4=>(Lr C.drain y4).bind λy5=>(DC {C with drain:=y5}).bind λy6=>(Lu C.bk y6).bind λy7=>(Ly C.box ((C.queue.length:Int)==0)).bind λE=>bif E.2 then (AY E.1.bK.weights).bind λy9=>(wK C.config.az).bind λku=>(DD C.cB ku).bind λfW=>letI L:={C with box:=E.1,shares:=y9.1,drain:=⟨false,E.1.bK.low,E.1.bK.high⟩,bk:=y7,cB:=fW.1};bif fW.2 >= 0 then (DU L fW.2).bind λjd=>(DI jd.2.1 fW.2 jd.1.2).bind λje=>(A6 je.2.1).bind λO=>(let A3:Bool -> ah ((af)×(av×af)):=λLN=>bif LN then (Ba je.2.1 O.1 O.2).bind λjB=>some ((),(jB.2.1,()))else some ((),(je.2.1,()));bif (O.1.kind != 0)then (A7 je.2.1 O.1 O.2).bind λjo=>(A3 jo)else (A3 false))else (A6 L).bind λT=>(let k23:Bool -> ah ((af)×(av×af)):=λSB=>bif SB then (Ba L T.1 T.2).bind λkz=>some ((),(kz.2.1,()))else some ((),(L,()));bif (T.1.kind != 0)then (A7 L T.1 T.2).bind λDW=>(k23 DW)else (k23 false))else (wK C.config.az).bind λqm=>(DD C.cB qm).bind λuW=>letI U:={C with box:=E.1,drain:=y5,bk:=y7,cB:=uW.1};bif uW.2 >= 0 then (DU U uW.2).bind λDX=>(DI DX.2.1 uW.2 DX.1.2).bind λyU=>(A6 yU.2.1).bind λY=>(let k32:Bool -> ah ((af)×(av×af)):=λSC=>bif SC then (Ba yU.2.1 Y.1 Y.2).bind λSD=>some ((),(SD.2.1,()))else some ((),(yU.2.1,()));bif (Y.1.kind != 0)then (A7 yU.2.1 Y.1 Y.2).bind λBb=>(k32 Bb)else (k32 false))else (A6 U).bind λZ=>(let Mv:Bool -> ah ((af)×(av×af)):=λj35=>bif j35 then (Ba U Z.1 Z.2).bind λMw=>some ((),(Mw.2.1,()))else some ((),(U,()));bif (Z.1.kind != 0)then (A7 U Z.1 Z.2).bind λyV=>(Mv yV)else (Mv false));letI u2:=k38 u3;bif (D.bq.bk != 2)then (Mq u3 D.config.interval).bind λy1=>(Ms y1.2.1 1).bind λy2=>(k38 y2.2.1)else u2)
def axn:=yE [.p .cP 4 0] [] (bO Mt) 154 [RH,axk,axm,avu,avw,avx,⟨184,.q Zt,ahJ⟩,avA,Zp,avB,aiX,ah8,awH,awK,axi] func52
def SE(E:Int)(C:aN):ah (Bool):=letI D:=(cT C.at_ 0 1000000).bind λL=>some L;(cT C.id 1 100000).bind λO=>bif O then (cT C.c9 0 3).bind λT=>bif T then bif C.line >= 0 then bif C.line<E then (LF C.data).bind λU=>bif U then bif C.write then D else bif (C.data==0)then D else some false else some false else some false else some false else some false else some false
def axo:=aZ [(false,.int),(true,.dg)] bP (bx SE) 43 [fG,ah1] func299
def SF(C D:aN):ah (Bool):=bif C.at_<D.at_ then some true else bif (C.at_==D.at_)then some (C.id<D.id)else some false
def ai2:=aZ Y4 bP (bx SF) 24 [] func300
abbrev ai3:=((Int×(aa aN)×Int×af)×(af))
def Mx(x:ai3):ah (ai3⊕(((Bool×af)×(af))⊕(((af)×(af))⊕Empty))):=letI E:=ax ((false,()),());letI D:=x.1.2.1;letI C:=x.1.2.2.1;letI L:=xI D C λO=>(Mn D O.id).bind λT=>bif (T != C)then E else xG ((x.1.1,D,(W6 (C+1)),()),());bif C<(D.length:Int)then xI D C λU=>(SE x.1.1 U).bind λY=>bif (!Y)then E else bif C > 0 then xI D (W6 (C-1)) λZ=>xI D C λe7=>(SF Z e7).bind λy8=>bif (!y8)then E else L else L else aU ((),())
def axp:KY 50 (aW f172):=⟨0,lB 0 ⟨[(0,tI),(1,.lf (.aF .dg 0)),(5,tI)],[],[]⟩ [(1,iz),(2,fS)] Mx,lp [axo,ai2,aiW]⟩
def yW(D:Int)(C:aa aN):ah (Bool):=bif (C.length:Int) > 12 then some false else bE Mx ((D,C,0,()),()) (λE=>some E.1.1) λL=>some true
def axq:=bS [(false,.int),(false,(.sl .dg))] bP (bx yW) 50 [] [axp] func172
abbrev ai4:=((Int×(aa aN)×af×af×Bool×Int×af)×((Int×Int×Int×Bool×Int×Int×af)×(aa aN)×af))
def My(x:ai4):ah (ai4⊕(((Int×(aa aN)×af×af×Bool×af)×((Int×Int×Int×Bool×Int×Int×af)×(aa aN)×af))⊕Empty)):=letI C:=x.2.1;letI E:=x.2.2.1;letI D:=x.1.2.1;letI O:=x.1.2.2.2.2;letI L:=O.2.1;letI U:=xI D L λY=>bif bI (E.length+([Y]:aa aN).length)then xG ((x.1.1,D,(),(),O.1,(W6 (L+1)),()),(C,(E++([Y]:aa aN)),()))else none;letI Z:=(⟨C.1,C.2.1,C.2.2.1,C.2.2.2.1,C.2.2.2.2.1,C.2.2.2.2.2.1⟩:aN);letI T:=([Z]:aa aN);bif L<(D.length:Int)then bif (!O.1)then xI D L λe2=>(SF Z e2).bind λy3=>bif y3 then bif bI (E.length+T.length)then xI D L λe5=>bif bI ((E++T).length+([e5]:aa aN).length)then xG ((x.1.1,D,(),(),true,(W6 (L+1)),()),(C,((E++T)++([e5]:aa aN)),()))else none else none else U else U else ax ((x.1.1,D,(),(),O.1,()),(C,E,()))
def axr:KY 59 (aW f368):=⟨0,lB 0 ⟨[(0,tI),(1,.lf (.aF .dg 0)),(5,.aG 5 0),(8,.lf (.own 11)),(9,tB),(10,tI)],[(5,.aB F0),(11,.sl .dg 2)],[]⟩ [(2,⟨[(0,tI),(1,.lf (.aF .dg 0)),(5,.aG 5 0),(8,.lf (.own 11)),(9,tB)],[(5,.aB F0),(11,.sl .dg 2)],[]⟩)] My,lp [ai2]⟩
def SG(Y:Int)(Z:aa aN)(E:aN):ah ((aa aN)×Bool):=bh My ((Y,Z,(),(),false,0,()),((E.id,E.c9,E.line,E.write,E.data,E.at_,()),([]:aa aN),())) λU=>letI C:=U.1;letI D:=U.2;letI L:=D.1.2.2;letI O:=bif xZ C.2.1 then some ((xA C.2.1),false)else none;letI T:=([(⟨D.1.1,D.1.2.1,L.1,L.2.1,L.2.2.1,L.2.2.2.1⟩:aN)]:aa aN);bif (!C.2.2.2.2.1)then bif bI (D.2.1.length+T.length)then (yW C.1 C.2.1).bind λfW=>bif (!fW)then O else (yW C.1 (D.2.1++T)).bind λjd=>bif (!jd)then O else some ((D.2.1++T),true)else none else (yW C.1 C.2.1).bind λje=>bif (!je)then O else (yW C.1 D.2.1).bind λmc=>bif (!mc)then O else some (D.2.1,true)
def axt:=bS agu [(false,(.sl .dg),2),(false,.bool,0)] (fR SG) 59 [axq] [axr] func368
def axu:bG:=⟨[(0,.aG 20000 0),(3,.aG 3 0),(5,.aG 5 0),(6,tI)],[(3,.aB F0),(5,.aB fj)],kV⟩
def axv:aa (Nat×bG):=[(1,⟨[(4,tB)],[],kV⟩),(2,⟨[(0,.aG 20000 0),(3,.aG 3 0),(5,.aG 5 0)],[(3,.aB F0),(5,.aB fj)],kV⟩)]
abbrev ai5:=((af×af×af×Int×af)×(av×(Int×Int×Int×Bool×Int×Int×af)×(Int×Int×Int×Int×af)×af))
def Mz(x:ai5):ah (ai5⊕(((Bool×af)×(av×af))⊕(((af×af×af×af)×(av×(Int×Int×Int×Bool×Int×Int×af)×(Int×Int×Int×Int×af)×af))⊕Empty))):=letI C:=x.1.2.2.2.1;letI D:=(x.2.1,x.2.2.1,x.2.2.2.1,());bif C<(x.2.1.cr.length:Int)then xL x.2.1.cr C λE=>bif (E.id==x.2.2.1.1)then ax ((false,()),(x.2.1,()))else xG (((),(),(),(W6 (C+1)),()),D)else aU (((),(),(),()),D)
def axw:KY 65 (aW f261):=⟨0,lB 0 axu axv Mz,lp []⟩
def SH(D:av)(E:aN):ah ((Bool)×(av×af)):=bE Mz (((),(),(),0,()),(D,(E.id,E.c9,E.line,E.write,E.data,E.at_,()),(D.config.az.cg,D.config.az.aC,(W6 (D.config.az.rows-D.config.bF)),D.config.az.aO,()),())) (λT=>some (T.1.1,(T.2.1,()))) λU=>letI C:=U.2.2;letI L:=U.2.1;(wK (⟨C.2.1.1,C.2.1.2.1,C.2.1.2.2.1,C.2.1.2.2.2.1⟩:aL)).bind λY=>(SG Y L.queue (⟨C.1.1,C.1.2.1,C.1.2.2.1,C.1.2.2.2.1,C.1.2.2.2.2.1,L.now⟩:aN)).bind λO=>bif O.2 then some (O.2,({L with queue:=O.1},()))else some (O.2,(L,()))
def axx:=jc [.p .cP 4 0,.v true .dg] bP (bx SH) 65 [RH,axt] [axw] func261
def SI(C:cO)(D:Bool):ah (cO):=letI L:=W6 ((W6 (2*C.wait))-1);(Dy C).bind λE=>letI O:=some (⟨E.aI,E.wait,D⟩:cO);letI T:=some (⟨E.aI,(W6 ((W6 (C.wait+1)).tdiv 2)),D⟩:cO);letI U:=some (⟨E.aI,(if 10000<L then 10000 else L),D⟩:cO);letI Y:=bif (!D)then bif C.dy then U else O else O;(DB C).bind λZ=>bif (!Z)then some E else bif D then bif (!C.dy)then bif (!D)then bif C.dy then U else T else T else Y else Y
def axy:=aZ [(true,.jJ),(false,.bool)] [(true,.jJ,2)] (bx SI) 38 [Zl,RL] func265
def SJ(E:fL)(C:dB):ah (fL×Bool):=(La E).bind λD=>(Gl C).bind λL=>bif (!L)then some (D,false)else (wJ C).bind λO=>some ((⟨D.bK,O,true⟩:fL),true)
def axz:=aZ [(true,.mC),(true,.jK)] F1 (bx SJ) 18 [Zj,Rw,Zq] func266
abbrev ai6:=(((aa Int)×Int×Int×af)×(af))
def MA(x:ai6):ah (ai6⊕(((Bool×af)×(af))⊕(((af)×(af))⊕Empty))):=bif x.1.2.2.1<(x.1.1.length:Int)then xI x.1.1 x.1.2.2.1 λC=>bif (C==x.1.2.1)then ax ((true,()),())else xG ((x.1.1,x.1.2.1,(W6 (x.1.2.2.1+1)),()),())else aU ((),())
def axA:KY 18 (aW f296):=⟨0,lB 0 YO [(1,iz),(2,fS)] MA,lp []⟩
def SK(C:aa Int)(D:Int):ah (Bool):=bE MA ((C,D,0,()),()) (λE=>some E.1.1) λL=>some false
def axB:=bS AS bP (bx SK) 18 [] [axA] func296
abbrev ai7:=((af×af×Int×Int×af)×((Int×Int×Int×Int×af)×(Int×(aa Int)×af)×af))
def MB(x:ai7):ah (ai7⊕(((Bool×af)×(af))⊕(((af)×(af))⊕Empty))):=letI E:=x.2.2.1.2.1;letI D:=x.1.2.2;letI C:=D.2.1;letI O:=xG (((),(),D.1,(W6 (C+1)),()),(x.2.1,x.2.2.1,()));letI L:=W6 ((W6 (C.tdiv D.1))*D.1);bif C<(E.length:Int)then xI E C λT=>if D.1=0 then none else bif (T==(C.tmod D.1))then O else xI E C λU=>(cT U D.1 (W6 (x.2.1.2.2.1-1))).bind λY=>bif (!Y)then ax ((false,()),())else if D.1=0 then none else if 0 <= L/\L <= C/\C <= (E.length:Int)then xI E C λZ=>(SK ((E.take C.toNat).drop L.toNat) Z).bind λku=>bif ku then ax ((false,()),())else O else none else aU ((),())
def axC:KY 77 (aW f169):=⟨0,lB 0 YM [(1,iz),(2,fS)] MB,lp [fG,axB]⟩
def SL(C:aL)(D:c8):ah (Bool):=letI E:=W6 (C.rows-D.bF);(Gh C D.bF).bind λL=>bif (!L.2)then some false else (o8 C).bind λO=>bif ((D.map.length:Int) != (W6 (O*E)))then some false else bE MB (((),(),E,0,()),((C.cg,C.aC,C.rows,C.aO,()),(D.bF,D.map,()),())) (λT=>some T.1.1) λU=>some true
def axD:=bS Y7 bP (bx SL) 77 [ox,Zm] [axC] func169
def MC(C:aL)(D:c8)(E L:Int):ah (Int):=letI O:=W6 (C.rows-D.bF);(SL C D).bind λT=>bif (!T)then some (-1)else (o8 C).bind λU=>(cT E 0 (W6 (U-1))).bind λY=>bif (!Y)then some (-1)else (cT L 0 (W6 (O-1))).bind λZ=>bif (!Z)then some (-1)else some (W6 ((W6 (E*O))+L))
def ai8:=aZ Dr cE (nE MC) 41 [fG,axD,ox] func436
def yX(E:aL)(C:c8)(L O:Int):ah (Int):=(MC E C L O).bind λD=>bif D<0 then some (-1)else xI C.map D λT=>some T
def ai9:=aZ Dr cE (nE yX) 22 [ai8] func369
abbrev aja:=((Int×Int×af×af×Int×af)×((Int×Int×Int×Int×af)×(Int×(aa Int)×af)×af))
def MD(x:aja):ah (aja⊕(((Int×af)×(af))⊕(((af)×(af))⊕Empty))):=letI C:=x.1.2.2.2.2.1;letI D:=xG ((x.1.1,x.1.2.1,(),(),(W6 (C+1)),()),(x.2.1,x.2.2.1,()));bif C<16 then bif x.1.2.1 >= 0 then (yX (⟨x.2.1.1,x.2.1.2.1,x.2.1.2.2.1,x.2.1.2.2.2.1⟩:aL) (⟨x.2.2.1.1,x.2.2.1.2.1⟩:c8) x.1.1 C).bind λE=>bif (E==x.1.2.1)then ax ((C,()),())else D else D else aU ((),())
def axE:KY 26 (aW f437):=⟨0,lB 0 ⟨[(2,tI),(3,tI),(4,.aG 4 0),(5,.aG 5 0),(9,tI)],[(4,.aB fj),(5,.aB Ke)],[]⟩ [(1,⟨[(8,tI)],[],[]⟩),(2,fS)] MD,lp [ai9]⟩
def SM(C:aL)(D:c8)(E L:Int):ah (Int):=bE MD ((E,L,(),(),0,()),((C.cg,C.aC,C.rows,C.aO,()),(D.bF,D.map,()),())) (λO=>some O.1.1) λT=>some (-1)
def axF:=bS Dr cE (nE SM) 26 [] [axE] func437
def axG:bG:=⟨[(2,tI),(4,.aG 4 0),(5,.aG 5 0),(8,.aG 8 0),(10,.aG 10 0),(11,tI),(12,tI)],[(4,.aB fj),(5,.aB Ke),(8,.aB FY),(10,.aB YZ),(90101,.sl .int 2),(1000000000114001,.sl .int 2)],[]⟩
def axH:aa (Nat×bG):=[(1,⟨[(8,.aG 8 0),(9,tB)],[(8,.aB YZ),(1000000000114001,.sl .int 2)],[]⟩),(2,⟨[(8,.aG 8 0),(10,.aG 10 0)],[(8,.aB FY),(10,.aB YZ),(90101,.sl .int 2),(1000000000114001,.sl .int 2)],[]⟩)]
abbrev ajb:=((Int×af×af×af×af×Int×Int×af)×((Int×Int×Int×Int×af)×(Int×(aa Int)×af)×(Int×af×af)×(Int×af×af)×(aa Int)×(aa Int)×af))
def ME(x:ajb):ah (ajb⊕(((af×Bool×af)×((Int×af×af)×(aa Int)×af))⊕(((af×af×af)×((Int×af×af)×(Int×af×af)×(aa Int)×(aa Int)×af))⊕Empty))):=letI D:=x.2.2.2.2;letI E:=D.2.2.1;letI C:=x.1.2.2.2.2.2;bif C.2.1<x.2.1.2.2.1 then (SM (⟨x.2.1.1,x.2.1.2.1,x.2.1.2.2.1,x.2.1.2.2.2.1⟩:aL) (⟨x.2.2.1.1,x.2.2.1.2.1⟩:c8) x.1.1 C.2.1).bind λL=>bif L<0 then xL E C.1 λO=>ax (((),true,()),(D.1,(E.set C.1.toNat C.2.1),()))else xG ((x.1.1,(),(),(),(),C.1,(W6 (C.2.1+1)),()),(x.2.1,x.2.2.1,x.2.2.2.1,D.1,D.2.1,E,()))else aU (((),(),()),(x.2.2.2.1,D.1,D.2.1,E,()))
def axI:KY 47 (aW f370):=⟨0,lB 0 axG axH ME,lp [axF]⟩
def SN(C:aL)(D:c8)(O Y:Int):ah (c8×Bool):=(Ld D).bind λE=>(MC C D O Y).bind λT=>bif T<0 then some (E,false)else bE ME ((O,(),(),(),(),T,(W6 (C.rows-D.bF)),()),((C.cg,C.aC,C.rows,C.aO,()),(D.bF,D.map,()),(0,(),()),(E.bF,(),()),([]:aa Int),E.map,())) (λL=>some ((⟨L.2.1.1,L.2.2.1⟩:c8),L.1.2.1)) λU=>some ((⟨U.2.2.1.1,U.2.2.2.2.1⟩:c8),false)
def axJ:=bS Dr [(true,.mB,2),(false,.bool,0)] (nE SN) 47 [ahp,ai8] [axI] func370
def axK:bG:=⟨[(0,.aG 20000 0),(3,.aG 3 0),(5,.aG 5 0),(6,tI),(7,.aG 7 0),(9,tI),(10,tI)],[(3,.aB Kh),(5,.aB fj),(7,.aB agx),(1000000000138001,.sl .int 2)],kV⟩
def axL:aa (Nat×bG):=[(2,⟨[(0,.aG 20000 0),(7,.aG 7 0)],[(7,.aB agx),(1000000000138001,.sl .int 2)],kV⟩)]
abbrev ajc:=((af×af×af×Int×af×Int×Int×af)×(av×(Int×Int×Int×af)×(Int×Int×Int×Int×af)×(Int×af×af)×(aa Int)×af))
def GP(x:ajc):ah (ajc⊕(((af×af×af)×(av×(Int×af×af)×(aa Int)×af))⊕Empty)):=letI C:=x.2.2.2;letI E:=x.1.2.2.2.2.2;letI L:=(⟨C.1.1,C.1.2.1,C.1.2.2.1,C.1.2.2.2.1⟩:aL);letI D:=x.2.1;bif E.2.1<C.1.2.2.2.1 then (DT L (⟨x.2.2.1.1,x.1.2.2.2.1,E.2.1⟩:aJ)).bind λO=>(DT L (⟨x.2.2.1.1,E.1,E.2.1⟩:aJ)).bind λT=>xL D.array.cells O λU=>xM D.array.cells O λY=>(Lb (⟨Y.symbols,U.hG⟩:bN)).bind λZ=>xL D.array.cells T λDP=>xG (((),(),(),x.1.2.2.2.1,(),E.1,(W6 (E.2.1+1)),()),({D with array:=⟨(D.array.cells.set T.toNat Z),D.array.bD,D.array.bC⟩},x.2.2.1,C.1,C.2.1,C.2.2.1,()))else ax (((),(),()),(D,C.2.1,C.2.2.1,()))
def axM:KY 102 (aW f267):=⟨0,lB 0 axK axL GP,lp [ZM,ahn]⟩
def SO(C:av)(D:aJ):ah ((Bool)×(av×af)):=(yX C.config.az C.spare D.ay D.row).bind λO=>(SN C.config.az C.spare D.ay D.row).bind λE=>bif (!E.2)then some (false,(C,()))else xL C.bq.aC D.ay λT=>bif T.open_ then some (false,(C,()))else (yX C.config.az E.1 D.ay D.row).bind λU=>bh GP (((),(),(),O,(),U,0,()),(C,(D.ay,D.row,D.bR,()),(C.config.az.cg,C.config.az.aC,C.config.az.rows,C.config.az.aO,()),(E.1.bF,(),()),E.1.map,())) λL=>letI Y:=L.2.1;some (true,({Y with spare:=⟨L.2.2.1.1,L.2.2.2.1⟩},()))
def axN:=jc [.p .cP 4 0,.v true .Addr] bP (bx SO) 102 [ai9,axJ] [axM] func267
abbrev ajd:=((af×af×Int×af)×(av×cV×af))
def MF(x:ajd):ah (ajd⊕(((af)×(av×af))⊕Empty)):=bif x.1.2.2.1<x.2.2.1.n then (Mt x.2.1).bind λC=>xG (((),(),(W6 (x.1.2.2.1+1)),()),(C.2.1,x.2.2.1,()))else ax ((),(x.2.1,()))
def axO:KY 130 (aW f135):=⟨1,lB 1 ⟨[(0,.aG 20000 0),(3,.aG 3 0),(5,tI)],[(3,.st .Act)],kV⟩ [(3,F2)] MF,lp [axn]⟩
def MG(D:av)(C:cV):ah ((Bool)×(av×af)):=letI E:=some (false,(D,()));bif (C.kind==1)then (SH D C.request).bind λO=>some (O.1,(O.2.1,()))else bif (C.kind==2)then (cT C.n 0 500).bind λZ=>bif (!Z)then E else bh MF (((),(),0,()),(D,C,())) λz4=>some (true,(z4.2.1,()))else bif (C.kind==3)then (GJ D.config.az C.addr).bind λy5=>bif (!y5)then E else (cT C.gB 0 10).bind λy6=>bif (!y6)then E else (yO C.n).bind λy7=>bif (!y7)then E else (DT D.config.az C.addr).bind λL=>xL D.array.cells L λuU=>xM D.array.cells L λiA=>xC iA.symbols C.gB (xM D.array.cells L λoy=>xM oy.symbols C.gB λoz=>xM D.array.cells L λGQ=>xC GQ.symbols C.gB (xM D.array.cells L λT=>xM T.symbols C.gB λsv=>xM D.array.cells L λtD=>some (true,({D with array:=⟨(D.array.cells.set L.toNat (⟨(T.symbols.set C.gB.toNat (bits .xor .i64 oz C.n)),tD.hG⟩:bN)),D.array.bD,D.array.bC⟩},()))))else bif (C.kind==4)then (cT C.n 0 1).bind λyY=>bif (!yY)then E else (SI D.aV (C.n==1)).bind λBb=>some (true,({D with aV:=Bb},()))else bif (C.kind==5)then (Gm D.config C.bW).bind λDY=>bif (!DY)then E else (SJ D.box C.bW).bind λU=>some (U.2,({D with box:=U.1},()))else bif (C.kind==6)then (SO D C.addr).bind λY=>some (Y.1,(Y.2.1,()))else E
def axP:=jc [.p .cP 4 0,.v true .Act] bP (bx MG) 130 [fG,ahz,axx,ZF,RM,ZM,axy,axz,axN] [axO] func135
def axQ:bG:=⟨[(2,.lf (.aF .Act 0)),(6,.aG 6 0),(8,.aG 8 0),(10,tI),(11,tI)],[],afE⟩
def axR:aa (Nat×bG):=[(2,⟨[(6,.aG 6 0),(8,.aG 8 0),(10,tI)],[],afE⟩)]
abbrev aje:=(((aa cV)×af×af×Int×Int×af)×(av×av×af))
def MI(x:aje):ah (aje⊕(((af×af×Int×af)×(av×av×af))⊕Empty)):=letI C:=x.1.2.2.2;bif C.2.1<(x.1.1.length:Int)then xI x.1.1 C.2.1 λE=>(MG x.2.2.1 E).bind λD=>bif D.1 then xG ((x.1.1,(),(),(W6 (C.1+1)),(W6 (C.2.1+1)),()),(x.2.1,D.2.1,()))else xG ((x.1.1,(),(),C.1,(W6 (C.2.1+1)),()),(x.2.1,D.2.1,()))else ax (((),(),C.1,()),(x.2.1,x.2.2.1,()))
def axS:KY 42 (aW f21):=⟨0,lB 0 axQ axR MI,lp [axP]⟩
def DZ(O:eT)(T:dB)(C:aa cV):ah (av×Int):=letI D:=some ((⟨⟨⟨0,0,0,0⟩,⟨0,0,0,0,0,0,0,0,0,0,0,0,0,0,0,0,0⟩,⟨0,false⟩,0,0,0,⟨0,0⟩⟩,⟨⟨0,0,0,0,0,[],⟨0,0⟩⟩,⟨0,0,0,0,0,[],⟨0,0⟩⟩,false⟩,0,⟨[],0⟩,⟨[],[]⟩,⟨[],[],[]⟩,⟨0,[]⟩,⟨[],0,false⟩,[],[],[],[],[],⟨false,0,0⟩,⟨0,0,0⟩,⟨0,0,0⟩,[],[],[]⟩:av),0);(Gq O T).bind λE=>bif (!E.2)then D else bif (C.length:Int) > 60 then D else bh MI ((C,(),(),0,0,()),((⟨⟨⟨0,0,0,0⟩,⟨0,0,0,0,0,0,0,0,0,0,0,0,0,0,0,0,0⟩,⟨0,false⟩,0,0,0,⟨0,0⟩⟩,⟨⟨0,0,0,0,0,([]:aa Int),⟨0,0⟩⟩,⟨0,0,0,0,0,([]:aa Int),⟨0,0⟩⟩,false⟩,0,⟨([]:aa dG),0⟩,⟨([]:aa Int),([]:aa Int)⟩,⟨([]:aa bN),([]:aa Int),([]:aa Int)⟩,⟨0,([]:aa Int)⟩,⟨([]:aa Int),0,false⟩,([]:aa bU),([]:aa Int),([]:aa aJ),([]:aa aN),([]:aa bZ),⟨false,0,0⟩,⟨0,0,0⟩,⟨0,0,0⟩,([]:aa bV),([]:aa dA),([]:aa cR)⟩:av),E.1,())) λL=>(Ry L.2.2.1).bind λU=>some (U,L.1.2.2.1)
def axT:=bS agv [(true,.cP,4),(false,.int,0)] (fR DZ) 42 [au7,avt] [axS] func21
def SP(C:aL):ah (aL):=some C
def axU:=aZ su [(true,.ga,0)] (bO SP) 17 [] func136
def SQ(C:dw):ah (dw):=some C
def axV:=aZ F4 [(true,.kI,0)] (bO SQ) 56 [] func137
def SR(C:kE):ah (kE):=some C
def axW:=aZ [(true,.oL)] [(true,.oL,0)] (bO SR) 11 [] func138
def SS(C:jx):ah (jx):=some C
def axX:=aZ [(true,.n5)] [(true,.n5,0)] (bO SS) 11 [] func139
def GR(C:eT):ah (eT):=(SP C.az).bind λD=>(SQ C.cq).bind λE=>(SR C.mapping).bind λL=>(SS C.ep).bind λO=>some (⟨D,E,L,C.bF,C.interval,C.fZ,O⟩:eT)
def axY:=aZ [(true,.Config)] [(true,.Config,0)] (bO GR) 30 [axU,axV,axW,axX] func22
abbrev ajf:=(((aa Int)×af×Int×af)×((aa Int)×af))
def ajg(x:ajf):ah (ajf⊕(((af×af)×((aa Int)×af))⊕Empty)):=letI C:=x.1.2.2.1;bif C<(x.1.1.length:Int)then xI x.1.1 C λD=>xL x.2.1 C λE=>xG ((x.1.1,(),(W6 (C+1)),()),((x.2.1.set C.toNat D),()))else ax (((),()),(x.2.1,()))
def axZ:KY 22 (aW f60):=⟨0,lB 0 ⟨[(0,.lf (.aF .int 0)),(3,.lf (.own 7)),(4,tI)],[(7,.sl .int 2)],[]⟩ [(2,⟨[(3,.lf (.own 7))],[(7,.sl .int 2)],[]⟩)] ajg,lp []⟩
def SU(D:aa Int):ah ((aa Int)):=letI C:=(D.length:Int);if 0 <= C/\C <= C/\C<1073741824 then bh ajg ((D,(),0,()),((List.replicate C.toNat (0:Int)),())) λE=>some E.2.1 else none
def ax0:=bS ou mP (bO SU) 22 [] [axZ] func60
def SV(C:lW):ah (lW):=some C
def ax1:=aZ [(true,.oM)] [(true,.oM,0)] (bO SV) 11 [] func140
def Bc(C:dB):ah (dB):=(SU C.weights).bind λD=>(SV C.de).bind λE=>some (⟨C.dM,C.cap,C.dK,C.low,C.high,D,E⟩:dB)
def ajh:=aZ Dv [(true,.jK,2)] (bO Bc) 28 [ax0,ax1] func23
def SW(C:aN):ah (aN):=some C
def ax2:=aZ [(true,.dg)] [(true,.dg,0)] (bO SW) 23 [] func143
def SX(C:aJ):ah (aJ):=some C
def ax3:=aZ [(true,.Addr)] [(true,.Addr,0)] (bO SX) 14 [] func144
def MJ(C:cV):ah (cV):=(SW C.request).bind λD=>(SX C.addr).bind λE=>(Bc C.bW).bind λL=>some (⟨C.kind,D,C.n,C.gB,E,L⟩:cV)
def ax4:=aZ [(true,.Act)] [(true,.Act,2)] (bO MJ) 26 [ajh,ax2,ax3] func32
abbrev aji:=(((aa cV)×af×Int×af)×((aa cV)×af))
def ajj(x:aji):ah (aji⊕(((af×af)×((aa cV)×af))⊕Empty)):=letI C:=x.1.2.2.1;bif C<(x.1.1.length:Int)then xI x.1.1 C λD=>(MJ D).bind λE=>xL x.2.1 C λL=>xG ((x.1.1,(),(W6 (C+1)),()),((x.2.1.set C.toNat E),()))else ax (((),()),(x.2.1,()))
def ax5:KY 23 (aW f24):=⟨0,lB 0 ⟨[(0,.lf (.aF .Act 0)),(3,.lf (.own 7)),(4,tI)],[(7,.sl .Act 4)],[]⟩ [(2,⟨[(3,.lf (.own 7))],[(7,.sl .Act 4)],[]⟩)] ajj,lp [ax4]⟩
def D0(D:aa cV):ah ((aa cV)):=letI C:=(D.length:Int);if 0 <= C/\C <= C/\C<1073741824 then bh ajj ((D,(),0,()),((List.replicate C.toNat (⟨0,⟨0,0,0,false,0,0⟩,0,0,⟨0,0,0⟩,⟨0,0,0,0,0,[],⟨0,0⟩⟩⟩:cV)),())) λE=>some E.2.1 else none
def ax6:=bS [(false,(.sl .Act))] [(false,(.sl .Act),4)] (bO D0) 23 [] [ax5] func24
def sx(C:dB):ah (dB):=bif xZ C.weights then some (⟨C.dM,C.cap,C.dK,C.low,C.high,(xA C.weights),C.de⟩:dB)else none
def SY:=aZ Dv [(true,.jK,2)] (bO sx) 9 [] func226
def GS(C:fL):ah (fL):=(sx C.bK).bind λD=>(sx C.next).bind λE=>some (⟨D,E,C.waits⟩:fL)
def ZO:=aZ [(true,.mC)] [(true,.mC,2)] (bO GS) 12 [SY] func200
def GU(C:cH):ah (cH):=bif xZ C.aC then some (⟨(xA C.aC),C.bk⟩:cH)else none
def ajk:=aZ [(true,.iO)] [(true,.iO,2)] (bO GU) 9 [] func201
def GV(C:dJ):ah (dJ):=bif xZ C.last then bif xZ C.aX then some (⟨(xA C.last),(xA C.aX)⟩:dJ)else none else none
def ajl:=aZ [(true,.jZ)] [(true,.jZ,2)] (bO GV) 12 [] func202
def MK(C:bN):ah (bN):=bif xZ C.symbols then some (⟨(xA C.symbols),C.hG⟩:bN)else none
def ajm:=aZ [(true,.Cell)] [(true,.Cell,2)] (bO MK) 9 [] func286
def ax7:bG:=⟨[(2,.aG 2 0),(3,.aG 3 0),(16,.lf (.aF .Cell 0)),(17,tI),(18,tI)],afJ,[]⟩
def ax8:aa (Nat×bG):=[(2,⟨Y3,afJ,[]⟩)]
abbrev ajn:=((af×af×(aa bN)×Int×Int×af)×((af×af×af×af)×(af×af×af×af)×(aa bN)×(aa Int)×(aa Int)×(aa bN)×(aa Int)×(aa Int)×af))
def ML(x:ajn):ah (ajn⊕(((af×af×af)×((af×af×af×af)×(af×af×af×af)×(aa bN)×(aa Int)×(aa Int)×(aa bN)×(aa Int)×(aa Int)×af))⊕Empty)):=letI E:=x.2.2.2;letI D:=x.1.2.2;letI L:=((),(),(),());letI C:=E.2.2;bif D.2.2.1<D.2.1 then xI D.1 D.2.2.1 λT=>(MK T).bind λO=>bif bI (C.2.1.length+[O].length)then xG (((),(),D.1,D.2.1,(W6 (D.2.2.1+1)),()),(L,L,E.1,E.2.1,C.1,(C.2.1++[O]),C.2.2.1,C.2.2.2.1,()))else none else ax (((),(),()),(L,L,E.1,E.2.1,C.1,C.2.1,C.2.2.1,C.2.2.2.1,()))
def ax9:KY 31 (aW f203):=⟨0,lB 0 ax7 ax8 ML,lp [ajm]⟩
def D1(C:cN):ah (cN):=bif xZ C.bD then bif xZ C.bC then bh ML (((),(),C.cells,(C.cells.length:Int),0,()),(((),(),(),()),((),(),(),()),([]:aa bN),([]:aa Int),([]:aa Int),([]:aa bN),(xA C.bD),(xA C.bC),())) λE=>letI D:=E.2.2.2.2.2.2;some (⟨D.1,D.2.1,D.2.2.1⟩:cN)else none else none
def ZP:=bS [(true,.Array)] [(true,.Array,4)] (bO D1) 31 [] [ax9] func203
def ajo(C:aa Int):ah ((aa Int)):=bif ke C then none else bif bI (([]:aa Int).length+C.length)then some (([]:aa Int)++C)else none
def SZ(C:aa Int):ah ((aa Int)):=bif ke C then some []else ajo C
def ajp:jl:=gW [(false,(.sl .int))] [(false,(.sl .int),2)] (λx=>SZ x.1)
def aya:enters Tryz.prog 204/\iR Tryz.prog 204 ajp:=Dk 8 [] [] func204 trivial sq (t:=.int) (g:=2) (F:=ajo) λx=>by kernel_rfl
def uX(C:cO):ah (cO):=bif xZ C.aI then some (⟨(xA C.aI),C.wait,C.dy⟩:cO)else none
def S0:=aZ F3 [(true,.jJ,2)] (bO uX) 9 [] func205
end Go.Proofs.YtnilicojgkhpnaaGreat
