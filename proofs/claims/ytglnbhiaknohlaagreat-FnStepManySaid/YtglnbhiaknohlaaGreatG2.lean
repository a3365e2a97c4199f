/-
  Functions of the program as plain functions of contents, and that the code computes them. Nothing here is a claim.
-/
import Derived.Test.YtglnbhiaknohlaaGreatVZ
import Derived.Test.YtglnbhiaknohlaaGreatRows
import Derived.Test.YtglnbhiaknohlaaGreatG1
namespace Go.Proofs.YtglnbhiaknohlaaGreat
set_option linter.defProp false
open Go.RowKit Go.Proofs.Tryz
set_option linter.unusedVariables false
set_option maxRecDepth 100000
def O4(C:dJ):ah (fU×Bool):=(EB C).bind λD=>bif (!D)then some ((⟨⟨0,0,0,0,0,[],⟨0,0⟩⟩,⟨0,0,0,0,0,[],⟨0,0⟩⟩,false⟩:fU),false)else (vj C).bind λE=>(vj C).bind λI=>some ((⟨E,I,false⟩:fU),true)
def arc:=bw IG OM (bR O4) 13 [OU,XH] func277
def O5(C D:Int):ah (cY×Bool):=letI E:=some ((⟨[],0,false⟩:cY),false);(cP C 1 8).bind λI=>bif (!I)then E else (cP D 2 10000).bind λJ=>bif (!J)then E else if 0 <= C/\C <= C/\C<1073741824 then some ((⟨(List.replicate C.toNat (0:Int)),D,false⟩:cY),true)else none
def ard:=bw BY [(true,.kV,2),(false,.bool,0)] (bS O5) 19 [ff] func278
def XI(C:Int):ah (kS×Bool):=(cP C 1 100000).bind λD=>bif (!D)then some ((⟨0,0,0⟩:kS),false)else some ((⟨0,C,C⟩:kS),true)
def arf:=bw lD [(true,.qS,0),(false,.bool,0)] (bR XI) 11 [ff] func280
def arh:bJ:=⟨[(2,.aG 2 0),(3,.aG 3 0),(4,.aG 4 0),(6,.aG 6 0),(7,tI),(8,tI)],[(2,.st .Config),(3,.aB zL)],adQ⟩
def ari:aa (Nat×bJ):=[(2,⟨[(3,.aG 3 0),(4,.aG 4 0),(6,.aG 6 0)],[(3,.aB zL)],adQ⟩)]
abbrev aeT:=((af×af×af×af×Int×Int×af)×(av×av×eT×(Int×Int×Int×Int×Int×(aa Int)×Int×Int×af)×af))
def ED(x:aeT):ah (aeT⊕(((af×af×af×af)×(av×av×(Int×Int×Int×Int×Int×(aa Int)×Int×Int×af)×af))⊕Empty)):=letI E:=x.2.2.2.2.1;letI I:=([E.2.2.1]:aa Int);letI D:=x.1.2.2.2.2;letI C:=x.2.2.1;bif D.2.1<D.1 then (EC x.2.2.2.1.gU).bind λJ=>bif bC (C.bO.length+[J.1].length)then bif bC (C.guard.length+I.length)then xG (((),(),(),(),D.1,(W6 (D.2.1+1)),()),(x.2.1,{C with bO:=(C.bO++[J.1]),guard:=(C.guard++I)},x.2.2.2.1,E,()))else none else none else ay (((),(),(),()),(x.2.1,C,E,()))
def arj:KY 95 (aZ f191):=⟨0,lB 0 arh ari ED,lp [aeR]⟩
def O6(D:eT)(C:dJ):ah (av×Bool):=(B4 D C).bind λJ=>bif (!J)then some ((⟨⟨⟨0,0,0,0⟩,⟨0,0,0,0,0,0,0,0,0,0,0,0,0,0,0,0,0⟩,⟨0,false⟩,0,0,0,⟨0,0⟩⟩,⟨⟨0,0,0,0,0,[],⟨0,0⟩⟩,⟨0,0,0,0,0,[],⟨0,0⟩⟩,false⟩,0,⟨[],0⟩,⟨[],[]⟩,⟨[],[],[]⟩,⟨0,[]⟩,⟨[],0,false⟩,[],[],[],[],[],⟨false,0,0⟩,⟨0,0,0⟩,⟨0,0,0⟩,[],[],[]⟩:av),false)else (OY D.az).bind λL=>(O2 D.az).bind λO=>(O3 D.az).bind λQ=>(mV D.az).bind λE=>(O4 C).bind λT=>(Ex D.az D.bP).bind λU=>(O5 E D.interval).bind λY=>bu ED (((),(),(),(),E,0,()),((⟨⟨⟨0,0,0,0⟩,⟨0,0,0,0,0,0,0,0,0,0,0,0,0,0,0,0,0⟩,⟨0,false⟩,0,0,0,⟨0,0⟩⟩,⟨⟨0,0,0,0,0,([]:aa Int),⟨0,0⟩⟩,⟨0,0,0,0,0,([]:aa Int),⟨0,0⟩⟩,false⟩,0,⟨([]:aa eP),0⟩,⟨([]:aa Int),([]:aa Int)⟩,⟨([]:aa bY),([]:aa Int),([]:aa Int)⟩,⟨0,([]:aa Int)⟩,⟨([]:aa Int),0,false⟩,([]:aa cr),([]:aa Int),([]:aa aK),([]:aa aX),([]:aa cw),⟨false,0,0⟩,⟨0,0,0⟩,⟨0,0,0⟩,([]:aa cv),([]:aa eY),([]:aa eM)⟩:av),(⟨D,T.1,0,L,O,Q,U.1,Y.1,([]:aa cr),([]:aa Int),([]:aa aK),([]:aa aX),([]:aa cw),⟨false,C.low,C.high⟩,⟨0,0,0⟩,⟨0,0,0⟩,([]:aa cv),([]:aa eY),([]:aa eM)⟩:av),D,(C.eS,C.cap,C.eZ,C.low,C.high,C.weights,C.dS.down,C.dS.sleep,()),())) λI=>letI Z:=I.2.2.1;(zP I.2.2.2.1.2.2.2.2.2.1).bind λje=>(XI 10).bind λjU=>some ({Z with shares:=je.1,cM:=jU.1},true)
def ark:=cg Xt [(true,.cO,4),(false,.bool,0)] (bS O6) 95 [mq,XD,aqY,aeO,aq7,arb,arc,ard,XG,arf] [arj] func191
def EE(C:aM)(D:aK):ah (Bool):=(mV C).bind λE=>(cP D.ax 0 (W6 (E-1))).bind λI=>bif I then (cP D.row 0 (W6 (C.rows-1))).bind λJ=>bif J then (cP D.bT 0 (W6 (C.aN-1))).bind λL=>some L else some false else some false
def XJ:=bw ON cm (bS EE) 27 [mq,ff] func248
def B5(D:aM)(C:aK):ah (Int):=(EE D C).bind λE=>bif (!E)then some (-1)else some (W6 ((W6 ((W6 ((W6 (C.ax*D.rows))+C.row))*D.aN))+C.bT))
def XK:=bw ON dN (bS B5) 23 [XJ] func265
def I0(C:Int):ah (Bool):=(cP C 0 4294967295).bind λD=>some D
def aeU:=bw lD cm (bR I0) 5 [ff] func320
def O7(E:Int)(C:aX):ah (Bool):=letI D:=(cP C.at_ 0 1000000).bind λI=>some I;(cP C.id 1 100000).bind λJ=>bif J then (cP C.dI 0 3).bind λL=>bif L then bif C.line >= 0 then bif C.line<E then (I0 C.data).bind λO=>bif O then bif C.write then D else bif (C.data==0)then D else some false else some false else some false else some false else some false else some false
def arl:=bw [(false,.int),(true,.di)] cm (bS O7) 43 [ff,aeU] func250
def O8(C D:aX):ah (Bool):=bif C.at_<D.at_ then some true else bif (C.at_==D.at_)then some (C.id<D.id)else some false
def aeV:=bw [(true,.di),(true,.di)] cm (bS O8) 24 [] func251
abbrev aeW:=(((aa aX)×Int×Int×af)×(af))
def I1(x:aeW):ah (aeW⊕(((Int×af)×(af))⊕(((af)×(af))⊕Empty))):=letI C:=x.1.2.2.1;bif C<(x.1.1.length:Int)then xI x.1.1 C λD=>bif (D.id==x.1.2.1)then ay ((C,()),())else xG ((x.1.1,x.1.2.1,(W6 (C+1)),()),())else aV ((),())
def arn:KY 20 (aZ f252):=⟨0,lB 0 ad9 [(1,wZ),(2,fG)] I1,lp []⟩
def I2(C:aa aX)(D:Int):ah (Int):=bQ I1 ((C,D,0,()),()) (λE=>some E.1.1) λI=>some (-1)
def aeX:=cg OK dN (bS I2) 20 [] [arn] func252
abbrev aeY:=((Int×(aa aX)×Int×af)×(af))
def I3(x:aeY):ah (aeY⊕(((Bool×af)×(af))⊕(((af)×(af))⊕Empty))):=letI E:=ay ((false,()),());letI D:=x.1.2.1;letI C:=x.1.2.2.1;letI I:=xI D C λJ=>(I2 D J.id).bind λL=>bif (L != C)then E else xG ((x.1.1,D,(W6 (C+1)),()),());bif C<(D.length:Int)then xI D C λO=>(O7 x.1.1 O).bind λQ=>bif (!Q)then E else bif C > 0 then xI D (W6 (C-1)) λT=>xI D C λU=>(O8 T U).bind λY=>bif (!Y)then E else I else I else aV ((),())
def aro:KY 50 (aZ f165):=⟨0,lB 0 ⟨[(0,tI),(1,.lf (.aD .di 0)),(5,tI)],[],[]⟩ [(1,ia),(2,fG)] I3,lp [arl,aeV,aeX]⟩
def xd(D:Int)(C:aa aX):ah (Bool):=bif (C.length:Int) > 12 then some false else bQ I3 ((D,C,0,()),()) (λE=>some E.1.1) λI=>some true
def arp:=cg [(false,.int),(false,(.sl .di))] cm (bS xd) 50 [] [aro] func165
abbrev aeZ:=((Int×(aa aX)×af×af×Bool×Int×af)×((Int×Int×Int×Bool×Int×Int×af)×(aa aX)×af))
def I4(x:aeZ):ah (aeZ⊕(((Int×(aa aX)×af×af×Bool×af)×((Int×Int×Int×Bool×Int×Int×af)×(aa aX)×af))⊕Empty)):=letI C:=x.2.1;letI E:=x.2.2.1;letI D:=x.1.2.1;letI J:=x.1.2.2.2.2;letI I:=J.2.1;letI O:=xI D I λQ=>bif bC (E.length+([Q]:aa aX).length)then xG ((x.1.1,D,(),(),J.1,(W6 (I+1)),()),(C,(E++([Q]:aa aX)),()))else none;letI T:=(⟨C.1,C.2.1,C.2.2.1,C.2.2.2.1,C.2.2.2.2.1,C.2.2.2.2.2.1⟩:aX);letI L:=([T]:aa aX);bif I<(D.length:Int)then bif (!J.1)then xI D I λY=>(O8 T Y).bind λZ=>bif Z then bif bC (E.length+L.length)then xI D I λU=>bif bC ((E++L).length+([U]:aa aX).length)then xG ((x.1.1,D,(),(),true,(W6 (I+1)),()),(C,((E++L)++([U]:aa aX)),()))else none else none else O else O else ay ((x.1.1,D,(),(),J.1,()),(C,E,()))
def arq:KY 59 (aZ f330):=⟨0,lB 0 ⟨[(0,tI),(1,.lf (.aD .di 0)),(5,.aG 5 0),(8,.lf (.own 11)),(9,tB),(10,tI)],[(5,.aB IA),(11,.sl .di 2)],[]⟩ [(2,⟨[(0,tI),(1,.lf (.aD .di 0)),(5,.aG 5 0),(8,.lf (.own 11)),(9,tB)],[(5,.aB IA),(11,.sl .di 2)],[]⟩)] I4,lp [aeV]⟩
def O9(Q:Int)(T:aa aX)(E:aX):ah ((aa aX)×Bool):=bu I4 ((Q,T,(),(),false,0,()),((E.id,E.dI,E.line,E.write,E.data,E.at_,()),([]:aa aX),())) λO=>letI C:=O.1;letI D:=O.2;letI I:=D.1.2.2;letI J:=bif xZ C.2.1 then some ((xA C.2.1),false)else none;letI L:=([(⟨D.1.1,D.1.2.1,I.1,I.2.1,I.2.2.1,I.2.2.2.1⟩:aX)]:aa aX);bif (!C.2.2.2.2.1)then bif bC (D.2.1.length+L.length)then (xd C.1 C.2.1).bind λU=>bif (!U)then J else (xd C.1 (D.2.1++L)).bind λY=>bif (!Y)then J else some ((D.2.1++L),true)else none else (xd C.1 C.2.1).bind λZ=>bif (!Z)then J else (xd C.1 D.2.1).bind λlE=>bif (!lE)then J else some (D.2.1,true)
def ars:=cg [(false,.int),(false,(.sl .di)),(true,.di)] [(false,(.sl .di),2),(false,.bool,0)] (fz O9) 59 [arp] [arq] func330
def art:bJ:=⟨[(0,.aG 20000 0),(3,.aG 3 0),(5,.aG 5 0),(6,tI)],[(3,.aB IA),(5,.aB fA)],lC⟩
def aru:aa (Nat×bJ):=[(1,⟨[(4,tB)],[],lC⟩),(2,⟨[(0,.aG 20000 0),(3,.aG 3 0),(5,.aG 5 0)],[(3,.aB IA),(5,.aB fA)],lC⟩)]
abbrev ae0:=((af×af×af×Int×af)×(av×(Int×Int×Int×Bool×Int×Int×af)×(Int×Int×Int×Int×af)×af))
def I5(x:ae0):ah (ae0⊕(((Bool×af)×(av×af))⊕(((af×af×af×af)×(av×(Int×Int×Int×Bool×Int×Int×af)×(Int×Int×Int×Int×af)×af))⊕Empty))):=letI C:=x.1.2.2.2.1;letI D:=(x.2.1,x.2.2.1,x.2.2.2.1,());bif C<(x.2.1.cz.length:Int)then xL x.2.1.cz C λE=>bif (E.id==x.2.2.1.1)then ay ((false,()),(x.2.1,()))else xG (((),(),(),(W6 (C+1)),()),D)else aV (((),(),(),()),D)
def arv:KY 65 (aZ f281):=⟨0,lB 0 art aru I5,lp []⟩
def Pa(D:av)(E:aX):ah ((Bool)×(av×af)):=bQ I5 (((),(),(),0,()),(D,(E.id,E.dI,E.line,E.write,E.data,E.at_,()),(D.config.az.cu,D.config.az.aC,(W6 (D.config.az.rows-D.config.bP)),D.config.az.aN,()),())) (λL=>some (L.1.1,(L.2.1,()))) λO=>letI C:=O.2.2;letI I:=O.2.1;(tV (⟨C.2.1.1,C.2.1.2.1,C.2.1.2.2.1,C.2.1.2.2.2.1⟩:aM)).bind λQ=>(O9 Q I.queue (⟨C.1.1,C.1.2.1,C.1.2.2.1,C.1.2.2.2.1,C.1.2.2.2.2.1,I.now⟩:aX)).bind λJ=>bif J.2 then some (J.2,({I with queue:=J.1},()))else some (J.2,(I,()))
def arw:=oC [.p .cO 4 0,.v true .di] cm (bS Pa) 65 [IY,ars] [arv] func281
def Pb(C:Int):ah (Bool×Bool×Bool):=(cP C 1 5).bind λD=>bif (C==2)then some (D,(C==1),true)else some (D,(C==1),(C==3))
def arx:=bw lD [(false,.bool,0),(false,.bool,0),(false,.bool,0)] (bR Pb) 15 [ff] func226
def Pc(C:aH):ah (Bool):=letI E:=(cP C.kind 1 9).bind λL=>bif L then (cP C.ax 0 7).bind λO=>bif O then (cP C.row 0 15).bind λQ=>bif Q then (cP C.bT 0 7).bind λT=>some T else some false else some false else some false;(Pb C.kind).bind λD=>letI I:=bif (!D.2.2)then bif (C.bT != 0)then some false else E else E;letI J:=bif (!D.2.1)then bif (C.row != 0)then some false else I else I;bif (!D.1)then bif (C.ax != 0)then some false else J else J
def ary:=bw [(true,.Command)] cm (bR Pc) 56 [ff,arx] func255
def I6(D:aM)(C:aH):ah (Bool):=(Pc C).bind λE=>bif E then (EE D (⟨C.ax,C.row,C.bT⟩:aK)).bind λI=>some I else some false
def ae1:=bw Xu cm (bS I6) 18 [XJ,ary] func170
abbrev ae2:=((af×af×Int×af)×(((aa eP)×Int×af)×(aa Int)×af))
def EF(x:ae2):ah (ae2⊕(((af×af)×((aa Int)×af))⊕Empty)):=letI C:=x.1.2.2.1;letI D:=((),(),(W6 (C+1)),());bif C<(x.2.1.1.length:Int)then xI x.2.1.1 C λE=>bif E.open_ then bif bC (x.2.2.1.length+([C]:aa Int).length)then xG (D,(x.2.1,(x.2.2.1++([C]:aa Int)),()))else none else xG (D,(x.2.1,x.2.2.1,()))else ay (((),()),(x.2.2.1,()))
def arz:KY 24 (aZ f311):=⟨0,lB 0 ⟨aez,[(1,.aB B0),(5,.sl .int 2)],[]⟩ [(2,Xj)] EF,lp []⟩
def I7(C:cK):ah ((aa Int)):=bu EF (((),(),0,()),((C.aC,C.bg,()),([]:aa Int),())) λD=>some D.2.1
def ae3:=cg [(true,.gV)] mm (bR I7) 24 [] [arz] func311
def Pd(D:cK)(C:aH):ah (Bool):=letI E:=D.bg==0;letI L:=bif E then xI D.aC C.ax λQ=>some (!Q.open_)else some false;letI I:=bif E then xI D.aC C.ax λT=>some T.open_ else some false;letI J:=bif (C.kind==6)then some E else bif (C.kind==8)then bif E then (I7 D).bind λU=>some ((U.length:Int)==0)else some false else bif (C.kind==7)then some (D.bg==1)else some (D.bg==2);letI O:=bif (C.kind==2)then bif (C.kind==2)then I else J else bif (C.kind==3)then bif (C.kind==3)then I else J else bif (C.kind==4)then I else J;bif (C.kind==1)then bif (C.kind==1)then L else O else bif (C.kind==5)then L else O
def arB:=bw [(true,.gV),(true,.Command)] cm (bS Pd) 63 [ae3] func256
def I8(C:c7)(D E:Int):ah (Int):=letI L:=some (W6 (C.wr+C.rp));letI O:=some (W6 (C.iY+C.rp));letI Q:=some (W6 (C.gw+C.rp));letI J:=E==5;letI I:=E==4;(B3 C).bind λT=>bif (!T)then some 0 else bif (E==1)then bif (D==1)then bif (E==2)then some C.jI else bif (E==3)then some C.jI else bif I then some C.gw else Q else bif (D==2)then bif I then some C.iY else O else bif (D==3)then bif I then some C.wr else L else bif (D==4)then some C.rp else bif (D==5)then some C.nB else some 0 else bif (D==1)then bif (E==2)then some C.jI else bif (E==3)then some C.jI else bif I then some C.gw else bif J then Q else some 0 else bif (D==2)then bif I then some C.iY else bif J then O else some 0 else bif (D==3)then bif I then some C.wr else bif J then L else some 0 else bif (D==4)then bif J then some C.rp else some 0 else bif (D==5)then bif J then some C.nB else some 0 else some 0
def ae4:=bw [(true,.kT),(false,.int),(false,.int)] dN (fz I8) 57 [OZ] func347
def Pe(C:Bool)(D E:Int):ah (Int):=bif C then some D else some E
def arC:=bw [(false,.bool),(false,.int),(false,.int)] dN (fz Pe) 10 [] func357
def I9(C:c7)(D E:Int)(I:Bool):ah (Int):=(let J:Bool -> ah (Int):=λj4=>bif j4 then some 0 else bif (D==7)then some C.xp else bif (D==9)then some C.xs else (let L:Bool -> ah (Int):=λj6=>bif j6 then some C.n8 else (let Q:Bool -> ah (Int):=λj7=>bif j7 then (Pe I C.jJ C.nq).bind λy8=>some y8 else (let O:Bool -> ah (Int):=λj9=>bif j9 then (Pe I C.nu C.nt).bind λxe=>some xe else (let T:Bool -> ah (Int):=λXL=>bif XL then (Pe I C.nA C.ny).bind λjU=>some jU else (let U:Bool -> ah (Int):=λB6=>bif B6 then some C.pT else (let Y:Bool -> ah (Int):=λXM=>bif XM then some C.jJ else (let Z:Bool -> ah (Int):=λXN=>bif XN then some C.iY else (let zR:Bool -> ah (Int):=λJa=>bif Ja then some C.wr else bif (E==8)then (I8 C D 1).bind λkF=>some kF else some 0;bif (E==6)then (zR (D==3))else (zR false));bif (E==6)then (Z (D==2))else (Z false));bif (D==5)then (Y (E==5))else (Y false));bif (D==2)then (U (E==3))else (U false));bif (D==3)then (T (E==2))else (T false));bif (D==E)then bif (D==2)then (O true)else (O (D==3))else (O false));bif (D==1)then (Q (E==1))else (Q false));letI u0:=bif (D==8)then (L (E==9))else (L false);bif (D==6)then bif (E==7)then (L true)else u0 else u0);(B3 C).bind λy1=>bif (!y1)then (J true)else (cP D 1 9).bind λy2=>bif (!y2)then (J true)else (cP E 1 9).bind λy3=>(J (!y3)))
def arD:=bw aei dN (oD I9) 135 [ff,OZ,ae4,arC] func346
def zS(J:aM)(Q:c7)(D C:aH):ah (Int):=letI T:=I8 Q D.kind C.kind;letI U:=I9 Q D.kind C.kind false;bif D.kind <= 5 then bif C.kind <= 5 then if J.aC=0 then none else if J.aC=0 then none else (I9 Q D.kind C.kind ((W6 (D.ax.tdiv J.aC))==(W6 (C.ax.tdiv J.aC)))).bind λE=>letI Y:=some (if 1 > E then 1 else E);bif C.kind <= 5 then bif (D.ax==C.ax)then T.bind λL=>some (if 1 > (if L > E then L else E)then 1 else (if L > E then L else E))else Y else Y else U.bind λI=>letI Z:=some (if 1 > I then 1 else I);bif C.kind <= 5 then bif (D.ax==C.ax)then T.bind λO=>some (if 1 > (if O > I then O else I)then 1 else (if O > I then O else I))else Z else Z else U.bind λy5=>some (if 1 > y5 then 1 else y5)
def arE:=bw aej dN (oD zS) 57 [arD,ae4] func321
abbrev ae5:=((af×af×af×af×Int×Int×af)×((Int×Int×Int×Int×af)×c7×((aa Int)×(aa Int)×af)×(Int×Int×Int×Int×af)×af))
def Jb(x:ae5):ah (ae5⊕(((af×af×af×Int×af)×(c7×((aa Int)×(aa Int)×af)×(Int×Int×Int×Int×af)×af))⊕Empty)):=letI E:=x.2.2.2.1;letI Q:=(⟨x.2.1.1,x.2.1.2.1,x.2.1.2.2.1,x.2.1.2.2.2.1⟩:aM);letI I:=x.2.2.2.2.1;letI T:=(⟨I.1,I.2.1,I.2.2.1,I.2.2.2.1⟩:aH);letI J:=(x.2.1,x.2.2.1,E,I,());letI C:=x.1.2.2.2.2;letI D:=C.2.1;letI L:=W6 (D+1);letI O:=W6 ((D.tmod 9)+1);bif D<(E.1.length:Int)then xI E.1 D λY=>bif Y<0 then xG (((),(),(),(),C.1,L,()),J)else bif O <= 5 then xI E.1 D λZ=>(zS Q x.2.2.1 (⟨O,(W6 (D.tdiv 9)),0,0⟩:aH) T).bind λy5=>letI u8:=W6 (Z+y5);xG (((),(),(),(),(if u8 > C.1 then u8 else C.1),L,()),J)else xI E.1 D λe7=>(zS Q x.2.2.1 (⟨O,0,0,0⟩:aH) T).bind λy8=>letI U:=W6 (e7+y8);xG (((),(),(),(),(if U > C.1 then U else C.1),L,()),J)else ay (((),(),(),C.1,()),(x.2.2.1,E,I,()))
def arF:KY 67 (aZ f257):=⟨0,lB 0 ⟨[(4,.aG 4 0),(5,.aG 5 0),(6,.aG 6 0),(7,.aG 7 0),(9,tI),(10,tI)],aeg,[]⟩ [(2,adT)] Jb,lp [arE]⟩
def Pf(D:aM)(O:c7)(J:dG)(E:aH):ah (Int):=bu Jb (((),(),(),(),0,0,()),((D.cu,D.aC,D.rows,D.aN,()),O,(J.last,J.bf,()),(E.kind,E.ax,E.row,E.bT,()),())) λC=>letI I:=C.1.2.2.2.1;bif (C.2.2.2.1.1==1)then bif ((C.2.2.1.2.1.length:Int)==4)then xI C.2.2.1.2.1 (0:Int) λQ=>letI L:=W6 (Q+C.2.1.jK);some (if L > C.1.2.2.2.1 then L else I)else some I else some I
def arG:=cg aek dN (oD Pf) 67 [] [arF] func257
def B7(C:av)(D:aH):ah (Bool):=(Pd C.bq D).bind λI=>bif (!I)then some false else (Pf C.config.az C.config.bL C.ready D).bind λE=>bif E <= 1000000 then some (E <= C.now)else some false
def Pg:=bw [(false,.kW),(true,.Command)] cm (bS B7) 39 [arB,arG] func171
def zU(D:cK)(C:aK)(I:Bool):ah (aH):=letI E:=some (⟨1,C.ax,C.row,0⟩:aH);(cP C.ax 0 (W6 ((D.aC.length:Int)-1))).bind λJ=>bif (!J)then E else xI D.aC C.ax λL=>bif (!L.open_)then E else xI D.aC C.ax λO=>bif (O.row != C.row)then some (⟨4,C.ax,0,0⟩:aH)else bif I then some (⟨3,C.ax,0,C.bT⟩:aH)else some (⟨2,C.ax,0,C.bT⟩:aH)
def XO:=bw [(true,.gV),(true,.Addr),(false,.bool)] IF (fz zU) 54 [ff] func172
def Ph(C:aM)(E:kQ)(I:Int):ah (aK×Bool):=letI Y:=some ((⟨0,0,0⟩:aK),false);letI L:=I.tmod C.aN;letI J:=W6 (I.tdiv C.aN);letI O:=J.tmod C.rows;(Ez E).bind λZ=>bif (!Z)then Y else (tV C).bind λy2=>(cP I 0 (W6 (y2-1))).bind λy3=>bif (!y3)then Y else (mV C).bind λD=>letI Q:=W6 (J.tdiv D);letI T:=W6 (I.tdiv D);letI U:=W6 (T.tdiv C.aN);bif (E.order==0)then if C.aN=0 then none else if C.aN=0 then none else if D=0 then none else if C.aN=0 then none else if D=0 then none else bif E.hash then if D=0 then none else some ((⟨((W6 ((J.tmod D)+Q)).tmod D),Q,L⟩:aK),true)else some ((⟨(J.tmod D),Q,L⟩:aK),true)else bif (E.order==1)then if D=0 then none else if D=0 then none else if C.aN=0 then none else if D=0 then none else if C.aN=0 then none else bif E.hash then if D=0 then none else some ((⟨((W6 ((I.tmod D)+U)).tmod D),U,(T.tmod C.aN)⟩:aK),true)else some ((⟨(I.tmod D),U,(T.tmod C.aN)⟩:aK),true)else if C.aN=0 then none else if C.aN=0 then none else if C.rows=0 then none else if C.aN=0 then none else if C.rows=0 then none else bif E.hash then if D=0 then none else some ((⟨((W6 ((W6 (J.tdiv C.rows))+O)).tmod D),O,L⟩:aK),true)else some ((⟨(W6 (J.tdiv C.rows)),O,L⟩:aK),true)
def arH:=bw [(true,.fM),(true,.qR),(false,.int)] Xr (fz Ph) 94 [IY,mq,ff,aeJ] func258
def xg(C:av)(I:Int):ah (aK):=letI E:=W6 (C.config.az.rows-C.config.bP);(Ph (⟨C.config.az.cu,C.config.az.aC,E,C.config.az.aN⟩:aM) C.config.mapping I).bind λD=>xI C.spare.map (W6 ((W6 (D.1.ax*E))+D.1.row)) λJ=>some (⟨D.1.ax,J,D.1.bT⟩:aK)
def Pj:jo:=gp [(false,.kW),(false,.int)] [(true,.Addr,0)] (λx=>xg x.1 x.2.1)
def XP:enters Tryz.prog 173/\iP Tryz.prog 173 Pj:=kp 50 [arH] func173
def zV(C:av)(E:aH)(D:Int):ah (Bool):=letI J:=bif D >= 0 then bif (C.cz.length:Int)<400 then if O:0 <= D/\D.toNat<C.queue.length then (let Q:=C.queue[D.toNat]'O.2;if T:0 <= D/\D.toNat<C.queue.length then (let U:=C.queue[D.toNat]'T.2;(xg C Q.line).bind λY=>(zU C.bq Y U.write).bind λI=>some ((I.kind==E.kind)&&((I.ax==E.ax)&&((I.row==E.row)&&((I.bT==E.bT)&&true)))))else none)else none else some false else some false;letI L:=bif (E.kind != 2)then bif (E.kind != 3)then some true else J else J;(I6 C.config.az E).bind λZ=>bif (!Z)then some false else (B7 C E).bind λy2=>bif (!y2)then some false else bif (C.trace.length:Int) >= 2000 then some false else bif (D != (-1))then (cP D 0 (W6 ((C.queue.length:Int)-1))).bind λy3=>bif (!y3)then some false else L else L
def arI:KX:=⟨72,.q (gp [(false,.kW),(true,.Command),(false,.int)] [(false,.bool,0)] λx=>zV x.1 x.2.1 x.2.2.1),kp 89 [ff,ae1,Pg,XO,⟨173,.p Pj,XP⟩] func72⟩
def Pm(D:aM)(C:Int):ah (Bool):=(mV D).bind λE=>some ((decide ((W6 ((C.tmod 9)+1)) <= 5))==(decide ((W6 (C.tdiv 9))<E)))
def arJ:=bw IB cm (bS Pm) 15 [mq] func245
abbrev ae6:=((af×af×Int×af)×((Int×Int×Int×Int×af)×((aa Int)×(aa Int)×af)×af))
def Jc(x:ae6):ah (ae6⊕(((Bool×af)×(af))⊕(((af×af)×(((aa Int)×(aa Int)×af)×af))⊕Empty))):=letI C:=x.2.2.1;letI D:=x.1.2.2.1;letI E:=xG (((),(),(W6 (D+1)),()),(x.2.1,C,()));bif D<(C.1.length:Int)then xI C.1 D λI=>(cP I (-1) 1000000).bind λJ=>bif (!J)then ay ((false,()),())else (Pm (⟨x.2.1.1,x.2.1.2.1,x.2.1.2.2.1,x.2.1.2.2.2.1⟩:aM) D).bind λL=>bif (!L)then xI C.1 D λO=>bif (O != (-1))then ay ((false,()),())else E else E else aV (((),()),(C,()))
def arK:KY 86 (aZ f161):=⟨0,lB 0 ⟨[(2,.aG 2 0),(3,.aG 3 0),(5,tI)],[(2,.aB fA),(3,.aB BZ)],[]⟩ [(1,ia),(2,aem)] Jc,lp [ff,arJ]⟩
abbrev ae7:=((af×Int×af)×(((aa Int)×(aa Int)×af)×af))
def Jd(x:ae7):ah (ae7⊕(((Bool×af)×(af))⊕(((af)×(af))⊕Empty))):=letI D:=x.2.1.2.1;letI C:=x.1.2.1;letI E:=xG (((),(W6 (C+1)),()),(x.2.1,()));bif C<(D.length:Int)then xI D C λI=>(cP I 0 1000000).bind λJ=>bif (!J)then ay ((false,()),())else bif C > 0 then xI D (W6 (C-1)) λL=>xI D C λO=>bif L >= O then ay ((false,()),())else E else E else aV ((),())
def arL:KY 86 (aZ f161):=⟨2,lB 2 ⟨[(3,.aG 3 0),(6,tI)],[(3,.aB BZ)],[]⟩ [(1,ia),(4,fG)] Jd,lp [ff]⟩
def Pn(C:aM)(D:dG):ah (Bool):=(xb C).bind λE=>bif (!E)then some false else (mV C).bind λI=>bif ((D.last.length:Int) != (W6 (9*(W6 (I+1)))))then some false else bif (D.bf.length:Int) > 4 then some false else bQ Jc (((),(),0,()),((C.cu,C.aC,C.rows,C.aN,()),(D.last,D.bf,()),())) (λJ=>some J.1.1) λL=>bQ Jd (((),0,()),(L.2.1,())) (λO=>some O.1.1) λQ=>some true
def arM:=cg [(true,.fM),(true,.kU)] cm (bS Pn) 86 [Ew,mq] [arK,arL] func161
def arN:enters Tryz.prog 259/\qm Tryz.prog 259 (cj Tryz.prog f259 1 [(mq.f,mq.c)]):=OD (Iv 1 [(mq.f,mq.c)] func259 ⟨mq.ok,trivial⟩)
def Po(J:aM)(E:dG)(C:eY):ah (dG):=(tU E).bind λD=>letI L:=(xA D.bf)++([C.at_]:aa Int);letI I:=(L.length:Int);(let O:Bool -> ah (dG):=λZ=>bif Z then some D else (let Q:Bool -> ah (dG):=λj9=>bif j9 then some D else (mV J).bind λje=>(let U:Int -> ah (dG):=λJe=>letI Y:=W6 ((W6 ((W6 (9*Je))+C.cmd.kind))-1);letI T:=D.last.set Y.toNat C.at_;xL D.last Y λe15=>bif (C.cmd.kind==1)then bif xZ D.bf then bif bC ((xA D.bf).length+([C.at_]:aa Int).length)then bif I > 4 then if 0 <= (1:Int)/\1 <= I/\I <= I then (tU (⟨T,((L.take (I.toNat)).drop ((1:Int).toNat))⟩:dG)).bind λkF=>some kF else none else (tU (⟨T,L⟩:dG)).bind λB8=>some B8 else none else none else (tU (⟨T,D.bf⟩:dG)).bind λB9=>some B9;bif C.cmd.kind <= 5 then (U C.cmd.ax)else (U je));bif (C.cmd.kind==1)then bif (E.bf.length:Int) > 0 then xI E.bf (W6 ((E.bf.length:Int)-1)) λe8=>(Q (decide (e8 >= C.at_)))else (Q false)else (Q false));(Pn J E).bind λy2=>bif (!y2)then (O true)else (I6 J C.cmd).bind λy3=>bif (!y3)then (O true)else (cP C.at_ 0 1000000).bind λy4=>(O (!y4)))
def arO:=bw [(true,.fM),(true,.kU),(true,.Event)] [(true,.kU,2)] (fz Po) 57 [ff,aeB,arM,ae1,⟨259,.i _,arN⟩] func174
abbrev ae8:=(((aa aK)×af×Int×af)×((Int×Int×Int×af)×af))
def Jf(x:ae8):ah (ae8⊕(((Int×af)×(af))⊕(((af)×(af))⊕Empty))):=letI C:=x.1.2.2.1;bif C<(x.1.1.length:Int)then xI x.1.1 C λD=>bif ((D.ax==x.2.1.1)&&((D.row==x.2.1.2.1)&&((D.bT==x.2.1.2.2.1)&&true)))then ay ((C,()),())else xG ((x.1.1,(),(W6 (C+1)),()),(x.2.1,()))else aV ((),())
def arP:KY 19 (aZ f249):=⟨0,lB 0 ⟨[(0,.lf (.aD .Addr 0)),(3,.aG 3 0),(5,tI)],[(3,.aB ID)],[]⟩ [(1,wZ),(2,fG)] Jf,lp []⟩
def Jg(D:aa aK)(C:aK):ah (Int):=bQ Jf ((D,(),0,()),((C.ax,C.row,C.bT,()),())) (λE=>some E.1.1) λI=>some (-1)
def ae9:=cg Xo dN (bS Jg) 19 [] [arP] func249
def Jh(L:aM)(C:kR)(D:dm)(E:Int):ah (Bool):=xI D.bz E λI=>bif I > C.bz then some true else xI D.br E λJ=>some (J > C.br)
def arQ:=bw [(true,.fM),(true,.r4),(true,.Array),(false,.int)] cm (oD Jh) 27 [] func322
abbrev afa:=((af×Int×Int×af)×(((aa Int)×(aa Int)×Int×af)×af))
def EG(x:afa):ah (afa⊕(((Bool×af)×(af))⊕(((af×Int×af)×(((aa Int)×(aa Int)×Int×af)×af))⊕Empty))):=letI C:=x.1.2;letI D:=xG (((),C.1,(W6 (C.2.1+1)),()),(x.2.1,()));bif C.2.1<C.1 then xI x.2.1.1 C.1 λE=>bif E >= 0 then xI x.2.1.1 C.2.1 λI=>xI x.2.1.1 C.1 λJ=>bif (I==J)then ay ((false,()),())else D else D else aV (((),C.1,()),(x.2.1,()))
def afb:KY 90 (rK (aZ f247) 0):=⟨2,lB 2 ⟨[(1,.aG 1 0),(3,tI),(4,tI)],Xg,[]⟩ [(1,qy),(4,aep)] EG,lp []⟩
abbrev afc:=((af×Int×af)×(((aa Int)×(aa Int)×Int×af)×af))
def Ji(x:afc):ah (afc⊕(((Bool×af)×(af))⊕(((af)×(af))⊕Empty))):=letI C:=x.2.1;letI D:=x.1.2.1;letI E:=ay ((false,()),());letI I:=bQ EG (((),D,0,()),(C,())) (λL=>ay ((L.1.1,()),())) λJ=>xG (((),(W6 (J.1.2.1+1)),()),(J.2.1,()));bif D<(C.1.length:Int)then xI C.1 D λO=>(cP O (-1) 15).bind λQ=>bif (!Q)then E else xI C.2.1 D λT=>(cP T C.2.2.1 100000).bind λU=>bif (!U)then E else xI C.1 D λY=>bif Y<0 then xI C.2.1 D λZ=>bif (Z != 0)then E else I else I else aV ((),())
def arR:KY 90 (aZ f247):=⟨0,lB 0 aep [(1,qy),(2,fG)] Ji,lq [ff] [afb,afb]⟩
def Jj(C:cr):ah (Bool):=(cP (C.rows.length:Int) 1 16).bind λD=>bif (!D)then some false else bif ((C.rows.length:Int) != (C.counts.length:Int))then some false else (cP C.dc 0 100000).bind λE=>bif (!E)then some false else bQ Ji (((),0,()),((C.rows,C.counts,C.dc,()),())) (λI=>some I.1.1) λJ=>some true
def arS:=cg [(true,.gD)] cm (bR Jj) 90 [ff] [arR] func247
abbrev afd:=((af×Int×Int×af)×((af×af×Int×af)×(aa Int)×(aa Int)×af))
def Jk(x:afd):ah (afd⊕(((Int×af)×((af×af×Int×af)×(aa Int)×(aa Int)×af))⊕(((af×Int×af)×((af×af×Int×af)×(aa Int)×(aa Int)×af))⊕Empty))):=letI E:=((),(),x.2.1.2.2.1,());letI C:=x.2.2;letI D:=x.1.2.2.1;letI I:=(E,C.1,C.2.1,());bif D<(C.1.length:Int)then xL C.1 D λJ=>bif (J==x.1.2.1)then xL C.2.1 D λL=>xL C.2.1 D λO=>ay ((D,()),(E,C.1,(C.2.1.set D.toNat (W6 (L+1))),()))else xG (((),x.1.2.1,(W6 (D+1)),()),I)else aV (((),x.1.2.1,()),I)
def arT:KY 88 (aZ f323):=⟨0,lB 0 ⟨[(0,.aG 20000 0),(1,tI),(5,tI)],Ep,[]⟩ [(1,⟨[(4,tI)],Ep,[]⟩),(2,⟨[(0,.aG 20000 0),(1,tI)],Ep,[]⟩)] Jk,lp []⟩
abbrev afe:=((af×Int×Int×af)×((af×af×Int×af)×(aa Int)×(aa Int)×af))
def Jl(x:afe):ah (afe⊕(((Int×af)×((af×af×Int×af)×(aa Int)×(aa Int)×af))⊕(((af×af)×((af×af×Int×af)×(aa Int)×(aa Int)×af))⊕Empty))):=letI C:=x.2.2;letI E:=x.2.1.2.2.1;letI I:=(((),(),E,()),C.1,C.2.1,());letI D:=x.1.2.2.1;bif D<(C.1.length:Int)then xL C.2.1 D λJ=>bif (J==E)then xL C.1 D λL=>xL C.2.1 D λO=>ay ((D,()),(((),(),E,()),(C.1.set D.toNat x.1.2.1),(C.2.1.set D.toNat (W6 (E+1))),()))else xG (((),x.1.2.1,(W6 (D+1)),()),I)else aV (((),()),I)
def arU:KY 88 (aZ f323):=⟨2,lB 2 ⟨[(0,.aG 20000 0),(1,tI),(6,tI)],Ep,[]⟩ [(1,⟨[(4,tI)],Ep,[]⟩),(4,⟨[(0,.aG 20000 0)],Ep,[]⟩)] Jl,lp []⟩
def Pp(I:cr)(L:Int):ah ((Int)×(cr×af)):=bQ Jk (((),L,0,()),(((),(),I.dc,()),I.rows,I.counts,())) (λC=>some (C.1.1,((⟨C.2.2.1,C.2.2.2.1,C.2.1.2.2.1⟩:cr),()))) λD=>bQ Jl (((),D.1.2.1,0,()),(((),(),D.2.1.2.2.1,()),D.2.2.1,D.2.2.2.1,())) (λE=>some (E.1.1,((⟨E.2.2.1,E.2.2.2.1,E.2.1.2.2.1⟩:cr),()))) λJ=>some ((-1),((⟨J.2.2.1,J.2.2.2.1,(W6 (J.2.1.2.2.1+1))⟩:cr),()))
def arV:=oC [.p .gD 2 0,.v false .int] dN (bS Pp) 88 [] [arT,arU] func323
def Jm(D:cr)(J E:Int):ah (cr×Bool):=(IN D).bind λL=>letI I:=some (L,false);(Jj D).bind λO=>bif (!O)then I else (cP J 0 15).bind λQ=>bif (!Q)then I else (cP E 2 1000).bind λT=>bif (!T)then I else (Pp L J).bind λC=>(Jj C.2.1).bind λU=>bif (!U)then (IN D).bind λY=>some (Y,false)else bif C.1 >= 0 then xL C.2.1.counts C.1 λZ=>if E=0 then none else some (C.2.1,((Z.tmod E)==0))else some (C.2.1,false)
def arW:=bw [(true,.gD),(false,.int),(false,.int)] [(true,.gD,2),(false,.bool,0)] (fz Jm) 46 [ff,aeF,arS,arV] func261
def XQ(L C:Int):ah ((aa Int)):=letI I:=W6 (L-1);letI J:=some ([]:aa Int);letI D:=([(W6 (C+1))]:aa Int);letI E:=([(W6 (C-1))]:aa Int);(cP L 2 16).bind λO=>bif (!O)then J else (cP C 0 I).bind λQ=>bif (!Q)then J else bif C > 0 then bif xZ E then bif C<I then bif bC ((xA E).length+D.length)then some ((xA E)++D)else none else some (xA E)else none else bif C<I then bif xZ D then some (xA D)else none else J
def arX:=bw BY mm (bS XQ) 35 [ff] func262
end Go.Proofs.YtglnbhiaknohlaaGreat
