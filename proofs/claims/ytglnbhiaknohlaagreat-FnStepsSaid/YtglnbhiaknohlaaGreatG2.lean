/-
  Functions of the program as plain functions of contents, and that the code computes them. Nothing here is a claim.
-/
import Derived.Test.YtglnbhiaknohlaaGreatVZ
import Derived.Test.YtglnbhiaknohlaaGreatRows
import Derived.Test.YtglnbhiaknohlaaGreatG1
namespace Go.Proofs.YtglnbhiaknohlaaGreat
set_option linter.defProp false
open Go.RowKit Go.Proofs.Tryz
set_option linter.unusedVariables false
set_option maxRecDepth 100000
def O3(C:dS):aj (gi×Bool):=(EO C).bind λD=>bif (!D)then some ((⟨⟨0,0,0,0,0,[],⟨0,0⟩⟩,⟨0,0,0,0,0,[],⟨0,0⟩⟩,false⟩:gi),false)else (vD C).bind λE=>(vD C).bind λI=>some ((⟨E,I,false⟩:gi),true)
def aqB:=bA IQ OL (bS O3) 13 [OT,Xq] func277
def O4(C D:Int):aj (cZ×Bool):=letI E:=some ((⟨[],0,false⟩:cZ),false);(cN C 1 8).bind λI=>bif (!I)then E else (cN D 2 10000).bind λJ=>bif (!J)then E else if 0 <= C/\C <= C/\C<1073741824 then some ((⟨(List.replicate C.toNat (0:Int)),D,false⟩:cZ),true)else none
def aqC:=bA Ca [(true,.lE,2),(false,.bool,0)] (bY O4) 19 [fj] func278
def Xr(C:Int):aj (lA×Bool):=(cN C 1 100000).bind λD=>bif (!D)then some ((⟨0,0,0⟩:lA),false)else some ((⟨0,C,C⟩:lA),true)
def aqD:=bA lP [(true,.ri,0),(false,.bool,0)] (bS Xr) 11 [fj] func280
def aqE:bJ:=⟨[(2,.aG 2 0),(3,.aG 3 0),(4,.aG 4 0),(6,.aG 6 0),(7,tI),(8,tI)],[(2,.st .Config),(3,.aB zY)],adx⟩
def aqF:aa (Nat×bJ):=[(2,⟨[(3,.aG 3 0),(4,.aG 4 0),(6,.aG 6 0)],[(3,.aB zY)],adx⟩)]
abbrev aeB:=((af×af×af×af×Int×Int×af)×(av×av×eX×(Int×Int×Int×Int×Int×(aa Int)×Int×Int×af)×af))
def ER(x:aeB):aj (aeB⊕(((af×af×af×af)×(av×av×(Int×Int×Int×Int×Int×(aa Int)×Int×Int×af)×af))⊕Empty)):=letI E:=x.2.2.2.2.1;letI I:=([E.2.2.1]:aa Int);letI D:=x.1.2.2.2.2;letI C:=x.2.2.1;bif D.2.1<D.1 then (EP x.2.2.2.1.hD).bind λJ=>bif bD (C.bK.length+[J.1].length)then bif bD (C.guard.length+I.length)then xG (((),(),(),(),D.1,(W6 (D.2.1+1)),()),(x.2.1,{C with bK:=(C.bK++[J.1]),guard:=(C.guard++I)},x.2.2.2.1,E,()))else none else none else aA (((),(),(),()),(x.2.1,C,E,()))
def aqG:KY 95 (bk f191):=⟨0,lB 0 aqE aqF ER,lp [aez]⟩
def O5(D:eX)(C:dS):aj (av×Bool):=(Cg D C).bind λJ=>bif (!J)then some ((⟨⟨⟨0,0,0,0⟩,⟨0,0,0,0,0,0,0,0,0,0,0,0,0,0,0,0,0⟩,⟨0,false⟩,0,0,0,⟨0,0⟩⟩,⟨⟨0,0,0,0,0,[],⟨0,0⟩⟩,⟨0,0,0,0,0,[],⟨0,0⟩⟩,false⟩,0,⟨[],0⟩,⟨[],[]⟩,⟨[],[],[]⟩,⟨0,[]⟩,⟨[],0,false⟩,[],[],[],[],[],⟨false,0,0⟩,⟨0,0,0⟩,⟨0,0,0⟩,[],[],[]⟩:av),false)else (OX D.ay).bind λL=>(O1 D.ay).bind λO=>(O2 D.ay).bind λQ=>(ng D.ay).bind λE=>(O3 C).bind λT=>(EK D.ay D.bP).bind λU=>(O4 E D.interval).bind λY=>bw ER (((),(),(),(),E,0,()),((⟨⟨⟨0,0,0,0⟩,⟨0,0,0,0,0,0,0,0,0,0,0,0,0,0,0,0,0⟩,⟨0,false⟩,0,0,0,⟨0,0⟩⟩,⟨⟨0,0,0,0,0,([]:aa Int),⟨0,0⟩⟩,⟨0,0,0,0,0,([]:aa Int),⟨0,0⟩⟩,false⟩,0,⟨([]:aa fC),0⟩,⟨([]:aa Int),([]:aa Int)⟩,⟨([]:aa bZ),([]:aa Int),([]:aa Int)⟩,⟨0,([]:aa Int)⟩,⟨([]:aa Int),0,false⟩,([]:aa cx),([]:aa Int),([]:aa aL),([]:aa aX),([]:aa cz),⟨false,0,0⟩,⟨0,0,0⟩,⟨0,0,0⟩,([]:aa cv),([]:aa fG),([]:aa fe)⟩:av),(⟨D,T.1,0,L,O,Q,U.1,Y.1,([]:aa cx),([]:aa Int),([]:aa aL),([]:aa aX),([]:aa cz),⟨false,C.low,C.high⟩,⟨0,0,0⟩,⟨0,0,0⟩,([]:aa cv),([]:aa fG),([]:aa fe)⟩:av),D,(C.eP,C.cap,C.eK,C.low,C.high,C.weights,C.eA.down,C.eA.sleep,()),())) λI=>letI Z:=I.2.2.1;(Ab I.2.2.2.1.2.2.2.2.2.1).bind λjR=>(Xr 10).bind λlQ=>some ({Z with shares:=jR.1,cU:=lQ.1},true)
def aqH:=cw Xd [(true,.cV,4),(false,.bool,0)] (bY O5) 95 [mJ,Xm,aqn,aew,aqw,aqA,aqB,aqC,Xp,aqD] [aqG] func191
def ES(C:aO)(D:aL):aj (Bool):=(ng C).bind λE=>(cN D.ax 0 (W6 (E-1))).bind λI=>bif I then (cN D.row 0 (W6 (C.rows-1))).bind λJ=>bif J then (cN D.bR 0 (W6 (C.aN-1))).bind λL=>some L else some false else some false
def Xs:=bA OM cB (bY ES) 27 [mJ,fj] func248
def Ch(D:aO)(C:aL):aj (Int):=(ES D C).bind λE=>bif (!E)then some (-1)else some (W6 ((W6 ((W6 ((W6 (C.ax*D.rows))+C.row))*D.aN))+C.bR))
def Xt:=bA OM dO (bY Ch) 23 [Xs] func265
def I8(C:Int):aj (Bool):=(cN C 0 4294967295).bind λD=>some D
def aeC:=bA lP cB (bS I8) 5 [fj] func320
def O6(E:Int)(C:aX):aj (Bool):=letI D:=(cN C.at_ 0 1000000).bind λI=>some I;(cN C.id 1 100000).bind λJ=>bif J then (cN C.dB 0 3).bind λL=>bif L then bif C.line >= 0 then bif C.line<E then (I8 C.data).bind λO=>bif O then bif C.write then D else bif (C.data==0)then D else some false else some false else some false else some false else some false else some false
def aqI:=bA [(false,.int),(true,.dD)] cB (bY O6) 43 [fj,aeC] func250
def O7(C D:aX):aj (Bool):=bif C.at_<D.at_ then some true else bif (C.at_==D.at_)then some (C.id<D.id)else some false
def aeD:=bA [(true,.dD),(true,.dD)] cB (bY O7) 24 [] func251
abbrev aeE:=(((aa aX)×Int×Int×af)×(af))
def I9(x:aeE):aj (aeE⊕(((Int×af)×(af))⊕(((af)×(af))⊕Empty))):=letI C:=x.1.2.2.1;bif C<(x.1.1.length:Int)then xI x.1.1 C λD=>bif (D.id==x.1.2.1)then aA ((C,()),())else xG ((x.1.1,x.1.2.1,(W6 (C+1)),()),())else bq ((),())
def aqJ:KY 20 (bk f252):=⟨0,lB 0 adR [(1,xl),(2,iG)] I9,lp []⟩
def Ja(C:aa aX)(D:Int):aj (Int):=cc I9 ((C,D,0,()),()) (λE=>some E.1.1) λI=>some (-1)
def aeF:=cw OI dO (bY Ja) 20 [] [aqJ] func252
abbrev aeG:=((Int×(aa aX)×Int×af)×(af))
def Jb(x:aeG):aj (aeG⊕(((Bool×af)×(af))⊕(((af)×(af))⊕Empty))):=letI E:=aA ((false,()),());letI D:=x.1.2.1;letI C:=x.1.2.2.1;letI I:=xI D C λJ=>(Ja D J.id).bind λL=>bif (L != C)then E else xG ((x.1.1,D,(W6 (C+1)),()),());bif C<(D.length:Int)then xI D C λO=>(O6 x.1.1 O).bind λQ=>bif (!Q)then E else bif C > 0 then xI D (W6 (C-1)) λT=>xI D C λU=>(O7 T U).bind λY=>bif (!Y)then E else I else I else bq ((),())
def aqK:KY 50 (bk f165):=⟨0,lB 0 ⟨[(0,tI),(1,.lf (.aF .dD 0)),(5,tI)],[],[]⟩ [(1,mI),(2,iG)] Jb,lp [aqI,aeD,aeF]⟩
def xx(D:Int)(C:aa aX):aj (Bool):=bif (C.length:Int) > 12 then some false else cc Jb ((D,C,0,()),()) (λE=>some E.1.1) λI=>some true
def aqL:=cw [(false,.int),(false,(.sl .dD))] cB (bY xx) 50 [] [aqK] func165
abbrev aeH:=((Int×(aa aX)×af×af×Bool×Int×af)×((Int×Int×Int×Bool×Int×Int×af)×(aa aX)×af))
def Jc(x:aeH):aj (aeH⊕(((Int×(aa aX)×af×af×Bool×af)×((Int×Int×Int×Bool×Int×Int×af)×(aa aX)×af))⊕Empty)):=letI C:=x.2.1;letI E:=x.2.2.1;letI D:=x.1.2.1;letI J:=x.1.2.2.2.2;letI I:=J.2.1;letI O:=xI D I λQ=>bif bD (E.length+([Q]:aa aX).length)then xG ((x.1.1,D,(),(),J.1,(W6 (I+1)),()),(C,(E++([Q]:aa aX)),()))else none;letI T:=(⟨C.1,C.2.1,C.2.2.1,C.2.2.2.1,C.2.2.2.2.1,C.2.2.2.2.2.1⟩:aX);letI L:=([T]:aa aX);bif I<(D.length:Int)then bif (!J.1)then xI D I λY=>(O7 T Y).bind λZ=>bif Z then bif bD (E.length+L.length)then xI D I λU=>bif bD ((E++L).length+([U]:aa aX).length)then xG ((x.1.1,D,(),(),true,(W6 (I+1)),()),(C,((E++L)++([U]:aa aX)),()))else none else none else O else O else aA ((x.1.1,D,(),(),J.1,()),(C,E,()))
def aqM:KY 59 (bk f330):=⟨0,lB 0 ⟨[(0,tI),(1,.lf (.aF .dD 0)),(5,.aG 5 0),(8,.lf (.own 11)),(9,tB),(10,tI)],[(5,.aB IJ),(11,.sl .dD 2)],[]⟩ [(2,⟨[(0,tI),(1,.lf (.aF .dD 0)),(5,.aG 5 0),(8,.lf (.own 11)),(9,tB)],[(5,.aB IJ),(11,.sl .dD 2)],[]⟩)] Jc,lp [aeD]⟩
def O8(Q:Int)(T:aa aX)(E:aX):aj ((aa aX)×Bool):=bw Jc ((Q,T,(),(),false,0,()),((E.id,E.dB,E.line,E.write,E.data,E.at_,()),([]:aa aX),())) λO=>letI C:=O.1;letI D:=O.2;letI I:=D.1.2.2;letI J:=bif xZ C.2.1 then some ((xA C.2.1),false)else none;letI L:=([(⟨D.1.1,D.1.2.1,I.1,I.2.1,I.2.2.1,I.2.2.2.1⟩:aX)]:aa aX);bif (!C.2.2.2.2.1)then bif bD (D.2.1.length+L.length)then (xx C.1 C.2.1).bind λU=>bif (!U)then J else (xx C.1 (D.2.1++L)).bind λY=>bif (!Y)then J else some ((D.2.1++L),true)else none else (xx C.1 C.2.1).bind λZ=>bif (!Z)then J else (xx C.1 D.2.1).bind λoK=>bif (!oK)then J else some (D.2.1,true)
def aqN:=cw [(false,.int),(false,(.sl .dD)),(true,.dD)] [(false,(.sl .dD),2),(false,.bool,0)] (fD O8) 59 [aqL] [aqM] func330
def aqO:bJ:=⟨[(0,.aG 20000 0),(3,.aG 3 0),(5,.aG 5 0),(6,tI)],[(3,.aB IJ),(5,.aB fE)],lO⟩
def aqP:aa (Nat×bJ):=[(1,⟨[(4,tB)],[],lO⟩),(2,⟨[(0,.aG 20000 0),(3,.aG 3 0),(5,.aG 5 0)],[(3,.aB IJ),(5,.aB fE)],lO⟩)]
abbrev aeI:=((af×af×af×Int×af)×(av×(Int×Int×Int×Bool×Int×Int×af)×(Int×Int×Int×Int×af)×af))
def Jd(x:aeI):aj (aeI⊕(((Bool×af)×(av×af))⊕(((af×af×af×af)×(av×(Int×Int×Int×Bool×Int×Int×af)×(Int×Int×Int×Int×af)×af))⊕Empty))):=letI C:=x.1.2.2.2.1;letI D:=(x.2.1,x.2.2.1,x.2.2.2.1,());bif C<(x.2.1.cy.length:Int)then xL x.2.1.cy C λE=>bif (E.id==x.2.2.1.1)then aA ((false,()),(x.2.1,()))else xG (((),(),(),(W6 (C+1)),()),D)else bq (((),(),(),()),D)
def aqQ:KY 65 (bk f281):=⟨0,lB 0 aqO aqP Jd,lp []⟩
def O9(D:av)(E:aX):aj ((Bool)×(av×af)):=cc Jd (((),(),(),0,()),(D,(E.id,E.dB,E.line,E.write,E.data,E.at_,()),(D.config.ay.cq,D.config.ay.aC,(W6 (D.config.ay.rows-D.config.bP)),D.config.ay.aN,()),())) (λL=>some (L.1.1,(L.2.1,()))) λO=>letI C:=O.2.2;letI I:=O.2.1;(um (⟨C.2.1.1,C.2.1.2.1,C.2.1.2.2.1,C.2.1.2.2.2.1⟩:aO)).bind λQ=>(O8 Q I.queue (⟨C.1.1,C.1.2.1,C.1.2.2.1,C.1.2.2.2.1,C.1.2.2.2.2.1,I.now⟩:aX)).bind λJ=>bif J.2 then some (J.2,({I with queue:=J.1},()))else some (J.2,(I,()))
def aqR:=oH [.p .cV 4 0,.v true .dD] cB (bY O9) 65 [I6,aqN] [aqQ] func281
def Je(C:Int):aj (Bool×Bool×Bool):=(cN C 1 5).bind λD=>bif (C==2)then some (D,(C==1),true)else some (D,(C==1),(C==3))
def aqS:=bA lP [(false,.bool,0),(false,.bool,0),(false,.bool,0)] (bS Je) 15 [fj] func226
def Pa(C:aH):aj (Bool):=letI E:=(cN C.kind 1 9).bind λL=>bif L then (cN C.ax 0 7).bind λO=>bif O then (cN C.row 0 15).bind λQ=>bif Q then (cN C.bR 0 7).bind λT=>some T else some false else some false else some false;(Je C.kind).bind λD=>letI I:=bif (!D.2.2)then bif (C.bR != 0)then some false else E else E;letI J:=bif (!D.2.1)then bif (C.row != 0)then some false else I else I;bif (!D.1)then bif (C.ax != 0)then some false else J else J
def aqT:=bA [(true,.Command)] cB (bS Pa) 56 [fj,aqS] func255
def Jf(D:aO)(C:aH):aj (Bool):=(Pa C).bind λE=>bif E then (ES D (⟨C.ax,C.row,C.bR⟩:aL)).bind λI=>some I else some false
def aeJ:=bA Xe cB (bY Jf) 18 [Xs,aqT] func170
abbrev aeK:=((af×af×Int×af)×(((aa fC)×Int×af)×(aa Int)×af))
def ET(x:aeK):aj (aeK⊕(((af×af)×((aa Int)×af))⊕Empty)):=letI C:=x.1.2.2.1;letI D:=((),(),(W6 (C+1)),());bif C<(x.2.1.1.length:Int)then xI x.2.1.1 C λE=>bif E.open_ then bif bD (x.2.2.1.length+([C]:aa Int).length)then xG (D,(x.2.1,(x.2.2.1++([C]:aa Int)),()))else none else xG (D,(x.2.1,x.2.2.1,()))else aA (((),()),(x.2.2.1,()))
def aqU:KY 24 (bk f311):=⟨0,lB 0 ⟨aeh,[(1,.aB Cb),(5,.sl .int 2)],[]⟩ [(2,W2)] ET,lp []⟩
def Jg(C:cM):aj ((aa Int)):=bw ET (((),(),0,()),((C.aC,C.bh,()),([]:aa Int),())) λD=>some D.2.1
def aeL:=cw [(true,.iQ)] nc (bS Jg) 24 [] [aqU] func311
def Pb(D:cM)(C:aH):aj (Bool):=letI E:=D.bh==0;letI L:=bif E then xI D.aC C.ax λQ=>some (!Q.open_)else some false;letI I:=bif E then xI D.aC C.ax λT=>some T.open_ else some false;letI J:=bif (C.kind==6)then some E else bif (C.kind==8)then bif E then (Jg D).bind λU=>some ((U.length:Int)==0)else some false else bif (C.kind==7)then some (D.bh==1)else some (D.bh==2);letI O:=bif (C.kind==2)then bif (C.kind==2)then I else J else bif (C.kind==3)then bif (C.kind==3)then I else J else bif (C.kind==4)then I else J;bif (C.kind==1)then bif (C.kind==1)then L else O else bif (C.kind==5)then L else O
def aqV:=bA [(true,.iQ),(true,.Command)] cB (bY Pb) 63 [aeL] func256
def Jh(C:dc)(D E:Int):aj (Int):=letI L:=some (W6 (C.wr+C.rp));letI O:=some (W6 (C.jK+C.rp));letI Q:=some (W6 (C.gI+C.rp));letI J:=E==5;letI I:=E==4;(Cf C).bind λT=>bif (!T)then some 0 else bif (E==1)then bif (D==1)then bif (E==2)then some C.jX else bif (E==3)then some C.jX else bif I then some C.gI else Q else bif (D==2)then bif I then some C.jK else O else bif (D==3)then bif I then some C.wr else L else bif (D==4)then some C.rp else bif (D==5)then some C.pq else some 0 else bif (D==1)then bif (E==2)then some C.jX else bif (E==3)then some C.jX else bif I then some C.gI else bif J then Q else some 0 else bif (D==2)then bif I then some C.jK else bif J then O else some 0 else bif (D==3)then bif I then some C.wr else bif J then L else some 0 else bif (D==4)then bif J then some C.rp else some 0 else bif (D==5)then bif J then some C.pq else some 0 else some 0
def aeM:=bA [(true,.lC),(false,.int),(false,.int)] dO (fD Jh) 57 [OY] func347
def Pc(C:Bool)(D E:Int):aj (Int):=bif C then some D else some E
def aqW:=bA [(false,.bool),(false,.int),(false,.int)] dO (fD Pc) 10 [] func357
def Ji(C:dc)(D E:Int)(I:Bool):aj (Int):=(let J:Bool -> aj (Int):=λj4=>bif j4 then some 0 else bif (D==7)then some C.xp else bif (D==9)then some C.xs else (let L:Bool -> aj (Int):=λj6=>bif j6 then some C.qi else (let Q:Bool -> aj (Int):=λj7=>bif j7 then (Pc I C.jY C.nE).bind λy8=>some y8 else (let O:Bool -> aj (Int):=λj9=>bif j9 then (Pc I C.nH C.nG).bind λxy=>some xy else (let T:Bool -> aj (Int):=λXu=>bif Xu then (Pc I C.pn C.pg).bind λlQ=>some lQ else (let U:Bool -> aj (Int):=λCi=>bif Ci then some C.sx else (let Y:Bool -> aj (Int):=λXv=>bif Xv then some C.jY else (let Z:Bool -> aj (Int):=λXw=>bif Xw then some C.jK else (let Ac:Bool -> aj (Int):=λJj=>bif Jj then some C.wr else bif (E==8)then (Jh C D 1).bind λkT=>some kT else some 0;bif (E==6)then (Ac (D==3))else (Ac false));bif (E==6)then (Z (D==2))else (Z false));bif (D==5)then (Y (E==5))else (Y false));bif (D==2)then (U (E==3))else (U false));bif (D==3)then (T (E==2))else (T false));bif (D==E)then bif (D==2)then (O true)else (O (D==3))else (O false));bif (D==1)then (Q (E==1))else (Q false));letI u0:=bif (D==8)then (L (E==9))else (L false);bif (D==6)then bif (E==7)then (L true)else u0 else u0);(Cf C).bind λy1=>bif (!y1)then (J true)else (cN D 1 9).bind λy2=>bif (!y2)then (J true)else (cN E 1 9).bind λy3=>(J (!y3)))
def aqX:=bA ad0 dO (oI Ji) 135 [fj,OY,aeM,aqW] func346
def Ad(J:aO)(Q:dc)(D C:aH):aj (Int):=letI T:=Jh Q D.kind C.kind;letI U:=Ji Q D.kind C.kind false;bif D.kind <= 5 then bif C.kind <= 5 then if J.aC=0 then none else if J.aC=0 then none else (Ji Q D.kind C.kind ((W6 (D.ax.tdiv J.aC))==(W6 (C.ax.tdiv J.aC)))).bind λE=>letI Y:=some (if 1 > E then 1 else E);bif C.kind <= 5 then bif (D.ax==C.ax)then T.bind λL=>some (if 1 > (if L > E then L else E)then 1 else (if L > E then L else E))else Y else Y else U.bind λI=>letI Z:=some (if 1 > I then 1 else I);bif C.kind <= 5 then bif (D.ax==C.ax)then T.bind λO=>some (if 1 > (if O > I then O else I)then 1 else (if O > I then O else I))else Z else Z else U.bind λy5=>some (if 1 > y5 then 1 else y5)
def aqY:=bA ad1 dO (oI Ad) 57 [aqX,aeM] func321
abbrev aeN:=((af×af×af×af×Int×Int×af)×((Int×Int×Int×Int×af)×dc×((aa Int)×(aa Int)×af)×(Int×Int×Int×Int×af)×af))
def Jk(x:aeN):aj (aeN⊕(((af×af×af×Int×af)×(dc×((aa Int)×(aa Int)×af)×(Int×Int×Int×Int×af)×af))⊕Empty)):=letI E:=x.2.2.2.1;letI Q:=(⟨x.2.1.1,x.2.1.2.1,x.2.1.2.2.1,x.2.1.2.2.2.1⟩:aO);letI I:=x.2.2.2.2.1;letI T:=(⟨I.1,I.2.1,I.2.2.1,I.2.2.2.1⟩:aH);letI J:=(x.2.1,x.2.2.1,E,I,());letI C:=x.1.2.2.2.2;letI D:=C.2.1;letI L:=W6 (D+1);letI O:=W6 ((D.tmod 9)+1);bif D<(E.1.length:Int)then xI E.1 D λY=>bif Y<0 then xG (((),(),(),(),C.1,L,()),J)else bif O <= 5 then xI E.1 D λZ=>(Ad Q x.2.2.1 (⟨O,(W6 (D.tdiv 9)),0,0⟩:aH) T).bind λy5=>letI u8:=W6 (Z+y5);xG (((),(),(),(),(if u8 > C.1 then u8 else C.1),L,()),J)else xI E.1 D λe7=>(Ad Q x.2.2.1 (⟨O,0,0,0⟩:aH) T).bind λy8=>letI U:=W6 (e7+y8);xG (((),(),(),(),(if U > C.1 then U else C.1),L,()),J)else aA (((),(),(),C.1,()),(x.2.2.1,E,I,()))
def aqZ:KY 67 (bk f257):=⟨0,lB 0 ⟨[(4,.aG 4 0),(5,.aG 5 0),(6,.aG 6 0),(7,.aG 7 0),(9,tI),(10,tI)],adY,[]⟩ [(2,adA)] Jk,lp [aqY]⟩
def Pd(D:aO)(O:dc)(J:dF)(E:aH):aj (Int):=bw Jk (((),(),(),(),0,0,()),((D.cq,D.aC,D.rows,D.aN,()),O,(J.last,J.bg,()),(E.kind,E.ax,E.row,E.bR,()),())) λC=>letI I:=C.1.2.2.2.1;bif (C.2.2.2.1.1==1)then bif ((C.2.2.1.2.1.length:Int)==4)then xI C.2.2.1.2.1 (0:Int) λQ=>letI L:=W6 (Q+C.2.1.lu);some (if L > C.1.2.2.2.1 then L else I)else some I else some I
def aq0:=cw ad2 dO (oI Pd) 67 [] [aqZ] func257
def Cj(C:av)(D:aH):aj (Bool):=(Pb C.aY D).bind λI=>bif (!I)then some false else (Pd C.config.ay C.config.cm C.ready D).bind λE=>bif E <= 1000000 then some (E <= C.now)else some false
def Pe:=bA [(false,.lF),(true,.Command)] cB (bY Cj) 39 [aqV,aq0] func171
def Ae(D:cM)(C:aL)(I:Bool):aj (aH):=letI E:=some (⟨1,C.ax,C.row,0⟩:aH);(cN C.ax 0 (W6 ((D.aC.length:Int)-1))).bind λJ=>bif (!J)then E else xI D.aC C.ax λL=>bif (!L.open_)then E else xI D.aC C.ax λO=>bif (O.row != C.row)then some (⟨4,C.ax,0,0⟩:aH)else bif I then some (⟨3,C.ax,0,C.bR⟩:aH)else some (⟨2,C.ax,0,C.bR⟩:aH)
def Xx:=bA [(true,.iQ),(true,.Addr),(false,.bool)] IP (fD Ae) 54 [fj] func172
def Pf(C:aO)(E:ld)(I:Int):aj (aL×Bool):=letI Y:=some ((⟨0,0,0⟩:aL),false);letI L:=I.tmod C.aN;letI J:=W6 (I.tdiv C.aN);letI O:=J.tmod C.rows;(EM E).bind λZ=>bif (!Z)then Y else (um C).bind λy2=>(cN I 0 (W6 (y2-1))).bind λy3=>bif (!y3)then Y else (ng C).bind λD=>letI Q:=W6 (J.tdiv D);letI T:=W6 (I.tdiv D);letI U:=W6 (T.tdiv C.aN);bif (E.order==0)then if C.aN=0 then none else if C.aN=0 then none else if D=0 then none else if C.aN=0 then none else if D=0 then none else bif E.hash then if D=0 then none else some ((⟨((W6 ((J.tmod D)+Q)).tmod D),Q,L⟩:aL),true)else some ((⟨(J.tmod D),Q,L⟩:aL),true)else bif (E.order==1)then if D=0 then none else if D=0 then none else if C.aN=0 then none else if D=0 then none else if C.aN=0 then none else bif E.hash then if D=0 then none else some ((⟨((W6 ((I.tmod D)+U)).tmod D),U,(T.tmod C.aN)⟩:aL),true)else some ((⟨(I.tmod D),U,(T.tmod C.aN)⟩:aL),true)else if C.aN=0 then none else if C.aN=0 then none else if C.rows=0 then none else if C.aN=0 then none else if C.rows=0 then none else bif E.hash then if D=0 then none else some ((⟨((W6 ((W6 (J.tdiv C.rows))+O)).tmod D),O,L⟩:aL),true)else some ((⟨(W6 (J.tdiv C.rows)),O,L⟩:aL),true)
def aq1:=bA [(true,.fR),(true,.q9),(false,.int)] Xb (fD Pf) 94 [I6,mJ,fj,aer] func258
def xz(C:av)(I:Int):aj (aL):=letI E:=W6 (C.config.ay.rows-C.config.bP);(Pf (⟨C.config.ay.cq,C.config.ay.aC,E,C.config.ay.aN⟩:aO) C.config.mapping I).bind λD=>xI C.spare.map (W6 ((W6 (D.1.ax*E))+D.1.row)) λJ=>some (⟨D.1.ax,J,D.1.bR⟩:aL)
def Pg:jx:=gD [(false,.lF),(false,.int)] [(true,.Addr,0)] (λx=>xz x.1 x.2.1)
def Xy:enters Tryz.prog 173/\iZ Tryz.prog 173 Pg:=kp 50 [aq1] func173
def Af(C:av)(E:aH)(D:Int):aj (Bool):=letI J:=bif D >= 0 then bif (C.cy.length:Int)<400 then if O:0 <= D/\D.toNat<C.queue.length then (let Q:=C.queue[D.toNat]'O.2;if T:0 <= D/\D.toNat<C.queue.length then (let U:=C.queue[D.toNat]'T.2;(xz C Q.line).bind λY=>(Ae C.aY Y U.write).bind λI=>some ((I.kind==E.kind)&&((I.ax==E.ax)&&((I.row==E.row)&&((I.bR==E.bR)&&true)))))else none)else none else some false else some false;letI L:=bif (E.kind != 2)then bif (E.kind != 3)then some true else J else J;(Jf C.config.ay E).bind λZ=>bif (!Z)then some false else (Cj C E).bind λy2=>bif (!y2)then some false else bif (C.trace.length:Int) >= 2000 then some false else bif (D != (-1))then (cN D 0 (W6 ((C.queue.length:Int)-1))).bind λy3=>bif (!y3)then some false else L else L
def aq2:KX:=⟨72,.q (gD [(false,.lF),(true,.Command),(false,.int)] [(false,.bool,0)] λx=>Af x.1 x.2.1 x.2.2.1),kp 89 [fj,aeJ,Pe,Xx,⟨173,.p Pg,Xy⟩] func72⟩
def Ph(D:aO)(C:Int):aj (Bool):=(ng D).bind λE=>some ((decide ((W6 ((C.tmod 9)+1)) <= 5))==(decide ((W6 (C.tdiv 9))<E)))
def aq3:=bA IK cB (bY Ph) 15 [mJ] func245
abbrev aeO:=((af×af×Int×af)×((Int×Int×Int×Int×af)×((aa Int)×(aa Int)×af)×af))
def Jl(x:aeO):aj (aeO⊕(((Bool×af)×(af))⊕(((af×af)×(((aa Int)×(aa Int)×af)×af))⊕Empty))):=letI C:=x.2.2.1;letI D:=x.1.2.2.1;letI E:=xG (((),(),(W6 (D+1)),()),(x.2.1,C,()));bif D<(C.1.length:Int)then xI C.1 D λI=>(cN I (-1) 1000000).bind λJ=>bif (!J)then aA ((false,()),())else (Ph (⟨x.2.1.1,x.2.1.2.1,x.2.1.2.2.1,x.2.1.2.2.2.1⟩:aO) D).bind λL=>bif (!L)then xI C.1 D λO=>bif (O != (-1))then aA ((false,()),())else E else E else bq (((),()),(C,()))
def aq4:KY 86 (bk f161):=⟨0,lB 0 ⟨[(2,.aG 2 0),(3,.aG 3 0),(5,tI)],[(2,.aB fE),(3,.aB Cc)],[]⟩ [(1,mI),(2,ad4)] Jl,lp [fj,aq3]⟩
abbrev aeP:=((af×Int×af)×(((aa Int)×(aa Int)×af)×af))
def Jm(x:aeP):aj (aeP⊕(((Bool×af)×(af))⊕(((af)×(af))⊕Empty))):=letI D:=x.2.1.2.1;letI C:=x.1.2.1;letI E:=xG (((),(W6 (C+1)),()),(x.2.1,()));bif C<(D.length:Int)then xI D C λI=>(cN I 0 1000000).bind λJ=>bif (!J)then aA ((false,()),())else bif C > 0 then xI D (W6 (C-1)) λL=>xI D C λO=>bif L >= O then aA ((false,()),())else E else E else bq ((),())
def aq5:KY 86 (bk f161):=⟨2,lB 2 ⟨[(3,.aG 3 0),(6,tI)],[(3,.aB Cc)],[]⟩ [(1,mI),(4,iG)] Jm,lp [fj]⟩
def Pj(C:aO)(D:dF):aj (Bool):=(xw C).bind λE=>bif (!E)then some false else (ng C).bind λI=>bif ((D.last.length:Int) != (W6 (9*(W6 (I+1)))))then some false else bif (D.bg.length:Int) > 4 then some false else cc Jl (((),(),0,()),((C.cq,C.aC,C.rows,C.aN,()),(D.last,D.bg,()),())) (λJ=>some J.1.1) λL=>cc Jm (((),0,()),(L.2.1,())) (λO=>some O.1.1) λQ=>some true
def aq6:=cw [(true,.fR),(true,.lD)] cB (bY Pj) 86 [EJ,mJ] [aq4,aq5] func161
def aq7:enters Tryz.prog 259/\qI Tryz.prog 259 (cj Tryz.prog f259 1 [(mJ.f,mJ.c)]):=OC (ID 1 [(mJ.f,mJ.c)] func259 ⟨mJ.ok,trivial⟩)
def Pm(J:aO)(E:dF)(C:fG):aj (dF):=(uk E).bind λD=>letI L:=(xA D.bg)++([C.at_]:aa Int);letI I:=(L.length:Int);(let O:Bool -> aj (dF):=λZ=>bif Z then some D else (let Q:Bool -> aj (dF):=λj9=>bif j9 then some D else (ng J).bind λjR=>(let U:Int -> aj (dF):=λJn=>letI Y:=W6 ((W6 ((W6 (9*Jn))+C.cmd.kind))-1);letI T:=D.last.set Y.toNat C.at_;xL D.last Y λe15=>bif (C.cmd.kind==1)then bif xZ D.bg then bif bD ((xA D.bg).length+([C.at_]:aa Int).length)then bif I > 4 then if 0 <= (1:Int)/\1 <= I/\I <= I then (uk (⟨T,((L.take (I.toNat)).drop ((1:Int).toNat))⟩:dF)).bind λkT=>some kT else none else (uk (⟨T,L⟩:dF)).bind λCl=>some Cl else none else none else (uk (⟨T,D.bg⟩:dF)).bind λCm=>some Cm;bif C.cmd.kind <= 5 then (U C.cmd.ax)else (U jR));bif (C.cmd.kind==1)then bif (E.bg.length:Int) > 0 then xI E.bg (W6 ((E.bg.length:Int)-1)) λe8=>(Q (decide (e8 >= C.at_)))else (Q false)else (Q false));(Pj J E).bind λy2=>bif (!y2)then (O true)else (Jf J C.cmd).bind λy3=>bif (!y3)then (O true)else (cN C.at_ 0 1000000).bind λy4=>(O (!y4)))
def aq8:=bA [(true,.fR),(true,.lD),(true,.Event)] [(true,.lD,2)] (fD Pm) 57 [fj,aej,aq6,aeJ,⟨259,.i _,aq7⟩] func174
abbrev aeQ:=(((aa aL)×af×Int×af)×((Int×Int×Int×af)×af))
def Jo(x:aeQ):aj (aeQ⊕(((Int×af)×(af))⊕(((af)×(af))⊕Empty))):=letI C:=x.1.2.2.1;bif C<(x.1.1.length:Int)then xI x.1.1 C λD=>bif ((D.ax==x.2.1.1)&&((D.row==x.2.1.2.1)&&((D.bR==x.2.1.2.2.1)&&true)))then aA ((C,()),())else xG ((x.1.1,(),(W6 (C+1)),()),(x.2.1,()))else bq ((),())
def aq9:KY 19 (bk f249):=⟨0,lB 0 ⟨[(0,.lf (.aF .Addr 0)),(3,.aG 3 0),(5,tI)],[(3,.aB IM)],[]⟩ [(1,xl),(2,iG)] Jo,lp []⟩
def Jp(D:aa aL)(C:aL):aj (Int):=cc Jo ((D,(),0,()),((C.ax,C.row,C.bR,()),())) (λE=>some E.1.1) λI=>some (-1)
def aeR:=cw W8 dO (bY Jp) 19 [] [aq9] func249
def Jq(L:aO)(C:lz)(D:dx)(E:Int):aj (Bool):=xI D.bC E λI=>bif I > C.bC then some true else xI D.bz E λJ=>some (J > C.bz)
def ara:=bA [(true,.fR),(true,.sy),(true,.Array),(false,.int)] cB (oI Jq) 27 [] func322
abbrev aeS:=((af×Int×Int×af)×(((aa Int)×(aa Int)×Int×af)×af))
def EU(x:aeS):aj (aeS⊕(((Bool×af)×(af))⊕(((af×Int×af)×(((aa Int)×(aa Int)×Int×af)×af))⊕Empty))):=letI C:=x.1.2;letI D:=xG (((),C.1,(W6 (C.2.1+1)),()),(x.2.1,()));bif C.2.1<C.1 then xI x.2.1.1 C.1 λE=>bif E >= 0 then xI x.2.1.1 C.2.1 λI=>xI x.2.1.1 C.1 λJ=>bif (I==J)then aA ((false,()),())else D else D else bq (((),C.1,()),(x.2.1,()))
def aeT:KY 90 (rZ (bk f247) 0):=⟨2,lB 2 ⟨[(1,.aG 1 0),(3,tI),(4,tI)],WX,[]⟩ [(1,qP),(4,ad7)] EU,lp []⟩
abbrev aeU:=((af×Int×af)×(((aa Int)×(aa Int)×Int×af)×af))
def Jr(x:aeU):aj (aeU⊕(((Bool×af)×(af))⊕(((af)×(af))⊕Empty))):=letI C:=x.2.1;letI D:=x.1.2.1;letI E:=aA ((false,()),());letI I:=cc EU (((),D,0,()),(C,())) (λL=>aA ((L.1.1,()),())) λJ=>xG (((),(W6 (J.1.2.1+1)),()),(J.2.1,()));bif D<(C.1.length:Int)then xI C.1 D λO=>(cN O (-1) 15).bind λQ=>bif (!Q)then E else xI C.2.1 D λT=>(cN T C.2.2.1 100000).bind λU=>bif (!U)then E else xI C.1 D λY=>bif Y<0 then xI C.2.1 D λZ=>bif (Z != 0)then E else I else I else bq ((),())
def arb:KY 90 (bk f247):=⟨0,lB 0 ad7 [(1,qP),(2,iG)] Jr,lq [fj] [aeT,aeT]⟩
def Js(C:cx):aj (Bool):=(cN (C.rows.length:Int) 1 16).bind λD=>bif (!D)then some false else bif ((C.rows.length:Int) != (C.counts.length:Int))then some false else (cN C.c7 0 100000).bind λE=>bif (!E)then some false else cc Jr (((),0,()),((C.rows,C.counts,C.c7,()),())) (λI=>some I.1.1) λJ=>some true
def arc:=cw [(true,.iR)] cB (bS Js) 90 [fj] [arb] func247
abbrev aeV:=((af×Int×Int×af)×((af×af×Int×af)×(aa Int)×(aa Int)×af))
def Jt(x:aeV):aj (aeV⊕(((Int×af)×((af×af×Int×af)×(aa Int)×(aa Int)×af))⊕(((af×Int×af)×((af×af×Int×af)×(aa Int)×(aa Int)×af))⊕Empty))):=letI E:=((),(),x.2.1.2.2.1,());letI C:=x.2.2;letI D:=x.1.2.2.1;letI I:=(E,C.1,C.2.1,());bif D<(C.1.length:Int)then xL C.1 D λJ=>bif (J==x.1.2.1)then xL C.2.1 D λL=>xL C.2.1 D λO=>aA ((D,()),(E,C.1,(C.2.1.set D.toNat (W6 (L+1))),()))else xG (((),x.1.2.1,(W6 (D+1)),()),I)else bq (((),x.1.2.1,()),I)
def ard:KY 88 (bk f323):=⟨0,lB 0 ⟨[(0,.aG 20000 0),(1,tI),(5,tI)],EE,[]⟩ [(1,⟨[(4,tI)],EE,[]⟩),(2,⟨[(0,.aG 20000 0),(1,tI)],EE,[]⟩)] Jt,lp []⟩
abbrev aeW:=((af×Int×Int×af)×((af×af×Int×af)×(aa Int)×(aa Int)×af))
def Ju(x:aeW):aj (aeW⊕(((Int×af)×((af×af×Int×af)×(aa Int)×(aa Int)×af))⊕(((af×af)×((af×af×Int×af)×(aa Int)×(aa Int)×af))⊕Empty))):=letI C:=x.2.2;letI E:=x.2.1.2.2.1;letI I:=(((),(),E,()),C.1,C.2.1,());letI D:=x.1.2.2.1;bif D<(C.1.length:Int)then xL C.2.1 D λJ=>bif (J==E)then xL C.1 D λL=>xL C.2.1 D λO=>aA ((D,()),(((),(),E,()),(C.1.set D.toNat x.1.2.1),(C.2.1.set D.toNat (W6 (E+1))),()))else xG (((),x.1.2.1,(W6 (D+1)),()),I)else bq (((),()),I)
def arf:KY 88 (bk f323):=⟨2,lB 2 ⟨[(0,.aG 20000 0),(1,tI),(6,tI)],EE,[]⟩ [(1,⟨[(4,tI)],EE,[]⟩),(4,⟨[(0,.aG 20000 0)],EE,[]⟩)] Ju,lp []⟩
def Pn(I:cx)(L:Int):aj ((Int)×(cx×af)):=cc Jt (((),L,0,()),(((),(),I.c7,()),I.rows,I.counts,())) (λC=>some (C.1.1,((⟨C.2.2.1,C.2.2.2.1,C.2.1.2.2.1⟩:cx),()))) λD=>cc Ju (((),D.1.2.1,0,()),(((),(),D.2.1.2.2.1,()),D.2.2.1,D.2.2.2.1,())) (λE=>some (E.1.1,((⟨E.2.2.1,E.2.2.2.1,E.2.1.2.2.1⟩:cx),()))) λJ=>some ((-1),((⟨J.2.2.1,J.2.2.2.1,(W6 (J.2.1.2.2.1+1))⟩:cx),()))
def arh:=oH [.p .iR 2 0,.v false .int] dO (bY Pn) 88 [] [ard,arf] func323
def Jv(D:cx)(J E:Int):aj (cx×Bool):=(IX D).bind λL=>letI I:=some (L,false);(Js D).bind λO=>bif (!O)then I else (cN J 0 15).bind λQ=>bif (!Q)then I else (cN E 2 1000).bind λT=>bif (!T)then I else (Pn L J).bind λC=>(Js C.2.1).bind λU=>bif (!U)then (IX D).bind λY=>some (Y,false)else bif C.1 >= 0 then xL C.2.1.counts C.1 λZ=>if E=0 then none else some (C.2.1,((Z.tmod E)==0))else some (C.2.1,false)
def ari:=bA [(true,.iR),(false,.int),(false,.int)] [(true,.iR,2),(false,.bool,0)] (fD Jv) 46 [fj,aen,arc,arh] func261
def Xz(L C:Int):aj ((aa Int)):=letI I:=W6 (L-1);letI J:=some ([]:aa Int);letI D:=([(W6 (C+1))]:aa Int);letI E:=([(W6 (C-1))]:aa Int);(cN L 2 16).bind λO=>bif (!O)then J else (cN C 0 I).bind λQ=>bif (!Q)then J else bif C > 0 then bif xZ E then bif C<I then bif bD ((xA E).length+D.length)then some ((xA E)++D)else none else some (xA E)else none else bif C<I then bif xZ D then some (xA D)else none else J
def arj:=bA Ca nc (bY Xz) 35 [fj] func262
end Go.Proofs.YtglnbhiaknohlaaGreat
